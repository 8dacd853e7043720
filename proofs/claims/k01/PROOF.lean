import PyProof.Rows.All
import Wide.All
import OpenK.AllK
import Wide.FinOn
import HandS.ForMost
import HandS.ForExc
import HandS.Flow
import HandS.TupLe
import HandS.TupAny
import HandS.TupMul
import HandS.Deep
import HandS.Conv
import HandS.IsInst
import HandS.SortInts
import HandS.More
import HandS.CallSlots
import HandS.Walk
import PySem.Challenge.RW_nodoubt_k01_forms_of_expressions
set_option Elab.async false
set_option linter.all false
set_option maxRecDepth 100000
section
/-! DiA: the data, the small syntax and its evaluator. Plain Lean. -/
namespace DI

/-- data: what a value of the program stands for -/
inductive D where
  | none
  | bool (b : Bool)
  | int (i : Int)
  | str (s : List Nat)
  | tup (xs : List D)
  | list (xs : List D)
  | scr (xs : List D)
  | dict (ks vs : List D)
  deriving Inhabited

/-- the greatest size of a grown list or text -/
abbrev lim : Nat := 1000000

/-! ### == -/
mutual
def D.eqv : D → D → Bool
  | .none, .none => true
  | .bool a, .bool b => a == b
  | .bool a, .int j => (if a then 1 else 0) == j
  | .int i, .bool b => i == (if b then 1 else 0)
  | .int i, .int j => i == j
  | .str x, .str y => x == y
  | .tup xs, .tup ys => D.eqvL xs ys
  | .list xs, .list ys => D.eqvL xs ys
  | _, _ => false
def D.eqvL : List D → List D → Bool
  | [], [] => true
  | x :: xs, y :: ys => D.eqv x y && D.eqvL xs ys
  | _, _ => false
end
mutual
/-- at most n deep, no dict in it -/
def D.flat : Nat → D → Bool
  | n + 1, .tup xs => D.flatL n xs
  | n + 1, .list xs => D.flatL n xs
  | 0, .tup _ => false
  | 0, .list _ => false
  | _, .dict _ _ => false
  | _, .scr _ => false
  | _, _ => true
def D.flatL : Nat → List D → Bool
  | _, [] => true
  | n, x :: xs => D.flat n x && D.flatL n xs
end
def D.scalar : D → Bool
  | .tup _ => false
  | .list _ => false
  | .dict _ _ => false
  | .scr _ => false
  | _ => true
/-- == and != may be asked -/
def eqOk (x y : D) : Bool := D.flat 150 x && D.flat 150 y
/-- what stands in a list or a tuple, by == -/
def isIn (x : D) : List D → Bool
  | [] => false
  | y :: ys => D.eqv y x || isIn x ys

/-! ### < -/
def ltS : List Nat → List Nat → Bool
  | _, [] => false
  | [], _ :: _ => true
  | a :: as, b :: bs => if a = b then ltS as bs else decide (a < b)
mutual
/-- x < y, none where it is not served -/
def D.lt : D → D → Option Bool
  | .int i, .int j => some (decide (i < j))
  | .str x, .str y => some (ltS x y)
  | .tup xs, .tup ys => D.ltL xs ys
  | _, _ => Option.none
def D.ltL : List D → List D → Option Bool
  | _, [] => some false
  | [], _ :: _ => some true
  | x :: xs, y :: ys => match D.ltL xs ys with
    | some r => if D.eqv x y then some r else D.lt x y
    | Option.none => Option.none
end

/-! ### truth -/
def truth : D → Bool
  | .none => false
  | .bool b => b
  | .int i => i != 0
  | .str s => !s.isEmpty
  | .tup xs => !xs.isEmpty
  | .list xs => !xs.isEmpty
  | .dict ks _ => !ks.isEmpty
  | .scr xs => !xs.isEmpty

/-! ### operators -/
inductive Bop where
  | add | sub | mul | fdiv | mod | pow
  deriving DecidableEq
inductive Cop where
  | eq | ne | lt | le | gt | ge | is | isnot | isin | notin
  deriving DecidableEq

/-- the place that an index means -/
def place (n : Nat) (i : Int) : Option Nat :=
  if 0 ≤ i then (if i < n then some i.toNat else Option.none) else if -(n : Int) ≤ i then some (i + n).toNat else Option.none
/-- a slice's end -/
def clip (n d : Nat) : Option Int → Nat
  | Option.none => d
  | some i => if i < 0 then (i + (n : Int)).toNat else min i.toNat n
def cut {α : Type} (xs : List α) (lo hi : Option Int) : List α := (xs.drop (clip xs.length 0 lo)).take (clip xs.length xs.length hi - clip xs.length 0 lo)

def small (i : Int) : Bool := decide (-(2 ^ 64) < i) && decide (i < 2 ^ 64)
def rep {α : Type} (n : Nat) (xs : List α) : List α := (List.replicate n xs).flatten

/-- a value, and whether it is new and nobody else's -/
def opB (o : Bop) (x y : D) : Option (Bool × D) :=
  match o, x, y with
  | .add, .int i, .int j => some (false, .int (i + j))
  | .add, .str a, .str b => if a.length + b.length ≤ lim then some (false, .str (a ++ b)) else Option.none
  | .add, .tup a, .tup b => if a.length + b.length ≤ lim then some (false, .tup (a ++ b)) else Option.none
  | .add, .list a, .list b => if a.length + b.length ≤ lim then some (true, .list (a ++ b)) else Option.none
  | .sub, .int i, .int j => some (false, .int (i - j))
  | .mul, .int i, .int j => if small i || small j then some (false, .int (i * j)) else Option.none
  | .mul, .str a, .int k => if 0 ≤ k && k ≤ 1000 && decide (a.length ≤ 1000) then some (false, .str (rep k.toNat a)) else Option.none
  | .mul, .list a, .int k => if 0 ≤ k && k ≤ 1000 && decide (a.length ≤ 1000) then some (true, .list (rep k.toNat a)) else Option.none
  | .mul, .tup a, .int k => if 2 ≤ k && k ≤ 1000 && decide (a.length ≤ 1000) && !a.isEmpty then some (false, .tup (rep k.toNat a)) else Option.none
  | .fdiv, .int i, .int j => if 0 < j && j < 1073741824 then some (false, .int (i / j)) else Option.none
  | .mod, .int i, .int j => if 0 < j then some (false, .int (i % j)) else Option.none
  | .pow, .int i, .int j => if 0 ≤ j && j ≤ 1000 && small i then some (false, .int (i ^ j.toNat)) else Option.none
  | _, _, _ => Option.none

/-- the place of a key in a dict -/
def keyAt (k : D) : List D → Option Nat
  | [] => Option.none
  | x :: xs => if D.eqv x k then some 0 else (keyAt k xs).map (· + 1)
/-- what may be a key -/
def keyOk : D → Bool
  | .none => true
  | .int _ => true
  | .str _ => true
  | .tup xs => D.flat 7 (.tup xs)
  | _ => false
def opC (o : Cop) (x y : D) : Option Bool :=
  match o with
  | .eq => if eqOk x y then some (D.eqv x y) else Option.none
  | .ne => if eqOk x y then some (!D.eqv x y) else Option.none
  | .lt => if eqOk x y then D.lt x y else Option.none
  | .gt => match x, y with
    | .int i, .int j => some (decide (j < i))
    | _, _ => Option.none
  | .le => match x, y with
    | .int i, .int j => some (decide (i ≤ j))
    | _, _ => Option.none
  | .ge => match x, y with
    | .int i, .int j => some (decide (j ≤ i))
    | _, _ => Option.none
  | .is => match x, y with
    | .none, .none => some true
    | .bool a, .bool b => some (a == b)
    | _, .none => some false
    | _, _ => Option.none
  | .isnot => match x, y with
    | .none, .none => some false
    | .bool a, .bool b => some (!(a == b))
    | _, .none => some true
    | _, _ => Option.none
  | .isin => match x, y with
    | .str [c], .str b => some (b.contains c)
    | _, .list ys => if D.flat 150 x && D.flatL 150 ys then some (isIn x ys) else Option.none
    | _, .tup ys => if D.flat 150 x && D.flatL 150 ys then some (isIn x ys) else Option.none
    | _, .dict ks _ => if keyOk x then some (keyAt x ks).isSome else Option.none
    | _, _ => Option.none
  | .notin => match x, y with
    | .str [c], .str b => some (!b.contains c)
    | _, .list ys => if D.flat 150 x && D.flatL 150 ys then some (!isIn x ys) else Option.none
    | _, .tup ys => if D.flat 150 x && D.flatL 150 ys then some (!isIn x ys) else Option.none
    | _, .dict ks _ => if keyOk x then some (!(keyAt x ks).isSome) else Option.none
    | _, _ => Option.none

/-- x[k] -/
def item (x k : D) : Option D :=
  match x, k with
  | .list xs, .int i => (place xs.length i).bind fun j => xs[j]?
  | .tup xs, .int i => (place xs.length i).bind fun j => xs[j]?
  | .str s, .int i => ((place s.length i).bind fun j => s[j]?).map fun c => .str [c]
  | .dict ks vs, k => if keyOk k then (keyAt k ks).bind fun j => vs[j]? else Option.none
  | _, _ => Option.none
/-- x[lo:hi] -/
def slice (x : D) (lo hi : Option Int) : Option (Bool × D) :=
  match x with
  | .list xs => some (true, .list (cut xs lo hi))
  | .tup xs => some (false, .tup (cut xs lo hi))
  | .str s => some (false, .str (cut s lo hi))
  | _ => Option.none
/-- x[::-1] -/
def revD : D → Option (Bool × D)
  | .list xs => some (true, .list xs.reverse)
  | .tup xs => some (false, .tup xs.reverse)
  | .str s => some (false, .str s.reverse)
  | _ => Option.none

/-! ### sorting: insertion, stable -/
def insD (lt : D → D → Bool) (x : D) : List D → List D
  | [] => [x]
  | y :: ys => if lt x y then x :: y :: ys else y :: insD lt x ys
def sortD (lt : D → D → Bool) : List D → List D
  | [] => []
  | x :: xs => insD lt x (sortD lt xs)

/-! ### built-ins -/
inductive Bi where
  | len | abs | int | tuple | list | sorted | sum | min | max | all | any | range | zip | enum | str
  deriving DecidableEq
inductive Ty where
  | int | bool | str | tuple | list
  deriving DecidableEq
inductive Me where
  | join | index | get | values | items | count | strip | replace
  deriving DecidableEq
inductive Mu where
  | append | extend | pop | insert | update | setdefault
  deriving DecidableEq

def isTy : Ty → D → Bool
  | .int, .int _ => true
  | .int, .bool _ => true
  | .bool, .bool _ => true
  | .str, .str _ => true
  | .tuple, .tup _ => true
  | .list, .list _ => true
  | .list, .scr _ => true
  | _, _ => false

/-- the items that a walk gives -/
def itemsOf : D → Option (List D)
  | .list xs => some xs
  | .tup xs => some xs
  | .scr xs => some xs
  | .str s => some (s.map fun c => .str [c])
  | .dict ks _ => some ks
  | _ => Option.none
def rangeL (lo : Int) : Nat → List D
  | 0 => []
  | n + 1 => .int lo :: rangeL (lo + 1) n
def zipL : List D → List D → List D
  | x :: xs, y :: ys => .tup [x, y] :: zipL xs ys
  | _, _ => []
def enumL (i : Nat) : List D → List D
  | [] => []
  | x :: xs => .tup [.int i, x] :: enumL (i + 1) xs
def intsD : List D → Option (List Int)
  | [] => some []
  | .int i :: r => (intsD r).map (i :: ·)
  | _ :: _ => Option.none
def boolsD : List D → Option (List Bool)
  | [] => some []
  | .bool b :: r => (boolsD r).map (b :: ·)
  | _ :: _ => Option.none
def strsD : List D → Option (List (List Nat))
  | [] => some []
  | .str s :: r => (strsD r).map (s :: ·)
  | _ :: _ => Option.none
/-- every two of them are comparable -/
def allLt (xs : List D) : Bool := xs.all fun x => xs.all fun y => (D.lt x y).isSome
def ltB (x y : D) : Bool := (D.lt x y).getD false
def leastI : Int → List Int → Int
  | m, [] => m
  | m, x :: xs => leastI (if x < m then x else m) xs
def greatestI : Int → List Int → Int
  | m, [] => m
  | m, x :: xs => greatestI (if m < x then x else m) xs
def leastD : D → List D → D
  | m, [] => m
  | m, x :: xs => leastD (if ltB x m then x else m) xs

/-- a built-in of values -/
def biV (b : Bi) (as : List D) : Option (Bool × D) :=
  match b, as with
  | .len, [x] => match x with
    | .str s => some (false, .int s.length)
    | .tup xs => some (false, .int xs.length)
    | .list xs => some (false, .int xs.length)
    | .dict ks _ => some (false, .int ks.length)
    | _ => Option.none
  | .abs, [.int i] => some (false, .int i.natAbs)
  | .int, [.int i] => some (false, .int i)
  | .int, [.bool b] => some (false, .int (if b then 1 else 0))
  | .tuple, [.list xs] => some (false, .tup xs)
  | .tuple, [.tup xs] => some (false, .tup xs)
  | .tuple, [.str s] => some (false, .tup (s.map fun c => .str [c]))
  | .list, [.list xs] => some (true, .list xs)
  | .list, [.tup xs] => some (true, .list xs)
  | .list, [.scr xs] => some (true, .list xs)
  | .list, [.str s] => some (true, .list (s.map fun c => .str [c]))
  | .sorted, [x] => (itemsOf x).bind fun xs => if allLt xs && D.flatL 150 xs then some (true, .list (sortD ltB xs)) else Option.none
  | .sum, [.list xs] => (intsD xs).map fun l => (false, .int l.sum)
  | .min, [.list xs] => match intsD xs with
    | some (m :: l) => some (false, .int (leastI m l))
    | _ => Option.none
  | .max, [.list xs] => match intsD xs with
    | some (m :: l) => some (false, .int (greatestI m l))
    | _ => Option.none
  | .min, [.int i, .int j] => some (false, .int (if j < i then j else i))
  | .max, [.int i, .int j] => some (false, .int (if i < j then j else i))
  | .all, [.list xs] => (boolsD xs).map fun l => (false, .bool (l.all id))
  | .any, [.list xs] => (boolsD xs).map fun l => (false, .bool (l.any id))
  | _, _ => Option.none
def joinL (s : List Nat) : List (List Nat) → List Nat
  | [] => []
  | [x] => x
  | x :: y :: r => x ++ s ++ joinL s (y :: r)
def idxOf (c : Nat) : List Nat → Option Nat
  | [] => Option.none
  | x :: xs => if x == c then some 0 else (idxOf c xs).map (· + 1)
def idxOfD (d : D) : List D → Option Nat
  | [] => Option.none
  | x :: xs => if D.eqv x d then some 0 else (idxOfD d xs).map (· + 1)
/-- a method that changes nothing -/
def meV (m : Me) (o : D) (as : List D) : Option (Bool × D) :=
  match m, o, as with
  | .join, .str s, [.list xs] => (strsD xs).bind fun l => if (joinL s l).length + s.length ≤ lim then some (false, .str (joinL s l)) else Option.none
  | .index, .str s, [.str [c]] => (idxOf c s).map fun j => (false, .int j)
  | .index, .list xs, [d] => if D.flat 150 d && D.flatL 150 xs then (idxOfD d xs).map fun j => (false, .int j) else Option.none
  | .index, .tup xs, [d] => if D.flat 150 d && D.flatL 150 xs then (idxOfD d xs).map fun j => (false, .int j) else Option.none
  | .get, .dict ks vs, [k] => if keyOk k then some (false, ((keyAt k ks).bind fun j => vs[j]?).getD .none) else Option.none
  | .get, .dict ks vs, [k, x] => if keyOk k then some (false, ((keyAt k ks).bind fun j => vs[j]?).getD x) else Option.none
  | _, _, _ => Option.none
def putD (ks vs : List D) (k v : D) : List D × List D :=
  match keyAt k ks with
  | some j => (ks, vs.set j v)
  | Option.none => (ks ++ [k], vs ++ [v])
def putAll (ks vs : List D) : List D → List D → List D × List D
  | k :: kr, v :: vr => let p := putD ks vs k v; putAll p.1 p.2 kr vr
  | _, _ => (ks, vs)
/-- a method that changes its own object: what comes, the object behind it -/
def muV (m : Mu) (o : D) (as : List D) : Option (D × D) :=
  match m, o, as with
  | .append, .list xs, [x] => if xs.length < lim then some (.none, .list (xs ++ [x])) else Option.none
  | .extend, .list xs, [.list ys] => if xs.length + ys.length ≤ lim then some (.none, .list (xs ++ ys)) else Option.none
  | .pop, .list xs, [] => match xs.getLast? with
    | some x => some (x, .list xs.dropLast)
    | Option.none => Option.none
  | .pop, .list xs, [.int i] => if -(lim : Int) ≤ i && i ≤ lim then match place xs.length i with
    | some j => (xs[j]?).map fun x => (x, .list (xs.eraseIdx j))
    | Option.none => Option.none else Option.none
  | .insert, .list xs, [.int i, x] => if 0 ≤ i && i ≤ lim && decide (xs.length < lim) then some (.none, .list (xs.take i.toNat ++ x :: xs.drop i.toNat)) else Option.none
  | .setdefault, .dict ks vs, [k, x] => if keyOk k && decide (ks.length < lim) then match keyAt k ks with
      | some j => (vs[j]?).map fun v => (v, .dict ks vs)
      | Option.none => some (x, .dict (ks ++ [k]) (vs ++ [x])) else Option.none
  | .update, .dict ks vs, [.dict ks2 vs2] => if ks.length + ks2.length ≤ lim then let p := putAll ks vs ks2 vs2; some (.none, .dict p.1 p.2) else Option.none
  | _, _, _ => Option.none
/-- o[k] = v -/
def putV (o k v : D) : Option D :=
  match o, k with
  | .list xs, .int i => (place xs.length i).map fun j => .list (xs.set j v)
  | .dict ks vs, k => if keyOk k && decide (ks.length < lim) then let p := putD ks vs k v; some (.dict p.1 p.2) else Option.none
  | _, _ => Option.none

/-! ### the small syntax -/
inductive Tg where
  | n (i : Nat)
  | t (is : List Nat)
inductive Ex where
  | nil
  | cons (a r : Ex)
  | lit (d : D)
  | loc (i : Nat)
  | glo (k : Nat)
  | tup (r : Ex)
  | lst (r : Ex)
  | bin (o : Bop) (a b : Ex)
  | neg (a : Ex)
  | not (a : Ex)
  | and (r : Ex)
  | or (r : Ex)
  | cmp (o : Cop) (a b : Ex)
  | cmp2 (o p : Cop) (a b c : Ex)
  | ite (c a b : Ex)
  | ix (a k : Ex)
  | sl (a lo hi : Ex)
  | rev (a : Ex)
  | call (f : Nat) (fr : Bool) (r : Ex)
  | callIO (f : Nat) (fr : Bool) (i : Nat) (r : Ex)
  | bi (b : Bi) (r : Ex)
  | isi (t : Ty) (a : Ex)
  | me (m : Me) (o r : Ex)
  | mu (m : Mu) (i : Nat) (r : Ex)
  | mkL (it : Ex)
  | mkT (it : Ex)
  | lc (t : Tg) (a it c : Ex)
  | lc2 (t : Tg) (it : Ex) (t2 : Tg) (a it2 c2 : Ex)
  | dc (t : Tg) (k v it c : Ex)
  | dic (ks vs : Ex)

/-! ### the state and the answers -/
/-- a slot: whether the object is this name's alone, what it holds -/
abbrev Env := List (Option (Bool × D))
inductive Rv where
  | val (own : Bool) (d : D)
  | ptr (i : Nat)
inductive Res (α : Type) where
  | stuck
  | ok (a : α) (e : Env)
  | exc (c : Nat) (fs : List D) (e : Env)
def Res.bind {α β : Type} (r : Res α) (f : α → Env → Res β) : Res β :=
  match r with
  | .stuck => .stuck
  | .ok a e => f a e
  | .exc c fs e => .exc c fs e
/-- an answer of an option -/
def Res.opt {α : Type} (o : Option α) (e : Env) : Res α :=
  match o with
  | some a => .ok a e
  | Option.none => .stuck
inductive Out where
  | ret (own : Bool) (d : D) (io : Option D)
  | exc (c : Nat) (fs : List D) (io : Option D)
/-- what the defs do; the list's first item is the changed one where the def changes it -/
abbrev CallF := Nat → List D → Option Out

def deref (e : Env) : Rv → Option D
  | .val _ d => some d
  | .ptr i => (e[i]?.join).map (·.2)
/-- a value handed on: an object of a name's own is everybody's from then on -/
def leak (r : Rv) (e : Env) : Res D :=
  match r with
  | .val _ d => .ok d e
  | .ptr i => match e[i]?.join with
    | some (_, d) => .ok d (e.set i (some (false, d)))
    | Option.none => .stuck
/-- a value that comes to rest: and its ownership -/
def rest (r : Rv) (e : Env) : Res (Bool × D) :=
  match r with
  | .val o d => .ok (o, d) e
  | .ptr i => match e[i]?.join with
    | some (_, d) => .ok (false, d) (e.set i (some (false, d)))
    | Option.none => .stuck
def setAll (e : Env) : List Nat → List D → Env
  | i :: is, d :: ds => setAll (e.set i (some (false, d))) is ds
  | _, _ => e
def bindTg (t : Tg) (d : D) (e : Env) : Option Env :=
  match t with
  | .n i => some (e.set i (some (false, d)))
  | .t is => match d with
    | .tup xs => if xs.length == is.length then some (setAll e is xs) else Option.none
    | _ => Option.none
def Tg.slots : Tg → List Nat
  | .n i => [i]
  | .t is => is
/-- a slot's object is everybody's -/
def close (e : Env) (i : Nat) : Env := match e[i]?.join with
  | some (_, d) => e.set i (some (false, d))
  | Option.none => e
/-- nothing of these slots is anybody's own -/
def shut (e : Env) : List Nat → Env
  | [] => e
  | i :: is => shut (close e i) is
/-- the slots of a comprehension's own names, forgotten; given back -/
def hide (e : Env) : List Nat → Env
  | [] => e
  | i :: is => hide (e.set i Option.none) is
def back (e0 e : Env) : List Nat → Env
  | [] => e
  | i :: is => back e0 (e.set i (e0[i]?.join)) is
/-- no exception within a comprehension -/
def Res.calm {α : Type} : Res α → Res α
  | .exc _ _ _ => .stuck
  | r => r
/-- the turns of a comprehension -/
def turns (bind : D → Env → Option Env) (cond : Env → Res Bool) (body : Env → Res D) (clean : Env → Env) : List D → List D → Env → Res (List D)
  | [], acc, e => .ok acc e
  | x :: xs, acc, e => match bind x e with
    | Option.none => .stuck
    | some e1 => (cond e1).bind fun b e2 => if b then (body e2).bind fun y e3 => turns bind cond body clean xs (acc ++ [y]) (clean e3) else turns bind cond body clean xs acc (clean e2)


/-- what an expression does: as a value, as a list of arguments (handed on; looked at), as the parts of an and, of an or, as what is walked, as an optional int, as an optional test -/
structure Sem where
  E : Env → Res Rv
  L : Env → Res (List D)
  R : Env → Res (List Rv)
  A : Env → Res Rv
  O : Env → Res Rv
  I : Env → Res (List D)
  P : Env → Res (Option Int)
  C : Env → Res Bool
  none? : Bool
def noS {α : Type} : Env → Res α := fun _ => .stuck
/-- a value's test -/
def testE (E : Env → Res Rv) : Env → Res Bool := fun e => (E e).bind fun x e1 => match deref e1 x with
  | some d => .ok (truth d) e1
  | Option.none => .stuck
/-- a value's items -/
def walkE (E : Env → Res Rv) : Env → Res (List D) := fun e => (E e).bind fun x e1 => (leak x e1).bind fun d e2 => Res.opt (itemsOf d) e2
def intE (E : Env → Res Rv) : Env → Res (Option Int) := fun e => (E e).bind fun x e1 => match deref e1 x with
  | some (.int i) => .ok (some i) e1
  | _ => .stuck
def Sem.e (E : Env → Res Rv) : Sem := ⟨E, noS, noS, noS, noS, walkE E, intE E, testE E, false⟩
/-- an expression that is walked alone -/
def Sem.i (E : Env → Res Rv) (I : Env → Res (List D)) : Sem := ⟨E, noS, noS, noS, noS, I, intE E, testE E, false⟩
/-- a pure answer of values that are looked at -/
def one (E : Env → Res Rv) (f : D → Option (Bool × D)) : Env → Res Rv := fun e => (E e).bind fun x e1 => match deref e1 x with
  | some d => Res.opt ((f d).map fun p => Rv.val p.1 p.2) e1
  | Option.none => .stuck
def two (E E' : Env → Res Rv) (f : D → D → Option (Bool × D)) : Env → Res Rv := fun e => (E e).bind fun x e1 => (E' e1).bind fun y e2 => match deref e2 x with
  | some d => match deref e2 y with
    | some d' => Res.opt ((f d d').map fun p => Rv.val p.1 p.2) e2
    | Option.none => .stuck
  | Option.none => .stuck
/-- a scalar, owned by nobody -/
def sc (o : Option D) : Option (Bool × D) := o.map fun d => (false, d)
def rangeOf : List D → Option (List D)
  | [.int j] => if -(lim : Int) ≤ j && j ≤ lim then some (rangeL 0 j.toNat) else Option.none
  | [.int i, .int j] => if -(lim : Int) ≤ i && i ≤ lim && -(lim : Int) ≤ j && j ≤ lim then some (rangeL i (j - i).toNat) else Option.none
  | _ => Option.none
def zipOf : List D → Option (List D)
  | [x, y] => (itemsOf x).bind fun xs => (itemsOf y).map fun ys => zipL xs ys
  | _ => Option.none
def enumOf : List D → Option (List D)
  | [x] => (itemsOf x).map fun xs => enumL 0 xs
  | _ => Option.none

/-- the slot's object is its own -/
def isOwn (e : Env) (i : Nat) : Bool := match e[i]?.join with
  | some (true, _) => true
  | _ => false
def sem (F : CallF) (G : List D) : Ex → Sem
  | .nil => ⟨noS, fun e => .ok [] e, fun e => .ok [] e, noS, noS, noS, fun e => .ok Option.none e, fun e => .ok true e, true⟩
  | .cons a r =>
    let sa := sem F G a
    let sr := sem F G r
    ⟨noS,
      fun e => (sa.E e).bind fun x e1 => (leak x e1).bind fun d e2 => (sr.L e2).bind fun ds e3 => .ok (d :: ds) e3,
      fun e => (sa.E e).bind fun x e1 => (sr.R e1).bind fun xs e2 => .ok (x :: xs) e2,
      fun e => if sr.none? then sa.E e else (sa.E e).bind fun x e1 => match deref e1 x with
        | some d => if truth d then sr.A e1 else .ok x e1
        | Option.none => .stuck,
      fun e => if sr.none? then sa.E e else (sa.E e).bind fun x e1 => match deref e1 x with
        | some d => if truth d then .ok x e1 else sr.O e1
        | Option.none => .stuck,
      noS, noS, noS, false⟩
  | .lit d => Sem.e fun e => .ok (.val false d) e
  | .loc i => Sem.e fun e => match e[i]?.join with
    | some _ => .ok (.ptr i) e
    | Option.none => .stuck
  | .glo k => Sem.e fun e => Res.opt (G[k]?.map fun d => Rv.val false d) e
  | .tup r => Sem.e fun e => ((sem F G r).L e).bind fun ds e1 => .ok (.val false (.tup ds)) e1
  | .lst r => Sem.e fun e => ((sem F G r).L e).bind fun ds e1 => .ok (.val true (.list ds)) e1
  | .bin o a b => Sem.e (two (sem F G a).E (sem F G b).E (opB o))
  | .neg a => Sem.e (one (sem F G a).E fun d => match d with
    | .int i => some (false, .int (-i))
    | _ => Option.none)
  | .not a => Sem.e (one (sem F G a).E fun d => some (false, .bool (!truth d)))
  | .and r => Sem.e (sem F G r).A
  | .or r => Sem.e (sem F G r).O
  | .cmp o a b => Sem.e (two (sem F G a).E (sem F G b).E fun x y => (opC o x y).map fun c => (false, .bool c))
  | .cmp2 o p a b c => Sem.e fun e => ((sem F G a).P e).bind fun i e1 => ((sem F G b).P e1).bind fun j e2 => match i, j with
    | some i, some j => match opC o (.int i) (.int j) with
      | some true => ((sem F G c).P e2).bind fun k e3 => match k with
        | some k => Res.opt ((opC p (.int j) (.int k)).map fun q => Rv.val false (.bool q)) e3
        | Option.none => .stuck
      | some false => .ok (.val false (.bool false)) e2
      | Option.none => .stuck
    | _, _ => .stuck
  | .ite c a b => Sem.e fun e => ((sem F G c).C e).bind fun t e1 => if t then (sem F G a).E e1 else (sem F G b).E e1
  | .ix a k => Sem.e (two (sem F G a).E (sem F G k).E fun x y => sc (item x y))
  | .sl a lo hi => Sem.e fun e => ((sem F G a).E e).bind fun x e1 => ((sem F G lo).P e1).bind fun l e2 => ((sem F G hi).P e2).bind fun h e3 => match deref e3 x with
    | some d => Res.opt ((slice d l h).map fun p => Rv.val p.1 p.2) e3
    | Option.none => .stuck
  | .rev a => Sem.e (one (sem F G a).E revD)
  | .call f fr r => Sem.e fun e => ((sem F G r).L e).bind fun ds e1 => match F f ds with
    | some (.ret own d Option.none) => if fr then (if own then .ok (.val true d) e1 else .stuck) else .ok (.val false d) e1
    | some (.exc c fs Option.none) => .exc c fs e1
    | _ => .stuck
  | .callIO f fr i r => Sem.e fun e => if isOwn e i then ((sem F G r).L e).bind fun ds e1 => match e1[i]?.join with
    | some (true, d0) => match F f (d0 :: ds) with
      | some (.ret own d (some d1)) => if fr then (if own then .ok (.val true d) (e1.set i (some (true, d1))) else .stuck) else .ok (.val false d) (e1.set i (some (true, d1)))
      | some (.exc c fs (some d1)) => .exc c fs (e1.set i (some (true, d1)))
      | _ => .stuck
    | _ => .stuck else .stuck
  | .bi b r => Sem.i (fun e => ((sem F G r).R e).bind fun xs e1 => match xs.mapM (deref e1) with
      | some ds => Res.opt ((biV b ds).map fun p => Rv.val p.1 p.2) e1
      | Option.none => .stuck)
    (match b with
      | .range => fun e => ((sem F G r).L e).bind fun ds e1 => Res.opt (rangeOf ds) e1
      | .zip => fun e => ((sem F G r).L e).bind fun ds e1 => Res.opt (zipOf ds) e1
      | .enum => fun e => ((sem F G r).L e).bind fun ds e1 => Res.opt (enumOf ds) e1
      | _ => walkE fun e => ((sem F G r).R e).bind fun xs e1 => match xs.mapM (deref e1) with
        | some ds => Res.opt ((biV b ds).map fun p => Rv.val p.1 p.2) e1
        | Option.none => .stuck)
  | .isi t a => Sem.e (one (sem F G a).E fun d => some (false, .bool (isTy t d)))
  | .me m o r => Sem.e fun e => ((sem F G o).E e).bind fun x e1 => match deref e1 x with
    | some (.str s) => ((sem F G r).R e1).bind fun xs e2 => match xs.mapM (deref e2) with
      | some ds => Res.opt ((meV m (.str s) ds).map fun p => Rv.val p.1 p.2) e2
      | Option.none => .stuck
    | _ => .stuck
  | .mu m i r => Sem.e fun e => if isOwn e i then ((sem F G r).L e).bind fun ds e1 => match e1[i]?.join with
    | some (true, o) => match muV m o ds with
      | some p => .ok (.val false p.1) (e1.set i (some (true, p.2)))
      | Option.none => .stuck
    | _ => .stuck else .stuck
  | .mkL it => Sem.e fun e => ((sem F G it).I e).bind fun xs e1 => .ok (.val true (.list xs)) e1
  | .mkT it => Sem.e fun e => ((sem F G it).I e).bind fun xs e1 => .ok (.val false (.tup xs)) e1
  | .lc t a it c => Sem.e fun e => ((sem F G it).I e).bind fun xs e1 =>
      (turns (bindTg t) (sem F G c).C (fun e => ((sem F G a).E e).bind leak) (fun e => hide (shut e t.slots) t.slots) xs [] (hide (shut e1 t.slots) t.slots)).calm.bind fun ys e2 => .ok (.val true (.list ys)) (back (shut e1 t.slots) e2 t.slots)
  | .lc2 _ _ _ _ _ _ => Sem.e noS
  | .dc _ _ _ _ _ => Sem.e noS
  | .dic _ _ => Sem.e noS

/-! ### statements -/
inductive Flow where
  | stuck
  | nx (e : Env)
  | rt (own : Bool) (d : D) (e : Env)
  | bk (e : Env)
  | exc (c : Nat) (fs : List D) (e : Env)
inductive Sm where
  | skip
  | seq (s t : Sm)
  | asg (i : Nat) (a : Ex)
  | asgT (is : List Nat) (a : Ex)
  | setix (i : Nat) (k v : Ex)
  | ex (a : Ex)
  | ret (a : Ex)
  | retN
  | ifs (c : Ex) (s t : Sm)
  | loop (c : Ex) (b : Sm)
  | each (t : Tg) (it : Ex) (b : Sm)
  | brk
  | raise (c : Nat) (r : Ex)
  | die
def Res.flow {α : Type} (r : Res α) (f : α → Env → Flow) : Flow :=
  match r with
  | .stuck => .stuck
  | .ok a e => f a e
  | .exc c fs e => .exc c fs e
def Flow.then (r : Flow) (f : Env → Flow) : Flow :=
  match r with
  | .nx e => f e
  | r => r
def whileF (c : Env → Res Bool) (b : Env → Flow) : Nat → Env → Flow
  | 0, _ => .stuck
  | n + 1, e => (c e).flow fun t e1 => if t then match b e1 with
      | .nx e2 => whileF c b n e2
      | .bk e2 => .nx e2
      | r => r
    else .nx e1
def eachF (bind : D → Env → Option Env) (b : Env → Flow) : List D → Env → Flow
  | [], e => .nx e
  | x :: xs, e => match bind x e with
    | Option.none => .stuck
    | some e1 => match b e1 with
      | .nx e2 => eachF bind b xs e2
      | .bk e2 => .nx e2
      | r => r
def exS (F : CallF) (G : List D) (wf : Nat) : Sm → Env → Flow
  | .skip, e => .nx e
  | .seq s t, e => (exS F G wf s e).then (exS F G wf t)
  | .asg i a, e => ((sem F G a).E e).flow fun x e1 => (rest x e1).flow fun p e2 => .nx (e2.set i (some p))
  | .asgT is a, e => ((sem F G a).E e).flow fun x e1 => (leak x e1).flow fun d e2 => match bindTg (.t is) d e2 with
    | some e3 => .nx e3
    | Option.none => .stuck
  | .setix i k v, e => ((sem F G v).E e).flow fun x e1 => (leak x e1).flow fun d e2 => if isOwn e2 i then ((sem F G k).E e2).flow fun y e3 => (leak y e3).flow fun d' e4 => match e4[i]?.join with
    | some (true, o) => match putV o d' d with
      | some o' => .nx (e4.set i (some (true, o')))
      | Option.none => .stuck
    | _ => .stuck else .stuck
  | .ex a, e => ((sem F G a).E e).flow fun _ e1 => .nx e1
  | .ret a, e => ((sem F G a).E e).flow fun x e1 => match x with
    | .val o d => .rt o d e1
    | .ptr i => match e1[i]?.join with
      | some (o, d) => .rt o d (if o then e1.set i Option.none else e1)
      | Option.none => .stuck
  | .retN, e => .rt false .none e
  | .ifs c s t, e => ((sem F G c).C e).flow fun b e1 => if b then exS F G wf s e1 else exS F G wf t e1
  | .loop c b, e => whileF (sem F G c).C (exS F G wf b) wf e
  | .each t it b, e => ((sem F G it).I e).flow fun xs e1 => eachF (bindTg t) (exS F G wf b) xs e1
  | .brk, e => .bk e
  | .raise c r, e => ((sem F G r).L e).flow fun ds e1 => .exc c ds e1
  | .die, _ => .stuck

/-! ### defs -/
structure FDef where
  io : Bool
  np : Nat
  ns : Nat
  body : Sm
def startE (fd : FDef) (ds : List D) : Env :=
  match ds with
  | [] => List.replicate fd.ns Option.none
  | d :: r => some (fd.io, d) :: (r.map fun d => some (false, d)) ++ List.replicate (fd.ns - fd.np) Option.none
def ioOf (fd : FDef) (e : Env) : Option (Option D) :=
  if fd.io then match e[0]?.join with
    | some (true, d) => some (some d)
    | _ => Option.none
  else some Option.none
def outOf (fd : FDef) : Flow → Option Out
  | .rt own d e => (ioOf fd e).map fun o => Out.ret own d o
  | .nx e => (ioOf fd e).map fun o => Out.ret false .none o
  | .exc c fs e => (ioOf fd e).map fun o => Out.exc c fs o
  | _ => Option.none
def callD (T : List FDef) (G : List D) (wf : Nat) : Nat → CallF
  | 0 => fun _ _ => Option.none
  | n + 1 => fun f ds => match T[f]? with
    | some fd => if ds.length == fd.np then outOf fd (exS (callD T G wf n) G wf fd.body (startE fd ds)) else Option.none
    | Option.none => Option.none
end DI

end
section
/-! DiB: how data stand in the heap; what a name owns. -/
namespace DI
open PySem PySem.Spec PyProof.Rows L2

/-- a text that is carried -/
def okS (s : List Nat) : Prop := s.length ≤ sizeLine ∧ ∀ c ∈ s, c < 0x110000
abbrev sV (s : List Nat) : Str := ⟨s.toArray⟩
/-- a written tuple -/
def KT (K : PySem.W.Frag) (a : Addr) (xs : List V) : Prop :=
  ∃ (o : Obj) (its : Array Value) (n : Nat), K.lookup a = some o ∧ o.cls = .type "tuple" ∧ o.data = .seq its n ∧ its.size ≤ sizeLine ∧ Vals xs its.toList
/-- a tuple at a, off X -/
def TF (K : PySem.W.Frag) (H : Hp) (X : Addr → Prop) (a : Addr) (xs : List V) : Prop := (H a = some (.tup xs) ∧ ¬ X a) ∨ KT K a xs

/-- a written list -/
def KL (K : PySem.W.Frag) (a : Addr) (xs : List V) : Prop :=
  ∃ (o : Obj) (its : Array Value) (n : Nat), K.lookup a = some o ∧ o.cls = .type "list" ∧ o.dict = none ∧ o.data = .seq its n ∧ its.size ≤ sizeLine ∧ Vals xs its.toList
/-- a locked list at a, off X -/
def SF (K : PySem.W.Frag) (H : Hp) (X : Addr → Prop) (a : Addr) (xs : List V) : Prop := (∃ o, H a = some (.frz o (.lst xs)) ∧ ¬ X a) ∨ KL K a xs
mutual
/-- v stands for d in H, over nothing of X -/
inductive Rp (K : PySem.W.Frag) (H : Hp) (X : Addr → Prop) : V → D → Prop
  | none : Rp K H X .non .none
  | bool (b : Bool) : Rp K H X (.bl b) (.bool b)
  | int (i : Int) : Rp K H X (.int i) (.int i)
  | str {s : List Nat} : okS s → Rp K H X (.str (sV s)) (.str s)
  | tup {a : Addr} {xs : List V} {ds : List D} : TF K H X a xs → RpL K H X xs ds → Rp K H X (.ref a) (.tup ds)
  | list {a : Addr} {xs : List V} {ds : List D} : H a = some (.lst xs) → ¬ X a → RpL K H X xs ds → Rp K H X (.ref a) (.list ds)
  | scr {a : Addr} {xs : List V} {ds : List D} : SF K H X a xs → RpL K H X xs ds → Rp K H X (.ref a) (.scr ds)
inductive RpL (K : PySem.W.Frag) (H : Hp) (X : Addr → Prop) : List V → List D → Prop
  | nil : RpL K H X [] []
  | cons {v : V} {vs : List V} {d : D} {ds : List D} : Rp K H X v d → RpL K H X vs ds → RpL K H X (v :: vs) (d :: ds)
end

section
variable {K : PySem.W.Frag} {H H' : Hp} {X X' : Addr → Prop}
theorem TF.mono {a : Addr} {xs : List V} (m : ∀ a u, H a = some u → ¬ X a → H' a = some u ∧ ¬ X' a) (h : TF K H X a xs) : TF K H' X' a xs := by
  rcases h with ⟨h1, h2⟩ | h
  · exact .inl (m a _ h1 h2)
  · exact .inr h
theorem SF.mono {a : Addr} {xs : List V} (m : ∀ a u, H a = some u → ¬ X a → H' a = some u ∧ ¬ X' a) (h : SF K H X a xs) : SF K H' X' a xs := by
  rcases h with ⟨o, h1, h2⟩ | h
  · exact .inl ⟨o, m a _ h1 h2⟩
  · exact .inr h
theorem SF.sq {a : Addr} {xs : List V} (h : SF K H X a xs) : SqL K H a xs := by
  rcases h with ⟨o, h1, _⟩ | h
  · exact .inl (.inr ⟨o, h1⟩)
  · exact .inr h
theorem TF.sq {a : Addr} {xs : List V} (h : TF K H X a xs) : SqT K H a xs := by
  rcases h with ⟨h1, _⟩ | h
  · exact .inl (.inl h1)
  · exact .inr h
mutual
theorem Rp.mono (m : ∀ a u, H a = some u → ¬ X a → H' a = some u ∧ ¬ X' a) : ∀ {v : V} {d : D}, Rp K H X v d → Rp K H' X' v d
  | _, _, .none => .none
  | _, _, .bool b => .bool b
  | _, _, .int i => .int i
  | _, _, .str h => .str h
  | _, _, .tup h r => .tup (h.mono m) (RpL.mono m r)
  | _, _, .list h n r => .list (m _ _ h n).1 (m _ _ h n).2 (RpL.mono m r)
  | _, _, .scr h r => .scr (h.mono m) (RpL.mono m r)
theorem RpL.mono (m : ∀ a u, H a = some u → ¬ X a → H' a = some u ∧ ¬ X' a) : ∀ {vs : List V} {ds : List D}, RpL K H X vs ds → RpL K H' X' vs ds
  | _, _, .nil => .nil
  | _, _, .cons h r => .cons (Rp.mono m h) (RpL.mono m r)
end
theorem RpL.length : ∀ {vs : List V} {ds : List D}, RpL K H X vs ds → vs.length = ds.length
  | _, _, .nil => rfl
  | _, _, .cons _ r => by rw [List.length_cons, List.length_cons, r.length]
theorem RpL.app : ∀ {vs ws : List V} {ds es : List D}, RpL K H X vs ds → RpL K H X ws es → RpL K H X (vs ++ ws) (ds ++ es)
  | _, _, _, _, .nil, q => q
  | _, _, _, _, .cons h r, q => .cons h (r.app q)
theorem RpL.one {v : V} {d : D} (h : Rp K H X v d) : RpL K H X [v] [d] := .cons h .nil
theorem RpL.get : ∀ {vs : List V} {ds : List D} {i : Nat} {d : D}, RpL K H X vs ds → ds[i]? = some d → ∃ v, vs[i]? = some v ∧ Rp K H X v d
  | _, _, _, _, .nil, e => by simp at e
  | _, _, 0, _, .cons h _, e => by
    simp at e
    subst e
    exact ⟨_, rfl, h⟩
  | _, _, i + 1, d, .cons _ r, e => by
    obtain ⟨v, h1, h2⟩ := r.get (i := i) (d := d) (by simpa using e)
    exact ⟨v, by simpa using h1, h2⟩
theorem RpL.getV : ∀ {vs : List V} {ds : List D} {i : Nat} {v : V}, RpL K H X vs ds → vs[i]? = some v → ∃ d, ds[i]? = some d ∧ Rp K H X v d
  | _, _, _, _, .nil, e => by simp at e
  | _, _, 0, _, .cons h _, e => by
    simp at e
    subst e
    exact ⟨_, rfl, h⟩
  | _, _, i + 1, v, .cons _ r, e => by
    obtain ⟨d, h1, h2⟩ := r.getV (i := i) (v := v) (by simpa using e)
    exact ⟨d, by simpa using h1, h2⟩
theorem RpL.take : ∀ {vs : List V} {ds : List D} (n : Nat), RpL K H X vs ds → RpL K H X (vs.take n) (ds.take n)
  | _, _, 0, _ => .nil
  | _, _, _ + 1, .nil => .nil
  | _, _, n + 1, .cons h r => .cons h (r.take n)
theorem RpL.drop : ∀ {vs : List V} {ds : List D} (n : Nat), RpL K H X vs ds → RpL K H X (vs.drop n) (ds.drop n)
  | _, _, 0, r => r
  | _, _, _ + 1, .nil => .nil
  | _, _, n + 1, .cons _ r => r.drop n
theorem RpL.rev : ∀ {vs : List V} {ds : List D}, RpL K H X vs ds → RpL K H X vs.reverse ds.reverse
  | _, _, .nil => .nil
  | _, _, .cons h r => by
    rw [List.reverse_cons, List.reverse_cons]
    exact r.rev.app (.one h)
theorem RpL.set : ∀ {vs : List V} {ds : List D} {v : V} {d : D} (i : Nat), Rp K H X v d → RpL K H X vs ds → RpL K H X (vs.set i v) (ds.set i d)
  | _, _, _, _, _, _, .nil => .nil
  | _, _, _, _, 0, h, .cons _ r => .cons h r
  | _, _, _, _, i + 1, h, .cons q r => .cons q (r.set i h)
theorem RpL.erase : ∀ {vs : List V} {ds : List D} (i : Nat), RpL K H X vs ds → RpL K H X (vs.eraseIdx i) (ds.eraseIdx i)
  | _, _, _, .nil => .nil
  | _, _, 0, .cons _ r => r
  | _, _, i + 1, .cons q r => .cons q (r.erase i)
theorem RpL.dropLast : ∀ {vs : List V} {ds : List D}, RpL K H X vs ds → RpL K H X vs.dropLast ds.dropLast := fun {vs ds} r => by
  rw [List.dropLast_eq_take, List.dropLast_eq_take, r.length]
  exact r.take _
theorem RpL.all : ∀ {vs : List V} {ds : List D}, vs.length = ds.length → (∀ (i : Nat) v d, vs[i]? = some v → ds[i]? = some d → Rp K H X v d) → RpL K H X vs ds
  | [], [], _, _ => .nil
  | v :: vs, d :: ds, e, h => .cons (h 0 v d rfl rfl) (RpL.all (by simpa using e) fun i v d a b => h (i + 1) v d (by simpa using a) (by simpa using b))
  | [], _ :: _, e, _ => by simp at e
  | _ :: _, [], e, _ => by simp at e
theorem RpL.perm_map {vs : List V} {ds : List D} (r : RpL K H X vs ds) : ∃ ps : List (V × D), ps.map (·.1) = vs ∧ ps.map (·.2) = ds ∧ ∀ p ∈ ps, Rp K H X p.1 p.2 := by
  induction ds generalizing vs with
  | nil => cases r; exact ⟨[], rfl, rfl, fun _ h => absurd h (by simp)⟩
  | cons d ds ih =>
    cases r with
    | @cons v vs _ _ h r =>
      obtain ⟨ps, h1, h2, h3⟩ := ih r
      exact ⟨(v, d) :: ps, by simp [h1], by simp [h2], fun p hp => (List.mem_cons.mp hp).elim (fun e => by rw [e]; exact h) (h3 p)⟩
end

/-! ### == of data -/
mutual
def toPy : D → PyData
  | .none => .none
  | .bool b => .bool b
  | .int i => .int i
  | .str s => .str (sV s)
  | .tup xs => .tuple (toPyL xs)
  | .list xs => .list (toPyL xs)
  | .scr xs => .list (toPyL xs)
  | .dict _ _ => .none
def toPyL : List D → List PyData
  | [] => []
  | x :: xs => toPy x :: toPyL xs
end
section
variable {K : PySem.W.Frag} {H : Hp} {X : Addr → Prop}
mutual
theorem Rp.dp : ∀ {v : V} {d : D}, Rp K H X v d → Dp K H v (toPy d)
  | _, _, .none => by rw [toPy]; exact .non
  | _, _, .bool b => by rw [toPy]; exact .bl b
  | _, _, .int i => by rw [toPy]; exact .int i
  | _, _, .str (s := s) _ => by rw [toPy]; exact .str _
  | _, _, .tup h r => by rw [toPy]; exact .tup h.sq (RpL.dp r)
  | _, _, .list h _ r => by rw [toPy]; exact .lst (.inl (.inl h)) (RpL.dp r)
  | _, _, .scr h r => by rw [toPy]; exact .lst h.sq (RpL.dp r)
theorem RpL.dp : ∀ {vs : List V} {ds : List D}, RpL K H X vs ds → DpAll K H vs (toPyL ds)
  | _, _, .nil => by rw [toPyL]; exact .nil
  | _, _, .cons h r => by rw [toPyL]; exact .cons (Rp.dp h) (RpL.dp r)
end
mutual
theorem Rp.lay : ∀ {v : V} {d : D}, Rp K H X v d → (toPy d).canLay0 = true
  | _, _, .none => by rw [toPy, PyData.canLay0]
  | _, _, .bool b => by rw [toPy, PyData.canLay0]
  | _, _, .int i => by rw [toPy, PyData.canLay0]
  | _, _, .str (s := s) h => by
    rw [toPy, PyData.canLay0]
    show PyData.strOk ⟨s.toArray⟩ = true
    unfold PyData.strOk
    rw [Array.all_eq_true']
    intro c hc
    exact decide_eq_true (h.2 c (by simpa using hc))
  | _, _, .tup _ r => by rw [toPy, PyData.canLay0]; exact RpL.lay r
  | _, _, .list _ _ r => by rw [toPy, PyData.canLay0]; exact RpL.lay r
  | _, _, .scr _ r => by rw [toPy, PyData.canLay0]; exact RpL.lay r
theorem RpL.lay : ∀ {vs : List V} {ds : List D}, RpL K H X vs ds → PyData.canLayAll0 (toPyL ds) = true
  | _, _, .nil => by rw [toPyL, PyData.canLayAll0]
  | _, _, .cons h r => by rw [toPyL, PyData.canLayAll0, Rp.lay h, RpL.lay r]; rfl
end
end
mutual
theorem flat_depth : ∀ (n : Nat) (d : D), D.flat n d = true → (toPy d).depth ≤ n
  | _, .none, _ => by simp [toPy, PyData.depth]
  | _, .bool _, _ => by simp [toPy, PyData.depth]
  | _, .int _, _ => by simp [toPy, PyData.depth]
  | _, .str _, _ => by simp [toPy, PyData.depth]
  | 0, .tup _, h => by simp [D.flat] at h
  | 0, .list _, h => by simp [D.flat] at h
  | n + 1, .tup xs, h => by
    have := flat_depthL n xs (by simpa [D.flat] using h)
    simp only [toPy, PyData.depth]
    omega
  | n + 1, .list xs, h => by
    have := flat_depthL n xs (by simpa [D.flat] using h)
    simp only [toPy, PyData.depth]
    omega
  | 0, .dict _ _, h => by simp [D.flat] at h
  | n + 1, .dict _ _, h => by simp [D.flat] at h
  | 0, .scr _, h => by simp [D.flat] at h
  | n + 1, .scr _, h => by simp [D.flat] at h
theorem flat_depthL : ∀ (n : Nat) (ds : List D), D.flatL n ds = true → PyData.depthAll (toPyL ds) ≤ n
  | _, [], _ => by simp [toPyL, PyData.depthAll]
  | n, d :: ds, h => by
    rw [D.flatL, Bool.and_eq_true] at h
    have h1 := flat_depth n d h.1
    have h2 := flat_depthL n ds h.2
    simp only [toPyL, PyData.depthAll]
    omega
end
mutual
theorem eqv_py : ∀ (n m : Nat) (x y : D), D.flat n x = true → D.flat m y = true → PyData.eqv (toPy x) (toPy y) = D.eqv x y
  | n, m, .none, y, _, hy => by cases y <;> first | (simp [toPy, PyData.eqv, D.eqv]; done) | (cases m <;> simp [D.flat] at hy)
  | n, m, .bool _, y, _, hy => by cases y <;> first | (simp [toPy, PyData.eqv, D.eqv]; done) | (cases m <;> simp [D.flat] at hy)
  | n, m, .int _, y, _, hy => by cases y <;> first | (simp [toPy, PyData.eqv, D.eqv]; done) | (cases m <;> simp [D.flat] at hy)
  | n, m, .str s, y, _, hy => by
    cases y with
    | str t =>
      simp only [toPy, PyData.eqv, D.eqv]
      by_cases e : s = t
      · subst e; simp
      · rw [beq_eq_false_iff_ne.mpr e, beq_eq_false_iff_ne.mpr]
        intro q
        injection q with q
        exact e (by simpa using congrArg Array.toList q)
    | _ => first | (simp [toPy, PyData.eqv, D.eqv]; done) | (cases m <;> simp [D.flat] at hy)
  | 0, m, .tup _, _, h, _ => by simp [D.flat] at h
  | 0, m, .list _, _, h, _ => by simp [D.flat] at h
  | n + 1, m, .tup xs, y, h, hy => by
    cases y with
    | tup ys =>
      cases m with
      | zero => simp [D.flat] at hy
      | succ m =>
        have := eqv_pyL n m xs ys (by simpa [D.flat] using h) (by simpa [D.flat] using hy)
        simpa only [toPy, PyData.eqv, D.eqv] using this
    | _ => first | (simp [toPy, PyData.eqv, D.eqv]; done) | (cases m <;> simp [D.flat] at hy)
  | n + 1, m, .list xs, y, h, hy => by
    cases y with
    | list ys =>
      cases m with
      | zero => simp [D.flat] at hy
      | succ m =>
        have := eqv_pyL n m xs ys (by simpa [D.flat] using h) (by simpa [D.flat] using hy)
        simpa only [toPy, PyData.eqv, D.eqv] using this
    | _ => first | (simp [toPy, PyData.eqv, D.eqv]; done) | (cases m <;> simp [D.flat] at hy)
  | 0, m, .dict _ _, _, h, _ => by simp [D.flat] at h
  | n + 1, m, .dict _ _, _, h, _ => by simp [D.flat] at h
  | 0, m, .scr _, _, h, _ => by simp [D.flat] at h
  | n + 1, m, .scr _, _, h, _ => by simp [D.flat] at h
theorem eqv_pyL : ∀ (n m : Nat) (xs ys : List D), D.flatL n xs = true → D.flatL m ys = true → PyData.eqvAll (toPyL xs) (toPyL ys) = D.eqvL xs ys
  | _, _, [], [], _, _ => by simp [toPyL, PyData.eqvAll, D.eqvL]
  | _, _, [], _ :: _, _, _ => by simp [toPyL, PyData.eqvAll, D.eqvL]
  | _, _, _ :: _, [], _, _ => by simp [toPyL, PyData.eqvAll, D.eqvL]
  | n, m, x :: xs, y :: ys, h, hy => by
    rw [D.flatL, Bool.and_eq_true] at h hy
    have h1 := eqv_py n m x y h.1 hy.1
    have h2 := eqv_pyL n m xs ys h.2 hy.2
    simp only [toPyL, PyData.eqvAll, D.eqvL, h1, h2]
end
theorem toPyL_any (x : D) (n m : Nat) (hx : D.flat n x = true) : ∀ ys : List D, D.flatL m ys = true → ((toPyL ys).any fun z => PyData.eqv z (toPy x)) = isIn x ys
  | [], _ => by simp [toPyL, isIn]
  | y :: ys, h => by
    rw [D.flatL, Bool.and_eq_true] at h
    rw [toPyL, List.any_cons, isIn, toPyL_any x n m hx ys h.2, eqv_py m n y x h.1 hx]

/-! ### what a name owns -/
/-- the objects that are names' own -/
def Ow (σ : L2.St) (e : Env) (a : Addr) : Prop := ∃ (i : Nat) (d : D), e[i]? = some (some (true, d)) ∧ σ[i]? = some (some (V.ref a))
/-- the object at a holds d, its parts off X -/
def OwnAt (K : PySem.W.Frag) (H : Hp) (X : Addr → Prop) (a : Addr) : D → Prop
  | .list ds => ∃ xs, H a = some (.lst xs) ∧ RpL K H X xs ds
  | _ => False
def orP (A B : Addr → Prop) : Addr → Prop := fun a => A a ∨ B a
def isP (b : Addr) : Addr → Prop := fun a => a = b
structure EOk (K : PySem.W.Frag) (B : Addr → Prop) (σ : L2.St) (H : Hp) (e : Env) : Prop where
  len : e.length = σ.length
  frz : ∀ (i : Nat) (d : D), e[i]? = some (some (false, d)) → ∃ v, σ[i]? = some (some v) ∧ Rp K H (orP B (Ow σ e)) v d
  own : ∀ (i : Nat) (d : D), e[i]? = some (some (true, d)) → ∃ a, σ[i]? = some (some (V.ref a)) ∧ ¬ B a ∧ OwnAt K H (orP B (Ow σ e)) a d
  inj : ∀ (i j : Nat) (d d' : D) (a : Addr), e[i]? = some (some (true, d)) → e[j]? = some (some (true, d')) → σ[i]? = some (some (V.ref a)) → σ[j]? = some (some (V.ref a)) → i = j
  bdom : ∀ a, B a → ∃ o, H a = some o
/-- all but the objects of O stay -/
structure Evo (O : Addr → Prop) (H H' : Hp) : Prop where
  keep : ∀ a o, H a = some o → ¬ O a → H' a = some o
  there : ∀ a o, H a = some o → ∃ o', H' a = some o'
abbrev ExtH (H H' : Hp) : Prop := ∀ a o, H a = some o → H' a = some o
section
variable {K : PySem.W.Frag} {H H' H2 : Hp} {X X' B : Addr → Prop} {σ : L2.St} {e e' : Env} {a : Addr} {d : D}
theorem OwnAt.mono (h : OwnAt K H X a d) (ha : ∀ o, H a = some o → H' a = some o) (m : ∀ a u, H a = some u → ¬ X a → H' a = some u ∧ ¬ X' a) : OwnAt K H' X' a d := by
  cases d with
  | list ds => obtain ⟨xs, h1, r⟩ := h; exact ⟨xs, ha _ h1, r.mono m⟩
  | _ => exact (show False from h).elim
theorem OwnAt.there (h : OwnAt K H X a d) : ∃ o, H a = some o := by
  cases d with
  | list ds => obtain ⟨xs, h1, _⟩ := h; exact ⟨_, h1⟩
  | _ => exact (show False from h).elim
/-- an owned thing that is given up -/
theorem OwnAt.rp (h : OwnAt K H X a d) (hn : ¬ X' a) (m : ∀ a u, H a = some u → ¬ X a → ¬ X' a) : Rp K H X' (.ref a) d := by
  cases d with
  | list ds => obtain ⟨xs, h1, r⟩ := h; exact .list h1 hn (r.mono fun a u e q => ⟨e, m a u e q⟩)
  | _ => exact (show False from h).elim
theorem EOk.ow_there (E : EOk K B σ H e) (h : Ow σ e a) : ∃ o, H a = some o := by
  obtain ⟨i, d, h1, h2⟩ := h
  obtain ⟨b, h3, _, h4⟩ := E.own i d h1
  rw [h2] at h3
  cases h3
  exact h4.there
theorem EOk.x_there (E : EOk K B σ H e) (h : orP B (Ow σ e) a) : ∃ o, H a = some o := h.elim (E.bdom a) E.ow_there
/-- more stands in the heap -/
theorem EOk.ext (E : EOk K B σ H e) (x : ExtH H H') : EOk K B σ H' e :=
  ⟨E.len, fun i d h => let ⟨v, h1, h2⟩ := E.frz i d h; ⟨v, h1, h2.mono fun a u e q => ⟨x a u e, q⟩⟩,
    fun i d h => let ⟨a, h1, h2, h3⟩ := E.own i d h; ⟨a, h1, h2, h3.mono (x a) fun a u e q => ⟨x a u e, q⟩⟩, E.inj, fun a h => let ⟨o, q⟩ := E.bdom a h; ⟨o, x a o q⟩⟩
/-- a new object is nobody's part -/
theorem EOk.fresh (E : EOk K B σ H e) (x : ExtH H H') {p : Addr} (hp : H p = none) (hp' : ∃ o, H' p = some o) : EOk K (orP B (isP p)) σ H' e := by
  have m : ∀ a u, H a = some u → ¬ orP B (Ow σ e) a → H' a = some u ∧ ¬ orP (orP B (isP p)) (Ow σ e) a := fun a u h q => ⟨x a u h, fun z => by
    rcases z with (z | z) | z
    · exact q (.inl z)
    · rw [show a = p from z, hp] at h; cases h
    · exact q (.inr z)⟩
  refine ⟨E.len, fun i d h => let ⟨v, h1, h2⟩ := E.frz i d h; ⟨v, h1, h2.mono m⟩, fun i d h => ?_, E.inj, fun a h => ?_⟩
  · obtain ⟨a, h1, h2, h3⟩ := E.own i d h
    refine ⟨a, h1, fun z => ?_, h3.mono (x a) m⟩
    rcases z with z | z
    · exact h2 z
    · obtain ⟨o, q⟩ := h3.there
      rw [show a = p from z, hp] at q
      cases q
  · rcases h with h | h
    · obtain ⟨o, q⟩ := E.bdom a h
      exact ⟨o, x a o q⟩
    · rw [show a = p from h]
      exact hp'
/-- less is barred -/
theorem EOk.less {B' : Addr → Prop} (E : EOk K B σ H e) (h : ∀ a, B' a → B a) : EOk K B' σ H e := by
  have m : ∀ a u, H a = some u → ¬ orP B (Ow σ e) a → H a = some u ∧ ¬ orP B' (Ow σ e) a := fun a u e q => ⟨e, fun z => q (z.elim (fun z => .inl (h a z)) .inr)⟩
  exact ⟨E.len, fun i d q => let ⟨v, h1, h2⟩ := E.frz i d q; ⟨v, h1, h2.mono m⟩, fun i d q => let ⟨a, h1, h2, h3⟩ := E.own i d q; ⟨a, h1, fun z => h2 (h a z), h3.mono (fun _ e => e) m⟩, E.inj, fun a q => E.bdom a (h a q)⟩
theorem Evo.refl {O : Addr → Prop} (H : Hp) : Evo O H H := ⟨fun _ _ e _ => e, fun _ o e => ⟨o, e⟩⟩
theorem ExtH.evo {O : Addr → Prop} (x : ExtH H H') : Evo O H H' := ⟨fun a o e _ => x a o e, fun a o e => ⟨o, x a o e⟩⟩
theorem Evo.trans {O O' : Addr → Prop} (a : Evo O H H') (b : Evo O' H' H2) (h : ∀ c, O' c → O c) : Evo O H H2 :=
  ⟨fun c o e n => b.keep c o (a.keep c o e n) fun z => n (h c z), fun c o e => let ⟨o', e'⟩ := a.there c o e; b.there c o' e'⟩
theorem Evo.fresh {O : Addr → Prop} (a : Evo O H H') {p : Addr} (h : H' p = none) : H p = none := by
  cases e : H p with
  | none => rfl
  | some o =>
    obtain ⟨o', e'⟩ := a.there p o e
    rw [h] at e'
    cases e'
theorem ExtH.trans (a : ExtH H H') (b : ExtH H' H2) : ExtH H H2 := fun c o e => b c o (a c o e)
theorem ExtH.fresh (a : ExtH H H') {p : Addr} (h : H' p = none) : H p = none := Evo.fresh (O := fun _ => False) a.evo h
theorem ext_upd {p : Addr} {o : HO} (h : H p = none) : ExtH H (upd H p o) := fun a u e => by
  rw [upd_ne (ne_of_none e h)]
  exact e
end
end DI

end
section
/-! DiC: readings: what a rule of the layer asks, by the evaluator's answer. -/
namespace DI
open PySem PySem.Spec PyProof.Rows L2

/-- the classes of the exceptions: where each stands, its fields -/
structure Cy where
  K : PySem.W.Frag
  xt : Nat → Option (Addr × List Str)
def XRep (C : Cy) (H : Hp) (X : Addr → Prop) (cls : Value) (d : Option Addr) (c : Nat) (fs : List D) : Prop :=
  ∃ Ca ns dd vs, C.xt c = some (Ca, ns) ∧ cls = .ref Ca ∧ d = some dd ∧ H dd = some (.xd (ns.zip vs)) ∧ ns.length = vs.length ∧ RpL C.K H X vs fs
/-- what comes: at rest, new, or a name's -/
def VOk (K : PySem.W.Frag) (B : Addr → Prop) (σ : L2.St) (H : Hp) (e' : Env) (H' : Hp) : Rv → V → Prop
  | .val false d, v => Rp K H' (orP B (Ow σ e')) v d
  | .val true d, v => ∃ a, v = .ref a ∧ H a = none ∧ OwnAt K H' (orP (orP B (isP a)) (Ow σ e')) a d ∧ EOk K (orP B (isP a)) σ H' e'
  | .ptr i, v => σ[i]? = some (some v) ∧ ∃ p, e'[i]? = some (some p)
/-- .. looked at -/
def LOk (K : PySem.W.Frag) (B : Addr → Prop) (σ : L2.St) (H : Hp) (e : Env) : Rv → V → Prop
  | .val _ d, v => Rp K H (orP B (Ow σ e)) v d
  | .ptr i, v => σ[i]? = some (some v) ∧ ∃ p, e[i]? = some (some p)
def Look (K : PySem.W.Frag) (H : Hp) (X : Addr → Prop) (v : V) (d : D) : Prop := Rp K H X v d ∨ ∃ a, v = .ref a ∧ OwnAt K H X a d
/-- a new answer -/
def NewOk (K : PySem.W.Frag) (X : Addr → Prop) (H : Hp) (p : Bool × D) (w : V) (H' : Hp) : Prop :=
  ExtH H H' ∧ match p.1 with
    | false => Rp K H' X w p.2
    | true => ∃ a, w = .ref a ∧ H a = none ∧ OwnAt K H' (orP X (isP a)) a p.2
section
variable {K : PySem.W.Frag} {H H' H2 : Hp} {X B : Addr → Prop} {σ : L2.St} {e e' e2 : Env} {d : D} {v : V} {r : Rv}
theorem own_rp {a : Addr} (h : OwnAt K H' (orP (orP B (isP a)) (Ow σ e')) a d) (E : EOk K (orP B (isP a)) σ H' e') (hB : ¬ B a) : Rp K H' (orP B (Ow σ e')) (.ref a) d := by
  refine h.rp (fun z => ?_) fun c u _ q z => ?_
  · rcases z with z | ⟨i, d', h1, h2⟩
    · exact hB z
    · obtain ⟨b, h3, h4, _⟩ := E.own i d' h1
      rw [h2] at h3
      cases h3
      exact h4 (.inr rfl)
  · rcases z with z | z
    · exact q (.inl (.inl z))
    · exact q (.inr z)
theorem VOk.lok (h : VOk K B σ H e' H' r v) (hB : ∀ a, B a → ∃ o, H a = some o) : LOk K B σ H' e' r v := by
  cases r with
  | ptr i => exact h
  | val o d =>
    cases o with
    | false => exact h
    | true =>
      obtain ⟨a, rfl, h1, h2, h3⟩ := h
      refine own_rp h2 h3 fun z => ?_
      obtain ⟨o, q⟩ := hB a z
      rw [h1] at q
      cases q
/-- it stays while names' own objects change -/
theorem rp_keep {v : V} {d : D} (h : Rp K H (orP B (Ow σ e)) v d) (x : Evo (Ow σ e) H H') (o : ∀ a, Ow σ e' a → Ow σ e a) : Rp K H' (orP B (Ow σ e')) v d :=
  h.mono fun a u q n => ⟨x.keep a u q fun z => n (.inr z), fun z => n (z.elim .inl fun z => .inr (o a z))⟩
theorem rpL_keep {vs : List V} {ds : List D} (h : RpL K H (orP B (Ow σ e)) vs ds) (x : Evo (Ow σ e) H H') (o : ∀ a, Ow σ e' a → Ow σ e a) : RpL K H' (orP B (Ow σ e')) vs ds :=
  h.mono fun a u q n => ⟨x.keep a u q fun z => n (.inr z), fun z => n (z.elim .inl fun z => .inr (o a z))⟩
/-- the slots that are told stay told -/
def Told (e e' : Env) : Prop := ∀ (i : Nat) p, e[i]? = some (some p) → ∃ q, e'[i]? = some (some q)
theorem Told.refl (e : Env) : Told e e := fun _ p h => ⟨p, h⟩
theorem Told.trans (a : Told e e') (b : Told e' e2) : Told e e2 := fun i p h => let ⟨q, h'⟩ := a i p h; b i q h'
theorem LOk.keep (h : LOk K B σ H e r v) (x : Evo (Ow σ e) H H') (o : ∀ a, Ow σ e' a → Ow σ e a) (t : Told e e') : LOk K B σ H' e' r v := by
  cases r with
  | ptr i => obtain ⟨h1, p, h2⟩ := h; exact ⟨h1, t i p h2⟩
  | val b d => exact rp_keep h x o
theorem deref_ok (E : EOk K B σ H e) (h : LOk K B σ H e r v) : ∃ d, deref e r = some d ∧ Look K H (orP B (Ow σ e)) v d := by
  cases r with
  | val o d => exact ⟨d, rfl, .inl h⟩
  | ptr i =>
    obtain ⟨h1, ⟨o, d⟩, h2⟩ := h
    refine ⟨d, by simp [deref, h2], ?_⟩
    cases o with
    | false =>
      obtain ⟨w, h3, h4⟩ := E.frz i d h2
      rw [h1] at h3
      cases h3
      exact .inl h4
    | true =>
      obtain ⟨a, h3, _, h4⟩ := E.own i d h2
      rw [h1] at h3
      cases h3
      exact .inr ⟨a, rfl, h4⟩
theorem Look.none (h : Look K H X v .none) : v = .non := by
  rcases h with h | ⟨a, _, h⟩
  · cases h; rfl
  · exact (show False from h).elim
theorem Look.bool {b : Bool} (h : Look K H X v (.bool b)) : v = .bl b := by
  rcases h with h | ⟨a, _, h⟩
  · cases h; rfl
  · exact (show False from h).elim
theorem Look.int {i : Int} (h : Look K H X v (.int i)) : v = .int i := by
  rcases h with h | ⟨a, _, h⟩
  · cases h; rfl
  · exact (show False from h).elim
theorem Look.str {s : List Nat} (h : Look K H X v (.str s)) : v = .str (sV s) ∧ okS s := by
  rcases h with h | ⟨a, _, h⟩
  · cases h with
    | str h => exact ⟨rfl, h⟩
  · exact (show False from h).elim
theorem Look.tup {ds : List D} (h : Look K H X v (.tup ds)) : ∃ a xs, v = .ref a ∧ TF K H X a xs ∧ RpL K H X xs ds := by
  rcases h with h | ⟨a, _, h⟩
  · cases h with
    | tup h r => exact ⟨_, _, rfl, h, r⟩
  · exact (show False from h).elim
theorem Look.list {ds : List D} (h : Look K H X v (.list ds)) : ∃ a xs, v = .ref a ∧ H a = some (.lst xs) ∧ RpL K H X xs ds := by
  rcases h with h | ⟨a, e, h⟩
  · cases h with
    | list h _ r => exact ⟨_, _, rfl, h, r⟩
  · obtain ⟨xs, h1, h2⟩ := h
    exact ⟨a, xs, e, h1, h2⟩
theorem Look.scr {ds : List D} (h : Look K H X v (.scr ds)) : ∃ a xs, v = .ref a ∧ SF K H X a xs ∧ RpL K H X xs ds := by
  rcases h with h | ⟨a, e, h⟩
  · cases h with
    | scr h r => exact ⟨_, _, rfl, h, r⟩
  · exact (show False from h).elim
theorem Look.dict {ks vs : List D} (h : Look K H X v (.dict ks vs)) : False := by
  rcases h with h | ⟨a, e, h⟩
  · cases h
  · exact h
theorem Look.dp (h : Look K H X v d) : Dp K H v (toPy d) := by
  rcases h with h | ⟨a, rfl, h⟩
  · exact h.dp
  · cases d with
    | list ds =>
      obtain ⟨xs, h1, h2⟩ := h
      rw [toPy]
      exact .lst (.inl (.inl h1)) h2.dp
    | _ => exact (show False from h).elim
theorem Look.lay (h : Look K H X v d) : (toPy d).canLay0 = true := by
  rcases h with h | ⟨a, rfl, h⟩
  · exact h.lay
  · cases d with
    | list ds =>
      obtain ⟨xs, h1, h2⟩ := h
      rw [toPy, PyData.canLay0]
      exact h2.lay
    | _ => exact (show False from h).elim
theorem new_same {p : D} (h : Rp K H X v p) : NewOk K X H (false, p) v H := ⟨fun _ _ e => e, h⟩
theorem new_list {q : Addr} {xs : List V} {ds : List D} (r : RpL K H X xs ds) (h : H q = none) : NewOk K X H (true, .list ds) (.ref q) (upd H q (.lst xs)) := by
  refine ⟨ext_upd h, q, rfl, h, xs, upd_same, r.mono fun a u e n => ⟨ext_upd h a u e, fun z => z.elim n fun z => ?_⟩⟩
  rw [show a = q from z, h] at e
  cases e
/-- as `new_list`, a tuple; X says nothing of new places -/
theorem new_tup {q : Addr} {xs : List V} {ds : List D} (r : RpL K H X xs ds) (h : H q = none) (hX : ∀ a, X a → ∃ o, H a = some o) : NewOk K X H (false, .tup ds) (.ref q) (upd H q (.tup xs)) := by
  refine ⟨ext_upd h, .tup (.inl ⟨upd_same, fun z => ?_⟩) (r.mono fun a u e n => ⟨ext_upd h a u e, n⟩)⟩
  obtain ⟨o, e⟩ := hX q z
  rw [h] at e
  cases e
/-- the end of an expression -/
theorem new_fin {p : Bool × D} {w : V} {H0 : Hp} {O : Addr → Prop} (E : EOk K B σ H e) (x : Evo O H0 H) (n : NewOk K (orP B (Ow σ e)) H p w H') : EOk K B σ H' e ∧ Evo O H0 H' ∧ VOk K B σ H0 e H' (.val p.1 p.2) w := by
  obtain ⟨x', n⟩ := n
  refine ⟨E.ext x', x.trans x'.evo fun _ z => z, ?_⟩
  obtain ⟨o, d⟩ := p
  cases o with
  | false => exact n
  | true =>
    obtain ⟨a, rfl, h1, h2⟩ := n
    refine ⟨a, rfl, x.fresh h1, h2.mono (fun _ e => e) (fun c u e q => ⟨e, fun z => q ?_⟩), E.fresh x' h1 h2.there⟩
    rcases z with (z | z) | z
    · exact .inl (.inl z)
    · exact .inr z
    · exact .inl (.inr z)
end

/-- values and what they are, one by one -/
inductive LOkL (K : PySem.W.Frag) (B : Addr → Prop) (σ : L2.St) (H : Hp) (e : Env) : List Rv → List V → Prop
  | nil : LOkL K B σ H e [] []
  | cons {r : Rv} {rs : List Rv} {v : V} {vs : List V} : LOk K B σ H e r v → LOkL K B σ H e rs vs → LOkL K B σ H e (r :: rs) (v :: vs)

/-! ### the readings -/
/-- from (H, e) to (H', e') by an expression -/
structure Bet (K : PySem.W.Frag) (B : Addr → Prop) (σ : L2.St) (H : Hp) (e : Env) (H' : Hp) (e' : Env) : Prop where
  ok : EOk K B σ H' e'
  evo : Evo (Ow σ e) H H'
  ows : ∀ a, Ow σ e' a → Ow σ e a
  told : Told e e'
theorem Bet.refl {K : PySem.W.Frag} {B : Addr → Prop} {σ : L2.St} {H : Hp} {e : Env} (E : EOk K B σ H e) : Bet K B σ H e H e := ⟨E, Evo.refl H, fun _ z => z, Told.refl e⟩
theorem Bet.trans {K : PySem.W.Frag} {B : Addr → Prop} {σ : L2.St} {H H1 H2 : Hp} {e e1 e2 : Env} (a : Bet K B σ H e H1 e1) (b : Bet K B σ H1 e1 H2 e2) : Bet K B σ H e H2 e2 :=
  ⟨b.ok, a.evo.trans b.evo a.ows, fun c z => a.ows c (b.ows c z), a.told.trans b.told⟩
/-- what is wanted of an answer, from (H, e) on -/
def Post (C : Cy) (W : WX) (B : Addr → Prop) (σ : L2.St) (H : Hp) (e : Env) {α : Type} (r : Res α) (k : α → Env → Prop) : Prop :=
  match r with
  | .stuck => False
  | .ok a e' => k a e'
  | .exc c fs e' => ∀ cls d H', XRep C H' (orP B (Ow σ e')) cls d c fs → Bet C.K B σ H e H' e' → W cls d σ H'
/-- how a datum is told by a value: B, the slots, the heap ahead, the state and the heap behind -/
abbrev Tl (α β : Type) := (Addr → Prop) → L2.St → Hp → Env → Hp → α → β → Prop
def Kx (C : Cy) {α β : Type} (P : Tl α β) (B : Addr → Prop) (σ : L2.St) (H : Hp) (e : Env) (Q : β → Hp → Prop) : α → Env → Prop :=
  fun a e' => ∀ v H', Bet C.K B σ H e H' e' → P B σ H e' H' a v → Q v H'
def tX (C : Cy) (W : WX) {α β : Type} (P : Tl α β) (S : Env → Res α) : L2.St → Hp → (β → Hp → Prop) → Prop :=
  fun σ H Q => ∃ B e, EOk C.K B σ H e ∧ Post C W B σ H e (S e) (Kx C P B σ H e Q)
/-- it may be told from further back -/
def Shifts {α β : Type} (P : Tl α β) : Prop := ∀ B σ H H1 e' H' a v O, Evo O H H1 → P B σ H1 e' H' a v → P B σ H e' H' a v
def pE (C : Cy) : Tl Rv V := VOk C.K
def pL (C : Cy) : Tl (List D) (List V) := fun B σ _ e' H' ds vs => RpL C.K H' (orP B (Ow σ e')) vs ds
def pR (C : Cy) : Tl (List Rv) (List V) := fun B σ _ e' H' rs vs => LOkL C.K B σ H' e' rs vs
def pB {α : Type} : Tl α α := fun _ _ _ _ _ a b => b = a
abbrev tE (C : Cy) (W : WX) (S : Env → Res Rv) : TE := tX C W (pE C) S
abbrev tL (C : Cy) (W : WX) (S : Env → Res (List D)) : TA := tX C W (pL C) S
abbrev tR (C : Cy) (W : WX) (S : Env → Res (List Rv)) : TA := tX C W (pR C) S
abbrev tC (C : Cy) (W : WX) (S : Env → Res Bool) : TT := tX C W pB S
abbrev tP (C : Cy) (W : WX) (S : Env → Res (Option Int)) : TO := tX C W pB S
section
variable {C : Cy} {W : WX} {B : Addr → Prop} {σ : L2.St} {H H1 : Hp} {e e1 : Env} {α β γ : Type}
theorem shifts_E : Shifts (pE C) := fun B σ H H1 e' H' r v O x h => by
  cases r with
  | ptr i => exact h
  | val o d =>
    cases o with
    | false => exact h
    | true =>
      obtain ⟨a, h0, h1, h2, h3⟩ := h
      exact ⟨a, h0, x.fresh h1, h2, h3⟩
theorem shifts_L : Shifts (pL C) := fun _ _ _ _ _ _ _ _ _ _ h => h
theorem shifts_R : Shifts (pR C) := fun _ _ _ _ _ _ _ _ _ _ h => h
theorem shifts_B : Shifts (pB (α := α)) := fun _ _ _ _ _ _ _ _ _ _ h => h
theorem Post.bind {r : Res α} {f : α → Env → Res β} {k : β → Env → Prop} (h : Post C W B σ H e (r.bind f) k) : Post C W B σ H e r fun a e1 => Post C W B σ H e (f a e1) k := by
  cases r <;> exact h
theorem Post.mono {r : Res α} {k k' : α → Env → Prop} (h : Post C W B σ H e r k) (hk : ∀ a e', r = .ok a e' → k a e' → k' a e') : Post C W B σ H e r k' := by
  cases r with
  | stuck => exact h
  | ok a e' => exact hk a e' rfl h
  | exc c fs e' => exact h
/-- from here on -/
theorem Post.from {r : Res α} {P : Tl α β} {Q : β → Hp → Prop} (sh : Shifts P) (b : Bet C.K B σ H e H1 e1) (h : Post C W B σ H e r (Kx C P B σ H e Q)) : Post C W B σ H1 e1 r (Kx C P B σ H1 e1 Q) := by
  cases r with
  | stuck => exact h
  | ok a e' => exact fun v H' b' p => h v H' (b.trans b') (sh _ _ _ _ _ _ _ _ _ b.evo p)
  | exc c fs e' => exact fun cls d H' x b' => h cls d H' x (b.trans b')
/-- an expression ahead: its answer, then the rest -/
theorem tX_bind {P : Tl α β} {P2 : Tl γ β'} {S : Env → Res α} {f : α → Env → Res γ} {Q : β' → Hp → Prop} {R : β → Hp → Prop} (sh : Shifts P2)
    (h : tX C W P2 (fun e => (S e).bind f) σ H Q)
    (k : ∀ B a e1 v H0 e0 H1, Bet C.K B σ H0 e0 H1 e1 → P B σ H0 e1 H1 a v → Post C W B σ H1 e1 (f a e1) (Kx C P2 B σ H1 e1 Q) → R v H1) : tX C W P S σ H R := by
  obtain ⟨B, e, E, h⟩ := h
  refine ⟨B, e, E, (Post.bind h).mono fun a e1 _ h1 v H1 b p => ?_⟩
  exact k B a e1 v H e H1 b p (Post.from sh b h1)

end
section
variable {X : Cx}
theorem _root_.L2.PE.impD {e : Expr} {t t' : TE} (h : PE X e t) (i : ∀ σ H Q, t' σ H Q → t σ H Q) : PE X e t' := ⟨fun pins s σ H Q I q => h.run pins s σ H Q I (i σ H Q q)⟩
theorem _root_.L2.PT.impD {e : Expr} {t t' : TT} (h : PT X e t) (i : ∀ σ H Q, t' σ H Q → t σ H Q) : PT X e t' := ⟨fun pins s σ H Q I q => h.run pins s σ H Q I (i σ H Q q)⟩
theorem _root_.L2.PW.impD {e : Expr} {t t' : TT} (h : PW X e t) (i : ∀ σ H Q, t' σ H Q → t σ H Q) : PW X e t' := ⟨fun wh pins s σ H Q I q => h.run wh pins s σ H Q I (i σ H Q q)⟩
theorem _root_.L2.PA.impD {e : List Expr} {t t' : TA} (h : PA X e t) (i : ∀ σ H Q, t' σ H Q → t σ H Q) : PA X e t' := ⟨fun ps pins s σ H Q I q => h.run ps pins s σ H Q I (i σ H Q q)⟩
theorem _root_.L2.PS.impD {s : Stmt} {t t' : TS} (h : PS X s t) (i : ∀ D σ H, t' D σ H → t D σ H) : PS X s t' := ⟨fun pins s σ H D I q => h.run pins s σ H D I (i D σ H q)⟩
theorem _root_.L2.PSs.impD {s : List Stmt} {t t' : TS} (h : PSs X s t) (i : ∀ D σ H, t' D σ H → t D σ H) : PSs X s t' := ⟨fun pins s σ H D I q => h.run pins s σ H D I (i D σ H q)⟩
end
/-- a value behind: more was done -/
theorem VOk.lok' {K : PySem.W.Frag} {B : Addr → Prop} {σ : L2.St} {H H' H2 : Hp} {e0 e' e2 : Env} {r : Rv} {v : V} (h : VOk K B σ H e' H' r v) (b0 : Bet K B σ H e0 H' e') (hB : ∀ a, B a → ∃ o, H a = some o) (b : Bet K B σ H' e' H2 e2) : LOk K B σ H2 e2 r v :=
  (h.lok hB).keep b.evo b.ows b.told

/-! ### values from values: two, one -/
section
variable {X : Cx} {C : Cy} {W : WX} {a b : Expr} {pos : Pos}
/-- what a two-place rule must do -/
def Ans2 (K : PySem.W.Frag) (f : D → D → Option (Bool × D)) (r : R2) : Prop :=
  ∀ (Xc : Addr → Prop) (H : Hp) (v u : V) (d d' : D) (p : Bool × D) (Q : VK), (∀ a, Xc a → ∃ o, H a = some o) → Look K H Xc v d → Look K H Xc u d' → f d d' = some p → (∀ w H', NewOk K Xc H p w H' → Q w H') → r v u H Q
theorem two_imp {f : D → D → Option (Bool × D)} {r : R2} (hs : Ans2 C.K f r) {Sa Sb : Env → Res Rv} (σ : L2.St) (H : Hp) (Q : VK) (h : tE C W (two Sa Sb f) σ H Q) : tOp r (tE C W Sa) (tE C W Sb) σ H Q := by
  obtain ⟨B, e, E, h⟩ := h
  refine ⟨B, e, E, (Post.bind h).mono fun x e1 _ h v H1 b1 p1 => ?_⟩
  refine ⟨B, e1, b1.ok, ?_⟩
  have h := Post.from shifts_E b1 h
  refine (Post.bind h).mono fun y e2 _ h u H2 b2 p2 => ?_
  have h := Post.from shifts_E b2 h
  obtain ⟨d, hd, ld⟩ := deref_ok b2.ok (p1.lok' b1 E.bdom b2)
  obtain ⟨d', hd', ld'⟩ := deref_ok b2.ok (p2.lok b1.ok.bdom)
  simp only [hd, hd'] at h
  cases hf : f d d' with
  | none => rw [hf] at h; exact h.elim
  | some p =>
    rw [hf] at h
    refine hs _ H2 v u d d' p Q (fun a z => b2.ok.x_there z) ld ld' hf fun w H' n => ?_
    obtain ⟨E', x', q⟩ := new_fin (O := Ow σ e2) b2.ok (Evo.refl H2) n
    exact h w H' ⟨E', x', fun _ z => z, Told.refl _⟩ q
theorem pe_two {o : Operator} {f : D → D → Option (Bool × D)} {r : R2} (ho : OpR X (binaryOp o) r) (hs : Ans2 C.K f r) {Sa Sb : Env → Res Rv} (ha : PE X a (tE C W Sa)) (hb : PE X b (tE C W Sb)) : PE X (.BinOp a o b pos) (tE C W (two Sa Sb f)) :=
  (pe_op ho ha hb).impD (two_imp hs)
def Ans1 (K : PySem.W.Frag) (f : D → Option (Bool × D)) (r : V → Hp → VK → Prop) : Prop :=
  ∀ (Xc : Addr → Prop) (H : Hp) (v : V) (d : D) (p : Bool × D) (Q : VK), (∀ a, Xc a → ∃ o, H a = some o) → Look K H Xc v d → f d = some p → (∀ w H', NewOk K Xc H p w H' → Q w H') → r v H Q
theorem one_imp {f : D → Option (Bool × D)} {r : V → Hp → VK → Prop} (hs : Ans1 C.K f r) {Sa : Env → Res Rv} (σ : L2.St) (H : Hp) (Q : VK) (h : tE C W (one Sa f) σ H Q) : tE C W Sa σ H (fun v H1 => r v H1 Q) := by
  obtain ⟨B, e, E, h⟩ := h
  refine ⟨B, e, E, (Post.bind h).mono fun x e1 _ h v H1 b1 p1 => ?_⟩
  have h := Post.from shifts_E b1 h
  obtain ⟨d, hd, ld⟩ := deref_ok b1.ok (p1.lok E.bdom)
  simp only [hd] at h
  cases hf : f d with
  | none => rw [hf] at h; exact h.elim
  | some p =>
    rw [hf] at h
    refine hs _ H1 v d p Q (fun a z => b1.ok.x_there z) ld hf fun w H' n => ?_
    obtain ⟨E', x', q⟩ := new_fin (O := Ow σ e1) b1.ok (Evo.refl H1) n
    exact h w H' ⟨E', x', fun _ z => z, Told.refl _⟩ q
end
end DI

end
section
/-! DiD: each operation of values does what the evaluator says. -/
namespace DI
open PySem PySem.Spec PyProof.Rows L2

theorem lim_line : lim ≤ sizeLine := by rw [sizeLine_eq]; decide
theorem okS_app {a b : List Nat} (ha : okS a) (hb : okS b) (h : a.length + b.length ≤ lim) : okS (a ++ b) := by
  refine ⟨by rw [List.length_append]; exact Nat.le_trans h lim_line, fun c hc => ?_⟩
  rcases List.mem_append.mp hc with z | z
  · exact ha.2 c z
  · exact hb.2 c z
theorem sV_app (a b : List Nat) : sV a ++ sV b = sV (a ++ b) := by
  show (⟨a.toArray ++ b.toArray⟩ : Str) = ⟨(a ++ b).toArray⟩
  simp
theorem sV_len (a : List Nat) : (sV a).length = a.length := by simp [Str.length]
theorem sV_list (a : List Nat) : (sV a).cps.toList = a := by simp
theorem sV_inj {a b : List Nat} (h : sV a = sV b) : a = b := by
  have := congrArg (fun z : Str => z.cps.toList) h
  simpa using this
section
variable {X : Cx} {K : PySem.W.Frag}
/-! ### + - * // % ** -/
def rAddD (K : PySem.W.Frag) : R2 := fun x y H Q => rI0 (fun i j => .int (i + j)) x y H Q ∨ (∃ i j, x = .str i ∧ y = .str j ∧ i.length + j.length ≤ sizeLine ∧ Q (.str (i ++ j)) H) ∨ rCatA K x y H Q ∨ rCat x y H Q
theorem op_addD : OpR X (binaryOp .Add) (rAddD X.K) := op_add.or (op_add_str.or (op_catA.or op_cat))
theorem ans_add : Ans2 K (opB .add) (rAddD K) := by
  intro Xc H v u d d' p Q hX l l' hf k
  cases d <;> cases d' <;> simp only [opB, reduceCtorEq] at hf
  · -- int
    cases l.int; cases l'.int
    obtain rfl := Option.some.inj hf
    exact .inl ⟨_, _, rfl, rfl, k _ _ (new_same (.int _))⟩
  · rename_i a b
    obtain ⟨rfl, ha⟩ := l.str
    obtain ⟨rfl, hb⟩ := l'.str
    split at hf
    · rename_i hl
      obtain rfl := Option.some.inj hf
      refine .inr (.inl ⟨_, _, rfl, rfl, by rw [sV_len, sV_len]; exact Nat.le_trans hl lim_line, ?_⟩)
      rw [sV_app]
      exact k _ _ (new_same (.str (okS_app ha hb hl)))
    · cases hf
  · rename_i a b
    obtain ⟨q, xs, rfl, hq, r⟩ := l.tup
    obtain ⟨q', ys, rfl, hq', r'⟩ := l'.tup
    split at hf
    · rename_i hl
      obtain rfl := Option.some.inj hf
      have e1 := r.length
      have e2 := r'.length
      refine .inr (.inr (.inl ⟨q, q', xs, ys, rfl, rfl, hq.sq, hq'.sq, by rw [e1, e2]; exact Nat.le_trans hl lim_line, fun z => ?_, fun _ z => ?_, fun _ _ c hc => ?_⟩))
      · subst z
        cases r
        exact k _ _ (new_same (.tup hq' r'))
      · subst z
        cases r'
        rw [List.append_nil] at k
        exact k _ _ (new_same (.tup hq r))
      · exact k _ _ (new_tup (r.app r') hc hX)
    · cases hf
  · rename_i a b
    obtain ⟨q, xs, rfl, hq, r⟩ := l.list
    obtain ⟨q', ys, rfl, hq', r'⟩ := l'.list
    split at hf
    · rename_i hl
      obtain rfl := Option.some.inj hf
      have e1 := r.length
      have e2 := r'.length
      exact .inr (.inr (.inr ⟨q, q', xs, ys, rfl, rfl, hq, hq', by rw [e1, e2]; exact Nat.le_trans hl lim_line, fun c hc => k _ _ (new_list (r.app r') hc)⟩))
    · cases hf
theorem ans_sub : Ans2 K (opB .sub) (rI0 fun i j => .int (i - j)) := by
  intro Xc H v u d d' p Q hX l l' hf k
  cases d <;> cases d' <;> simp only [opB, reduceCtorEq] at hf
  cases l.int; cases l'.int
  obtain rfl := Option.some.inj hf
  exact ⟨_, _, rfl, rfl, k _ _ (new_same (.int _))⟩
theorem ans_fdiv : Ans2 K (opB .fdiv) (rI CDiv fun i j => .int (i / j)) := by
  intro Xc H v u d d' p Q hX l l' hf k
  cases d <;> cases d' <;> simp only [opB, reduceCtorEq] at hf
  cases l.int; cases l'.int
  split at hf
  · rename_i hc
    obtain rfl := Option.some.inj hf
    simp only [Bool.and_eq_true, decide_eq_true_eq] at hc
    exact ⟨_, _, rfl, rfl, hc, k _ _ (new_same (.int _))⟩
  · cases hf
theorem ans_mod : Ans2 K (opB .mod) (rI (fun _ j => 0 < j) fun i j => .int (i % j)) := by
  intro Xc H v u d d' p Q hX l l' hf k
  cases d <;> cases d' <;> simp only [opB, reduceCtorEq] at hf
  cases l.int; cases l'.int
  split at hf
  · rename_i hc
    obtain rfl := Option.some.inj hf
    exact ⟨_, _, rfl, rfl, hc, k _ _ (new_same (.int _))⟩
  · cases hf
theorem small_of {i : Int} (h : small i = true) : -(2 ^ 64) < i ∧ i < 2 ^ 64 := by
  unfold small at h
  simpa only [Bool.and_eq_true, decide_eq_true_eq] using h
theorem ans_pow : Ans2 K (opB .pow) (rI CPow fun i j => .int (i ^ j.toNat)) := by
  intro Xc H v u d d' p Q hX l l' hf k
  cases d <;> cases d' <;> simp only [opB, reduceCtorEq] at hf
  cases l.int; cases l'.int
  split at hf
  · rename_i hc
    obtain rfl := Option.some.inj hf
    simp only [Bool.and_eq_true, decide_eq_true_eq] at hc
    have := small_of hc.2
    exact ⟨_, _, rfl, rfl, ⟨hc.1.1, by omega, by omega⟩, k _ _ (new_same (.int _))⟩
  · cases hf
/-- a text some times -/
def rMulS : R2 := fun x y H Q => ∃ (z : List Nat) (k : Int), x = .str (sV z) ∧ y = .int k ∧ 0 ≤ k ∧ k ≤ 1000 ∧ z.length ≤ 1000 ∧ Q (.str (sV (rep k.toNat z))) H
theorem fold_app {α : Type} (l : List (Array α)) (acc : Array α) : (l.foldl (· ++ ·) acc).toList = acc.toList ++ (l.map Array.toList).flatten := by
  induction l generalizing acc with
  | nil => simp
  | cons x r ih => rw [List.foldl_cons, ih]; simp
theorem mul_txt (z : List Nat) (k : Int) (h : 0 ≤ k) : Txt.mul (sV z) k = sV (rep k.toNat z) := by
  unfold Txt.mul rep
  by_cases h1 : k < 1
  · have : k = 0 := by omega
    subst this
    rw [if_pos (by decide)]
    rfl
  · rw [if_neg h1]
    split
    · rename_i hc
      simp only [Bool.or_eq_true, beq_iff_eq, sV_len] at hc
      rcases hc with hc | hc
      · subst hc
        simp
      · rw [List.length_eq_zero_iff] at hc
        subst hc
        simp
    · congr 1
      apply Array.ext'
      rw [fold_app]
      simp
theorem op_mul_s : OpR X (binaryOp .Mult) rMulS := by
  intro pins s σ H x y v u Q I rx ry h
  obtain ⟨z, k, rfl, rfl, h0, h1, h2, q⟩ := h
  obtain ⟨t, rfl⟩ := rx
  obtain ⟨t', rfl⟩ := ry
  have hz : (sV z).length = z.length := sV_len z
  refine SB.mul ⟨?_, fun h3 _ => ?_, fun _ _ => ?_⟩ fun t' k' => ?_
  · rw [Bool.or_eq_false_iff]
    exact ⟨decide_eq_false (by omega), decide_eq_false (by omega)⟩
  · rw [hz]
    have : (1000 : Int) ≤ (2 ^ 63 - 1) / k := by
      rw [Int.le_ediv_iff_mul_le (by omega)]
      omega
    omega
  · rw [hz]
    have : z.length * k.toNat ≤ 1000 * 1000 := Nat.mul_le_mul h2 (by omega)
    unfold Builtin.Str.tooLong
    have hl := sizeLine_eq
    simp
    omega
  · rw [mul_txt z k h0]
    exact ⟨.str (sV (rep k.toNat z)), H, I.tok _, ⟨_, rfl⟩, q⟩
def rMulD (K : PySem.W.Frag) : R2 := fun x y H Q => rI CMul (fun i j => .int (i * j)) x y H Q ∨ rMulS x y H Q ∨ rRep x y H Q ∨ rRepT K x y H Q
theorem op_mulD : OpR X (binaryOp .Mult) (rMulD X.K) := op_mul.or (op_mul_s.or (op_rep.or op_repT))
theorem RpL.repN {H : Hp} {Xc : Addr → Prop} {vs : List V} {ds : List D} (r : RpL K H Xc vs ds) : ∀ n : Nat, RpL K H Xc (List.replicate n vs).flatten (List.replicate n ds).flatten
  | 0 => by simpa using .nil
  | n + 1 => by
    rw [List.replicate_succ, List.replicate_succ, List.flatten_cons, List.flatten_cons]
    exact r.app (r.repN n)
theorem ans_mul : Ans2 K (opB .mul) (rMulD K) := by
  intro Xc H v u d d' p Q hX l l' hf k
  cases d <;> cases d' <;> simp only [opB, reduceCtorEq] at hf
  · cases l.int; cases l'.int
    split at hf
    · rename_i hc
      obtain rfl := Option.some.inj hf
      rw [Bool.or_eq_true] at hc
      exact .inl ⟨_, _, rfl, rfl, hc.elim (fun z => .inl (small_of z)) (fun z => .inr (small_of z)), k _ _ (new_same (.int _))⟩
    · cases hf
  · rename_i a i
    obtain ⟨rfl, ha⟩ := l.str
    cases l'.int
    split at hf
    · rename_i hc
      obtain rfl := Option.some.inj hf
      simp only [Bool.and_eq_true, decide_eq_true_eq] at hc
      refine .inr (.inl ⟨_, _, rfl, rfl, hc.1.1, hc.1.2, hc.2, k _ _ (new_same (.str ⟨?_, fun c hm => ?_⟩))⟩)
      · have : (rep i.toNat a).length = i.toNat * a.length := by simp [rep]
        rw [this, sizeLine_eq]
        have : i.toNat * a.length ≤ 1000 * 1000 := Nat.mul_le_mul (by omega) hc.2
        omega
      · unfold rep at hm
        rw [List.mem_flatten] at hm
        obtain ⟨l2, h1, h2⟩ := hm
        rw [(List.mem_replicate.mp h1).2] at h2
        exact ha.2 c h2
    · cases hf
  · rename_i a i
    obtain ⟨q, xs, rfl, hq, r⟩ := l.tup
    cases l'.int
    split at hf
    · rename_i hc
      obtain rfl := Option.some.inj hf
      simp only [Bool.and_eq_true, decide_eq_true_eq] at hc
      have e1 := r.length
      refine .inr (.inr (.inr ⟨q, i, xs, rfl, rfl, hq.sq, fun z => ?_, hc.1.1.1, hc.1.1.2, by omega, fun c hn => k _ _ (new_tup (r.repN _) hn hX)⟩))
      subst z
      cases r
      simp at hc
    · cases hf
  · rename_i a i
    obtain ⟨q, xs, rfl, hq, r⟩ := l.list
    cases l'.int
    split at hf
    · rename_i hc
      obtain rfl := Option.some.inj hf
      simp only [Bool.and_eq_true, decide_eq_true_eq] at hc
      have e1 := r.length
      refine .inr (.inr (.inl ⟨q, i, xs, rfl, rfl, hq, by omega, by omega, ?_, fun c hn => k _ _ (new_list (r.repN _) hn)⟩))
      have : xs.length * i.toNat ≤ 1000 * 1000 := Nat.mul_le_mul (by omega) (by omega)
      rw [sizeLine_eq]
      omega
    · cases hf
end
end DI

end
section
/-! DiD2: comparisons. -/
namespace DI
open PySem PySem.Spec PyProof.Rows L2
section
variable {X : Cx} {K : PySem.W.Frag}
/-- a comparison's answer -/
def AnsC (K : PySem.W.Frag) (o : Cop) (r : R2) : Prop :=
  ∀ (Xc : Addr → Prop) (H : Hp) (v u : V) (d d' : D) (c : Bool) (Q : VK), Look K H Xc v d → Look K H Xc u d' → opC o d d' = some c → Q (.bl c) H → r v u H Q
theorem AnsC.two {o : Cop} {r : R2} (h : AnsC K o r) : Ans2 K (fun x y => (opC o x y).map fun c => (false, .bool c)) r := by
  intro Xc H v u d d' p Q hX l l' hf k
  replace hf : Option.map (fun c => (false, D.bool c)) (opC o d d') = some p := hf
  cases e : opC o d d' with
  | none => rw [e] at hf; cases hf
  | some c =>
    rw [e] at hf
    obtain rfl := Option.some.inj hf
    exact h Xc H v u d d' c Q l l' e (k _ _ (new_same (.bool _)))
def rEqX (K : PySem.W.Frag) : R2 := fun x y H Q => ∃ d e, Dp K H x d ∧ Dp K H y e ∧ d.canLay0 = true ∧ e.canLay0 = true ∧ d.depth ≤ 150 ∧ Q (.bl (PyData.eqv d e)) H
def rNeX (K : PySem.W.Frag) : R2 := fun x y H Q => ∃ d e, Dp K H x d ∧ Dp K H y e ∧ d.canLay0 = true ∧ e.canLay0 = true ∧ d.depth ≤ 150 ∧ Q (.bl (!PyData.eqv d e)) H
theorem op_eqX (hu : X.A.units + 170 < cLine) : OpR X (compareOp .Eq) (rEqX X.K) := by
  intro pins s σ H x y v u Q I rx ry h
  obtain ⟨d, e, hd, he, sd, se, hz, q⟩ := h
  obtain ⟨as, r1⟩ := Dp.reads I d x v hd rx
  obtain ⟨bs, r2⟩ := Dp.reads I e y u he ry
  have := Nat.min_le_left d.depth e.depth
  exact SeqAt.compareEq_reads r1 r2 sd se (by omega) ⟨.bl _, H, I, rfl, q⟩
theorem op_neX (hu : X.A.units + 170 < cLine) : OpR X (compareOp .NotEq) (rNeX X.K) := by
  intro pins s σ H x y v u Q I rx ry h
  obtain ⟨d, e, hd, he, sd, se, hz, q⟩ := h
  obtain ⟨as, r1⟩ := Dp.reads I d x v hd rx
  obtain ⟨bs, r2⟩ := Dp.reads I e y u he ry
  have := Nat.min_le_left d.depth e.depth
  exact SeqAt.compareNe_reads r1 r2 sd se (by omega) ⟨.bl _, H, I, rfl, q⟩
theorem eqOk_of {x y : D} (h : eqOk x y = true) : D.flat 150 x = true ∧ D.flat 150 y = true := by
  unfold eqOk at h
  simpa only [Bool.and_eq_true] using h
theorem ans_eq : AnsC K .eq (rEqX K) := by
  intro Xc H v u d d' c Q l l' hf k
  simp only [opC] at hf
  split at hf
  · rename_i ho
    obtain ⟨h1, h2⟩ := eqOk_of ho
    obtain rfl := Option.some.inj hf
    refine ⟨_, _, l.dp, l'.dp, l.lay, l'.lay, flat_depth 150 d h1, ?_⟩
    rw [eqv_py 150 150 d d' h1 h2]
    exact k
  · cases hf
theorem ans_ne : AnsC K .ne (rNeX K) := by
  intro Xc H v u d d' c Q l l' hf k
  simp only [opC] at hf
  split at hf
  · rename_i ho
    obtain ⟨h1, h2⟩ := eqOk_of ho
    obtain rfl := Option.some.inj hf
    refine ⟨_, _, l.dp, l'.dp, l.lay, l'.lay, flat_depth 150 d h1, ?_⟩
    rw [eqv_py 150 150 d d' h1 h2]
    exact k
  · cases hf
theorem ans_gt : AnsC K .gt (rI0 fun i j => .bl (decide (j < i))) := by
  intro Xc H v u d d' c Q l l' hf k
  cases d <;> cases d' <;> simp only [opC, reduceCtorEq] at hf
  cases l.int; cases l'.int
  obtain rfl := Option.some.inj hf
  exact ⟨_, _, rfl, rfl, k⟩
theorem ans_le : AnsC K .le (rI0 fun i j => .bl (decide (i ≤ j))) := by
  intro Xc H v u d d' c Q l l' hf k
  cases d <;> cases d' <;> simp only [opC, reduceCtorEq] at hf
  cases l.int; cases l'.int
  obtain rfl := Option.some.inj hf
  exact ⟨_, _, rfl, rfl, k⟩
theorem ans_ge : AnsC K .ge (rI0 fun i j => .bl (decide (j ≤ i))) := by
  intro Xc H v u d d' c Q l l' hf k
  cases d <;> cases d' <;> simp only [opC, reduceCtorEq] at hf
  cases l.int; cases l'.int
  obtain rfl := Option.some.inj hf
  exact ⟨_, _, rfl, rfl, k⟩
/-! ### is -/
def rIsD : R2 := fun x y H Q => (y = .non ∧ Q (.bl (decide (x = .non))) H) ∨ ∃ a b, x = .bl a ∧ y = .bl b ∧ Q (.bl (decide (a = b))) H
def rIsnD : R2 := fun x y H Q => (y = .non ∧ Q (.bl (!decide (x = .non))) H) ∨ ∃ a b, x = .bl a ∧ y = .bl b ∧ Q (.bl (!decide (a = b))) H
theorem op_isD : OpR X (compareOp .Is) rIsD := op_isN.or op_is_bl
theorem op_isnD : OpR X (compareOp .IsNot) rIsnD := op_notN.or op_isnot_bl
theorem Look.non_iff {H : Hp} {Xc : Addr → Prop} {v : V} {d : D} (l : Look K H Xc v d) : decide (v = .non) = match d with | .none => true | _ => false := by
  rcases l with h | ⟨a, rfl, h⟩
  · cases h <;> simp
  · cases d <;> first | exact (show False from h).elim | simp
theorem beq_dec (a b : Bool) : (a == b) = decide (a = b) := by cases a <;> cases b <;> rfl
theorem ans_is : AnsC K .is rIsD := by
  intro Xc H v u d d' c Q l l' hf k
  have hn := l.non_iff
  cases d' with
  | none =>
    obtain rfl := l'.none
    refine .inl ⟨rfl, ?_⟩
    rw [hn]
    cases d <;> simp only [opC] at hf <;> (obtain rfl := Option.some.inj hf; exact k)
  | bool b =>
    cases d with
    | bool a =>
      cases l.bool; cases l'.bool
      simp only [opC] at hf
      obtain rfl := Option.some.inj hf
      rw [beq_dec] at k
      exact .inr ⟨_, _, rfl, rfl, k⟩
    | _ => simp [opC] at hf
  | _ => cases d <;> simp [opC] at hf
theorem ans_isnot : AnsC K .isnot rIsnD := by
  intro Xc H v u d d' c Q l l' hf k
  have hn := l.non_iff
  cases d' with
  | none =>
    obtain rfl := l'.none
    refine .inl ⟨rfl, ?_⟩
    rw [hn]
    cases d <;> simp only [opC] at hf <;> (obtain rfl := Option.some.inj hf; exact k)
  | bool b =>
    cases d with
    | bool a =>
      cases l.bool; cases l'.bool
      simp only [opC] at hf
      obtain rfl := Option.some.inj hf
      rw [beq_dec] at k
      exact .inr ⟨_, _, rfl, rfl, k⟩
    | _ => simp [opC] at hf
  | _ => cases d <;> simp [opC] at hf
/-! ### in -/
def rInX (K : PySem.W.Frag) (neg : Bool) : R2 := fun x y H Q => (∃ (c : Nat) (z : Str), x = .str ⟨#[c]⟩ ∧ y = .str z ∧ Q (.bl (if neg then !decide (c ∈ z.cps.toList) else decide (c ∈ z.cps.toList))) H) ∨
  ∃ d ds, Dp K H x d ∧ (Dp K H y (.list ds) ∨ Dp K H y (.tuple ds)) ∧ d.canLay0 = true ∧ PyData.canLayAll0 ds = true ∧ d.depth ≤ 150 ∧ Q (.bl (if neg then !ds.any (fun z => PyData.eqv z d) else ds.any fun z => PyData.eqv z d)) H
theorem op_inX (hu : X.A.units + 170 < cLine) : OpR X (compareOp .In) (rInX X.K false) := by
  refine op_in_sign.or ?_
  intro pins s σ H x y v u Q I rx ry h
  obtain ⟨d, ds, hd, he, sd, se, hz, q⟩ := h
  obtain ⟨as, r1⟩ := Dp.reads I d x v hd rx
  have := Nat.min_le_right (PyData.depthAll ds) d.depth
  rcases he with he | he
  · obtain ⟨bs, r2⟩ := Dp.reads I (.list ds) y u he ry
    exact SeqAt.in_list_reads r2 r1 se sd (by omega) ⟨.bl _, H, I, rfl, q⟩
  · obtain ⟨bs, r2⟩ := Dp.reads I (.tuple ds) y u he ry
    exact SeqAt.in_tuple_reads r2 r1 se sd (by omega) ⟨.bl _, H, I, rfl, q⟩
theorem op_notInX (hu : X.A.units + 170 < cLine) : OpR X (compareOp .NotIn) (rInX X.K true) := by
  refine op_notIn_sign.or ?_
  intro pins s σ H x y v u Q I rx ry h
  obtain ⟨d, ds, hd, he, sd, se, hz, q⟩ := h
  obtain ⟨as, r1⟩ := Dp.reads I d x v hd rx
  have := Nat.min_le_right (PyData.depthAll ds) d.depth
  rcases he with he | he
  · obtain ⟨bs, r2⟩ := Dp.reads I (.list ds) y u he ry
    exact SeqAt.notIn_list_reads r2 r1 se sd (by omega) ⟨.bl _, H, I, rfl, q⟩
  · obtain ⟨bs, r2⟩ := Dp.reads I (.tuple ds) y u he ry
    exact SeqAt.notIn_tuple_reads r2 r1 se sd (by omega) ⟨.bl _, H, I, rfl, q⟩
theorem ans_in_gen (neg : Bool) (o : Cop) (ho : (neg = false ∧ o = .isin) ∨ (neg = true ∧ o = .notin)) : AnsC K o (rInX K neg) := by
  intro Xc H v u d d' c Q l l' hf k
  have key : ∀ ys : List D, (d' = .list ys ∨ d' = .tup ys) → (if D.flat 150 d && D.flatL 150 ys then some (if neg then !isIn d ys else isIn d ys) else none) = some c → rInX K neg v u H Q := by
    intro ys hd hc
    split at hc
    · rename_i hg
      rw [Bool.and_eq_true] at hg
      obtain rfl := Option.some.inj hc
      refine .inr ⟨toPy d, toPyL ys, l.dp, ?_, l.lay, ?_, flat_depth 150 d hg.1, ?_⟩
      · have := l'.dp
        rcases hd with rfl | rfl
        · rw [toPy] at this; exact .inl this
        · rw [toPy] at this; exact .inr this
      · have := l'.lay
        rcases hd with rfl | rfl <;> (rw [toPy, PyData.canLay0] at this; exact this)
      · rw [toPyL_any d 150 150 hg.1 ys hg.2]
        exact k
    · cases hc
  have sign : ∀ (a : Nat) (b : List Nat), d = .str [a] → d' = .str b → some (if neg then !b.contains a else b.contains a) = some c → rInX K neg v u H Q := by
    rintro a b rfl rfl hc
    obtain rfl := Option.some.inj hc
    obtain ⟨rfl, _⟩ := l.str
    obtain ⟨rfl, _⟩ := l'.str
    refine .inl ⟨a, sV b, rfl, rfl, ?_⟩
    have e : decide (a ∈ (sV b).cps.toList) = b.contains a := by
      rw [sV_list, List.contains_eq_mem]
    rw [e]
    exact k
  rcases ho with ⟨rfl, rfl⟩ | ⟨rfl, rfl⟩
  · cases d' with
    | list ys => exact key ys (.inl rfl) (by cases d <;> simpa [opC] using hf)
    | tup ys => exact key ys (.inr rfl) (by cases d <;> simpa [opC] using hf)
    | dict ks vs => exact l'.dict.elim
    | str b =>
      cases d with
      | str a =>
        match a with
        | [a] => exact sign a b rfl rfl (by simpa [opC] using hf)
        | [] => simp [opC] at hf
        | _ :: _ :: _ => simp [opC] at hf
      | _ => simp [opC] at hf
    | _ => cases d <;> simp [opC] at hf
  · cases d' with
    | list ys => exact key ys (.inl rfl) (by cases d <;> simpa [opC] using hf)
    | tup ys => exact key ys (.inr rfl) (by cases d <;> simpa [opC] using hf)
    | dict ks vs => exact l'.dict.elim
    | str b =>
      cases d with
      | str a =>
        match a with
        | [a] => exact sign a b rfl rfl (by simpa [opC] using hf)
        | [] => simp [opC] at hf
        | _ :: _ :: _ => simp [opC] at hf
      | _ => simp [opC] at hf
    | _ => cases d <;> simp [opC] at hf
theorem ans_in : AnsC K .isin (rInX K false) := ans_in_gen false .isin (.inl ⟨rfl, rfl⟩)
theorem ans_notin : AnsC K .notin (rInX K true) := ans_in_gen true .notin (.inr ⟨rfl, rfl⟩)
/-! ### < -/
theorem lt_codes : ∀ a b : List Nat, decide (a < b) = ltS a b
  | [], [] => by simp [ltS]
  | _ :: _, [] => by simp [ltS]
  | [], _ :: _ => by simp [ltS]
  | x :: xs, y :: ys => by
    rw [ltS, ← lt_codes xs ys]
    by_cases e : x = y
    · subst e
      simp
    · rw [if_neg e]
      simp [List.cons_lt_cons_iff, e]
theorem Rp.dpx {H : Hp} {Xc : Addr → Prop} {v : V} {d : D} (h : Rp K H Xc v d) : Look K H Xc v d := .inl h
theorem RpL.getI {H : Hp} {Xc : Addr → Prop} {vs : List V} {ds : List D} (r : RpL K H Xc vs ds) {j : Nat} (h1 : j < vs.length) (h2 : j < ds.length) : Rp K H Xc vs[j] ds[j] := by
  obtain ⟨v, e, h⟩ := r.get (i := j) (d := ds[j]) (by simp [h2])
  rw [List.getElem?_eq_getElem h1] at e
  cases e
  exact h
theorem ltL_len : ∀ (xs ys : List D) (b : Bool), D.ltL xs ys = some b → b = Ob.lexAt (fun j => D.eqv (xs.getD j .none) (ys.getD j .none)) (fun j => (D.lt (xs.getD j .none) (ys.getD j .none)).getD false) (decide (xs.length < ys.length)) 0 (min xs.length ys.length) := by
  have shift : ∀ (e r e' r' : Nat → Bool) (z : Bool) (k i i' : Nat), (∀ j, e (i + j) = e' (i' + j)) → (∀ j, r (i + j) = r' (i' + j)) → Ob.lexAt e r z i k = Ob.lexAt e' r' z i' k := by
    intro e r e' r' z k
    induction k with
    | zero => intros; rfl
    | succ k ih =>
      intro i i' h1 h2
      rw [Ob.lexAt_succ, Ob.lexAt_succ]
      have a := h1 0
      have b := h2 0
      simp only [Nat.add_zero] at a b
      rw [a, b, ih (i + 1) (i' + 1) (fun j => by have := h1 (j + 1); rwa [show i + (j + 1) = i + 1 + j by omega, show i' + (j + 1) = i' + 1 + j by omega] at this) (fun j => by have := h2 (j + 1); rwa [show i + (j + 1) = i + 1 + j by omega, show i' + (j + 1) = i' + 1 + j by omega] at this)]
  intro xs
  induction xs with
  | nil =>
    intro ys b h
    cases ys with
    | nil => simp [D.ltL] at h; subst h; simp [Ob.lexAt]
    | cons y ys => simp [D.ltL] at h; subst h; simp [Ob.lexAt]
  | cons x xs ih =>
    intro ys b h
    cases ys with
    | nil => simp [D.ltL] at h; subst h; simp [Ob.lexAt]
    | cons y ys =>
      simp only [D.ltL] at h
      cases hr : D.ltL xs ys with
      | none => rw [hr] at h; cases h
      | some r =>
        rw [hr] at h
        replace h : (if D.eqv x y = true then some r else D.lt x y) = some b := h
        have ih' := ih ys r hr
        rw [show min (x :: xs).length (y :: ys).length = min xs.length ys.length + 1 by simp, Ob.lexAt_succ]
        simp only [List.getD_cons_zero]
        by_cases e : D.eqv x y = true
        · rw [if_pos e] at h ⊢
          have hb : r = b := Option.some.inj h
          rw [← hb, ih']
          have hz : decide ((x :: xs).length < (y :: ys).length) = decide (xs.length < ys.length) := by simp
          rw [hz]
          exact shift _ _ _ _ _ _ 0 1 (fun j => by simp [Nat.add_comm 1 j]) (fun j => by simp [Nat.add_comm 1 j])
        · rw [if_neg e] at h ⊢
          rw [h]
          rfl
theorem ltL_all : ∀ (xs ys : List D) (b : Bool), D.ltL xs ys = some b → ∀ j, j < xs.length → j < ys.length → D.eqv (xs.getD j .none) (ys.getD j .none) = false → (D.lt (xs.getD j .none) (ys.getD j .none)).isSome = true := by
  intro xs
  induction xs with
  | nil => intro ys b _ j h; simp at h
  | cons x xs ih =>
    intro ys b h j h1 h2 he
    cases ys with
    | nil => simp at h2
    | cons y ys =>
      simp only [D.ltL] at h
      cases hr : D.ltL xs ys with
      | none => rw [hr] at h; cases h
      | some r =>
        rw [hr] at h
        cases j with
        | zero =>
          simp only [List.getD_cons_zero] at he ⊢
          have h : (if D.eqv x y = true then some r else D.lt x y) = some b := h
          rw [he, if_neg Bool.false_ne_true] at h
          rw [h]
          rfl
        | succ j =>
          simp only [List.getD_cons_succ] at he ⊢
          exact ih ys r hr j (by simpa using h1) (by simpa using h2) he
theorem getD_get {ds : List D} {j : Nat} (h : j < ds.length) : ds.getD j .none = ds[j] := by
  rw [List.getD_eq_getElem?_getD, List.getElem?_eq_getElem h]
  rfl
theorem flatL_get : ∀ {n : Nat} {ds : List D} {j : Nat} (h : j < ds.length), D.flatL n ds = true → D.flat n ds[j] = true
  | _, [], j, h, _ => by simp at h
  | n, d :: ds, 0, _, q => by
    rw [D.flatL, Bool.and_eq_true] at q
    exact q.1
  | n, d :: ds, j + 1, h, q => by
    rw [D.flatL, Bool.and_eq_true] at q
    exact flatL_get (n := n) (ds := ds) (j := j) (by simpa using h) q.2
theorem rc_lt {pins : List (Addr × Obj)} {s : Shared} {σ : L2.St} {H : Hp} {Xc : Addr → Prop} (I : Inv X pins σ H s) (hK : X.K = K) : ∀ (n m : Nat) (x y : D) (b : Bool), D.flat n x = true → D.flat m y = true → D.lt x y = some b →
    ∀ (A : Around) (v u : V) (v' u' : Value), A.units + n + 2 < cLine → Rp K H Xc v x → Rp K H Xc u y → RelV v v' → RelV u u' → Ob.RcOp .Lt A s v' u' b := by
  intro n
  induction n using Nat.strongRecOn with
  | ind n ih =>
    intro m x y b fx fy hlt A v u v' u' hu rx ry r1 r2
    cases x <;> cases y <;> simp only [D.lt, reduceCtorEq] at hlt
    · cases rx; cases ry
      obtain ⟨t, rfl⟩ := r1
      obtain ⟨t', rfl⟩ := r2
      obtain rfl := Option.some.inj hlt
      exact Ob.RcOp.lt_int _ _ _ _
    · rename_i a c
      cases rx; cases ry
      obtain ⟨t, rfl⟩ := r1
      obtain ⟨t', rfl⟩ := r2
      obtain rfl := Option.some.inj hlt
      intro prog w E Q h
      refine lt_str ?_
      rw [sV_list, sV_list, lt_codes]
      exact h
    · rename_i xs ys
      cases rx with
      | @tup a vs _ hq r =>
      cases ry with
      | @tup c us _ hq' r' =>
      cases r1; cases r2
      obtain ⟨its, w1, p1, _⟩ := I.tuple (hK ▸ hq.sq)
      obtain ⟨its2, w2, p2, _⟩ := I.tuple (hK ▸ hq'.sq)
      cases n with
      | zero => simp [D.flat] at fx
      | succ n =>
      cases m with
      | zero => simp [D.flat] at fy
      | succ m =>
      have fx : D.flatL n xs = true := by simpa [D.flat] using fx
      have fy : D.flatL m ys = true := by simpa [D.flat] using fy
      have e1 := r.length
      have e2 := r'.length
      have e3 := w1.length
      have e4 := w2.length
      have at1 : ∀ j (h1 : j < its.toArray.size), ∃ w, vs[j]? = some w ∧ Rp K H Xc w (xs.getD j .none) ∧ RelV w its.toArray[j] ∧ D.flat n (xs.getD j .none) = true := fun j h1 => by
        have h1' : j < its.length := by simpa using h1
        have hx : j < xs.length := by omega
        have hv : j < vs.length := by omega
        rw [getD_get hx]
        obtain ⟨w, e, q⟩ := r.get (i := j) (d := xs[j]) (by simp [hx])
        obtain ⟨z, e', q'⟩ := w1.get e
        rw [List.getElem?_eq_getElem h1'] at e'
        cases e'
        exact ⟨w, e, q, by simpa using q', flatL_get hx fx⟩
      have at2 : ∀ j (h1 : j < its2.toArray.size), ∃ w, us[j]? = some w ∧ Rp K H Xc w (ys.getD j .none) ∧ RelV w its2.toArray[j] ∧ D.flat m (ys.getD j .none) = true := fun j h1 => by
        have h1' : j < its2.length := by simpa using h1
        have hx : j < ys.length := by omega
        rw [getD_get hx]
        obtain ⟨w, e, q⟩ := r'.get (i := j) (d := ys[j]) (by simp [hx])
        obtain ⟨z, e', q'⟩ := w2.get e
        rw [List.getElem?_eq_getElem h1'] at e'
        cases e'
        exact ⟨w, e, q, by simpa using q', flatL_get hx fy⟩
      have R := Ob.RcOp.tuples_lt (A := A) (s := s) (e := fun j => D.eqv (xs.getD j .none) (ys.getD j .none)) (r := fun j => (D.lt (xs.getD j .none) (ys.getD j .none)).getD false) p1 p2 (by omega)
        (fun j h1 h2 => by
          obtain ⟨w, _, q, rw1, f1⟩ := at1 j h1
          obtain ⟨w', _, q', rw2, f2⟩ := at2 j h2
          obtain ⟨as, z1⟩ := Dp.reads I _ w _ (hK ▸ q.dp) rw1
          obtain ⟨bs, z2⟩ := Dp.reads I _ w' _ (hK ▸ q'.dp) rw2
          have hd := flat_depth n _ f1
          have := Nat.min_le_left (toPy (xs.getD j .none)).depth (toPy (ys.getD j .none)).depth
          show SeqAt.EqAt A.in1 s _ _ (D.eqv (xs.getD j .none) (ys.getD j .none))
          rw [← eqv_py n m _ _ f1 f2]
          exact SeqAt.eqAt_reads _ _ A.in1 s _ _ _ _ z1 z2 q.lay q'.lay (by show A.units + 1 + _ < cLine; omega))
        (fun j h1 h2 he => by
          obtain ⟨w, _, q, rw1, f1⟩ := at1 j h1
          obtain ⟨w', _, q', rw2, f2⟩ := at2 j h2
          have hs := ltL_all xs ys b hlt j (by simp at h1; omega) (by simp at h2; omega) he
          cases hl : D.lt (xs.getD j .none) (ys.getD j .none) with
          | none => rw [hl] at hs; cases hs
          | some c =>
            exact ih n (Nat.lt_succ_self n) m _ _ c f1 f2 hl A.in1 w w' _ _ (by show A.units + 1 + n + 2 < cLine; omega) q q' rw1 rw2)
      have hb := ltL_len xs ys b hlt
      rw [show its.toArray.size = xs.length by simp; omega, show its2.toArray.size = ys.length by simp; omega, ← hb] at R
      exact R
def rLtX (K : PySem.W.Frag) : R2 := fun x y H Q => ∃ Xc d d' b, Rp K H Xc x d ∧ Rp K H Xc y d' ∧ D.flat 150 d = true ∧ D.flat 150 d' = true ∧ D.lt d d' = some b ∧ Q (.bl b) H
theorem op_ltX (hu : X.A.units + 170 < cLine) : OpR X (compareOp .Lt) (rLtX X.K) := by
  intro pins s σ H x y v u Q I rx ry h
  obtain ⟨Xc, d, d', b, h1, h2, f1, f2, hl, q⟩ := h
  have R := rc_lt I rfl 150 150 d d' b f1 f2 hl X.A x y v u (by omega) h1 h2 rx ry
  have z : wpAny (model X.prog X.w) X.A (compareOp .Lt v u) (EP X pins σ Q) X.xe s := R X.prog X.w X.xe (EP X pins σ Q) ⟨.bl _, H, I, rfl, q⟩
  exact z
theorem Look.rp {H : Hp} {Xc : Addr → Prop} {v : V} {d : D} (l : Look K H Xc v d) (h : ∀ ds, d ≠ .list ds) : Rp K H Xc v d := by
  rcases l with h' | ⟨a, rfl, h'⟩
  · exact h'
  · cases d with
    | list ds => exact absurd rfl (h ds)
    | _ => exact (show False from h').elim
theorem ans_lt : AnsC K .lt (rLtX K) := by
  intro Xc H v u d d' c Q l l' hf k
  simp only [opC] at hf
  split at hf
  · rename_i ho
    obtain ⟨h1, h2⟩ := eqOk_of ho
    exact ⟨Xc, d, d', c, l.rp (fun ds e => by subst e; cases d' <;> simp [D.lt] at hf), l'.rp (fun ds e => by subst e; cases d <;> simp [D.lt] at hf), h1, h2, hf, k⟩
  · cases hf
end
end DI

end
section
/-! DiE: items, slices, truth, built-ins, methods. -/
namespace DI
open PySem PySem.Spec PyProof.Rows L2
section
variable {X : Cx} {K : PySem.W.Frag}
theorem place_ixN (n : Nat) (i : Int) : place n i = ixN n i := rfl
theorem RpL.at {H : Hp} {Xc : Addr → Prop} {vs : List V} {ds : List D} {i : Int} {d : D} (r : RpL K H Xc vs ds) (h : ((place ds.length i).bind fun j => ds[j]?) = some d) : ∃ v, atI vs i = some v ∧ Rp K H Xc v d := by
  cases e : place ds.length i with
  | none => rw [e] at h; cases h
  | some j =>
    rw [e] at h
    obtain ⟨v, h1, h2⟩ := r.get (show ds[j]? = some d from h)
    refine ⟨v, ?_, h2⟩
    unfold atI
    rw [← place_ixN, r.length, e]
    exact h1
theorem ans_item : Ans2 K (fun x y => sc (item x y)) (rIx K) := by
  intro Xc H v u d d' p Q hX l l' hf k
  replace hf : (item d d').map (fun d => (false, d)) = some p := hf
  cases ei : item d d' with
  | none => rw [ei] at hf; cases hf
  | some z =>
    rw [ei] at hf
    obtain rfl := Option.some.inj hf
    cases d with
    | list ds =>
      cases d' with
      | int i =>
        obtain ⟨a, xs, rfl, ha, r⟩ := l.list
        cases l'.int
        obtain ⟨w, h1, h2⟩ := r.at (i := i) ei
        exact .inl ⟨a, xs, i, w, rfl, rfl, .inl (.inl ha), h1, k _ _ (new_same h2)⟩
      | _ => simp [item] at ei
    | tup ds =>
      cases d' with
      | int i =>
        obtain ⟨a, xs, rfl, ha, r⟩ := l.tup
        cases l'.int
        obtain ⟨w, h1, h2⟩ := r.at (i := i) ei
        exact .inr (.inl ⟨a, xs, i, w, rfl, rfl, ha.sq, h1, k _ _ (new_same h2)⟩)
      | _ => simp [item] at ei
    | str s =>
      cases d' with
      | int i =>
        obtain ⟨rfl, hs⟩ := l.str
        cases l'.int
        simp only [item] at ei
        cases ec : (place s.length i).bind fun j => s[j]? with
        | none => rw [ec] at ei; cases ei
        | some c =>
          rw [ec] at ei
          obtain rfl := Option.some.inj ei
          refine .inr (.inr ⟨sV s, i, c, rfl, rfl, by rw [sV_len]; exact hs.1, ?_, k _ _ (new_same (.str (s := [c]) ⟨by rw [sizeLine_eq]; simp, fun e he => ?_⟩))⟩)
          · rw [sV_list]
            exact ec
          · rw [List.mem_singleton] at he
            subst he
            cases ep : place s.length i with
            | none => rw [ep] at ec; cases ec
            | some j =>
              rw [ep] at ec
              exact hs.2 _ (List.mem_of_getElem? (show s[j]? = some e from ec))
      | _ => simp [item] at ei
    | dict ks vs => exact l.dict.elim
    | _ => simp [item] at ei
/-! ### slices -/
theorem clip_sIx (n d : Nat) (o : Option Int) : clip n d o = HT.sIx n d o := by cases o <;> rfl
theorem RpL.cut {H : Hp} {Xc : Addr → Prop} {vs : List V} {ds : List D} (r : RpL K H Xc vs ds) (lo hi : Option Int) : RpL K H Xc (cutV vs lo hi) (cut ds lo hi) := by
  unfold cutV DI.cut
  rw [clip_sIx, clip_sIx, r.length]
  exact (r.drop _).take _
def rSlD (K : PySem.W.Frag) : V → Option Int → Option Int → Hp → VK → Prop := fun x lo hi H Q => rSlL K x lo hi H Q ∨ rSlA K x lo hi H Q ∨ rSlS x lo hi H Q
theorem sl_D : SlR X (rSlD X.K) := sl_list.or (sl_tupA.or sl_str)
theorem ans_slice {Xc : Addr → Prop} {H : Hp} {v : V} {d : D} {lo hi : Option Int} {p : Bool × D} {Q : VK} (hX : ∀ a, Xc a → ∃ o, H a = some o) (l : Look K H Xc v d) (hf : slice d lo hi = some p) (k : ∀ w H', NewOk K Xc H p w H' → Q w H') : rSlD K v lo hi H Q := by
  cases d with
  | list ds =>
    obtain ⟨a, xs, rfl, ha, r⟩ := l.list
    obtain rfl := Option.some.inj hf
    exact .inl ⟨a, xs, rfl, .inl (.inl ha), fun q hq => k _ _ (new_list (r.cut lo hi) hq)⟩
  | tup ds =>
    obtain ⟨a, xs, rfl, ha, r⟩ := l.tup
    obtain rfl := Option.some.inj hf
    refine .inr (.inl ⟨a, xs, rfl, ha.sq, fun z => ?_, fun _ q hq => k _ _ (new_tup (r.cut lo hi) hq hX)⟩)
    have e : cut ds lo hi = ds := by
      unfold DI.cut
      rw [clip_sIx, clip_sIx, ← r.length, z.1, z.2, r.length]
      simp
    rw [e] at k
    exact k _ _ (new_same (.tup ha r))
  | str s =>
    obtain ⟨rfl, hs⟩ := l.str
    obtain rfl := Option.some.inj hf
    refine .inr (.inr ⟨sV s, rfl, by rw [sV_len]; exact hs.1, ?_⟩)
    have e : cutS (sV s) lo hi = sV (cut s lo hi) := by
      unfold cutS DI.cut
      rw [sV_list, sV_len, clip_sIx, clip_sIx]
    rw [e]
    refine k _ _ (new_same (.str ⟨?_, fun c hc => hs.2 c ?_⟩))
    · unfold DI.cut
      rw [List.length_take, List.length_drop]
      have := hs.1
      omega
    · unfold DI.cut at hc
      exact List.mem_of_mem_drop (List.mem_of_mem_take hc)
  | _ => simp [slice] at hf
/-! ### truth -/
theorem tru_D {Xc : Addr → Prop} {H : Hp} {v : V} {d : D} (l : Look K H Xc v d) : TruV K v H (truth d) := by
  cases d with
  | none => obtain rfl := l.none; exact rfl
  | bool b => obtain rfl := l.bool; exact rfl
  | int i => obtain rfl := l.int; exact rfl
  | str s =>
    obtain ⟨rfl, hs⟩ := l.str
    refine ⟨by rw [sV_len]; exact hs.1, ?_⟩
    rw [sV_len]
    cases s with
    | nil => simp [truth]
    | cons x r => simp [truth]; omega
  | tup ds =>
    obtain ⟨a, xs, rfl, ha, r⟩ := l.tup
    refine .inr (.inl ⟨xs, ha.sq, ?_⟩)
    cases r <;> rfl
  | list ds =>
    obtain ⟨a, xs, rfl, ha, r⟩ := l.list
    refine .inl ⟨xs, .inl (.inl ha), ?_⟩
    cases r <;> rfl
  | scr ds =>
    obtain ⟨a, xs, rfl, ha, r⟩ := l.scr
    refine .inl ⟨xs, ha.sq, ?_⟩
    cases r <;> rfl
  | dict ks vs => exact l.dict.elim
/-! ### built-ins -/
inductive LookL (K : PySem.W.Frag) (H : Hp) (Xc : Addr → Prop) : List V → List D → Prop
  | nil : LookL K H Xc [] []
  | cons {v : V} {vs : List V} {d : D} {ds : List D} : Look K H Xc v d → LookL K H Xc vs ds → LookL K H Xc (v :: vs) (d :: ds)
def AnsN (K : PySem.W.Frag) (f : List D → Option (Bool × D)) (r : List V → Hp → VK → Prop) : Prop :=
  ∀ (Xc : Addr → Prop) (H : Hp) (vs : List V) (ds : List D) (p : Bool × D) (Q : VK), (∀ a, Xc a → ∃ o, H a = some o) → LookL K H Xc vs ds → f ds = some p → (∀ w H', NewOk K Xc H p w H' → Q w H') → r vs H Q
theorem LookL.one {H : Hp} {Xc : Addr → Prop} {vs : List V} {d : D} (l : LookL K H Xc vs [d]) : ∃ v, vs = [v] ∧ Look K H Xc v d := by
  cases l with
  | cons h r => cases r; exact ⟨_, rfl, h⟩
theorem LookL.two {H : Hp} {Xc : Addr → Prop} {vs : List V} {d d' : D} (l : LookL K H Xc vs [d, d']) : ∃ v u, vs = [v, u] ∧ Look K H Xc v d ∧ Look K H Xc u d' := by
  cases l with
  | cons h r =>
    obtain ⟨u, rfl, h'⟩ := r.one
    exact ⟨_, _, rfl, h, h'⟩
theorem len_D {Xc : Addr → Prop} {H : Hp} {v : V} {d : D} {n : Nat} (l : Look K H Xc v d) (h : biV .len [d] = some (false, .int n)) : LenV K v H n := by
  cases d with
  | str s =>
    obtain ⟨rfl, hs⟩ := l.str
    simp only [biV, Option.some.injEq, Prod.mk.injEq, D.int.injEq, true_and] at h
    exact ⟨by rw [sV_len]; exact hs.1, by rw [sV_len]; omega⟩
  | tup ds =>
    obtain ⟨a, xs, rfl, ha, r⟩ := l.tup
    simp only [biV, Option.some.injEq, Prod.mk.injEq, D.int.injEq, true_and] at h
    exact .inr ⟨xs, ha.sq, by rw [r.length]; omega⟩
  | list ds =>
    obtain ⟨a, xs, rfl, ha, r⟩ := l.list
    simp only [biV, Option.some.injEq, Prod.mk.injEq, D.int.injEq, true_and] at h
    exact .inl ⟨xs, .inl (.inl ha), by rw [r.length]; omega⟩
  | scr ds =>
    simp [biV] at h
  | dict ks vs => exact l.dict.elim
  | _ => simp [biV] at h
theorem ans_len : AnsN K (biV .len) (fun xs H Q => ∃ x n, xs = [x] ∧ LenV K x H n ∧ Q (.int n) H) := by
  intro Xc H vs ds p Q hX l0 hf k
  match ds, l0, hf with
  | [d], l0, hf =>
    obtain ⟨v, rfl, l⟩ := l0.one
    have : ∃ n : Nat, p = (false, .int n) := by
      cases d <;> simp only [biV, reduceCtorEq] at hf <;> exact ⟨_, (Option.some.inj hf).symm⟩
    obtain ⟨n, rfl⟩ := this
    exact ⟨v, n, rfl, len_D l hf, k _ _ (new_same (.int _))⟩
  | [], _, hf => simp [biV] at hf
  | _ :: _ :: _, _, hf => simp [biV] at hf
theorem ans_abs : AnsN K (biV .abs) (fun xs H Q => ∃ i, xs = [.int i] ∧ Q (.int (if i < 0 then -i else i)) H) := by
  intro Xc H vs ds p Q hX l0 hf k
  match ds, l0, hf with
  | [.int i], l0, hf =>
    obtain ⟨v, rfl, l⟩ := l0.one
    cases l.int
    obtain rfl := Option.some.inj hf
    refine ⟨i, rfl, ?_⟩
    have e : (if i < 0 then -i else i) = (i.natAbs : Int) := by split <;> omega
    rw [e]
    exact k _ _ (new_same (.int _))
theorem ans_int : AnsN K (biV .int) (fun xs H Q => (∃ i, xs = [.int i] ∧ Q (.int i) H) ∨ ∃ k, xs = [.bl k] ∧ Q (.int (if k then 1 else 0)) H) := by
  intro Xc H vs ds p Q hX l0 hf k
  match ds, l0, hf with
  | [.int i], l0, hf =>
    obtain ⟨v, rfl, l⟩ := l0.one
    cases l.int
    obtain rfl := Option.some.inj hf
    exact .inl ⟨i, rfl, k _ _ (new_same (.int _))⟩
  | [.bool i], l0, hf =>
    obtain ⟨v, rfl, l⟩ := l0.one
    cases l.bool
    obtain rfl := Option.some.inj hf
    exact .inr ⟨i, rfl, k _ _ (new_same (.int _))⟩
def chV (z : Str) : List V := z.cps.toList.map fun c => V.str ⟨#[c]⟩
def rTupX (K : PySem.W.Frag) : List V → Hp → VK → Prop := fun xs H Q => (∃ p ys, xs = [.ref p] ∧ ((SqL K H p ys ∧ ∀ l, H l = none → Q (.ref l) (upd H l (.tup ys))) ∨ (SqT K H p ys ∧ Q (.ref p) H))) ∨
  ∃ z : Str, xs = [.str z] ∧ z.cps.size ≤ sizeLine ∧ ∀ l, H l = none → Q (.ref l) (upd H l (.tup (chV z)))
def rLstX (K : PySem.W.Frag) : List V → Hp → VK → Prop := fun xs H Q => (∃ p ys, xs = [.ref p] ∧ (SqL K H p ys ∨ SqT K H p ys) ∧ ∀ l, H l = none → Q (.ref l) (upd H l (.lst ys))) ∨
  ∃ z : Str, xs = [.str z] ∧ z.cps.size ≤ sizeLine ∧ ∀ l, H l = none → Q (.ref l) (upd H l (.lst (chV z)))
theorem CallR.orX {X : Cx} {f : Value} {r r' : List V → Hp → VK → Prop} (h : CallR X f r) (h' : CallR X f r') : CallR X f (fun vs H Q => r vs H Q ∨ r' vs H Q) := by
  intro pins s σ H xs us Q I rx q
  rcases q with q | q
  · exact h pins s σ H xs us Q I rx q
  · exact h' pins s σ H xs us Q I rx q
theorem vals_ch {z : Str} {acc : Array Value} (h : ItemsOf (SignAt z) acc z.cps.size) : Vals (chV z) acc.toList := by
  refine vals_of_idx _ _ (by rw [Array.length_toList, h.1]; simp [chV]) fun j u hj => ?_
  obtain ⟨c, t, h1, rfl⟩ := h.2 j u (by simpa using hj)
  refine ⟨.str ⟨#[c]⟩, ?_, ⟨t, rfl⟩⟩
  unfold chV
  rw [List.getElem?_map, Array.getElem?_toList, h1]
  rfl
theorem call_listX {X : Cx} (hc : X.calm = true) : CallR X (.type "list") (rLstX X.K) := by
  refine CallR.orX call_list_of fun pins s σ H xs us Q I rx q => ?_
  obtain ⟨z, rfl, hz, q⟩ := q
  obtain ⟨u, rfl, ru⟩ := rx.one
  obtain ⟨t, rfl⟩ := (show ∃ t, u = .str z t from ru)
  refine PySem.call_list_str (I.ok.hd hc) z t (fun h' tk acc c' hk e' hi => ?_) hz
  refine ⟨.ref s.heap.objs.size, upd H s.heap.objs.size (.lst (chV z)), I.laid hk (Nat.le_refl _) (show ObjOk X.prog X.w _ _ _ (.lst (chV z)) from ⟨?_, acc.toList, c', vals_ch hi, ?_⟩), rfl, q _ (I.hok.fresh (Nat.le_refl _))⟩
  · simpa [chV] using hz
  · rw [Array.toArray_toList]; exact e'
theorem call_tupleX {X : Cx} (hc : X.calm = true) : CallR X (.type "tuple") (rTupX X.K) := by
  refine CallR.orX call_tuple_of fun pins s σ H xs us Q I rx q => ?_
  obtain ⟨z, rfl, hz, q⟩ := q
  obtain ⟨u, rfl, ru⟩ := rx.one
  obtain ⟨t, rfl⟩ := (show ∃ t, u = .str z t from ru)
  refine PySem.call_tuple_str (I.ok.hd hc) z t (fun h' tk acc hk hi => ?_) hz
  have I2 : Inv X pins σ H { s with heap := h', toks := tk } := I.kept hk
  refine ⟨.ref h'.objs.size, upd H h'.objs.size (.tup (chV z)), I2.laid (t' := tk) (fun c o e => Heap.get?_push_of_some _ e) (Nat.le_refl _) (show ObjOk X.prog X.w _ _ _ (.tup (chV z)) from ⟨?_, acc.toList, vals_ch hi, ?_⟩), rfl, q _ (I2.hok.fresh (Nat.le_refl _))⟩
  · simpa [chV] using hz
  · rw [Array.toArray_toList]; exact IsTup.new _ _
theorem okS_one {s : List Nat} (h : okS s) {c : Nat} (hc : c ∈ s) : okS [c] := ⟨by rw [sizeLine_eq]; simp, fun z hz => by rw [List.mem_singleton] at hz; subst hz; exact h.2 _ hc⟩
theorem rp_ch {H : Hp} {Xc : Addr → Prop} : ∀ (s : List Nat), (∀ c ∈ s, okS [c]) → RpL K H Xc (s.map fun c => V.str ⟨#[c]⟩) (s.map fun c => .str [c])
  | [], _ => .nil
  | c :: s, h => .cons (.str (h c List.mem_cons_self)) (rp_ch s fun d hd => h d (List.mem_cons_of_mem _ hd))
theorem chV_sV (s : List Nat) : chV (sV s) = s.map fun c => V.str ⟨#[c]⟩ := by simp [chV]
theorem ans_tuple : AnsN K (biV .tuple) (rTupX K) := by
  intro Xc H vs ds p Q hX l0 hf k
  match ds, l0, hf with
  | [.list xs], l0, hf =>
    obtain ⟨v, rfl, l⟩ := l0.one
    obtain ⟨a, ys, rfl, ha, r⟩ := l.list
    obtain rfl := Option.some.inj hf
    exact .inl ⟨a, ys, rfl, .inl ⟨.inl (.inl ha), fun q hq => k _ _ (new_tup r hq hX)⟩⟩
  | [.tup xs], l0, hf =>
    obtain ⟨v, rfl, l⟩ := l0.one
    obtain ⟨a, ys, rfl, ha, r⟩ := l.tup
    obtain rfl := Option.some.inj hf
    exact .inl ⟨a, ys, rfl, .inr ⟨ha.sq, k _ _ (new_same (.tup ha r))⟩⟩
  | [.str s], l0, hf =>
    obtain ⟨v, rfl, l⟩ := l0.one
    obtain ⟨rfl, hs⟩ := l.str
    obtain rfl := Option.some.inj hf
    exact .inr ⟨_, rfl, by simpa using hs.1, fun q hq => k _ _ (new_tup (by rw [chV_sV]; exact rp_ch s fun c hc => okS_one hs hc) hq hX)⟩
theorem ans_list : AnsN K (biV .list) (rLstX K) := by
  intro Xc H vs ds p Q hX l0 hf k
  match ds, l0, hf with
  | [.list xs], l0, hf =>
    obtain ⟨v, rfl, l⟩ := l0.one
    obtain ⟨a, ys, rfl, ha, r⟩ := l.list
    obtain rfl := Option.some.inj hf
    exact .inl ⟨a, ys, rfl, .inl (.inl (.inl ha)), fun q hq => k _ _ (new_list r hq)⟩
  | [.tup xs], l0, hf =>
    obtain ⟨v, rfl, l⟩ := l0.one
    obtain ⟨a, ys, rfl, ha, r⟩ := l.tup
    obtain rfl := Option.some.inj hf
    exact .inl ⟨a, ys, rfl, .inr ha.sq, fun q hq => k _ _ (new_list r hq)⟩
  | [.scr xs], l0, hf =>
    obtain ⟨v, rfl, l⟩ := l0.one
    obtain ⟨a, ys, rfl, ha, r⟩ := l.scr
    obtain rfl := Option.some.inj hf
    exact .inl ⟨a, ys, rfl, .inl ha.sq, fun q hq => k _ _ (new_list r hq)⟩
  | [.str s], l0, hf =>
    obtain ⟨v, rfl, l⟩ := l0.one
    obtain ⟨rfl, hs⟩ := l.str
    obtain rfl := Option.some.inj hf
    exact .inr ⟨_, rfl, by simpa using hs.1, fun q hq => k _ _ (new_list (by rw [chV_sV]; exact rp_ch s fun c hc => okS_one hs hc) hq)⟩
theorem RpL.ints {H : Hp} {Xc : Addr → Prop} : ∀ {vs : List V} {ds : List D} {l : List Int}, RpL K H Xc vs ds → intsD ds = some l → vs = l.map V.int
  | _, _, _, .nil, h => by cases (Option.some.inj h); rfl
  | _, d :: _, l, .cons h r, q => by
    cases d <;> simp only [intsD, reduceCtorEq] at q
    cases h
    cases e : intsD _ with
    | none => rw [e] at q; cases q
    | some l' =>
      rw [e] at q
      obtain rfl := Option.some.inj q
      rw [List.map_cons, r.ints e]
theorem RpL.bools {H : Hp} {Xc : Addr → Prop} : ∀ {vs : List V} {ds : List D} {l : List Bool}, RpL K H Xc vs ds → boolsD ds = some l → vs = l.map V.bl
  | _, _, _, .nil, h => by cases (Option.some.inj h); rfl
  | _, d :: _, l, .cons h r, q => by
    cases d <;> simp only [boolsD, reduceCtorEq] at q
    cases h
    cases e : boolsD _ with
    | none => rw [e] at q; cases q
    | some l' =>
      rw [e] at q
      obtain rfl := Option.some.inj q
      rw [List.map_cons, r.bools e]
theorem RpL.strs {H : Hp} {Xc : Addr → Prop} : ∀ {vs : List V} {ds : List D} {l : List (List Nat)}, RpL K H Xc vs ds → strsD ds = some l → vs = (l.map sV).map V.str ∧ ∀ s ∈ l, okS s
  | _, _, _, .nil, h => by cases (Option.some.inj h); exact ⟨rfl, fun _ h => absurd h (by simp)⟩
  | _, d :: _, l, .cons h r, q => by
    cases d <;> simp only [strsD, reduceCtorEq] at q
    cases h with
    | str hs =>
      cases e : strsD _ with
      | none => rw [e] at q; cases q
      | some l' =>
        rw [e] at q
        obtain rfl := Option.some.inj q
        obtain ⟨h1, h2⟩ := r.strs e
        refine ⟨by rw [h1]; rfl, fun s hm => ?_⟩
        rcases List.mem_cons.mp hm with rfl | hm
        · exact hs
        · exact h2 s hm
theorem ans_sum : AnsN K (biV .sum) (rSum K) := by
  intro Xc H vs ds p Q hX l0 hf k
  match ds, l0, hf with
  | [.list xs], l0, hf =>
    obtain ⟨v, rfl, l⟩ := l0.one
    obtain ⟨a, ys, rfl, ha, r⟩ := l.list
    simp only [biV] at hf
    cases e : intsD xs with
    | none => rw [e] at hf; cases hf
    | some is =>
      rw [e] at hf
      obtain rfl := Option.some.inj hf
      have h1 := r.ints e
      subst h1
      exact ⟨a, is, rfl, .inl (.inl ha), k _ _ (new_same (.int _))⟩
theorem leastI_spec : ∀ (l : List Int) (m : Int), (leastI m l = m ∨ leastI m l ∈ l) ∧ leastI m l ≤ m ∧ ∀ y ∈ l, leastI m l ≤ y
  | [], m => ⟨.inl rfl, Int.le_refl _, fun _ h => absurd h (by simp)⟩
  | x :: xs, m => by
    rw [leastI]
    have hz : (if x < m then x else m) ≤ m ∧ (if x < m then x else m) ≤ x ∧ ((if x < m then x else m) = x ∨ (if x < m then x else m) = m) := by
      split <;> (refine ⟨?_, ?_, ?_⟩ <;> first | omega | exact .inl rfl | exact .inr rfl)
    generalize (if x < m then x else m) = z at hz ⊢
    obtain ⟨z1, z2, z3⟩ := hz
    obtain ⟨h1, h2, h3⟩ := leastI_spec xs z
    refine ⟨?_, by omega, fun y hy => ?_⟩
    · rcases h1 with h1 | h1
      · rcases z3 with z3 | z3
        · exact .inr (by rw [h1, z3]; simp)
        · exact .inl (by rw [h1, z3])
      · exact .inr (List.mem_cons_of_mem _ h1)
    · rcases List.mem_cons.mp hy with rfl | hy
      · omega
      · exact h3 y hy
theorem greatestI_spec : ∀ (l : List Int) (m : Int), (greatestI m l = m ∨ greatestI m l ∈ l) ∧ m ≤ greatestI m l ∧ ∀ y ∈ l, y ≤ greatestI m l
  | [], m => ⟨.inl rfl, Int.le_refl _, fun _ h => absurd h (by simp)⟩
  | x :: xs, m => by
    rw [greatestI]
    have hz : m ≤ (if m < x then x else m) ∧ x ≤ (if m < x then x else m) ∧ ((if m < x then x else m) = x ∨ (if m < x then x else m) = m) := by
      split <;> (refine ⟨?_, ?_, ?_⟩ <;> first | omega | exact .inl rfl | exact .inr rfl)
    generalize (if m < x then x else m) = z at hz ⊢
    obtain ⟨z1, z2, z3⟩ := hz
    obtain ⟨h1, h2, h3⟩ := greatestI_spec xs z
    refine ⟨?_, by omega, fun y hy => ?_⟩
    · rcases h1 with h1 | h1
      · rcases z3 with z3 | z3
        · exact .inr (by rw [h1, z3]; simp)
        · exact .inl (by rw [h1, z3])
      · exact .inr (List.mem_cons_of_mem _ h1)
    · rcases List.mem_cons.mp hy with rfl | hy
      · omega
      · exact h3 y hy
def rMinX (K : PySem.W.Frag) : List V → Hp → VK → Prop := fun vs H Q => rMin K vs H Q ∨ ∃ i j, vs = [.int i, .int j] ∧ Q (.int (if j < i then j else i)) H
def rMaxX (K : PySem.W.Frag) : List V → Hp → VK → Prop := fun vs H Q => rMax K vs H Q ∨ ∃ i j, vs = [.int i, .int j] ∧ Q (.int (if j > i then j else i)) H
theorem CallR.or' {f : Value} {r r' : List V → Hp → VK → Prop} (h : CallR X f r) (h' : CallR X f r') : CallR X f (fun vs H Q => r vs H Q ∨ r' vs H Q) := by
  intro pins s σ H xs us Q I rx q
  rcases q with q | q
  · exact h pins s σ H xs us Q I rx q
  · exact h' pins s σ H xs us Q I rx q
theorem mm_shape {b : Bi} {ds : List D} {p : Bool × D} (hb : b = .min ∨ b = .max) (h : biV b ds = some p) : (∃ xs, ds = [.list xs]) ∨ ∃ i j, ds = [.int i, .int j] := by
  rcases ds with _ | ⟨d, _ | ⟨d', _ | ⟨d'', r⟩⟩⟩
  · rcases hb with rfl | rfl <;> simp [biV] at h
  · rcases hb with rfl | rfl <;> cases d <;> first | exact .inl ⟨_, rfl⟩ | simp [biV] at h
  · rcases hb with rfl | rfl <;> cases d <;> cases d' <;> first | exact .inr ⟨_, _, rfl⟩ | simp [biV] at h
  · rcases hb with rfl | rfl <;> cases d <;> simp [biV] at h
theorem ans_min : AnsN K (biV .min) (rMinX K) := by
  intro Xc H vs ds p Q hX l0 hf k
  rcases mm_shape (b := .min) (by simp) hf with ⟨xs, rfl⟩ | ⟨i, j, rfl⟩
  ·
    obtain ⟨v, rfl, l⟩ := l0.one
    obtain ⟨a, ys, rfl, ha, r⟩ := l.list
    simp only [biV] at hf
    cases e : intsD xs with
    | none => rw [e] at hf; cases hf
    | some is =>
      cases is with
      | nil => rw [e] at hf; cases hf
      | cons m is =>
        rw [e] at hf
        obtain rfl := Option.some.inj hf
        have h1 := r.ints e
        subst h1
        refine .inl ⟨a, m :: is, rfl, .inl (.inl ha), by simp, fun z hz hle => ?_⟩
        obtain ⟨q1, q2, q3⟩ := leastI_spec is m
        have : z = leastI m is := by
          have a1 := hle (leastI m is) (q1.elim (fun e => by rw [e]; simp) (fun e => List.mem_cons_of_mem _ e))
          rcases List.mem_cons.mp hz with rfl | hz
          · omega
          · have := q3 z hz; omega
        rw [this]
        exact k _ _ (new_same (.int _))
  ·
    obtain ⟨v, u, rfl, l, l'⟩ := l0.two
    cases l.int; cases l'.int
    obtain rfl := Option.some.inj hf
    exact .inr ⟨i, j, rfl, k _ _ (new_same (.int _))⟩
theorem ans_max : AnsN K (biV .max) (rMaxX K) := by
  intro Xc H vs ds p Q hX l0 hf k
  rcases mm_shape (b := .max) (by simp) hf with ⟨xs, rfl⟩ | ⟨i, j, rfl⟩
  ·
    obtain ⟨v, rfl, l⟩ := l0.one
    obtain ⟨a, ys, rfl, ha, r⟩ := l.list
    simp only [biV] at hf
    cases e : intsD xs with
    | none => rw [e] at hf; cases hf
    | some is =>
      cases is with
      | nil => rw [e] at hf; cases hf
      | cons m is =>
        rw [e] at hf
        obtain rfl := Option.some.inj hf
        have h1 := r.ints e
        subst h1
        refine .inl ⟨a, m :: is, rfl, .inl (.inl ha), by simp, fun z hz hle => ?_⟩
        obtain ⟨q1, q2, q3⟩ := greatestI_spec is m
        have : z = greatestI m is := by
          have a1 := hle (greatestI m is) (q1.elim (fun e => by rw [e]; simp) (fun e => List.mem_cons_of_mem _ e))
          rcases List.mem_cons.mp hz with rfl | hz
          · omega
          · have := q3 z hz; omega
        rw [this]
        exact k _ _ (new_same (.int _))
  ·
    obtain ⟨v, u, rfl, l, l'⟩ := l0.two
    cases l.int; cases l'.int
    obtain rfl := Option.some.inj hf
    exact .inr ⟨i, j, rfl, k _ _ (new_same (.int _))⟩
theorem ans_all : AnsN K (biV .all) (rAll K) := by
  intro Xc H vs ds p Q hX l0 hf k
  match ds, l0, hf with
  | [.list xs], l0, hf =>
    obtain ⟨v, rfl, l⟩ := l0.one
    obtain ⟨a, ys, rfl, ha, r⟩ := l.list
    simp only [biV] at hf
    cases e : boolsD xs with
    | none => rw [e] at hf; cases hf
    | some is =>
      rw [e] at hf
      obtain rfl := Option.some.inj hf
      have h1 := r.bools e
      subst h1
      exact ⟨a, is, rfl, .inl (.inl ha), k _ _ (new_same (.bool _))⟩
theorem ans_any : AnsN K (biV .any) (rAny K) := by
  intro Xc H vs ds p Q hX l0 hf k
  match ds, l0, hf with
  | [.list xs], l0, hf =>
    obtain ⟨v, rfl, l⟩ := l0.one
    obtain ⟨a, ys, rfl, ha, r⟩ := l.list
    simp only [biV] at hf
    cases e : boolsD xs with
    | none => rw [e] at hf; cases hf
    | some is =>
      rw [e] at hf
      obtain rfl := Option.some.inj hf
      have h1 := r.bools e
      subst h1
      exact ⟨a, is, rfl, .inl (.inl ha), k _ _ (new_same (.bool _))⟩
/-! ### isinstance -/
def tyName : Ty → String
  | .int => "int"
  | .bool => "bool"
  | .str => "str"
  | .tuple => "tuple"
  | .list => "list"
theorem ans_isi (t : Ty) : Ans1 K (fun d => some (false, .bool (isTy t d))) (fun x H Q => ∃ (tx : Value) (b : Bool), TyX K H x tx ∧ PySem.W.kitOne K tx (.type (tyName t)) = some b ∧ Q (.bl b) H) := by
  intro Xc H v d p Q hX l hf k
  obtain rfl := Option.some.inj hf
  replace k : Q (.bl (isTy t d)) H := k _ _ (new_same (.bool _))
  cases d with
  | none => obtain rfl := l.none; exact ⟨_, isTy t .none, .base .non, by cases t <;> rfl, by cases t <;> exact k⟩
  | bool b => obtain rfl := l.bool; exact ⟨_, isTy t (.bool b), .base (.bl _), by cases t <;> rfl, by cases t <;> exact k⟩
  | int i => obtain rfl := l.int; exact ⟨_, isTy t (.int i), .base (.int _), by cases t <;> rfl, by cases t <;> exact k⟩
  | str s => obtain ⟨rfl, _⟩ := l.str; exact ⟨_, isTy t (.str s), .base (.str _), by cases t <;> rfl, by cases t <;> exact k⟩
  | tup ds =>
    obtain ⟨a, xs, rfl, ha, _⟩ := l.tup
    rcases ha with ⟨ha, _⟩ | ⟨o, its, n, h1, h2, _⟩
    · exact ⟨_, isTy t (.tup ds), .base (.tup ha), by cases t <;> rfl, by cases t <;> exact k⟩
    · exact ⟨_, isTy t (.tup ds), .kTuple h1 h2, by cases t <;> rfl, by cases t <;> exact k⟩
  | list ds => obtain ⟨a, xs, rfl, ha, _⟩ := l.list; exact ⟨_, isTy t (.list ds), .base (.lst ha), by cases t <;> rfl, by cases t <;> exact k⟩
  | scr ds =>
    obtain ⟨a, xs, rfl, ha, _⟩ := l.scr
    rcases ha with ⟨o, ha, _⟩ | ⟨o, its, n, h1, h2, _⟩
    · exact ⟨_, isTy t (.scr ds), .base (.frz ha), by cases t <;> rfl, by cases t <;> exact k⟩
    · exact ⟨_, isTy t (.scr ds), .kList h1 h2, by cases t <;> rfl, by cases t <;> exact k⟩
  | dict ks vs => exact l.dict.elim
end
end DI

end
section
/-! DiF: slots; lists of arguments; tests; promises of defs. -/
namespace DI
open PySem PySem.Spec PyProof.Rows L2
section
variable {K : PySem.W.Frag} {B : Addr → Prop} {σ : L2.St} {H H' : Hp} {e : Env} {i : Nat} {a : Addr} {d d' : D}
theorem set_get_cases {α : Type} {l : List α} {i j : Nat} {x y : α} (h : (l.set i x)[j]? = some y) : (i = j ∧ y = x ∧ i < l.length) ∨ (i ≠ j ∧ l[j]? = some y) := by
  by_cases e : i = j
  · subst e
    by_cases hl : i < l.length
    · rw [List.getElem?_set_self hl] at h
      exact .inl ⟨rfl, (Option.some.inj h).symm, hl⟩
    · rw [List.getElem?_eq_none (by simpa using hl)] at h
      cases h
  · rw [List.getElem?_set_ne e] at h
    exact .inr ⟨e, h⟩
/-- a slot is given up to everybody -/
theorem ow_leak (he : e[i]? = some (some (true, d))) (h : Ow σ (e.set i (some (false, d'))) a) : Ow σ e a := by
  obtain ⟨j, x, h1, h2⟩ := h
  rcases set_get_cases h1 with ⟨_, q, _⟩ | ⟨_, q⟩
  · cases q
  · exact ⟨j, x, q, h2⟩
theorem EOk.leak (E : EOk K B σ H e) (he : e[i]? = some (some (true, d))) : EOk K B σ H (e.set i (some (false, d))) := by
  obtain ⟨a, hs, hB, ho⟩ := E.own i d he
  have sub : ∀ b, Ow σ (e.set i (some (false, d))) b → Ow σ e b := fun b => ow_leak he
  have m : ∀ b u, H b = some u → ¬ orP B (Ow σ e) b → H b = some u ∧ ¬ orP B (Ow σ (e.set i (some (false, d)))) b := fun b u q n => ⟨q, fun z => n (z.elim .inl fun z => .inr (sub b z))⟩
  refine ⟨by rw [List.length_set]; exact E.len, fun j x h => ?_, fun j x h => ?_, fun j k x y b h1 h2 h3 h4 => ?_, E.bdom⟩
  · rcases set_get_cases h with ⟨rfl, q, _⟩ | ⟨_, q⟩
    · cases q
      refine ⟨_, hs, ho.rp (fun z => ?_) fun b u q n z => (m b u q n).2 z⟩
      rcases z with z | ⟨j, y, z1, z2⟩
      · exact hB z
      · rcases set_get_cases z1 with ⟨_, q, _⟩ | ⟨ne, q⟩
        · cases q
        · exact ne (E.inj i j _ _ a he q hs z2)
    · obtain ⟨v, h1, h2⟩ := E.frz j x q
      exact ⟨v, h1, h2.mono m⟩
  · rcases set_get_cases h with ⟨_, q, _⟩ | ⟨_, q⟩
    · cases q
    · obtain ⟨b, h1, h2, h3⟩ := E.own j x q
      exact ⟨b, h1, h2, h3.mono (fun _ e => e) m⟩
  · rcases set_get_cases h1 with ⟨_, q, _⟩ | ⟨_, q1⟩
    · cases q
    · rcases set_get_cases h2 with ⟨_, q, _⟩ | ⟨_, q2⟩
      · cases q
      · exact E.inj j k x y b q1 q2 h3 h4
theorem told_set (he : e[i]? = some (some (o, d))) : Told e (e.set i (some p)) := fun j q h => by
  by_cases z : i = j
  · subst z
    exact ⟨p, by rw [List.getElem?_set_self (List.getElem?_eq_some_iff.mp he).1]⟩
  · exact ⟨q, by rw [List.getElem?_set_ne z]; exact h⟩
theorem Bet.leak (E : EOk K B σ H e) (he : e[i]? = some (some (true, d))) : Bet K B σ H e H (e.set i (some (false, d))) :=
  ⟨E.leak he, Evo.refl H, fun a => ow_leak he, told_set he⟩
theorem set_same {α : Type} {l : List α} {i : Nat} {x : α} (h : l[i]? = some x) : l.set i x = l := by
  apply List.ext_getElem?
  intro j
  by_cases e : i = j
  · subst e
    rw [List.getElem?_set_self (List.getElem?_eq_some_iff.mp h).1, h]
  · rw [List.getElem?_set_ne e]
theorem join_of {x : Option (Option (Bool × D))} {p : Bool × D} (h : x.join = some p) : x = some (some p) := by
  cases x with
  | none => cases h
  | some y => cases y with
    | none => cases h
    | some z => cases h; rfl
/-- a value handed on -/
theorem leak_ok {C : Cy} {W : WX} {r : Rv} {v : V} {k : D → Env → Prop} (E : EOk C.K B σ H e) (l : LOk C.K B σ H e r v) (h : Post C W B σ H e (leak r e) k) :
    ∃ d e', leak r e = .ok d e' ∧ Bet C.K B σ H e H e' ∧ Rp C.K H (orP B (Ow σ e')) v d ∧ k d e' := by
  cases r with
  | val o d => exact ⟨d, e, rfl, Bet.refl E, l, h⟩
  | ptr i =>
    obtain ⟨l1, ⟨o, d⟩, l2⟩ := l
    have hj : e[i]?.join = some (o, d) := by rw [l2]; rfl
    have hl : leak (.ptr i) e = .ok d (e.set i (some (false, d))) := by unfold leak; simp only [hj]
    rw [hl] at h
    refine ⟨d, _, hl, ?_, ?_, h⟩
    · cases o with
      | true => exact Bet.leak E l2
      | false => rw [set_same l2]; exact Bet.refl E
    · cases o with
      | true =>
        obtain ⟨w, h1, h2⟩ := (E.leak l2).frz i d (by rw [List.getElem?_set_self (List.getElem?_eq_some_iff.mp l2).1])
        rw [l1] at h1
        cases h1
        exact h2
      | false =>
        rw [set_same l2]
        obtain ⟨w, h1, h2⟩ := E.frz i d l2
        rw [l1] at h1
        cases h1
        exact h2
/-! ### an own object changes -/
theorem ow_put (he : e[i]? = some (some (true, d))) : ∀ b, Ow σ (e.set i (some (true, d'))) b ↔ Ow σ e b := fun b => by
  constructor
  · rintro ⟨j, x, h1, h2⟩
    rcases set_get_cases h1 with ⟨rfl, q, _⟩ | ⟨_, q⟩
    · exact ⟨_, d, he, h2⟩
    · exact ⟨j, x, q, h2⟩
  · rintro ⟨j, x, h1, h2⟩
    by_cases z : i = j
    · subst z
      exact ⟨i, d', by rw [List.getElem?_set_self (List.getElem?_eq_some_iff.mp he).1], h2⟩
    · exact ⟨j, x, by rw [List.getElem?_set_ne z]; exact h1, h2⟩
/-- the object at a, slot i's own, is another now; the rest stays -/
theorem Bet.put (E : EOk K B σ H e) (he : e[i]? = some (some (true, d))) (hs : σ[i]? = some (some (V.ref a))) (x : Evo (isP a) H H') (n : OwnAt K H' (orP B (Ow σ e)) a d') : Bet K B σ H e H' (e.set i (some (true, d'))) := by
  have hw : Ow σ e a := ⟨i, d, he, hs⟩
  have ie : ∀ b, orP B (Ow σ (e.set i (some (true, d')))) b ↔ orP B (Ow σ e) b := fun b => ⟨fun z => z.elim .inl fun z => .inr ((ow_put he b).mp z), fun z => z.elim .inl fun z => .inr ((ow_put he b).mpr z)⟩
  have m : ∀ b u, H b = some u → ¬ orP B (Ow σ e) b → H' b = some u ∧ ¬ orP B (Ow σ (e.set i (some (true, d')))) b := fun b u q n => ⟨x.keep b u q fun z => n (.inr (by rw [show b = a from z]; exact hw)), fun z => n ((ie b).mp z)⟩
  obtain ⟨a', hs', hB, _⟩ := E.own i d he
  rw [hs] at hs'
  cases hs'
  refine ⟨⟨by rw [List.length_set]; exact E.len, fun j y h => ?_, fun j y h => ?_, fun j k y z b h1 h2 h3 h4 => ?_, fun b h => ?_⟩, ⟨fun b o q z => x.keep b o q fun z' => z (by rw [show b = a from z']; exact hw), x.there⟩, fun b z => (ow_put he b).mp z, told_set he⟩
  · rcases set_get_cases h with ⟨_, q, _⟩ | ⟨_, q⟩
    · cases q
    · obtain ⟨v, h1, h2⟩ := E.frz j y q
      exact ⟨v, h1, h2.mono m⟩
  · rcases set_get_cases h with ⟨rfl, q, _⟩ | ⟨ne, q⟩
    · cases q
      exact ⟨a, hs, hB, n.mono (fun _ e => e) fun b u q z => ⟨q, fun z' => z ((ie b).mp z')⟩⟩
    · obtain ⟨b, h1, h2, h3⟩ := E.own j y q
      refine ⟨b, h1, h2, h3.mono (fun u q' => x.keep b u q' fun z => ?_) m⟩
      rw [show b = a from z] at h1
      exact ne (E.inj i j _ _ a he q hs h1)
  · rcases set_get_cases h1 with ⟨rfl, q, _⟩ | ⟨_, q1⟩
    · rcases set_get_cases h2 with ⟨rfl, q', _⟩ | ⟨_, q2⟩
      · rfl
      · exact E.inj _ k _ _ b he q2 h3 h4
    · rcases set_get_cases h2 with ⟨rfl, q', _⟩ | ⟨_, q2⟩
      · exact E.inj j _ _ _ b q1 he h3 h4
      · exact E.inj j k y z b q1 q2 h3 h4
  · obtain ⟨o, q⟩ := E.bdom b h
    exact x.there b o q
end

/-! ### arguments, tests -/
section
variable {X : Cx} {C : Cy} {W : WX} {a : Expr} {es : List Expr}
theorem paL_nil : PA X [] (tL C W fun e => .ok [] e) := pa_nil.impD fun σ H Q ⟨B, e, E, h⟩ => h [] H (Bet.refl E) .nil
theorem paR_nil : PA X [] (tR C W fun e => .ok [] e) := pa_nil.impD fun σ H Q ⟨B, e, E, h⟩ => h [] H (Bet.refl E) .nil
theorem RpL.keep {K : PySem.W.Frag} {B : Addr → Prop} {σ : L2.St} {H H' : Hp} {e e' : Env} {vs : List V} {ds : List D} (h : RpL K H (orP B (Ow σ e)) vs ds) (b : Bet K B σ H e H' e') : RpL K H' (orP B (Ow σ e')) vs ds := rpL_keep h b.evo b.ows
theorem Rp.keep {K : PySem.W.Frag} {B : Addr → Prop} {σ : L2.St} {H H' : Hp} {e e' : Env} {v : V} {d : D} (h : Rp K H (orP B (Ow σ e)) v d) (b : Bet K B σ H e H' e') : Rp K H' (orP B (Ow σ e')) v d := rp_keep h b.evo b.ows
theorem paL_cons {Sa : Env → Res Rv} {Sr : Env → Res (List D)} (ha : PE X a (tE C W Sa)) (hr : PA X es (tL C W Sr)) (hs : starEach (a :: es) X.env = (false, eval a X.env) :: starEach es X.env) :
    PA X (a :: es) (tL C W fun e => (Sa e).bind fun x e1 => (leak x e1).bind fun d e2 => (Sr e2).bind fun ds e3 => .ok (d :: ds) e3) := by
  refine (pa_cons ha hr hs).impD fun σ H Q h => ?_
  obtain ⟨B, e, E, h⟩ := h
  refine ⟨B, e, E, (Post.bind h).mono fun x e1 _ h v H1 b1 p1 => ?_⟩
  have h := Post.from shifts_L b1 h
  obtain ⟨d, e2, _, b2, rp, h⟩ := leak_ok b1.ok (p1.lok E.bdom) (Post.bind h)
  have h := Post.from shifts_L b2 h
  refine ⟨B, e2, b2.ok, (Post.bind h).mono fun ds e3 _ h vs H3 b3 p3 => ?_⟩
  have h := Post.from shifts_L b3 h
  exact h (v :: vs) H3 (Bet.refl b3.ok) (.cons (rp.keep b3) p3)
theorem LOkL.keep {K : PySem.W.Frag} {B : Addr → Prop} {σ : L2.St} {H H' : Hp} {e e' : Env} {rs : List Rv} {vs : List V} (h : LOkL K B σ H e rs vs) (b : Bet K B σ H e H' e') : LOkL K B σ H' e' rs vs := by
  induction h with
  | nil => exact .nil
  | cons h _ ih => exact .cons (h.keep b.evo b.ows b.told) ih
theorem paR_cons {Sa : Env → Res Rv} {Sr : Env → Res (List Rv)} (ha : PE X a (tE C W Sa)) (hr : PA X es (tR C W Sr)) (hs : starEach (a :: es) X.env = (false, eval a X.env) :: starEach es X.env) :
    PA X (a :: es) (tR C W fun e => (Sa e).bind fun x e1 => (Sr e1).bind fun xs e2 => .ok (x :: xs) e2) := by
  refine (pa_cons ha hr hs).impD fun σ H Q h => ?_
  obtain ⟨B, e, E, h⟩ := h
  refine ⟨B, e, E, (Post.bind h).mono fun x e1 _ h v H1 b1 p1 => ?_⟩
  have h := Post.from shifts_R b1 h
  refine ⟨B, e1, b1.ok, (Post.bind h).mono fun xs e2 _ h vs H2 b2 p2 => ?_⟩
  have h := Post.from shifts_R b2 h
  exact h (v :: vs) H2 (Bet.refl b2.ok) (.cons (p1.lok' b1 E.bdom b2) p2)
theorem derefs_ok {K : PySem.W.Frag} {B : Addr → Prop} {σ : L2.St} {H : Hp} {e : Env} (E : EOk K B σ H e) : ∀ {rs : List Rv} {vs : List V} {ds : List D}, LOkL K B σ H e rs vs → rs.mapM (deref e) = some ds → LookL K H (orP B (Ow σ e)) vs ds
  | [], _, ds, .nil, h => by
    rw [List.mapM_nil] at h
    cases h
    exact .nil
  | r :: rs, _, ds, .cons l ls, h => by
    rw [List.mapM_cons] at h
    obtain ⟨d, hd, ld⟩ := deref_ok E l
    rw [hd] at h
    cases e2 : rs.mapM (deref e) with
    | none => rw [e2] at h; cases h
    | some ds' =>
      rw [e2] at h
      cases h
      exact .cons ld (derefs_ok E ls e2)
/-- a value as a test -/
theorem test_imp {S : Env → Res Rv} (σ : L2.St) (H : Hp) (Q : Bool → Hp → Prop) (h : tC C W (testE S) σ H Q) : tE C W S σ H (fun v H1 => ∃ k, TruV C.K v H1 k ∧ Q k H1) := by
  obtain ⟨B, e, E, h⟩ := h
  refine ⟨B, e, E, (Post.bind h).mono fun x e1 _ h v H1 b1 p1 => ?_⟩
  have h := Post.from shifts_B b1 h
  obtain ⟨d, hd, ld⟩ := deref_ok b1.ok (p1.lok E.bdom)
  simp only [hd] at h
  exact ⟨_, tru_D ld, h _ H1 (Bet.refl b1.ok) rfl⟩
theorem pt_gen {S : Env → Res Rv} (hK : X.K = C.K) (he : PE X a (tE C W S)) (hp : ∀ whole, isTrue a X.env whole = (do let v ← whole; standAt a.pos; holding [v] (truthy v))) : PT X a (tC C W (testE S)) := by
  refine ⟨fun pins s σ H Q I hw => ?_⟩
  refine isTrue_plain (thn (he.run pins s σ H _ I (test_imp σ H Q hw)) fun v s1 ⟨x, H1, I1, r1, k, hk, q1⟩ => ?_) (hp _)
  exact thn (tru_ok pins s1 σ H1 x v (fun c H2 => Q c H2) I1 r1 ⟨k, hK ▸ hk, q1⟩) fun c s2 ⟨H2, I2, q2⟩ => ⟨H2, I2, q2⟩
end

/-! ### what a def promises -/
def ArgOk (K : PySem.W.Frag) (B : Addr → Prop) (H : Hp) (io : Bool) (vs : List V) (ds : List D) : Prop :=
  if io then ∃ a vr d0 dr, vs = .ref a :: vr ∧ ds = d0 :: dr ∧ ¬ B a ∧ OwnAt K H (orP B (isP a)) a d0 ∧ RpL K H (orP B (isP a)) vr dr
  else RpL K H B vs ds
/-- behind a call: the answer w, the heap; io: the changed object -/
def RetOk (K : PySem.W.Frag) (B : Addr → Prop) (H : Hp) (vs : List V) (own : Bool) (d : D) (io : Option D) (w : V) (H' : Hp) : Prop :=
  match io with
  | none => NewOk K B H (own, d) w H'
  | some d1 => ∃ a vr, vs = .ref a :: vr ∧ Evo (isP a) H H' ∧ (match own with
    | false => OwnAt K H' (orP B (isP a)) a d1 ∧ Rp K H' (orP B (isP a)) w d
    | true => ∃ p, w = .ref p ∧ H p = none ∧ OwnAt K H' (orP (orP B (isP a)) (isP p)) a d1 ∧ OwnAt K H' (orP (orP B (isP a)) (isP p)) p d)
def ExcOk (C : Cy) (B : Addr → Prop) (H : Hp) (vs : List V) (c : Nat) (fs : List D) (io : Option D) (cls : Value) (dx : Option Addr) (H' : Hp) : Prop :=
  match io with
  | none => ExtH H H' ∧ XRep C H' B cls dx c fs
  | some d1 => ∃ a vr, vs = .ref a :: vr ∧ Evo (isP a) H H' ∧ OwnAt C.K H' (orP B (isP a)) a d1 ∧ XRep C H' (orP B (isP a)) cls dx c fs
def spF (C : Cy) (F : CallF) (io : Bool) (f : Nat) : Sp := fun vs H Q E => ∃ (B : Addr → Prop) (ds : List D), (∀ a, B a → ∃ o, H a = some o) ∧ ArgOk C.K B H io vs ds ∧ match F f ds with
  | none => False
  | some (.ret own d io') => io'.isSome = io ∧ ∀ w H', RetOk C.K B H vs own d io' w H' → Q w H'
  | some (.exc c fs io') => io'.isSome = io ∧ ∀ cls dx H', ExcOk C B H vs c fs io' cls dx H' → E cls dx H'
end DI

end
section
/-! DiG: each form of expressions. -/
namespace DI
open PySem PySem.Spec PyProof.Rows L2
section
variable {X : Cx} {C : Cy} {W : WX} {a b c : Expr} {es : List Expr} {pos : Pos}
/-! ### names, constants, displays -/
theorem pe_locD {i : Nat} {x : Str} (hN : X.N[i]? = some x) (hv : Vis X.env.scope x) (hd : (x == ("__debug__" : Str)) = false) (hcd : (x == ("__classdict__" : Str)) = false) :
    PE X (.Name x pos) (tE C W fun e => match e[i]?.join with | some _ => .ok (.ptr i) e | none => .stuck) := by
  refine (pe_var hN hv hd hcd).impD fun σ H Q h => ?_
  obtain ⟨B, e, E, h⟩ := h
  cases hj : e[i]?.join with
  | none => simp only [hj] at h; exact h.elim
  | some p =>
    simp only [hj] at h
    have hi := join_of hj
    have : ∃ v, σ[i]? = some (some v) := by
      obtain ⟨o, d⟩ := p
      cases o with
      | true => obtain ⟨a, h1, _⟩ := E.own i d hi; exact ⟨_, h1⟩
      | false => obtain ⟨v, h1, _⟩ := E.frz i d hi; exact ⟨_, h1⟩
    obtain ⟨v, hv⟩ := this
    exact ⟨v, hv, h v H (Bet.refl E) ⟨hv, p, hi⟩⟩
theorem pe_litD {d : D} {v : V} (h : PE X a (L2.tC v)) (hv : ∀ H Xc, Rp C.K H Xc v d) : PE X a (tE C W fun e => .ok (.val false d) e) := by
  refine h.impD fun σ H Q h => ?_
  obtain ⟨B, e, E, h⟩ := h
  exact h v H (Bet.refl E) (hv _ _)
theorem pe_tupD {S : Env → Res (List D)} (n : Nat) (hn : n ≤ lim) (hc : ∀ e ds e', S e = .ok ds e' → ds.length = n) (h : PA X es (tL C W S)) {k : Nat} : PE X (.Tuple es k pos) (tE C W fun e => (S e).bind fun ds e1 => .ok (.val false (.tup ds)) e1) := by
  refine (pe_tup h).impD fun σ H Q h => ?_
  obtain ⟨B, e, E, h⟩ := h
  refine ⟨B, e, E, (Post.bind h).mono fun ds e1 he h vs H1 b1 p1 => ?_⟩
  have h := Post.from shifts_E b1 h
  have hl := p1.length
  rw [hc e ds e1 he] at hl
  refine ⟨by rw [hl]; exact Nat.le_trans hn lim_line, fun p hp => ?_⟩
  obtain ⟨E', x', q⟩ := new_fin (O := Ow σ e1) b1.ok (Evo.refl H1) (new_tup p1 hp fun a z => b1.ok.x_there z)
  exact h _ _ ⟨E', x', fun _ z => z, Told.refl _⟩ q
theorem pe_lstD {S : Env → Res (List D)} (n : Nat) (hn : n ≤ lim) (hc : ∀ e ds e', S e = .ok ds e' → ds.length = n) (h : PA X es (tL C W S)) : PE X (.List es pos) (tE C W fun e => (S e).bind fun ds e1 => .ok (.val true (.list ds)) e1) := by
  refine (pe_lst h).impD fun σ H Q h => ?_
  obtain ⟨B, e, E, h⟩ := h
  refine ⟨B, e, E, (Post.bind h).mono fun ds e1 he h vs H1 b1 p1 => ?_⟩
  have h := Post.from shifts_E b1 h
  have hl := p1.length
  rw [hc e ds e1 he] at hl
  refine ⟨by rw [hl]; exact Nat.le_trans hn lim_line, fun p hp => ?_⟩
  obtain ⟨E', x', q⟩ := new_fin (O := Ow σ e1) b1.ok (Evo.refl H1) (new_list p1 hp)
  exact h _ _ ⟨E', x', fun _ z => z, Told.refl _⟩ q
/-! ### operators -/
theorem pe_negD {S : Env → Res Rv} (h : PE X a (tE C W S)) : PE X (.UnaryOp .USub a pos) (tE C W (one S fun d => match d with | .int i => some (false, .int (-i)) | _ => none)) := by
  refine (pe_un un_neg h).impD (one_imp (r := rU fun i => .int (-i)) fun Xc H v d p Q hX l hf k => ?_)
  cases d with
  | int i =>
    cases l.int
    obtain rfl := Option.some.inj hf
    exact ⟨i, rfl, k _ _ (new_same (.int _))⟩
  | _ => cases hf
theorem pe_notD {S : Env → Res Rv} (hK : X.K = C.K) (h : PE X a (tE C W S)) : PE X (.UnaryOp .Not a pos) (tE C W (one S fun d => some (false, .bool (!truth d)))) := by
  refine (pe_notT h).impD (one_imp (r := fun v H Q => ∃ k, TruV X.K v H k ∧ Q (.bl (!k)) H) fun Xc H v d p Q hX l hf k => ?_)
  obtain rfl := Option.some.inj hf
  exact ⟨_, hK ▸ tru_D l, k _ _ (new_same (.bool _))⟩
theorem not_test {S : Env → Res Rv} (σ : L2.St) (H : Hp) (Q : Bool → Hp → Prop) (h : tC C W (testE (one S fun d => some (false, .bool (!truth d)))) σ H Q) : tNot (tC C W (testE S)) σ H Q := by
  obtain ⟨B, e, E, h⟩ := h
  refine ⟨B, e, E, ?_⟩
  unfold testE at h ⊢
  unfold one at h
  cases hs : S e with
  | stuck => simp only [hs, Res.bind] at h; exact (show False from h).elim
  | exc c fs e1 => simp only [hs, Res.bind] at h ⊢; exact h
  | ok x e1 =>
    simp only [hs, Res.bind] at h ⊢
    cases hd : deref e1 x with
    | none => simp only [hd] at h; exact h
    | some d =>
      simp only [hd, Option.map_some, Res.opt] at h ⊢
      have h : Kx C pB B σ H e Q (!truth d) e1 := h
      exact fun v H1 b1 p1 => by
        subst p1
        exact h _ H1 b1 rfl
theorem pt_notD {S : Env → Res Rv} (h : PT X a (tC C W (testE S))) : PT X (.UnaryOp .Not a pos) (tC C W (testE (one S fun d => some (false, .bool (!truth d))))) := (pt_not h).impD not_test
theorem pe_cmpD {o : Cop} {op : CmpOp} {r : R2} (ho : OpR X (compareOp op) r) (hs : AnsC C.K o r) (hm : behindInMarks op b = false) {Sa Sb : Env → Res Rv} (ha : PE X a (tE C W Sa)) (hb : PE X b (tE C W Sb)) :
    PE X (.Compare a [op] [b] pos) (tE C W (two Sa Sb fun x y => (opC o x y).map fun c => (false, .bool c))) := (pe_cmpR ho ha hb hm).impD (two_imp hs.two)
theorem cmp_test {o : Cop} {r : R2} (hs : AnsC C.K o r) {Sa Sb : Env → Res Rv} (σ : L2.St) (H : Hp) (Q : Bool → Hp → Prop) (h : tC C W (testE (two Sa Sb fun x y => (opC o x y).map fun c => (false, .bool c))) σ H Q) :
    tTest (tOp r (tE C W Sa) (tE C W Sb)) σ H Q := by
  refine two_imp hs.two σ H _ ?_
  obtain ⟨B, e, E, h⟩ := h
  refine ⟨B, e, E, (Post.bind h).mono fun x e1 he h v H1 b1 p1 => ?_⟩
  have h := Post.from shifts_B b1 h
  -- the answer is a bool
  have : ∃ c, x = .val false (.bool c) := by
    unfold two at he
    cases ha : Sa e with
    | stuck => simp [ha, Res.bind] at he
    | exc => simp [ha, Res.bind] at he
    | ok y e2 =>
      cases hb : Sb e2 with
      | stuck => simp [ha, hb, Res.bind] at he
      | exc => simp [ha, hb, Res.bind] at he
      | ok z e3 =>
        simp only [ha, hb, Res.bind] at he
        cases h1 : deref e3 y with
        | none => simp [h1] at he
        | some d =>
          cases h2 : deref e3 z with
          | none => simp [h1, h2] at he
          | some d' =>
            cases h3 : opC o d d' with
            | none => simp [h1, h2, h3, Res.opt] at he
            | some c =>
              simp only [h1, h2, h3, Option.map_some, Res.opt, Res.ok.injEq] at he
              exact ⟨c, he.1.symm⟩
  obtain ⟨c, rfl⟩ := this
  cases p1
  exact ⟨c, rfl, h c H1 (Bet.refl b1.ok) rfl⟩
theorem pt_cmpD {o : Cop} {op : CmpOp} {r : R2} (ho : OpR X (compareOp op) r) (hs : AnsC C.K o r) (hm : behindInMarks op b = false) {Sa Sb : Env → Res Rv} (ha : PE X a (tE C W Sa)) (hb : PE X b (tE C W Sb)) :
    PT X (.Compare a [op] [b] pos) (tC C W (testE (two Sa Sb fun x y => (opC o x y).map fun c => (false, .bool c)))) := (pt_cmpR ho ha hb hm).impD (cmp_test hs)
/-! ### if else -/
theorem ite_imp {α β : Type} {P : Tl α β} (sh : Shifts P) {Sc : Env → Res Bool} {Sa Sb : Env → Res α} (σ : L2.St) (H : Hp) (Q : β → Hp → Prop) (h : tX C W P (fun e => (Sc e).bind fun t e1 => if t then Sa e1 else Sb e1) σ H Q) :
    tC C W Sc σ H fun t H1 => if t = true then tX C W P Sa σ H1 Q else tX C W P Sb σ H1 Q := by
  obtain ⟨B, e, E, h⟩ := h
  refine ⟨B, e, E, (Post.bind h).mono fun t e1 _ h t' H1 b1 p1 => ?_⟩
  have h := Post.from sh b1 h
  cases p1
  cases t with
  | true => exact ⟨B, e1, b1.ok, h⟩
  | false => exact ⟨B, e1, b1.ok, h⟩
theorem pe_iteD {Sc : Env → Res Bool} {Sa Sb : Env → Res Rv} (hc : PT X c (tC C W Sc)) (ha : PE X a (tE C W Sa)) (hb : PE X b (tE C W Sb)) : PE X (.IfExp c a b pos) (tE C W fun e => (Sc e).bind fun t e1 => if t then Sa e1 else Sb e1) :=
  (pe_ifExp hc ha hb).impD (ite_imp shifts_E)
theorem pt_iteD {Sc : Env → Res Bool} {Sa Sb : Env → Res Rv} (hc : PT X c (tC C W Sc)) (ha : PT X a (tC C W (testE Sa))) (hb : PT X b (tC C W (testE Sb))) : PT X (.IfExp c a b pos) (tC C W (testE fun e => (Sc e).bind fun t e1 => if t then Sa e1 else Sb e1)) := by
  refine ⟨fun pins s σ H Q I h => ?_⟩
  have h : tX C W pB (fun e => (Sc e).bind fun t e1 => if t then testE Sa e1 else testE Sb e1) σ H Q := by
    obtain ⟨B, e, E, h⟩ := h
    refine ⟨B, e, E, ?_⟩
    unfold testE at h ⊢
    cases hs : Sc e with
    | stuck => simp only [hs, Res.bind] at h; exact (show False from h).elim
    | exc => simp only [hs, Res.bind] at h ⊢; exact h
    | ok t e1 =>
      simp only [hs, Res.bind] at h ⊢
      cases t <;> exact h
  refine wpAny_bind (thn (hc.run pins s σ H _ I (ite_imp shifts_B σ H Q h)) fun t s1 ⟨H1, I1, q1⟩ => ?_)
  cases t with
  | true => exact ha.run pins s1 σ H1 Q I1 q1
  | false => exact hb.run pins s1 σ H1 Q I1 q1
/-! ### and, or -/
theorem pe_andD {Sa Sr : Env → Res Rv} (hK : X.K = C.K) (ha : PE X a (tE C W Sa)) (hr : PE X (.BoolOp .And (b :: es) pos) (tE C W Sr)) :
    PE X (.BoolOp .And (a :: b :: es) pos) (tE C W fun e => (Sa e).bind fun x e1 => match deref e1 x with | some d => if truth d then Sr e1 else .ok x e1 | none => .stuck) := by
  refine (pe_andT ha hr).impD fun σ H Q h => ?_
  obtain ⟨B, e, E, h⟩ := h
  refine ⟨B, e, E, (Post.bind h).mono fun x e1 _ h v H1 b1 p1 => ?_⟩
  obtain ⟨d, hd, ld⟩ := deref_ok b1.ok (p1.lok E.bdom)
  simp only [hd] at h
  refine ⟨_, hK ▸ tru_D ld, ?_⟩
  cases ht : truth d with
  | true =>
    rw [ht] at h
    exact ⟨B, e1, b1.ok, Post.from shifts_E b1 h⟩
  | false =>
    rw [ht] at h
    exact h v H1 b1 p1
theorem pe_orD {Sa Sr : Env → Res Rv} (hK : X.K = C.K) (ha : PE X a (tE C W Sa)) (hr : PE X (.BoolOp .Or (b :: es) pos) (tE C W Sr)) :
    PE X (.BoolOp .Or (a :: b :: es) pos) (tE C W fun e => (Sa e).bind fun x e1 => match deref e1 x with | some d => if truth d then .ok x e1 else Sr e1 | none => .stuck) := by
  refine (pe_orT ha hr).impD fun σ H Q h => ?_
  obtain ⟨B, e, E, h⟩ := h
  refine ⟨B, e, E, (Post.bind h).mono fun x e1 _ h v H1 b1 p1 => ?_⟩
  obtain ⟨d, hd, ld⟩ := deref_ok b1.ok (p1.lok E.bdom)
  simp only [hd] at h
  refine ⟨_, hK ▸ tru_D ld, ?_⟩
  cases ht : truth d with
  | false =>
    rw [ht] at h
    exact ⟨B, e1, b1.ok, Post.from shifts_E b1 h⟩
  | true =>
    rw [ht] at h
    exact h v H1 b1 p1
theorem pw_andD {Sa Sr : Env → Res Rv} (ha : PT X a (tC C W (testE Sa))) (hr : PW X (.BoolOp .And (b :: es) pos) (tC C W (testE Sr))) :
    PW X (.BoolOp .And (a :: b :: es) pos) (tC C W (testE fun e => (Sa e).bind fun x e1 => match deref e1 x with | some d => if truth d then Sr e1 else .ok x e1 | none => .stuck)) := by
  refine (pw_and ha hr).impD fun σ H Q h => ?_
  obtain ⟨B, e, E, h⟩ := h
  refine ⟨B, e, E, ?_⟩
  unfold testE at h ⊢
  cases hs : Sa e with
  | stuck => simp only [hs, Res.bind] at h; exact (show False from h).elim
  | exc => simp only [hs, Res.bind] at h ⊢; exact h
  | ok x e1 =>
    simp only [hs, Res.bind] at h ⊢
    cases hd : deref e1 x with
    | none => simp only [hd] at h; exact h
    | some d =>
      simp only [hd] at h ⊢
      intro t H1 b1 p1
      cases p1
      cases ht : truth d with
      | true =>
        rw [ht] at h
        exact ⟨B, e1, b1.ok, Post.from shifts_B b1 h⟩
      | false =>
        rw [ht] at h
        simp only [Bool.false_eq_true, if_false, hd, ht] at h
        exact h false H1 b1 rfl
theorem pw_orD {Sa Sr : Env → Res Rv} (ha : PT X a (tC C W (testE Sa))) (hr : PW X (.BoolOp .Or (b :: es) pos) (tC C W (testE Sr))) :
    PW X (.BoolOp .Or (a :: b :: es) pos) (tC C W (testE fun e => (Sa e).bind fun x e1 => match deref e1 x with | some d => if truth d then .ok x e1 else Sr e1 | none => .stuck)) := by
  refine (pw_or ha hr).impD fun σ H Q h => ?_
  obtain ⟨B, e, E, h⟩ := h
  refine ⟨B, e, E, ?_⟩
  unfold testE at h ⊢
  cases hs : Sa e with
  | stuck => simp only [hs, Res.bind] at h; exact (show False from h).elim
  | exc => simp only [hs, Res.bind] at h ⊢; exact h
  | ok x e1 =>
    simp only [hs, Res.bind] at h ⊢
    cases hd : deref e1 x with
    | none => simp only [hd] at h; exact h
    | some d =>
      simp only [hd] at h ⊢
      intro t H1 b1 p1
      cases p1
      cases ht : truth d with
      | false =>
        rw [ht] at h
        exact ⟨B, e1, b1.ok, Post.from shifts_B b1 h⟩
      | true =>
        rw [ht] at h
        simp only [if_true, hd, ht] at h
        exact h true H1 b1 rfl
/-! ### items, slices -/
theorem pe_ixD {Sa Sb : Env → Res Rv} (hK : X.K = C.K) (hs : PlainIx b) (ha : PE X a (tE C W Sa)) (hb : PE X b (tE C W Sb)) : PE X (.Subscript a b pos) (tE C W (two Sa Sb fun x y => sc (item x y))) :=
  (pe_ix ix_seq ha hb hs).impD (hK ▸ two_imp ans_item)
theorem po_noneD : PO X none (tP C W fun e => .ok none e) := by
  refine ⟨fun pins s σ H Q I h => po_none.run pins s σ H Q I ?_⟩
  obtain ⟨B, e, E, h⟩ := h
  exact h none H (Bet.refl E) rfl
theorem int_imp {S : Env → Res Rv} (σ : L2.St) (H : Hp) (Q : Option Int → Hp → Prop) (h : tP C W (intE S) σ H Q) : tE C W S σ H fun x H1 => ∃ i, x = .int i ∧ Q (some i) H1 := by
  obtain ⟨B, e, E, h⟩ := h
  refine ⟨B, e, E, (Post.bind h).mono fun x e1 _ h v H1 b1 p1 => ?_⟩
  have h := Post.from shifts_B b1 h
  obtain ⟨d, hd, ld⟩ := deref_ok b1.ok (p1.lok E.bdom)
  simp only [hd] at h
  cases d with
  | int i =>
    cases ld.int
    exact ⟨i, rfl, h _ H1 (Bet.refl b1.ok) rfl⟩
  | _ => exact h.elim
theorem po_someD {S : Env → Res Rv} (ha : PE X a (tE C W S)) : PO X (some a) (tP C W (intE S)) := ⟨fun pins s σ H Q I h => (po_some ha).run pins s σ H Q I (int_imp σ H Q h)⟩
theorem pe_sliceD {S : Env → Res Rv} {Sl Sh : Env → Res (Option Int)} {lo hi : Option Expr} {p2 : Pos} (hK : X.K = C.K) (ha : PE X a (tE C W S)) (hl : PO X lo (tP C W Sl)) (hh : PO X hi (tP C W Sh)) :
    PE X (.Subscript a (.Slice lo hi none p2) pos) (tE C W fun e => (S e).bind fun x e1 => (Sl e1).bind fun l e2 => (Sh e2).bind fun h e3 => match deref e3 x with | some d => Res.opt ((slice d l h).map fun p => Rv.val p.1 p.2) e3 | none => .stuck) := by
  refine (pe_slice sl_D ha hl hh).impD fun σ H Q h => ?_
  obtain ⟨B, e, E, h⟩ := h
  refine ⟨B, e, E, (Post.bind h).mono fun x e1 _ h v H1 b1 p1 => ?_⟩
  have h := Post.from shifts_E b1 h
  refine ⟨B, e1, b1.ok, (Post.bind h).mono fun l e2 _ h l' H2 b2 p2 => ?_⟩
  have h := Post.from shifts_E b2 h
  refine ⟨B, e2, b2.ok, (Post.bind h).mono fun u e3 _ h u' H3 b3 p3 => ?_⟩
  have h := Post.from shifts_E b3 h
  cases p2
  cases p3
  obtain ⟨d, hd, ld⟩ := deref_ok b3.ok (p1.lok' b1 E.bdom (b2.trans b3))
  simp only [hd] at h
  cases hf : slice d l u with
  | none => rw [hf] at h; exact h.elim
  | some p =>
    rw [hf] at h
    refine hK ▸ ans_slice (fun a z => b3.ok.x_there z) ld hf fun w H' n => ?_
    obtain ⟨E', x', q⟩ := new_fin (O := Ow σ e3) b3.ok (Evo.refl H3) n
    exact h w H' ⟨E', x', fun _ z => z, Told.refl _⟩ q
/-! ### built-ins -/
theorem args_imp {S : Env → Res (List Rv)} {f : List D → Option (Bool × D)} {r : List V → Hp → VK → Prop} (hs : AnsN C.K f r) (σ : L2.St) (H : Hp) (Q : VK)
    (h : tE C W (fun e => (S e).bind fun xs e1 => match xs.mapM (deref e1) with | some ds => Res.opt ((f ds).map fun p => Rv.val p.1 p.2) e1 | none => .stuck) σ H Q) : tCB r (tR C W S) σ H Q := by
  obtain ⟨B, e, E, h⟩ := h
  refine ⟨B, e, E, (Post.bind h).mono fun xs e1 _ h vs H1 b1 p1 => ?_⟩
  have h := Post.from shifts_E b1 h
  cases hm : xs.mapM (deref e1) with
  | none => simp only [hm] at h; exact h.elim
  | some ds =>
    simp only [hm] at h
    have ll := derefs_ok b1.ok p1 hm
    cases hf : f ds with
    | none => rw [hf] at h; exact h.elim
    | some p =>
      rw [hf] at h
      refine hs _ H1 vs ds p Q (fun a z => b1.ok.x_there z) ll hf fun w H' n => ?_
      obtain ⟨E', x', q⟩ := new_fin (O := Ow σ e1) b1.ok (Evo.refl H1) n
      exact h w H' ⟨E', x', fun _ z => z, Told.refl _⟩ q
end
end DI

end
section
/-! DiH: calls. -/
namespace DI
open PySem PySem.Spec PyProof.Rows L2
theorem RpL.weak {K : PySem.W.Frag} {H : Hp} {X X' : Addr → Prop} {vs : List V} {ds : List D} (r : RpL K H X vs ds) (h : ∀ a, X' a → X a) : RpL K H X' vs ds := r.mono fun a u e n => ⟨e, fun z => n (h a z)⟩
theorem Rp.weak {K : PySem.W.Frag} {H : Hp} {X X' : Addr → Prop} {v : V} {d : D} (r : Rp K H X v d) (h : ∀ a, X' a → X a) : Rp K H X' v d := r.mono fun a u e n => ⟨e, fun z => n (h a z)⟩
/-- a new thing, as everybody's -/
theorem NewOk.shared {K : PySem.W.Frag} {X : Addr → Prop} {H H' : Hp} {o : Bool} {d : D} {w : V} (hX : ∀ a, X a → ∃ u, H a = some u) (n : NewOk K X H (o, d) w H') : NewOk K X H (false, d) w H' := by
  cases o with
  | false => exact n
  | true =>
    obtain ⟨x, p, rfl, hp, ho⟩ := n
    refine ⟨x, ho.rp (fun z => ?_) fun a u _ q z => q (.inl z)⟩
    obtain ⟨u, e⟩ := hX p z
    rw [hp] at e
    cases e
theorem XRep.weak {C : Cy} {H : Hp} {X X' : Addr → Prop} {cls : Value} {d : Option Addr} {c : Nat} {fs : List D} (h : XRep C H X cls d c fs) (s : ∀ a, X' a → X a) : XRep C H X' cls d c fs := by
  obtain ⟨Ca, ns, dd, vs, h1, h2, h3, h4, h5, h6⟩ := h
  exact ⟨Ca, ns, dd, vs, h1, h2, h3, h4, h5, h6.weak s⟩
section
variable {X : Cx} {C : Cy} {W : WX} {a b c : Expr} {es : List Expr} {pos p apos : Pos} {F : CallF} {f : Nat} {k : Nat} {fa : Addr} {fd : FuncData} {ps : List Str} {x : Str}
theorem call_imp {fr : Bool} {S : Env → Res (List D)} (σ : L2.St) (H : Hp) (Q : VK)
    (h : tE C W (fun e => (S e).bind fun ds e1 => match F f ds with
      | some (.ret own d none) => if fr then (if own then .ok (.val true d) e1 else .stuck) else .ok (.val false d) e1
      | some (.exc c fs none) => .exc c fs e1
      | _ => .stuck) σ H Q) : tCallSD (spF C F false f) [] (WE W) (tL C W S) σ H Q := by
  obtain ⟨B, e, E, h⟩ := h
  refine ⟨B, e, E, (Post.bind h).mono fun ds e1 _ h vs H1 b1 p1 => ?_⟩
  have h := Post.from shifts_E b1 h
  show spF C F false f (vs ++ []) H1 Q (WE W σ)
  rw [List.append_nil]
  refine ⟨orP B (Ow σ e1), ds, fun a z => b1.ok.x_there z, p1, ?_⟩
  cases hf : F f ds with
  | none => simp only [hf] at h; exact h.elim
  | some o =>
    cases o with
    | ret own d io =>
      cases io with
      | some _ => simp only [hf] at h; exact h.elim
      | none =>
        refine ⟨rfl, fun w H' n => ?_⟩
        have n : NewOk C.K (orP B (Ow σ e1)) H1 (own, d) w H' := n
        simp only [hf] at h
        cases fr with
        | true =>
          cases own with
          | false => exact h.elim
          | true =>
            obtain ⟨E', x', q⟩ := new_fin (O := Ow σ e1) b1.ok (Evo.refl H1) n
            exact h w H' ⟨E', x', fun _ z => z, Told.refl _⟩ q
        | false =>
          obtain ⟨E', x', q⟩ := new_fin (O := Ow σ e1) b1.ok (Evo.refl H1) (n.shared fun a z => b1.ok.x_there z)
          exact h w H' ⟨E', x', fun _ z => z, Told.refl _⟩ q
    | exc c fs io =>
      cases io with
      | some _ => simp only [hf] at h; exact h.elim
      | none =>
        refine ⟨rfl, fun cls dx H' n => ?_⟩
        obtain ⟨x', xr⟩ := (show ExtH H1 H' ∧ XRep C H' (orP B (Ow σ e1)) cls dx c fs from n)
        simp only [hf] at h
        exact h cls dx H' xr ⟨b1.ok.ext x', x'.evo, fun _ z => z, Told.refl _⟩
theorem pe_callD {fr : Bool} {S : Env → Res (List D)} (Fn : FnOk X.prog X.w X.K X.mg X.base (L2.CX X.prog X.w) k fa fd ps (spF C F false f)) (hr : Room k X.A) (hg : Gl X x) (hm : X.mg x = some (.ref fa)) (hk : PySem.W.keepIn X.K (.ref fa) = true)
    (hb : Binds X.K fd ps []) (tk : Takes X W) (ha : PA X (a :: es) (tL C W S)) (hdb : (x == ("__debug__" : Str)) = false) (he : starEach (a :: es) X.env = (false, eval a X.env) :: starEach es X.env) (hpl : (backTo pos (starEach es X.env)).any (·.1) = false) :
    PE X (.Call (.Name x p) (a :: es) [] pos) (tE C W fun e => (S e).bind fun ds e1 => match F f ds with
      | some (.ret own d none) => if fr then (if own then .ok (.val true d) e1 else .stuck) else .ok (.val false d) e1
      | some (.exc c fs none) => .exc c fs e1
      | _ => .stuck) :=
  (pe_callSD Fn hr hg hm hk hb .nil (fun σ => passAt tk σ) ha hdb he hpl).impD call_imp
theorem isOwn_of {e : Env} {i : Nat} (h : isOwn e i = true) : ∃ d, e[i]? = some (some (true, d)) := by
  unfold isOwn at h
  split at h
  · rename_i d hj
    exact ⟨d, join_of hj⟩
  · cases h
/-- a call that changes the object of slot i -/
theorem callIO_imp {fr : Bool} {i : Nat} {S : Env → Res (List D)} (σ : L2.St) (H : Hp) (Q : VK)
    (h : tE C W (fun e => if isOwn e i then (S e).bind fun ds e1 => match e1[i]?.join with
      | some (true, d0) => match F f (d0 :: ds) with
        | some (.ret own d (some d1)) => if fr then (if own then .ok (.val true d) (e1.set i (some (true, d1))) else .stuck) else .ok (.val false d) (e1.set i (some (true, d1)))
        | some (.exc c fs (some d1)) => .exc c fs (e1.set i (some (true, d1)))
        | _ => .stuck
      | _ => .stuck else .stuck) σ H Q) : tCallSD (spF C F true f) [] (WE W) (tCons (tVar i) (tL C W S)) σ H Q := by
  obtain ⟨B, e, E, h⟩ := h
  cases hi : isOwn e i with
  | false => simp only [hi] at h; exact (show False from h).elim
  | true =>
  simp only [hi, if_true] at h
  obtain ⟨d0, he⟩ := isOwn_of hi
  obtain ⟨a, hs, hB, _⟩ := E.own i d0 he
  refine ⟨.ref a, hs, B, e, E, (Post.bind h).mono fun ds e1 _ h vs H1 b1 p1 => ?_⟩
  have h := Post.from shifts_E b1 h
  show spF C F true f ((V.ref a :: vs) ++ []) H1 Q (WE W σ)
  rw [List.append_nil]
  cases hj : e1[i]?.join with
  | none => simp only [hj] at h; exact (show False from h).elim
  | some q =>
  obtain ⟨o, d0⟩ := q
  cases o with
  | false => simp only [hj] at h; exact (show False from h).elim
  | true =>
  simp only [hj] at h
  have he1 := join_of hj
  obtain ⟨a', hs', hB', ho⟩ := b1.ok.own i d0 he1
  rw [hs] at hs'
  cases hs'
  have haw : Ow σ e1 a := ⟨i, d0, he1, hs⟩
  -- what is barred for the callee: all but a
  have iff1 : ∀ b, orP (fun b => orP B (Ow σ e1) b ∧ b ≠ a) (isP a) b ↔ orP B (Ow σ e1) b := fun b => by
    constructor
    · rintro (z | z)
      · exact z.1
      · rw [show b = a from z]; exact .inr haw
    · intro z
      by_cases hb : b = a
      · exact .inr hb
      · exact .inl ⟨z, hb⟩
  refine ⟨fun b => orP B (Ow σ e1) b ∧ b ≠ a, d0 :: ds, fun b z => b1.ok.x_there z.1, ⟨a, vs, d0, ds, rfl, rfl, fun z => z.2 rfl, ho.mono (fun _ e => e) (fun b u q n => ⟨q, fun z => n ((iff1 b).mp z)⟩), p1.weak fun b z => (iff1 b).mp z⟩, ?_⟩
  cases hf : F f (d0 :: ds) with
  | none => simp only [hf] at h; exact (show False from h).elim
  | some out =>
    cases out with
    | ret own d io =>
      cases io with
      | none => simp only [hf] at h; exact (show False from h).elim
      | some d1 =>
        refine ⟨rfl, fun w H' n => ?_⟩
        obtain ⟨a', vr', e0, x', n⟩ := n
        cases e0
        simp only [hf] at h
        have fin : OwnAt C.K H' (orP B (Ow σ e1)) a d1 → Rp C.K H' (orP B (Ow σ e1)) w d → Kx C (pE C) B σ H1 e1 Q (.val false d) (e1.set i (some (true, d1))) → Q w H' := fun n1 n2 h => by
          have bt := Bet.put b1.ok he1 hs x' n1
          exact h w H' bt (n2.weak fun b z => z.elim .inl fun z => .inr ((ow_put he1 b).mp z))
        have wk : ∀ b, orP B (Ow σ e1) b → orP (fun b => orP B (Ow σ e1) b ∧ b ≠ a) (isP a) b := fun b z => (iff1 b).mpr z
        cases own with
        | false =>
          obtain ⟨n1, n2⟩ := n
          cases fr with
          | true => exact (show False from h).elim
          | false => exact fin (n1.mono (fun _ e => e) fun b u q z => ⟨q, fun z' => z (wk b z')⟩) (n2.weak wk) h
        | true =>
          obtain ⟨q, rfl, hq, n1, n2⟩ := n
          have nq : ¬ orP B (Ow σ e1) q := fun z => by
            obtain ⟨u, e⟩ := b1.ok.x_there z
            rw [hq] at e
            cases e
          have n1' : OwnAt C.K H' (orP B (Ow σ e1)) a d1 := n1.mono (fun _ e => e) fun b u e z => ⟨e, fun z' => z (.inl (wk b z'))⟩
          cases fr with
          | false =>
            refine fin n1' (n2.rp nq fun b u _ z z' => z (.inl (wk b z'))) h
          | true =>
            have bt := Bet.put b1.ok he1 hs x' n1'
            refine h (.ref q) H' bt ⟨q, rfl, hq, n2.mono (fun _ e => e) (fun b u e z => ⟨e, fun z' => z ?_⟩), ?_⟩
            · rcases z' with (z' | z') | z'
              · exact .inl (wk b (.inl z'))
              · exact .inr z'
              · exact .inl (wk b (.inr ((ow_put he1 b).mp z')))
            · -- the new one is nobody's part: the frame's parts stood ahead of it
              have m : ∀ b u, H1 b = some u → ¬ orP B (Ow σ e1) b → H' b = some u ∧ ¬ orP (orP B (isP q)) (Ow σ (e1.set i (some (true, d1)))) b := fun b u e n => ⟨x'.keep b u e fun z => n (.inr (by rw [show b = a from z]; exact haw)), fun z => by
                rcases z with (z | z) | z
                · exact n (.inl z)
                · rw [show b = q from z, hq] at e; cases e
                · exact n (.inr ((ow_put he1 b).mp z))⟩
              refine ⟨bt.ok.len, fun j y hj' => ?_, fun j y hj' => ?_, bt.ok.inj, fun b z => ?_⟩
              · rcases set_get_cases hj' with ⟨_, z, _⟩ | ⟨_, z⟩
                · cases z
                · obtain ⟨v, h1, h2⟩ := b1.ok.frz j y z
                  exact ⟨v, h1, h2.mono m⟩
              · rcases set_get_cases hj' with ⟨rfl, z, _⟩ | ⟨ne, z⟩
                · cases z
                  refine ⟨a, hs, fun z => ?_, n1.mono (fun _ e => e) fun b u e z => ⟨e, fun z' => z ?_⟩⟩
                  · rcases z with z | z
                    · exact hB z
                    · exact nq (by rw [← show a = q from z]; exact .inr haw)
                  · rcases z' with (z' | z') | z'
                    · exact .inl (wk b (.inl z'))
                    · exact .inr z'
                    · exact .inl (wk b (.inr ((ow_put he1 b).mp z')))
                · obtain ⟨b, h1, h2, h3⟩ := b1.ok.own j y z
                  refine ⟨b, h1, fun z => ?_, h3.mono (fun u e => x'.keep b u e fun z => ?_) m⟩
                  · rcases z with z | z
                    · exact h2 z
                    · obtain ⟨u, e⟩ := h3.there
                      rw [show b = q from z, hq] at e
                      cases e
                  · rw [show b = a from z] at h1
                    exact ne (b1.ok.inj i j _ _ a he1 ‹_› hs h1)
              · rcases z with z | z
                · exact bt.ok.bdom b z
                · rw [show b = q from z]
                  exact n2.there
    | exc c fs io =>
      cases io with
      | none => simp only [hf] at h; exact (show False from h).elim
      | some d1 =>
        refine ⟨rfl, fun cls dx H' n => ?_⟩
        obtain ⟨a', vr', e0, x', n1, n2⟩ := n
        cases e0
        simp only [hf] at h
        have bt := Bet.put b1.ok he1 hs x' (n1.mono (fun _ e => e) fun b u q z => ⟨q, fun z' => z ((iff1 b).mpr z')⟩)
        exact h cls dx H' (n2.weak fun b z => (iff1 b).mpr (z.elim .inl fun z => .inr ((ow_put he1 b).mp z))) bt
theorem pe_callIOD {fr : Bool} {i : Nat} {y : Str} {py : Pos} {S : Env → Res (List D)} (Fn : FnOk X.prog X.w X.K X.mg X.base (L2.CX X.prog X.w) k fa fd ps (spF C F true f)) (hr : Room k X.A) (hg : Gl X x) (hm : X.mg x = some (.ref fa)) (hk : PySem.W.keepIn X.K (.ref fa) = true)
    (hb : Binds X.K fd ps []) (tk : Takes X W) (hy : PE X (.Name y py) (tVar i)) (ha : PA X es (tL C W S)) (hdb : (x == ("__debug__" : Str)) = false) (hpl : (backTo pos (starEach es X.env)).any (·.1) = false) :
    PE X (.Call (.Name x p) (.Name y py :: es) [] pos) (tE C W fun e => if isOwn e i then (S e).bind fun ds e1 => match e1[i]?.join with
      | some (true, d0) => match F f (d0 :: ds) with
        | some (.ret own d (some d1)) => if fr then (if own then .ok (.val true d) (e1.set i (some (true, d1))) else .stuck) else .ok (.val false d) (e1.set i (some (true, d1)))
        | some (.exc c fs (some d1)) => .exc c fs (e1.set i (some (true, d1)))
        | _ => .stuck
      | _ => .stuck else .stuck) :=
  (pe_callSD Fn hr hg hm hk hb .nil (fun σ => passAt tk σ) (pa_cons hy ha rfl) hdb rfl hpl).impD callIO_imp
end
end DI

end
section
/-! DiI: methods, chains, isinstance. -/
namespace DI
open PySem PySem.Spec PyProof.Rows L2
theorem upd_evo {H : Hp} {a : Addr} {o u : HO} (h : H a = some o) : Evo (isP a) H (upd H a u) :=
  ⟨fun b v e n => by rw [upd_ne (show b ≠ a from n)]; exact e, fun b v e => by
    by_cases z : b = a
    · subst z; exact ⟨u, upd_same⟩
    · exact ⟨v, by rw [upd_ne z]; exact e⟩⟩
theorem RpL.updX {K : PySem.W.Frag} {H : Hp} {X : Addr → Prop} {a : Addr} {u : HO} {vs : List V} {ds : List D} (r : RpL K H X vs ds) (ha : X a) : RpL K (upd H a u) X vs ds :=
  r.mono fun b v e n => ⟨by rw [upd_ne (fun z => n (by rw [z]; exact ha))]; exact e, n⟩
theorem Rp.updX {K : PySem.W.Frag} {H : Hp} {X : Addr → Prop} {a : Addr} {u : HO} {v : V} {d : D} (r : Rp K H X v d) (ha : X a) : Rp K (upd H a u) X v d :=
  r.mono fun b v e n => ⟨by rw [upd_ne (fun z => n (by rw [z]; exact ha))]; exact e, n⟩
/-- what a method that changes its object must do -/
def AnsM (K : PySem.W.Frag) (m : Mu) (r : V → List V → Hp → VK → Prop) : Prop :=
  ∀ (Xc : Addr → Prop) (H : Hp) (a : Addr) (o : D) (vs : List V) (ds : List D) (p : D × D) (Q : VK), Xc a → OwnAt K H Xc a o → RpL K H Xc vs ds → muV m o ds = some p →
    (∀ w H', Evo (isP a) H H' → OwnAt K H' Xc a p.2 → Rp K H' Xc w p.1 → Q w H') → r (.ref a) vs H Q
section
variable {X : Cx} {C : Cy} {W : WX} {K : PySem.W.Frag} {a b c e : Expr} {es : List Expr} {pos p apos cpos : Pos}
theorem ansM_append : AnsM K .append rAppend := by
  intro Xc H a o vs ds p Q ha ho r hm k
  cases o with
  | list xs =>
    obtain ⟨ys, h1, h2⟩ := ho
    match ds, r, hm with
    | [d], r, hm =>
      cases r with
      | @cons v _ _ _ hv r =>
        cases r
        simp only [muV] at hm
        split at hm
        · rename_i hl
          obtain rfl := Option.some.inj hm
          have e1 := h2.length
          have := lim_line
          refine ⟨a, ys, v, rfl, rfl, h1, by omega, k _ _ (upd_evo h1) ⟨_, upd_same, (h2.app (.one hv)).updX ha⟩ .none⟩
        · cases hm
  | _ => exact (show False from ho).elim
theorem ansM_extend : AnsM K .extend rExtend := by
  intro Xc H a o vs ds p Q ha ho r hm k
  cases o with
  | list xs =>
    obtain ⟨ys, h1, h2⟩ := ho
    match ds, r, hm with
    | [.list zs], r, hm =>
      cases r with
      | @cons v _ _ _ hv r =>
        cases r
        cases hv with
        | @list b us _ g1 g2 g3 =>
          simp only [muV] at hm
          split at hm
          · rename_i hl
            obtain rfl := Option.some.inj hm
            have e1 := h2.length
            have e2 := g3.length
            have := lim_line
            exact ⟨a, b, ys, us, rfl, rfl, h1, g1, by omega, k _ _ (upd_evo h1) ⟨_, upd_same, (h2.app g3).updX ha⟩ .none⟩
          · cases hm
  | _ => exact (show False from ho).elim
def rPopX : V → List V → Hp → VK → Prop := fun x vs H Q => rPop x vs H Q ∨ rPopAt x vs H Q
theorem place_seq {n : Nat} {i : Int} {j : Nat} (h : place n i = some j) : seqIndex? i n = some j ∧ j < n ∧ -(n : Int) ≤ i ∧ i < n := ixN_seq h
theorem ansM_pop : AnsM K .pop rPopX := by
  intro Xc H a o vs ds p Q ha ho r hm k
  cases o with
  | list xs =>
    obtain ⟨ys, h1, h2⟩ := ho
    have e1 := h2.length
    match ds, r, hm with
    | [], r, hm =>
      cases r
      simp only [muV] at hm
      cases hg : xs.getLast? with
      | none => simp [hg] at hm
      | some x =>
        simp only [hg] at hm
        obtain rfl := Option.some.inj hm
        rw [List.getLast?_eq_getElem?] at hg
        obtain ⟨v, g1, g2⟩ := h2.get hg
        exact .inl ⟨a, ys, v, rfl, rfl, h1, by rw [e1]; exact g1, k _ _ (upd_evo h1) ⟨_, upd_same, h2.dropLast.updX ha⟩ (g2.updX ha)⟩
    | [.int i], r, hm =>
      cases r with
      | cons hv r =>
        cases r
        cases hv
        simp only [muV] at hm
        split at hm
        case isFalse => cases hm
        rename_i hg
        simp only [Bool.and_eq_true, decide_eq_true_eq] at hg
        have hlim : lim = 1000000 := rfl
        cases hp : place xs.length i with
        | none => simp [hp] at hm
        | some j =>
          simp only [hp] at hm
          cases hx : xs[j]? with
          | none => simp [hx] at hm
          | some x =>
            simp only [hx, Option.map_some] at hm
            obtain rfl := Option.some.inj hm
            obtain ⟨v, g1, g2⟩ := h2.get hx
            obtain ⟨q1, q2, q3, q4⟩ := place_seq hp
            exact .inr ⟨a, ys, i, j, v, rfl, rfl, h1, by omega, by omega, by rw [e1]; exact q1, g1, k _ _ (upd_evo h1) ⟨_, upd_same, (h2.erase j).updX ha⟩ (g2.updX ha)⟩
  | _ => exact (show False from ho).elim
/-- a call of a method that changes its object, the object of slot i -/
theorem mu_imp {m : Mu} {r : V → List V → Hp → VK → Prop} (hs : AnsM C.K m r) {i : Nat} {S : Env → Res (List D)} (σ : L2.St) (H : Hp) (Q : VK)
    (h : tE C W (fun e => if isOwn e i then (S e).bind fun ds e1 => match e1[i]?.join with
      | some (true, o) => match muV m o ds with
        | some p => .ok (.val false p.1) (e1.set i (some (true, p.2)))
        | none => .stuck
      | _ => .stuck else .stuck) σ H Q) : tBM C.K "list" r (tVar i) (tL C W S) σ H Q := by
  obtain ⟨B, e, E, h⟩ := h
  cases hi : isOwn e i with
  | false => simp only [hi] at h; exact (show False from h).elim
  | true =>
  simp only [hi, if_true] at h
  obtain ⟨d0, he⟩ := isOwn_of hi
  obtain ⟨a, hs0, hB, ho0⟩ := E.own i d0 he
  have ty : tyV C.K "list" (.ref a) H := by
    cases d0 with
    | list ds => obtain ⟨xs, h1, _⟩ := ho0; exact .inl ⟨rfl, xs, .inl (.inl h1)⟩
    | _ => exact (show False from ho0).elim
  refine ⟨.ref a, hs0, ty, B, e, E, (Post.bind h).mono fun ds e1 _ h vs H1 b1 p1 => ?_⟩
  have h := Post.from shifts_E b1 h
  cases hj : e1[i]?.join with
  | none => simp only [hj] at h; exact (show False from h).elim
  | some q =>
  obtain ⟨o, d0⟩ := q
  cases o with
  | false => simp only [hj] at h; exact (show False from h).elim
  | true =>
  simp only [hj] at h
  have he1 := join_of hj
  obtain ⟨a', hs', hB', ho⟩ := b1.ok.own i d0 he1
  rw [hs0] at hs'
  cases hs'
  have haw : orP B (Ow σ e1) a := .inr ⟨i, d0, he1, hs0⟩
  cases hm : muV m d0 ds with
  | none => simp only [hm] at h; exact (show False from h).elim
  | some p =>
    simp only [hm] at h
    refine hs _ H1 a d0 vs ds p Q haw ho p1 hm fun w H' x' n1 n2 => ?_
    exact h w H' (Bet.put b1.ok he1 hs0 x' n1) (n2.weak fun b z => z.elim .inl fun z => .inr ((ow_put he1 b).mp z))
theorem mu_imp0 {m : Mu} {r : V → List V → Hp → VK → Prop} (hs : AnsM C.K m r) {i : Nat} (σ : L2.St) (H : Hp) (Q : VK)
    (h : tE C W (fun e => if isOwn e i then (Res.ok ([] : List D) e).bind fun ds e1 => match e1[i]?.join with
      | some (true, o) => match muV m o ds with
        | some p => .ok (.val false p.1) (e1.set i (some (true, p.2)))
        | none => .stuck
      | _ => .stuck else .stuck) σ H Q) : tBM0 C.K "list" r (tVar i) σ H Q := by
  obtain ⟨v, h1, h2, h3⟩ := mu_imp hs (S := fun e => .ok [] e) σ H Q h
  obtain ⟨B, e, E, h3⟩ := h3
  exact ⟨v, h1, h2, h3 [] H (Bet.refl E) .nil⟩
/-! ### join -/
theorem glued_foldl (g : Str) : ∀ (l : List Str) (acc : Array Nat), (l.foldl (fun acc p => acc ++ g.cps ++ p.cps) acc).toList = acc.toList ++ (l.map fun p => g.cps.toList ++ p.cps.toList).flatten
  | [], acc => by simp
  | x :: r, acc => by rw [List.foldl_cons, glued_foldl g r]; simp
theorem joinL_cons (s : List Nat) : ∀ (x : List Nat) (r : List (List Nat)), joinL s (x :: r) = x ++ (r.map fun p => s ++ p).flatten
  | x, [] => by simp [joinL]
  | x, y :: r => by rw [joinL, joinL_cons s y r]; simp
theorem join_txt (s : List Nat) (l : List (List Nat)) : Txt.join (sV s) (l.map sV) = sV (joinL s l) := by
  cases l with
  | nil => rfl
  | cons x r =>
    show Builtin.Str.glued (sV s) ((x :: r).map sV) = _
    unfold Builtin.Str.glued
    congr 1
    apply Array.ext'
    rw [glued_foldl, joinL_cons]
    simp [List.map_map, Function.comp_def]
theorem joinL_len (s : List Nat) : ∀ l : List (List Nat), l ≠ [] → (joinL s l).length + s.length = (l.map List.length).sum + l.length * s.length
  | [], h => absurd rfl h
  | [x], _ => by simp [joinL]
  | x :: y :: r, _ => by
    have := joinL_len s (y :: r) (by simp)
    rw [joinL, List.length_append, List.length_append, List.map_cons, List.sum_cons, List.length_cons, Nat.add_mul]
    omega
theorem joinL_mem (s : List Nat) : ∀ (l : List (List Nat)) (c : Nat), c ∈ joinL s l → c ∈ s ∨ ∃ x ∈ l, c ∈ x
  | [], c, h => by simp [joinL] at h
  | [x], c, h => .inr ⟨x, by simp, by simpa [joinL] using h⟩
  | x :: y :: r, c, h => by
    rw [joinL, List.mem_append, List.mem_append] at h
    rcases h with (h | h) | h
    · exact .inr ⟨x, by simp, h⟩
    · exact .inl h
    · rcases joinL_mem s (y :: r) c h with h | ⟨z, h1, h2⟩
      · exact .inl h
      · exact .inr ⟨z, List.mem_cons_of_mem _ h1, h2⟩
/-- a text's method of values -/
def AnsT (K : PySem.W.Frag) (m : Me) (r : V → List V → Hp → VK → Prop) : Prop :=
  ∀ (Xc : Addr → Prop) (H : Hp) (s : List Nat) (vs : List V) (ds : List D) (p : Bool × D) (Q : VK), (∀ a, Xc a → ∃ o, H a = some o) → okS s → LookL K H Xc vs ds → meV m (.str s) ds = some p → (∀ w H', NewOk K Xc H p w H' → Q w H') → r (.str (sV s)) vs H Q
theorem ansT_join : AnsT K .join (fun x xs H Q => ∃ a p, ∃ ys : List Str, x = .str a ∧ xs = [.ref p] ∧ (SqL K H p (ys.map V.str) ∨ SqT K H p (ys.map V.str)) ∧ (ys.map (·.length)).sum + ys.length * a.length ≤ 16777216 ∧ Q (.str (Txt.join a ys)) H) := by
  intro Xc H s vs ds p Q hX hs l0 hf k
  match ds, l0, hf with
  | [.list xs], l0, hf =>
    obtain ⟨v, rfl, l⟩ := l0.one
    obtain ⟨a, ys, rfl, ha, r⟩ := l.list
    simp only [meV] at hf
    cases e : strsD xs with
    | none => rw [e] at hf; cases hf
    | some ss =>
      rw [e] at hf
      simp only [Option.bind_some] at hf
      split at hf
      · rename_i hl
        obtain rfl := Option.some.inj hf
        obtain ⟨h1, h2⟩ := r.strs e
        subst h1
        have hlim : lim = 1000000 := rfl
        have hz := hs.1
        rw [sizeLine_eq] at hz
        refine ⟨sV s, a, ss.map sV, rfl, rfl, .inl (.inl (.inl ha)), ?_, ?_⟩
        · rw [List.map_map, List.length_map, sV_len]
          have e2 : (Str.length ∘ sV) = List.length := by
            funext z
            exact sV_len z
          rw [show ((fun x : Str => x.length) ∘ sV) = List.length from e2]
          by_cases hn : ss = []
          · subst hn; simp
          · have := joinL_len s ss hn
            have h3 : 1 ≤ ss.length := by
              cases ss with
              | nil => exact absurd rfl hn
              | cons => simp
            omega
        · rw [join_txt]
          refine k _ _ (new_same (.str ⟨by rw [sizeLine_eq]; omega, fun c hc => ?_⟩))
          rcases joinL_mem s ss c hc with hc | ⟨x, hx, hc⟩
          · exact hs.2 c hc
          · exact (h2 x hx).2 c hc
      · cases hf
end
end DI

end
section
/-! DiJ: what is walked; comprehensions. -/
namespace DI
open PySem PySem.Spec PyProof.Rows L2
/-- the iterator J gives ds, from (H, X) on: G says what must stand -/
structure Src (K : PySem.W.Frag) (J : It) (H0 : Hp) (X0 : Addr → Prop) (ds : List D) (G : Hp → (Addr → Prop) → Prop) : Prop where
  start : G H0 X0
  mono : ∀ H X H' X', G H X → (∀ a u, H a = some u → ¬ X a → H' a = some u ∧ ¬ X' a) → G H' X'
  goes : ∀ i H X, i < ds.length → G H X → J.go i H
  stops : ∀ H X, G H X → J.stop ds.length H
  yields : ∀ i H X x H' d, ds[i]? = some d → G H X → (∀ a, X a → ∃ o, H a = some o) → J.yld i H x H' → ExtH H H' ∧ Rp K H' X x d
/-- what is walked -/
def tI (C : Cy) (W : WX) (S : Env → Res (List D)) : TI := fun σ H R => ∃ B e, EOk C.K B σ H e ∧ Post C W B σ H e (S e) fun ds e1 => ds.length ≤ sizeLine → ∀ J H1 G, Bet C.K B σ H e H1 e1 → Src C.K J H1 (orP B (Ow σ e1)) ds G → R J H1
section
variable {K : PySem.W.Frag} {H : Hp} {X : Addr → Prop} {a : Addr}
theorem src_list {xs : List V} {ds : List D} (h : H a = some (.lst xs)) (n : ¬ X a) (r : RpL K H X xs ds) : Src K (Itl K a) H X ds fun H X => H a = some (.lst xs) ∧ ¬ X a ∧ RpL K H X xs ds := by
  have w := walk_list (K := K) (a := a) (xs := xs)
  have e := r.length
  refine ⟨⟨h, n, r⟩, fun H X H' X' ⟨g1, g2, g3⟩ m => ⟨(m a _ g1 g2).1, (m a _ g1 g2).2, g3.mono m⟩, fun i H X hi g => w.goes i H (by omega) (.inl (.inl g.1)), fun H X g => by rw [← e]; exact w.stops H (.inl (.inl g.1)), fun i H X x H' d hd g _ y => ?_⟩
  obtain ⟨rfl, y'⟩ := w.yields i H x H' (by rw [e]; exact (List.getElem?_eq_some_iff.mp hd).1) (.inl (.inl g.1)) y
  obtain ⟨v, h1, h2⟩ := g.2.2.get hd
  rw [y'] at h1
  cases h1
  exact ⟨fun _ _ e => e, h2⟩
theorem src_scr {xs : List V} {ds : List D} (h : SF K H X a xs) (r : RpL K H X xs ds) : Src K (Itl K a) H X ds fun H X => SF K H X a xs ∧ RpL K H X xs ds := by
  have w := walk_list (K := K) (a := a) (xs := xs)
  have e := r.length
  refine ⟨⟨h, r⟩, fun H X H' X' ⟨g1, g2⟩ m => ⟨g1.mono m, g2.mono m⟩, fun i H X hi g => w.goes i H (by omega) g.1.sq, fun H X g => by rw [← e]; exact w.stops H g.1.sq, fun i H X x H' d hd g _ y => ?_⟩
  obtain ⟨rfl, y'⟩ := w.yields i H x H' (by rw [e]; exact (List.getElem?_eq_some_iff.mp hd).1) g.1.sq y
  obtain ⟨v, h1, h2⟩ := g.2.get hd
  rw [y'] at h1
  cases h1
  exact ⟨fun _ _ e => e, h2⟩
theorem src_tup {xs : List V} {ds : List D} (h : TF K H X a xs) (r : RpL K H X xs ds) : Src K (Itt K a) H X ds fun H X => TF K H X a xs ∧ RpL K H X xs ds := by
  have w := walk_tup (K := K) (a := a) (xs := xs)
  have e := r.length
  refine ⟨⟨h, r⟩, fun H X H' X' ⟨g1, g2⟩ m => ⟨g1.mono m, g2.mono m⟩, fun i H X hi g => w.goes i H (by omega) g.1.sq, fun H X g => by rw [← e]; exact w.stops H g.1.sq, fun i H X x H' d hd g _ y => ?_⟩
  obtain ⟨rfl, y'⟩ := w.yields i H x H' (by rw [e]; exact (List.getElem?_eq_some_iff.mp hd).1) g.1.sq y
  obtain ⟨v, h1, h2⟩ := g.2.get hd
  rw [y'] at h1
  cases h1
  exact ⟨fun _ _ e => e, h2⟩
theorem src_str {s : List Nat} (h : okS s) : Src K (Its (sV s)) H X (s.map fun c => .str [c]) fun _ _ => True := by
  have w := walk_str (z := sV s)
  have e : (sV s).cps.size = s.length := by simp
  refine ⟨trivial, fun _ _ _ _ _ _ => trivial, fun i H X hi g => w.goes i H (by rw [e]; simpa using hi) trivial, fun H X g => by rw [List.length_map, ← e]; exact w.stops H trivial, fun i H X x H' d hd g _ y => ?_⟩
  have hi : i < s.length := by
    have := (List.getElem?_eq_some_iff.mp hd).1
    simpa using this
  obtain ⟨rfl, c, hc, rfl⟩ := w.yields i H x H' (by rw [e]; exact hi) trivial y
  have hc : s[i]? = some c := by simpa using hc
  rw [List.getElem?_map, hc] at hd
  cases hd
  exact ⟨fun _ _ e => e, .str (okS_one h (List.mem_of_getElem? hc))⟩
theorem rangeL_len : ∀ (n : Nat) (lo : Int), (rangeL lo n).length = n
  | 0, _ => rfl
  | n + 1, lo => by rw [rangeL, List.length_cons, rangeL_len n]
theorem rangeL_get : ∀ (n i : Nat) (lo : Int) (d : D), (rangeL lo n)[i]? = some d → d = .int (lo + i)
  | 0, i, lo, d, h => by simp [rangeL] at h
  | n + 1, 0, lo, d, h => by
    simp [rangeL] at h
    rw [← h]
    simp
  | n + 1, i + 1, lo, d, h => by
    rw [rangeL, List.getElem?_cons_succ] at h
    rw [rangeL_get n i (lo + 1) d h]
    congr 1
    omega
theorem src_range (lo : Int) (n : Nat) : Src K (Itr lo n) H X (rangeL lo n) fun _ _ => True := by
  have w := walk_range (lo := lo) (n := n)
  refine ⟨trivial, fun _ _ _ _ _ _ => trivial, fun i H X hi g => w.goes i H (by rw [rangeL_len] at hi; exact hi) trivial, fun H X g => by rw [rangeL_len]; exact w.stops H trivial, fun i H X x H' d hd g _ y => ?_⟩
  have hi := (List.getElem?_eq_some_iff.mp hd).1
  rw [rangeL_len] at hi
  obtain ⟨rfl, rfl⟩ := w.yields i H x H' hi trivial y
  rw [rangeL_get n i lo d hd]
  exact ⟨fun _ _ e => e, .int _⟩
end
theorem leak_ne {r : Rv} {e e' : Env} {c : Nat} {fs : List D} (h : leak r e = .exc c fs e') : False := by
  cases r with
  | val o d => cases h
  | ptr i =>
    unfold leak at h
    cases hj : e[i]?.join with
    | none => simp only [hj] at h; cases h
    | some q => obtain ⟨o, d⟩ := q; simp only [hj] at h; cases h
section
variable {X : Cx} {C : Cy} {W : WX} {a b : Expr} {tg : Expr} {pos p : Pos}
/-- any list, tuple, text -/
theorem pi_anyD {S : Env → Res Rv} (hK : X.K = C.K) (ha : PE X a (tE C W S)) : PI X tg a (tI C W (walkE S)) := by
  constructor
  intro pins s σ H R I h
  obtain ⟨B, e, E, h⟩ := h
  have I0 := I
  refine thn (ha.run pins s σ H (fun x H1 => ∃ d, Look C.K H1 (fun _ => False) x d ∧ ∃ e1 e2, Bet C.K B σ H e H1 e1 ∧ Bet C.K B σ H1 e1 H1 e2 ∧ Rp C.K H1 (orP B (Ow σ e2)) x d ∧
    ∃ ds, itemsOf d = some ds ∧ (ds.length ≤ sizeLine → ∀ J H2 G, Bet C.K B σ H e H2 e2 → Src C.K J H2 (orP B (Ow σ e2)) ds G → R J H2)) I ?_) fun v s1 ⟨x, H1, I1, r1, d, _, e1, e2, b1, b2, rp, ds, hi, k⟩ => ?_
  · refine ⟨B, e, E, (Post.bind h).mono fun x e1 _ h v H1 b1 p1 => ?_⟩
    obtain ⟨d, e2, hl, b2, rp, h⟩ := leak_ok (W := W) (k := fun d e2 => Post C W B σ H e (Res.opt (itemsOf d) e2) fun ds e1 => ds.length ≤ sizeLine → ∀ J H1 G, Bet C.K B σ H e H1 e1 → Src C.K J H1 (orP B (Ow σ e1)) ds G → R J H1) b1.ok (p1.lok E.bdom) (by
      cases hl : leak x e1 with
      | stuck => rw [hl] at h; exact h.elim
      | exc c fs e' => exact (leak_ne hl).elim
      | ok d e2 => rw [hl] at h; exact h)
    cases hi : itemsOf d with
    | none => simp only [hi, Res.opt] at h; exact (show False from h).elim
    | some ds =>
      simp only [hi, Res.opt] at h
      exact ⟨d, .inl (rp.weak fun _ z => z.elim), e1, e2, b1, b2, rp, ds, hi, h⟩
  · cases rp with
    | @list c xs ds' h1 h2 h3 =>
      cases r1
      cases hi
      have hq : SqL X.K H1 c xs := .inl (.inl h1)
      obtain ⟨its, rv, pl, hz⟩ := I1.list hq
      refine wpAny_pyIter_list pl.isList ⟨_, _, _, _, H1, rfl, I1.kept (t' := s1.toks) (fun b o e => Heap.get?_push_of_some _ e), turn_list c s1.heap.objs.size, ⟨_, Heap.get?_push_size _ rfl, rfl, rfl⟩, fun b hb => ?_, hK ▸ k (by rw [← h3.length]; exact hz) _ H1 _ (b1.trans b2) (src_list h1 h2 h3)⟩
      rw [List.mem_singleton] at hb
      subst hb
      exact I1.fpOk (Nat.le_refl _) (I1.hok.fresh (Nat.le_refl _))
    | @scr c xs ds' h1 h3 =>
      cases r1
      cases hi
      have hq : SqL X.K H1 c xs := hK ▸ h1.sq
      obtain ⟨its, rv, pl, hz⟩ := I1.list hq
      refine wpAny_pyIter_list pl.isList ⟨_, _, _, _, H1, rfl, I1.kept (t' := s1.toks) (fun b o e => Heap.get?_push_of_some _ e), turn_list c s1.heap.objs.size, ⟨_, Heap.get?_push_size _ rfl, rfl, rfl⟩, fun b hb => ?_, hK ▸ k (by rw [← h3.length]; exact hz) _ H1 _ (b1.trans b2) (src_scr h1 h3)⟩
      rw [List.mem_singleton] at hb
      subst hb
      exact I1.fpOk (Nat.le_refl _) (I1.hok.fresh (Nat.le_refl _))
    | @tup c xs ds' h1 h3 =>
      cases r1
      cases hi
      have hq : SqT X.K H1 c xs := hK ▸ h1.sq
      obtain ⟨its, rv, pl, hz⟩ := I1.tuple hq
      refine wpAny_pyIter_tuple (show s1.heap.IsTuple c its.toArray from pl) ⟨_, _, _, _, H1, rfl, I1.kept (t' := s1.toks) (fun b o e => Heap.get?_push_of_some _ e), turn_tuple c s1.heap.objs.size, ⟨_, Heap.get?_push_size _ rfl, rfl, rfl⟩, fun b hb => ?_, hK ▸ k (by rw [← h3.length]; exact hz) _ H1 _ (b1.trans b2) (src_tup h1 h3)⟩
      rw [List.mem_singleton] at hb
      subst hb
      exact I1.fpOk (Nat.le_refl _) (I1.hok.fresh (Nat.le_refl _))
    | @str z hz =>
      obtain ⟨t, rfl⟩ := r1
      cases hi
      have k' := k (by rw [List.length_map]; exact hz.1) _ H1 _ (b1.trans b2) (src_str hz)
      cases hw : (sV z).cps.all (· < 128) with
      | false => exact wpAny_pyIter_wide hw (pi_one (tk := s1.toks) I1 _ (turn_str _ (sV z) t "str_iterator" (.inr rfl)) ⟨_, Heap.get?_push_size _ rfl, rfl, rfl⟩ k')
      | true => exact wpAny_pyIter_ascii hw (pi_one (tk := s1.toks) I1 _ (turn_str _ (sV z) t "str_ascii_iterator" (.inl rfl)) ⟨_, Heap.get?_push_size _ rfl, rfl, rfl⟩ k')
    | _ => cases hi
end
end DI

end
section
/-! DiK: ranges; slots hidden and given back; comprehensions of one clause. -/
namespace DI
open PySem PySem.Spec PyProof.Rows L2
theorem _root_.L2.PI.impD {X : Cx} {tg e : Expr} {t t' : TI} (h : PI X tg e t) (i : ∀ σ H R, t' σ H R → t σ H R) : PI X tg e t' := ⟨fun pins s σ H R I q => h.run pins s σ H R I (i σ H R q)⟩
section
variable {X : Cx} {C : Cy} {W : WX} {a b : Expr} {tg : Expr} {pos p : Pos}
theorem rng_lim {n : Nat} {lo : Int} (h : n ≤ 2 * lim) : (rangeL lo n).length ≤ sizeLine := by
  rw [rangeL_len, sizeLine_eq]
  unfold lim at h
  omega
theorem pi_range1D {S : Env → Res (List D)} (hc : ∀ e ds e', S e = .ok ds e' → ds.length = 1) (hg : Gl X "range") (hm : X.mg "range" = none) (ha : PA X [a] (tL C W S)) (hs : starEach [a] X.env = [(false, eval a X.env)]) :
    PI X tg (.Call (.Name "range" p) [a] [] pos) (tI C W fun e => (S e).bind fun ds e1 => Res.opt (rangeOf ds) e1) := by
  refine (pi_range1 hg hm ha hs).impD fun σ H R h => ?_
  obtain ⟨B, e, E, h⟩ := h
  refine ⟨B, e, E, (Post.bind h).mono fun ds e1 he h vs H1 b1 p1 => ?_⟩
  have hl := hc _ _ _ he
  cases ds with
  | nil => cases hl
  | cons d ds =>
    cases ds with
    | cons _ _ => simp at hl
    | nil =>
      cases d with
      | int j =>
        cases p1 with
        | cons r rr =>
          cases rr
          cases r
          by_cases hj : (decide (-(lim : Int) ≤ j) && decide (j ≤ lim)) = true
          · have e0 : rangeOf [.int j] = some (rangeL 0 j.toNat) := if_pos hj
            simp only [e0, Res.opt] at h
            rw [Bool.and_eq_true, decide_eq_true_eq, decide_eq_true_eq] at hj
            unfold lim at hj
            exact ⟨j, rfl, by omega, by omega, h (rng_lim (by unfold lim; omega)) _ _ _ b1 (src_range _ _)⟩
          · have e0 : rangeOf [.int j] = none := if_neg hj
            simp only [e0, Res.opt] at h
            exact (show False from h).elim
      | _ => exact (show False from h).elim
theorem pi_range2D {S : Env → Res (List D)} (hc : ∀ e ds e', S e = .ok ds e' → ds.length = 2) (hg : Gl X "range") (hm : X.mg "range" = none) (ha : PA X [a, b] (tL C W S)) (hs : starEach [a, b] X.env = [(false, eval a X.env), (false, eval b X.env)]) (hs2 : starEach [b] X.env = [(false, eval b X.env)]) :
    PI X tg (.Call (.Name "range" p) [a, b] [] pos) (tI C W fun e => (S e).bind fun ds e1 => Res.opt (rangeOf ds) e1) := by
  refine (pi_range2 hg hm ha hs hs2).impD fun σ H R h => ?_
  obtain ⟨B, e, E, h⟩ := h
  refine ⟨B, e, E, (Post.bind h).mono fun ds e1 he h vs H1 b1 p1 => ?_⟩
  have hl := hc _ _ _ he
  cases p1 with
  | nil => cases hl
  | cons r rr =>
    cases rr with
    | nil => cases hl
    | cons r' rr =>
      cases rr with
      | cons _ _ => simp at hl
      | nil =>
        cases r with
        | int i =>
          cases r' with
          | int j =>
            by_cases hj : (decide (-(lim : Int) ≤ i) && decide (i ≤ lim) && decide (-(lim : Int) ≤ j) && decide (j ≤ lim)) = true
            · have e0 : rangeOf [.int i, .int j] = some (rangeL i (j - i).toNat) := if_pos hj
              simp only [e0, Res.opt] at h
              simp only [Bool.and_eq_true, decide_eq_true_eq] at hj
              unfold lim at hj
              exact ⟨i, j, rfl, ⟨by omega, by omega, by omega, by omega⟩, h (rng_lim (by unfold lim; omega)) _ _ _ b1 (src_range _ _)⟩
            · have e0 : rangeOf [.int i, .int j] = none := if_neg hj
              simp only [e0, Res.opt] at h
              exact (show False from h).elim
          | _ => exact (show False from h).elim
        | _ => exact (show False from h).elim
end
/-! ### slots -/
theorem get_len {α β : Type} {l : List α} {m : List β} (h : l.length = m.length) (j : Nat) : (∃ x, l[j]? = some x) ↔ (∃ y, m[j]? = some y) := by
  constructor <;> rintro ⟨x, hx⟩
  · exact ⟨m[j]'(by rw [← h]; exact (List.getElem?_eq_some_iff.mp hx).1), by simp⟩
  · exact ⟨l[j]'(by rw [h]; exact (List.getElem?_eq_some_iff.mp hx).1), by simp⟩
section
variable {K : PySem.W.Frag} {B : Addr → Prop} {σ σ' : L2.St} {H H' : Hp} {e e' : Env}
/-- slots that are as they were, forgotten, or everybody's -/
theorem EOk.reb (E : EOk K B σ' H e') (hl : e.length = σ.length)
    (h : ∀ j : Nat, (e[j]? = e'[j]? ∧ σ[j]? = σ'[j]?) ∨ e[j]? = some none ∨ ∃ d v, e[j]? = some (some (false, d)) ∧ σ[j]? = some (some v) ∧ Rp K H (orP B (Ow σ' e')) v d) :
    EOk K B σ H e ∧ ∀ a, Ow σ e a → Ow σ' e' a := by
  have ow : ∀ a, Ow σ e a → Ow σ' e' a := fun a ⟨i, d, h1, h2⟩ => by
    rcases h i with ⟨q1, q2⟩ | q | ⟨d', v, q, _⟩
    · exact ⟨i, d, by rw [← q1]; exact h1, by rw [← q2]; exact h2⟩
    · rw [q] at h1; cases h1
    · rw [q] at h1; cases h1
  have m : ∀ a u, H a = some u → ¬ orP B (Ow σ' e') a → H a = some u ∧ ¬ orP B (Ow σ e) a := fun a u q n => ⟨q, fun z => n (z.elim .inl fun z => .inr (ow a z))⟩
  refine ⟨⟨hl, fun j d q => ?_, fun j d q => ?_, fun i j d d' a h1 h2 h3 h4 => ?_, E.bdom⟩, ow⟩
  · rcases h j with ⟨q1, q2⟩ | q' | ⟨d', v, q', q2, q3⟩
    · obtain ⟨v, h1, h2⟩ := E.frz j d (by rw [← q1]; exact q)
      exact ⟨v, by rw [q2]; exact h1, h2.mono m⟩
    · rw [q'] at q; cases q
    · rw [q'] at q; cases q
      exact ⟨v, q2, q3.mono m⟩
  · rcases h j with ⟨q1, q2⟩ | q' | ⟨d', v, q', q2, q3⟩
    · obtain ⟨a, h1, h2, h3⟩ := E.own j d (by rw [← q1]; exact q)
      exact ⟨a, by rw [q2]; exact h1, h2, h3.mono (fun _ e => e) m⟩
    · rw [q'] at q; cases q
    · rw [q'] at q; cases q
  · rcases h i with ⟨q1, q2⟩ | q' | ⟨_, v, q', _⟩
    · rcases h j with ⟨p1, p2⟩ | q' | ⟨_, v, q', _⟩
      · exact E.inj i j d d' a (by rw [← q1]; exact h1) (by rw [← p1]; exact h2) (by rw [← q2]; exact h3) (by rw [← p2]; exact h4)
      · rw [q'] at h2; cases h2
      · rw [q'] at h2; cases h2
    · rw [q'] at h1; cases h1
    · rw [q'] at h1; cases h1
end
theorem hide_len : ∀ (is : List Nat) (e : Env), (hide e is).length = e.length
  | [], _ => rfl
  | i :: is, e => by rw [hide, hide_len is, List.length_set]
theorem hide_out : ∀ {is : List Nat} {e : Env} {j : Nat}, j ∉ is → (hide e is)[j]? = e[j]?
  | [], _, _, _ => rfl
  | i :: is, e, j, h => by
    rw [hide, hide_out (fun z => h (List.mem_cons_of_mem _ z)), List.getElem?_set_ne fun z => h (by rw [z]; exact List.mem_cons_self)]
theorem hide_none : ∀ {is : List Nat} {e : Env} {j : Nat}, e[j]? = some none → (hide e is)[j]? = some none
  | [], _, _, h => h
  | i :: is, e, j, h => by
    rw [hide]
    refine hide_none ?_
    by_cases z : i = j
    · subst z
      rw [List.getElem?_set_self (List.getElem?_eq_some_iff.mp h).1]
    · rw [List.getElem?_set_ne z]; exact h
theorem hide_in : ∀ {is : List Nat} {e : Env} {j : Nat}, j ∈ is → j < e.length → (hide e is)[j]? = some none
  | i :: is, e, j, h, hl => by
    rw [hide]
    by_cases z : j ∈ is
    · exact hide_in z (by rw [List.length_set]; exact hl)
    · rcases List.mem_cons.mp h with rfl | q
      · exact hide_none (List.getElem?_set_self hl)
      · exact absurd q z
theorem back_len : ∀ (is : List Nat) (e0 e : Env), (back e0 e is).length = e.length
  | [], _, _ => rfl
  | i :: is, e0, e => by rw [back, back_len is, List.length_set]
theorem back_out : ∀ {is : List Nat} {e0 e : Env} {j : Nat}, j ∉ is → (back e0 e is)[j]? = e[j]?
  | [], _, _, _, _ => rfl
  | i :: is, e0, e, j, h => by
    rw [back, back_out (fun z => h (List.mem_cons_of_mem _ z)), List.getElem?_set_ne fun z => h (by rw [z]; exact List.mem_cons_self)]
theorem back_keep : ∀ {is : List Nat} {e0 e : Env} {j : Nat}, e[j]? = some (e0[j]?.join) → (back e0 e is)[j]? = some (e0[j]?.join)
  | [], _, _, _, h => h
  | i :: is, e0, e, j, h => by
    rw [back]
    refine back_keep ?_
    by_cases z : i = j
    · subst z
      rw [List.getElem?_set_self (List.getElem?_eq_some_iff.mp h).1]
    · rw [List.getElem?_set_ne z]; exact h
theorem back_in : ∀ {is : List Nat} {e0 e : Env} {j : Nat}, j ∈ is → j < e.length → (back e0 e is)[j]? = some (e0[j]?.join)
  | i :: is, e0, e, j, h, hl => by
    rw [back]
    by_cases z : j ∈ is
    · exact back_in z (by rw [List.length_set]; exact hl)
    · rcases List.mem_cons.mp h with rfl | q
      · exact back_keep (List.getElem?_set_self hl)
      · exact absurd q z
theorem close_len (e : Env) (i : Nat) : (close e i).length = e.length := by
  unfold close
  split
  · rw [List.length_set]
  · rfl
theorem shut_len : ∀ (is : List Nat) (e : Env), (shut e is).length = e.length
  | [], _ => rfl
  | i :: is, e => by rw [shut, shut_len is, close_len]
theorem close_out {e : Env} {i j : Nat} (h : j ≠ i) : (close e i)[j]? = e[j]? := by
  unfold close
  split
  · rw [List.getElem?_set_ne fun z => h z.symm]
  · rfl
theorem shut_out : ∀ {is : List Nat} {e : Env} {j : Nat}, j ∉ is → (shut e is)[j]? = e[j]?
  | [], _, _, _ => rfl
  | i :: is, e, j, h => by
    rw [shut, shut_out (fun z => h (List.mem_cons_of_mem _ z)), close_out fun z => h (by rw [z]; exact List.mem_cons_self)]
theorem close_own {e : Env} {i j : Nat} {d : D} (h : (close e i)[j]? = some (some (true, d))) : e[j]? = some (some (true, d)) ∧ j ≠ i := by
  unfold close at h
  split at h
  · rename_i o d' hj
    rcases set_get_cases h with ⟨_, q, _⟩ | ⟨ne, q⟩
    · cases q
    · exact ⟨q, fun z => ne z.symm⟩
  · rename_i hj
    refine ⟨h, fun z => ?_⟩
    subst z
    rw [h] at hj
    cases hj
theorem shut_own : ∀ {is : List Nat} {e : Env} {j : Nat} {d : D}, (shut e is)[j]? = some (some (true, d)) → e[j]? = some (some (true, d)) ∧ j ∉ is
  | [], _, _, _, h => ⟨h, by simp⟩
  | i :: is, e, j, d, h => by
    rw [shut] at h
    obtain ⟨h1, h2⟩ := shut_own h
    obtain ⟨h3, h4⟩ := close_own h1
    exact ⟨h3, by rw [List.mem_cons, not_or]; exact ⟨h4, h2⟩⟩
section
variable {K : PySem.W.Frag} {B : Addr → Prop} {σ σ' : L2.St} {H H' : Hp} {e e' : Env}
theorem Bet.close (E : EOk K B σ H e) (i : Nat) : Bet K B σ H e H (close e i) := by
  unfold DI.close
  split
  · rename_i o d hj
    have he := join_of hj
    cases o with
    | true => exact Bet.leak E he
    | false => rw [set_same he]; exact Bet.refl E
  · exact Bet.refl E
theorem Bet.shut : ∀ (is : List Nat) {e : Env}, EOk K B σ H e → Bet K B σ H e H (shut e is)
  | [], _, E => Bet.refl E
  | i :: is, e, E => by
    rw [DI.shut]
    exact (Bet.close E i).trans (Bet.shut is (Bet.close E i).ok)
/-- the block's own names forgotten -/
theorem EOk.clean (E : EOk K B σ H e) (is : List Nat) : EOk K B (wipe σ is) H (hide (shut e is) is) ∧ ∀ a, Ow (wipe σ is) (hide (shut e is) is) a → Ow σ (shut e is) a := by
  have b := Bet.shut is E
  exact b.ok.reb (σ := wipe σ is) (e := hide (shut e is) is) (by rw [hide_len, shut_len, wipe_length, E.len]) fun j => by
    by_cases hj : j ∈ is
    · by_cases hl : j < e.length
      · exact .inr (.inl (hide_in hj (by rw [shut_len]; exact hl)))
      · refine .inl ⟨?_, ?_⟩
        · rw [List.getElem?_eq_none (by rw [hide_len, shut_len]; omega), List.getElem?_eq_none (by rw [shut_len]; omega)]
        · rw [List.getElem?_eq_none (by rw [wipe_length, ← E.len]; omega), List.getElem?_eq_none (by rw [← E.len]; omega)]
    · exact .inl ⟨hide_out hj, wipe_out hj⟩
theorem told_clean (is : List Nat) (e : Env) : ∀ (j : Nat) p, e[j]? = some (some p) → j ∉ is → ∃ q, (hide (shut e is) is)[j]? = some (some q) := fun j p h hj => ⟨p, by rw [hide_out hj, shut_out hj]; exact h⟩
theorem EOk.barred {D0 : Addr} (E : EOk K B σ H e) (x : Evo (isP D0) H H') (hD : B D0) : EOk K B σ H' e := by
  have m : ∀ a u, H a = some u → ¬ orP B (Ow σ e) a → H' a = some u ∧ ¬ orP B (Ow σ e) a := fun a u q n => ⟨x.keep a u q fun z => n (.inl (by rw [show a = D0 from z]; exact hD)), n⟩
  exact ⟨E.len, fun i d h => let ⟨v, h1, h2⟩ := E.frz i d h; ⟨v, h1, h2.mono m⟩, fun i d h => let ⟨a, h1, h2, h3⟩ := E.own i d h; ⟨a, h1, h2, h3.mono (fun o q => x.keep a o q fun z => h2 (by rw [show a = D0 from z]; exact hD)) m⟩, E.inj, fun a h => let ⟨o, q⟩ := E.bdom a h; x.there a o q⟩
end
end DI

end
section
/-! DiL: targets; comprehensions of one clause. -/
namespace DI
open PySem PySem.Spec PyProof.Rows L2
def gNames : List Nat → TGs
  | [] => gNil
  | i :: is => gCons (gName i) (gNames is)
def tgD (K : PySem.W.Frag) : Tg → TG
  | .n i => gName i
  | .t is => gTup K is.length (gNames is)
section
variable {K : PySem.W.Frag} {B : Addr → Prop} {σ σ' : L2.St} {H H' : Hp} {e e' : Env} {i : Nat} {v : V} {d : D}
/-- a slot gets what is everybody's -/
theorem EOk.put (E : EOk K B σ H e) (r : Rp K H (orP B (Ow σ e)) v d) : EOk K B (σ.set i (some v)) H (e.set i (some (false, d))) ∧ ∀ a, Ow (σ.set i (some v)) (e.set i (some (false, d))) a → Ow σ e a :=
  E.reb (by rw [List.length_set, List.length_set, E.len]) fun j => by
    by_cases z : i = j
    · subst z
      by_cases hl : i < e.length
      · exact .inr (.inr ⟨d, v, List.getElem?_set_self hl, List.getElem?_set_self (by rw [← E.len]; exact hl), r⟩)
      · refine .inl ⟨?_, ?_⟩
        · rw [List.getElem?_eq_none (by rw [List.length_set]; omega), List.getElem?_eq_none (by omega)]
        · rw [List.getElem?_eq_none (by rw [List.length_set, ← E.len]; omega), List.getElem?_eq_none (by rw [← E.len]; omega)]
    · exact .inl ⟨List.getElem?_set_ne z, List.getElem?_set_ne z⟩
theorem told_put (e : Env) (i : Nat) (p : Bool × D) : Told e (e.set i (some p)) := fun j q h => by
  by_cases z : i = j
  · subst z
    exact ⟨p, by rw [List.getElem?_set_self (List.getElem?_eq_some_iff.mp h).1]⟩
  · exact ⟨q, by rw [List.getElem?_set_ne z]; exact h⟩
/-- what a store leaves -/
structure Put (K : PySem.W.Frag) (B : Addr → Prop) (σ : L2.St) (H : Hp) (e : Env) (is : List Nat) (σ1 : L2.St) (e1 : Env) : Prop where
  ok : EOk K B σ1 H e1
  ows : ∀ a, Ow σ1 e1 a → Ow σ e a
  told : Told e e1
  out : ∀ j : Nat, j ∉ is → σ1[j]? = σ[j]? ∧ e1[j]? = e[j]?
  len : σ1.length = σ.length
theorem setAll_ok : ∀ {is : List Nat} {ds : List D} {vs : List V} {σ : L2.St} {e : Env} {Q : L2.St → Hp → Prop}, is.length = ds.length → EOk K B σ H e → RpL K H (orP B (Ow σ e)) vs ds →
    (∀ σ1, Put K B σ H e is σ1 (setAll e is ds) → Q σ1 H) → gNames is vs σ H Q
  | [], [], _, σ, e, Q, _, E, .nil, h => ⟨rfl, h σ ⟨E, fun _ z => z, Told.refl e, fun _ _ => ⟨rfl, rfl⟩, rfl⟩⟩
  | i :: is, d :: ds, v :: vs, σ, e, Q, hl, E, .cons r rr, h => by
    refine ⟨v, vs, rfl, ?_⟩
    show gNames is vs (σ.set i (some v)) H Q
    obtain ⟨E1, o1⟩ := E.put (i := i) r
    refine setAll_ok (by simpa using hl) E1 (rr.weak fun a z => z.elim .inl fun z => .inr (o1 a z)) fun σ1 p => h σ1 ?_
    refine ⟨p.ok, fun a z => o1 a (p.ows a z), (told_put e i _).trans p.told, fun j hj => ?_, by rw [p.len, List.length_set]⟩
    rw [List.mem_cons, not_or] at hj
    obtain ⟨q1, q2⟩ := p.out j hj.2
    exact ⟨by rw [q1, List.getElem?_set_ne fun z => hj.1 z.symm], by rw [setAll, q2, List.getElem?_set_ne fun z => hj.1 z.symm]⟩
  | [], _ :: _, _, _, _, _, hl, _, _, _ => by cases hl
  | _ :: _, [], _, _, _, _, hl, _, _, _ => by cases hl
theorem bind_ok {t : Tg} {e1 : Env} {Q : L2.St → Hp → Prop} (E : EOk K B σ H e) (r : Rp K H (orP B (Ow σ e)) v d) (hb : bindTg t d e = some e1) (h : ∀ σ1, Put K B σ H e t.slots σ1 e1 → Q σ1 H) : tgD K t v σ H Q := by
  cases t with
  | n i =>
    cases hb
    obtain ⟨E1, o1⟩ := E.put (i := i) r
    refine h _ ⟨E1, o1, told_put e i _, fun j hj => ?_, List.length_set⟩
    have ne : i ≠ j := fun z => hj (by rw [z]; exact List.mem_cons_self)
    exact ⟨List.getElem?_set_ne ne, List.getElem?_set_ne ne⟩
  | t is =>
    unfold bindTg at hb
    cases r with
    | @tup a xs ds h1 h2 =>
      simp only at hb
      split at hb
      · rename_i hl
        cases hb
        have hl : ds.length = is.length := by simpa using hl
        exact ⟨a, xs, rfl, h1.sq, by rw [h2.length, hl], setAll_ok hl.symm E h2 h⟩
      · cases hb
    | _ => cases hb
theorem wipe_get {vs : List Nat} {j : Nat} (σ : L2.St) (h : j ∈ vs) (hl : j < σ.length) : (wipe σ vs)[j]? = some none := by
  cases q : (wipe σ vs)[j]? with
  | none => rw [List.getElem?_eq_none_iff, wipe_length] at q; omega
  | some x =>
    cases x with
    | none => rfl
    | some x => exact absurd h (wipe_some q).2
theorem wipe_eq {vs : List Nat} {σ σ1 : L2.St} (hl : σ1.length = σ.length) (h : ∀ j : Nat, j ∉ vs → σ1[j]? = σ[j]?) : wipe σ1 vs = wipe σ vs := by
  apply List.ext_getElem?
  intro j
  by_cases hj : j ∈ vs
  · by_cases q : j < σ.length
    · rw [wipe_get σ hj q, wipe_get σ1 hj (by omega)]
    · rw [List.getElem?_eq_none (by rw [wipe_length]; omega), List.getElem?_eq_none (by rw [wipe_length]; omega)]
  · rw [wipe_out hj, wipe_out hj, h j hj]
end
abbrev Wf : WX := fun _ _ _ _ => False
section
variable {X : Cx} {C : Cy} {W : WX}
/-- the state of a comprehension ahead of turn i: Dl the new list, e1 the slots ahead (its own names shut) -/
structure LcI (C : Cy) (B : Addr → Prop) (σ : L2.St) (es : Env) (H1 : Hp) (sl : List Nat) (Dl : Addr) (G : Hp → (Addr → Prop) → Prop) (T : List D → Env → Prop) (i : Nat) (H' : Hp) (e' : Env) (acc : List D) (av : List V) : Prop where
  at_ : H' Dl = some (.lst av)
  len : acc.length ≤ i
  ok : EOk C.K (orP B (isP Dl)) (wipe σ sl) H' e'
  ows : ∀ a, Ow (wipe σ sl) e' a → Ow σ es a
  evo : Evo (Ow σ es) H1 H'
  told : ∀ (j : Nat) p, es[j]? = some (some p) → j ∉ sl → ∃ q, e'[j]? = some (some q)
  rp : RpL C.K H' (orP (orP B (isP Dl)) (Ow (wipe σ sl) e')) av acc
  gd : G H' (orP (orP B (isP Dl)) (Ow (wipe σ sl) e'))
  go : T acc e'
theorem lc_imp {t : Tg} {Sit : Env → Res (List D)} {Sc : Env → Res Bool} {Sa : Env → Res Rv} (σ : L2.St) (H : Hp) (Q : VK)
    (h : tE C W (fun e => (Sit e).bind fun xs e1 => (turns (bindTg t) Sc (fun e => (Sa e).bind leak) (fun e => hide (shut e t.slots) t.slots) xs [] (hide (shut e1 t.slots) t.slots)).calm.bind fun ys e2 => .ok (.val true (.list ys)) (back (shut e1 t.slots) e2 t.slots)) σ H Q) :
    tLc (tI C W Sit) (tgD C.K t) (tC C Wf Sc) (tE C Wf Sa) t.slots σ H Q := by
  obtain ⟨B, e, E, h⟩ := h
  refine ⟨B, e, E, (Post.bind h).mono fun ds e1 he h hz J H1 G b1 src Dl hD => ?_⟩
  generalize hsl : t.slots = sl at *
  cases hT : turns (bindTg t) Sc (fun e => (Sa e).bind leak) (fun e => hide (shut e sl) sl) ds [] (hide (shut e1 sl) sl) with
  | stuck => rw [hT] at h; exact (show False from h).elim
  | exc c fs e' => rw [hT] at h; exact (show False from h).elim
  | ok ys e2 =>
    rw [hT] at h
    have bs := Bet.shut sl b1.ok
    have len_es : (shut e1 sl).length = σ.length := bs.ok.len
    generalize hes : shut e1 sl = es at *
    have hDes : H1 Dl = none := hD
    -- the invariant
    let I := LcI C B σ es H1 sl Dl G
    let T : Nat → List D → Env → Prop := fun i acc e' => turns (bindTg t) Sc (fun e => (Sa e).bind leak) (fun e => hide (shut e sl) sl) (ds.drop i) acc e' = .ok ys e2
    have mD : ∀ {H' : Hp} {O : Addr → Prop}, Evo (Ow σ es) H1 H' → (∀ a, O a → Ow σ es a) → ∀ a u, H1 a = some u → ¬ orP B (Ow σ es) a → H' a = some u ∧ ¬ orP (orP B (isP Dl)) O a := fun {H' O} ev ow a u q n => by
      refine ⟨ev.keep a u q fun z => n (.inr z), fun z => ?_⟩
      rcases z with (z | z) | z
      · exact n (.inl z)
      · rw [show a = Dl from z, hD] at q; cases q
      · exact n (.inr (ow a z))
    refine ⟨fun i m H' => m = ds.length - i ∧ i ≤ ds.length ∧ ∃ e' acc av, I (T i) i H' e' acc av, ⟨_, rfl, Nat.zero_le _, hide es sl, [], [], ?_⟩, ?_⟩
    · have E1 := (b1.ok.fresh (ext_upd hD (o := .lst [])) hD ⟨_, upd_same⟩).clean sl
      rw [hes] at E1
      have ev : Evo (Ow σ es) H1 (upd H1 Dl (.lst [])) := (ext_upd hD).evo
      refine ⟨upd_same, Nat.le_refl _, E1.1, E1.2, ev, fun j p q hj => ⟨p, by rw [hide_out hj]; exact q⟩, .nil, ?_, hT⟩
      exact src.mono _ _ _ _ src.start fun a u q n => mD ev E1.2 a u q fun z => n (z.elim .inl fun z => .inr (bs.ows a z))
    · rintro i m H' ⟨rfl, hi, e', acc, av, I0⟩
      by_cases hlt : i < ds.length
      · refine .inr ⟨src.goes i H' _ hlt I0.gd, fun H' => ∃ e' acc av, I (T (i + 1)) (i + 1) H' e' acc av, fun H2 n2 => ⟨ds.length - (i + 1), by omega, rfl, hlt, n2⟩, fun x H2 y => ?_⟩
        have hd : ds[i]? = some ds[i] := by simp [hlt]
        obtain ⟨x2, rp⟩ := src.yields i H' _ x H2 _ hd I0.gd (fun a z => I0.ok.x_there z) y
        have g0 : turns (bindTg t) Sc (fun e => (Sa e).bind leak) (fun e => hide (shut e sl) sl) (ds.drop i) acc e' = .ok ys e2 := I0.go
        rw [List.drop_eq_getElem_cons hlt, turns] at g0
        cases hb : bindTg t ds[i] e' with
        | none => simp only [hb] at g0; cases g0
        | some f1 =>
        simp only [hb] at g0
        cases hc : Sc f1 with
        | stuck => rw [hc] at g0; cases g0
        | exc c fs e' => rw [hc] at g0; cases g0
        | ok b f2 =>
        rw [hc] at g0
        have E2 := I0.ok.ext x2
        refine bind_ok E2 rp hb fun σ1 p => ?_
        rw [hsl] at p
        have hw : wipe σ1 sl = wipe σ sl := by
          refine wipe_eq (by rw [p.len, wipe_length]) fun j hj => ?_
          rw [(p.out j hj).1, wipe_out hj]
        refine ⟨hw, _, f1, p.ok, ?_⟩
        rw [hc]
        intro b' H3 b3 eb
        cases (show b' = b from eb)
        -- the end of a turn
        have fin : ∀ {H4 : Hp} {f : Env} {acc' : List D} {av' : List V}, H4 Dl = some (.lst av') → acc'.length ≤ i + 1 → EOk C.K (orP B (isP Dl)) σ1 H4 f → (∀ a, Ow σ1 f a → Ow σ es a) → Evo (Ow σ es) H1 H4 → Told f1 f →
            RpL C.K H4 (orP (orP B (isP Dl)) (Ow σ es)) av' acc' ∨ RpL C.K H4 (orP (orP B (isP Dl)) (Ow σ1 f)) av' acc' → T (i + 1) acc' (hide (shut f sl) sl) → ∃ e' acc av, I (T (i + 1)) (i + 1) H4 e' acc av := fun {H4 f acc' av'} q1 q2 q3 q4 q5 q6 q7 q8 => by
          have cl := q3.clean sl
          rw [hw] at cl
          have ow : ∀ a, Ow (wipe σ sl) (hide (shut f sl) sl) a → Ow σ1 f a := fun a z => (Bet.shut sl q3).ows a (cl.2 a z)
          refine ⟨_, acc', av', q1, q2, cl.1, fun a z => q4 a (ow a z), q5, fun j p' hj hn => ?_, ?_, ?_, q8⟩
          · obtain ⟨p1, h1⟩ := I0.told j p' hj hn
            obtain ⟨p2, h2⟩ := p.told j p1 h1
            obtain ⟨p3, h3⟩ := q6 j p2 h2
            exact told_clean sl f j p3 h3 hn
          · rcases q7 with q7 | q7
            · exact q7.weak fun a z => z.elim .inl fun z => .inr (q4 a (ow a z))
            · exact q7.weak fun a z => z.elim .inl fun z => .inr (ow a z)
          · exact src.mono _ _ _ _ src.start fun a u q n => mD q5 (fun a z => q4 a (ow a z)) a u q fun z => n (z.elim .inl fun z => .inr (bs.ows a z))
        have ow1 : ∀ a, Ow σ1 f1 a → Ow σ es a := fun a z => I0.ows a (p.ows a z)
        have nD : ∀ {f : Env} {H4 : Hp}, EOk C.K (orP B (isP Dl)) σ1 H4 f → ¬ Ow σ1 f Dl := fun {f H4} Ef z => by
          obtain ⟨j, d, z1, z2⟩ := z
          obtain ⟨a, z3, z4, _⟩ := Ef.own j d z1
          rw [z2] at z3
          cases z3
          exact z4 (.inr rfl)
        have ev3 : Evo (Ow σ es) H1 H3 := (I0.evo.trans (ExtH.evo (O := Ow σ es) x2) fun _ z => z).trans b3.evo ow1
        have at3 : H3 Dl = some (.lst av) := b3.evo.keep _ _ (x2 _ _ I0.at_) (nD p.ok)
        have rp1 : RpL C.K H2 (orP (orP B (isP Dl)) (Ow σ1 f1)) av acc := I0.rp.mono fun a u q n => ⟨x2 a u q, fun z => n (z.elim .inl fun z => .inr (p.ows a z))⟩
        have rp3 := RpL.keep rp1 b3
        cases b with
        | false =>
          rw [if_neg Bool.false_ne_true]
          exact fin at3 (Nat.le_succ_of_le I0.len) b3.ok (fun a z => ow1 a (b3.ows a z)) ev3 b3.told (.inr rp3) g0
        | true =>
          rw [if_pos rfl]
          have g0 : ((Sa f2).bind leak).bind (fun y e3 => turns (bindTg t) Sc (fun e => (Sa e).bind leak) (fun e => hide (shut e sl) sl) (ds.drop (i + 1)) (acc ++ [y]) (hide (shut e3 sl) sl)) = .ok ys e2 := g0
          cases ha : Sa f2 with
          | stuck => rw [ha] at g0; cases g0
          | exc c fs e' => rw [ha] at g0; cases g0
          | ok r f3 =>
          rw [ha] at g0
          have g0 : (leak r f3).bind (fun y e3 => turns (bindTg t) Sc (fun e => (Sa e).bind leak) (fun e => hide (shut e sl) sl) (ds.drop (i + 1)) (acc ++ [y]) (hide (shut e3 sl) sl)) = .ok ys e2 := g0
          refine ⟨_, f2, b3.ok, ?_⟩
          rw [ha]
          intro v H4 b4 p4
          obtain ⟨y, f4, hl, b5, rpv, g0⟩ := leak_ok (W := Wf) (k := fun y f4 => turns (bindTg t) Sc (fun e => (Sa e).bind leak) (fun e => hide (shut e sl) sl) (ds.drop (i + 1)) (acc ++ [y]) (hide (shut f4 sl) sl) = .ok ys e2) b4.ok (p4.lok b3.ok.bdom) (by
            cases hl : leak r f3 with
            | stuck => rw [hl] at g0; cases g0
            | exc c fs e' => exact (leak_ne hl).elim
            | ok d e2' => rw [hl] at g0; exact g0)
          have b35 := b4.trans b5
          have at4 : H4 Dl = some (.lst av) := b35.evo.keep _ _ at3 (nD b3.ok)
          have rp4 := RpL.keep rp3 b35
          refine ⟨av, at4, by rw [rp4.length]; have := I0.len; omega, ?_⟩
          have x5 : Evo (isP Dl) H4 (upd H4 Dl (.lst (av ++ [v]))) := ⟨fun a o q n => by rw [upd_ne n]; exact q, fun a o q => by
            by_cases z : a = Dl
            · rw [z]; exact ⟨_, upd_same⟩
            · exact ⟨o, by rw [upd_ne z]; exact q⟩⟩
          have m5 : ∀ a u, H4 a = some u → ¬ orP (orP B (isP Dl)) (Ow σ1 f4) a → (upd H4 Dl (.lst (av ++ [v]))) a = some u ∧ ¬ orP (orP B (isP Dl)) (Ow σ1 f4) a := fun a u q n => ⟨x5.keep a u q fun z => n (.inl (.inr z)), n⟩
          refine fin upd_same (by rw [List.length_append]; have := I0.len; simp; omega) (b35.ok.barred x5 (.inr rfl)) (fun a z => ow1 a (b3.ows a (b35.ows a z))) ?_ (b3.told.trans b35.told) (.inr ((rp4.mono m5).app (.one (rpv.mono m5)))) g0
          have ev4 := ev3.trans b35.evo fun a z => ow1 a (b3.ows a z)
          refine ⟨fun a o q n => x5.keep a o (ev4.keep a o q n) fun z => ?_, fun a o q => let ⟨o', q'⟩ := ev4.there a o q; x5.there a o' q'⟩
          rw [show a = Dl from z, hD] at q
          cases q
      · have e0 : i = ds.length := by omega
        subst e0
        refine .inl ⟨src.stops H' _ I0.gd, ?_⟩
        have g0 : turns (bindTg t) Sc (fun e => (Sa e).bind leak) (fun e => hide (shut e sl) sl) (ds.drop ds.length) acc e' = .ok ys e2 := I0.go
        rw [List.drop_length, turns] at g0
        cases g0
        have le : e2.length = es.length := by rw [I0.ok.len, wipe_length, len_es]
        obtain ⟨E2, o2⟩ := I0.ok.reb (σ := σ) (e := back es e2 sl) (by rw [back_len, le, len_es]) fun j => by
          by_cases hj : j ∈ sl
          · by_cases hl : j < e2.length
            · have hb := back_in (e0 := es) hj hl
              cases hx : es[j]?.join with
              | none => rw [hx] at hb; exact .inr (.inl hb)
              | some p =>
                rw [hx] at hb
                obtain ⟨o, d⟩ := p
                have hx := join_of hx
                cases o with
                | true => rw [← hes] at hx; exact absurd hj (shut_own hx).2
                | false =>
                  obtain ⟨v, h1, h2⟩ := bs.ok.frz j d hx
                  exact .inr (.inr ⟨d, v, hb, h1, h2.mono (mD I0.evo I0.ows)⟩)
            · refine .inl ⟨?_, ?_⟩
              · rw [List.getElem?_eq_none (by rw [back_len]; omega), List.getElem?_eq_none (by omega)]
              · rw [List.getElem?_eq_none (by rw [← len_es]; omega), List.getElem?_eq_none (by rw [wipe_length, ← len_es]; omega)]
          · exact .inl ⟨back_out hj, (wipe_out hj).symm⟩
        have bt : Bet C.K B σ H1 es H' (back es e2 sl) := ⟨E2.less fun a z => .inl z, I0.evo, fun a z => I0.ows a (o2 a z), fun j p hj => by
          by_cases hs : j ∈ sl
          · exact ⟨p, by rw [back_in hs (by rw [le]; exact (List.getElem?_eq_some_iff.mp hj).1), hj]; rfl⟩
          · obtain ⟨q, hq⟩ := I0.told j p hj hs
            exact ⟨q, by rw [back_out hs]; exact hq⟩⟩
        refine h (.ref Dl) H' ((b1.trans bs).trans bt) ⟨Dl, rfl, b1.evo.fresh hD, ⟨av, I0.at_, I0.rp.weak fun a z => z.elim .inl fun z => .inr (o2 a z)⟩, E2⟩
theorem pts_nilD : PTs X [] (tC C Wf fun e => .ok true e) := ⟨fun pins s σ H Q I h => pts_nil.run pins s σ H Q I (by obtain ⟨B, e, E, h⟩ := h; exact h true H (Bet.refl E) rfl)⟩
theorem pe_lcD {elt tg iter : Expr} {ifs : List Expr} {scope : Scope} {own : List (Str × Nat)} {pos : Pos} {t : Tg} {Sit : Env → Res (List D)} {Sc : Env → Res Bool} {Sa : Env → Res Rv} (hc : X.calm = true) (hN : X.N.Nodup) (hi : PI X tg iter (tI C W Sit)) (ok : BlkOk X.N X.env.scope scope own) (ho : own.map (·.2) = t.slots)
    (hg : ∀ (s : Shared) (H : Hp) (A : Addr) (cl : List (Str × Addr)) (fp : List Addr), PG (X.blk s H scope (compEnvC scope cl A X.env) fp) tg (tgD C.K t)) (ht : ∀ (s : Shared) (H : Hp) (A : Addr) (cl : List (Str × Addr)) (fp : List Addr), PTs (X.blk s H scope (compEnvC scope cl A X.env) fp) ifs (tC C Wf Sc))
    (he : ∀ (s : Shared) (H : Hp) (A : Addr) (cl : List (Str × Addr)) (fp : List Addr), PE (X.blk s H scope (compEnvC scope cl A X.env) fp) elt (tE C Wf Sa)) (hs : ∀ x, foldedSetIterable iter X.env x = pure x) :
    PE X (.ListComp elt [⟨tg, iter, ifs, 0⟩] scope pos) (tE C W fun e => (Sit e).bind fun xs e1 => (turns (bindTg t) Sc (fun e => (Sa e).bind leak) (fun e => hide (shut e t.slots) t.slots) xs [] (hide (shut e1 t.slots) t.slots)).calm.bind fun ys e2 => .ok (.val true (.list ys)) (back (shut e1 t.slots) e2 t.slots)) :=
  (pe_lc hc hN hi ok hg ht he hs).impD fun σ H Q h => by rw [ho]; exact lc_imp σ H Q h
end
end DI

end
section
/-! DiM: statements. -/
namespace DI
open PySem PySem.Spec PyProof.Rows L2
/-- a frame: what is barred; the heap at its start; what may change of it; the object of the first parameter where it is the def's to change -/
structure Fr where
  B : Addr → Prop
  H0 : Hp
  A0 : Addr → Prop
  io : Option Addr
structure SOk (C : Cy) (f : Fr) (σ : L2.St) (H : Hp) (e : Env) : Prop where
  ok : EOk C.K f.B σ H e
  evo : Evo f.A0 f.H0 H
  ows : ∀ a, Ow σ e a → f.A0 a ∨ f.H0 a = none
  io : ∀ a0, f.io = some a0 → σ[0]? = some (some (V.ref a0))
/-- a value that is returned -/
def SRet (C : Cy) (f : Fr) (own : Bool) (d : D) (w : V) (σ : L2.St) (H : Hp) (e : Env) : Prop :=
  match own with
  | false => Rp C.K H (orP f.B (Ow σ e)) w d
  | true => ∃ a, w = .ref a ∧ (f.A0 a ∨ f.H0 a = none) ∧ ¬ f.B a ∧ OwnAt C.K H (orP (orP f.B (isP a)) (Ow σ e)) a d ∧ EOk C.K (orP f.B (isP a)) σ H e
def PostF (C : Cy) (W : WX) (f : Fr) (Dn : Ends) (r : Flow) : Prop :=
  match r with
  | .stuck => False
  | .nx e' => ∀ σ' H', SOk C f σ' H' e' → Dn.nx σ' H'
  | .bk e' => ∀ σ' H', SOk C f σ' H' e' → Dn.bk σ' H'
  | .rt own d e' => ∀ w σ' H', SOk C f σ' H' e' → SRet C f own d w σ' H' e' → Dn.rt w H'
  | .exc c fs e' => ∀ cls dx σ' H', XRep C H' (orP f.B (Ow σ' e')) cls dx c fs → SOk C f σ' H' e' → W cls dx σ' H'
def tS (C : Cy) (W : WX) (io : Bool) (S : Env → Flow) : TS := fun Dn σ H => ∃ f e, (f.io.isSome = true → io = true) ∧ SOk C f σ H e ∧ PostF C W f Dn (S e)
section
variable {C : Cy} {W : WX} {f : Fr} {σ σ' : L2.St} {H H' : Hp} {e e' : Env} {Dn : Ends} {io : Bool}
theorem SOk.bet (S : SOk C f σ H e) (b : Bet C.K f.B σ H e H' e') : SOk C f σ H' e' := by
  refine ⟨b.ok, ⟨fun a o q n => ?_, fun a o q => ?_⟩, fun a z => S.ows a (b.ows a z), S.io⟩
  · refine b.evo.keep a o (S.evo.keep a o q n) fun z => ?_
    rcases S.ows a z with z | z
    · exact n z
    · rw [q] at z; cases z
  · obtain ⟨o', q'⟩ := S.evo.there a o q
    exact b.evo.there a o' q'
theorem PostF.flow {α : Type} {r : Res α} {g : α → Env → Flow} (S : SOk C f σ H e) (h : PostF C W f Dn (r.flow g)) : Post C W f.B σ H e r fun a e1 => PostF C W f Dn (g a e1) := by
  cases r with
  | stuck => exact h
  | ok a e1 => exact h
  | exc c fs e1 => exact fun cls d H' x b => h cls d σ H' x (S.bet b)
/-- the same frame's io in another -/
theorem tS_nx {S : Env → Flow} {f : Fr} (hio : f.io.isSome = true → io = true) (k : SOk C f σ H e) (h : PostF C W f Dn (S e)) : tS C W io S Dn σ H := ⟨f, e, hio, k, h⟩
variable {X : Cx} {a b c : Expr} {pos p : Pos} {st : Stmt} {sts : List Stmt}
theorem pss_nilD : PSs X [] (tS C W io fun e => .nx e) := ⟨fun pins s σ H Dn I h => pss_nil.run pins s σ H Dn I (by obtain ⟨f, e, hio, k, h⟩ := h; exact h σ H k)⟩
theorem ps_passD : PS X (.Pass pos) (tS C W io fun e => .nx e) := ⟨fun pins s σ H Dn I h => ps_pass.run pins s σ H Dn I (by obtain ⟨f, e, hio, k, h⟩ := h; exact h σ H k)⟩
theorem ps_breakD : PS X (.Break pos) (tS C W io fun e => .bk e) := ⟨fun pins s σ H Dn I h => ps_break.run pins s σ H Dn I (by obtain ⟨f, e, hio, k, h⟩ := h; exact h σ H k)⟩
theorem pss_consD {S T : Env → Flow} (h1 : PS X st (tS C W io S)) (h2 : PSs X sts (tS C W io T)) : PSs X (st :: sts) (tS C W io fun e => (S e).then T) := by
  refine (pss_cons h1 h2).impD fun Dn σ H h => ?_
  obtain ⟨f, e, hio, k, h⟩ := h
  refine ⟨f, e, hio, k, ?_⟩
  have h : PostF C W f Dn ((S e).then T) := h
  cases hs : S e with
  | nx e' => rw [hs] at h; exact fun σ' H' k' => ⟨f, e', hio, k', h⟩
  | _ => rw [hs] at h; exact h
theorem ps_ifD {p q : List Stmt} {Sc : Env → Res Bool} {S T : Env → Flow} (hc : PT X c (tC C W Sc)) (ha : PSs X p (tS C W io S)) (hb : PSs X q (tS C W io T)) : PS X (.If c p q pos) (tS C W io fun e => (Sc e).flow fun b e1 => if b then S e1 else T e1) := by
  refine (ps_if hc ha hb).impD fun Dn σ H h => ?_
  obtain ⟨f, e, hio, k, h⟩ := h
  refine ⟨f.B, e, k.ok, (PostF.flow k h).mono fun b e1 _ h b' H1 b1 eb => ?_⟩
  cases (show b' = b from eb)
  cases b with
  | true => rw [if_pos rfl] at h ⊢; exact ⟨f, e1, hio, k.bet b1, h⟩
  | false => rw [if_neg Bool.false_ne_true] at h ⊢; exact ⟨f, e1, hio, k.bet b1, h⟩
theorem ps_exD {S : Env → Res Rv} (he : PE X a (tE C W S)) (hs : swapsWith a none pos.line X.env = pure false) : PS X (.Expr a pos) (tS C W io fun e => (S e).flow fun _ e1 => .nx e1) := by
  refine (ps_expr he hs).impD fun Dn σ H h => ?_
  obtain ⟨f, e, hio, k, h⟩ := h
  exact ⟨f.B, e, k.ok, (PostF.flow k h).mono fun r e1 _ h v H1 b1 _ => h σ H1 (k.bet b1)⟩
theorem SOk.none_of (k : SOk C f σ H e) {a : Addr} (h : H a = none) : f.A0 a ∨ f.H0 a = none := .inr (k.evo.fresh h)
theorem ps_retD {S : Env → Res Rv} (he : PE X a (tE C W S)) : PS X (.Return (some a) pos) (tS C W io fun e => (S e).flow fun x e1 => match x with
    | .val o d => .rt o d e1
    | .ptr i => match e1[i]?.join with
      | some (o, d) => .rt o d (if o then e1.set i none else e1)
      | none => .stuck) := by
  refine (ps_ret he).impD fun Dn σ H h => ?_
  obtain ⟨f, e, hio, k, h⟩ := h
  refine ⟨f.B, e, k.ok, (PostF.flow k h).mono fun r e1 _ h v H1 b1 p1 => ?_⟩
  have k1 := k.bet b1
  cases r with
  | val o d =>
    refine h v σ H1 k1 ?_
    cases o with
    | false => exact p1
    | true =>
      obtain ⟨a, q0, q1, q2, q3⟩ := p1
      refine ⟨a, q0, k.none_of q1, fun z => ?_, q2, q3⟩
      obtain ⟨o, q⟩ := k.ok.bdom a z
      rw [q1] at q
      cases q
  | ptr i =>
    obtain ⟨q1, ⟨o, d⟩, q2⟩ := p1
    have hj : e1[i]?.join = some (o, d) := by rw [q2]; rfl
    simp only [hj] at h
    cases o with
    | false =>
      refine h v σ H1 k1 ?_
      obtain ⟨w, h1, h2⟩ := b1.ok.frz i d q2
      rw [q1] at h1
      cases h1
      exact h2
    | true =>
      rw [if_pos rfl] at h
      obtain ⟨a, h1, h2, h3⟩ := b1.ok.own i d q2
      rw [q1] at h1
      cases h1
      have hl : i < e1.length := (List.getElem?_eq_some_iff.mp q2).1
      -- without the slot
      have rb := b1.ok.reb (σ := σ) (e := e1.set i none) (by rw [List.length_set, b1.ok.len]) fun j => by
        by_cases z : i = j
        · subst z; exact .inr (.inl (List.getElem?_set_self hl))
        · exact .inl ⟨List.getElem?_set_ne z, rfl⟩
      have na : ¬ Ow σ (e1.set i none) a := fun ⟨j, d', z1, z2⟩ => by
        rcases set_get_cases z1 with ⟨_, z, _⟩ | ⟨ne, z⟩
        · cases z
        · exact ne (b1.ok.inj i j _ _ a q2 z q1 z2)
      have m : ∀ c u, H1 c = some u → ¬ orP f.B (Ow σ e1) c → H1 c = some u ∧ ¬ orP (orP f.B (isP a)) (Ow σ (e1.set i none)) c := fun c u q n => ⟨q, fun z => by
        rcases z with (z | z) | z
        · exact n (.inl z)
        · exact n (.inr (by rw [show c = a from z]; exact ⟨i, d, q2, q1⟩))
        · exact n (.inr (rb.2 c z))⟩
      have E2 : EOk C.K (orP f.B (isP a)) σ H1 (e1.set i none) := by
        refine ⟨rb.1.len, fun j d' z => ?_, fun j d' z => ?_, rb.1.inj, fun c z => ?_⟩
        · rcases set_get_cases z with ⟨_, z, _⟩ | ⟨ne, z⟩
          · cases z
          · obtain ⟨v, z1, z2⟩ := b1.ok.frz j d' z
            exact ⟨v, z1, z2.mono m⟩
        · have z' := z
          rcases set_get_cases z with ⟨_, z, _⟩ | ⟨ne, z⟩
          · cases z
          · obtain ⟨c, z1, z2, z3⟩ := b1.ok.own j d' z
            refine ⟨c, z1, fun y => ?_, z3.mono (fun _ e => e) m⟩
            rcases y with y | y
            · exact z2 y
            · exact na (by rw [← show c = a from y]; exact ⟨j, d', z', z1⟩)
        · rcases z with z | z
          · exact rb.1.bdom c z
          · rw [show c = a from z]; exact h3.there
      refine h (.ref a) σ H1 ⟨rb.1, k1.evo, fun c z => k1.ows c (rb.2 c z), k1.io⟩ ⟨a, rfl, k1.ows a ⟨i, d, q2, q1⟩, h2, h3.mono (fun _ e => e) m, E2⟩
theorem ps_retND : PS X (.Return none pos) (tS C W io fun e => .rt false .none e) := ⟨fun pins s σ H Dn I h => ps_retN.run pins s σ H Dn I (by obtain ⟨f, e, hio, k, h⟩ := h; exact h .non σ H k .none)⟩
end
end DI

end
section
/-! DiN: stores, loops. -/
namespace DI
open PySem PySem.Spec PyProof.Rows L2
section
variable {C : Cy} {W : WX} {f : Fr} {σ σ' : L2.St} {H H' : Hp} {e e' : Env} {Dn : Ends} {io : Bool}
theorem SOk.put (k : SOk C f σ H e) {is : List Nat} {σ1 : L2.St} {e1 : Env} (p : Put C.K f.B σ H e is σ1 e1) (h0 : f.io.isSome = true → 0 ∉ is) : SOk C f σ1 H e1 :=
  ⟨p.ok, k.evo, fun a z => k.ows a (p.ows a z), fun a0 h => by rw [(p.out 0 (h0 (by rw [h]; rfl))).1]; exact k.io a0 h⟩
/-- a new object comes to a slot: it is the slot's own -/
theorem EOk.putOwn {K : PySem.W.Frag} {B : Addr → Prop} {a : Addr} {i : Nat} {d : D} (E : EOk K (orP B (isP a)) σ H e) (o : OwnAt K H (orP (orP B (isP a)) (Ow σ e)) a d) (hB : ¬ B a) :
    EOk K B (σ.set i (some (.ref a))) H (e.set i (some (true, d))) ∧ ∀ c, Ow (σ.set i (some (.ref a))) (e.set i (some (true, d))) c → Ow σ e c ∨ c = a := by
  have ow : ∀ c, Ow (σ.set i (some (.ref a))) (e.set i (some (true, d))) c → Ow σ e c ∨ c = a := fun c ⟨j, d', z1, z2⟩ => by
    rcases set_get_cases z1 with ⟨rfl, z, hl⟩ | ⟨ne, z⟩
    · rw [List.getElem?_set_self (by rw [← E.len]; exact hl)] at z2
      cases z2
      exact .inr rfl
    · rw [List.getElem?_set_ne ne] at z2
      exact .inl ⟨j, d', z, z2⟩
  have na : ¬ Ow σ e a := fun ⟨j, d', z1, z2⟩ => by
    obtain ⟨c, h1, h2, _⟩ := E.own j d' z1
    rw [z2] at h1
    cases h1
    exact h2 (.inr rfl)
  have m : ∀ c u, H c = some u → ¬ orP (orP B (isP a)) (Ow σ e) c → H c = some u ∧ ¬ orP B (Ow (σ.set i (some (.ref a))) (e.set i (some (true, d)))) c := fun c u q n => ⟨q, fun z => by
    rcases z with z | z
    · exact n (.inl (.inl z))
    · rcases ow c z with z | z
      · exact n (.inr z)
      · exact n (.inl (.inr z))⟩
  refine ⟨⟨by rw [List.length_set, List.length_set]; exact E.len, fun j d' z => ?_, fun j d' z => ?_, fun j j2 d1 d2 c h1 h2 h3 h4 => ?_, fun c z => E.bdom c (.inl z)⟩, ow⟩
  · rcases set_get_cases z with ⟨_, z, _⟩ | ⟨ne, z⟩
    · cases z
    · obtain ⟨v, h1, h2⟩ := E.frz j d' z
      exact ⟨v, by rw [List.getElem?_set_ne ne]; exact h1, h2.mono m⟩
  · rcases set_get_cases z with ⟨rfl, z, hl⟩ | ⟨ne, z⟩
    · cases z
      exact ⟨a, List.getElem?_set_self (by rw [← E.len]; exact hl), hB, o.mono (fun _ e => e) m⟩
    · obtain ⟨c, h1, h2, h3⟩ := E.own j d' z
      exact ⟨c, by rw [List.getElem?_set_ne ne]; exact h1, fun y => h2 (.inl y), h3.mono (fun _ e => e) m⟩
  · rcases set_get_cases h1 with ⟨rfl, z1, hl⟩ | ⟨ne1, z1⟩
    · rcases set_get_cases h2 with ⟨rfl, z2, _⟩ | ⟨ne2, z2⟩
      · rfl
      · rw [List.getElem?_set_self (by rw [← E.len]; exact hl)] at h3
        cases h3
        rw [List.getElem?_set_ne ne2] at h4
        exact absurd ⟨j2, d2, z2, h4⟩ na
    · rw [List.getElem?_set_ne ne1] at h3
      rcases set_get_cases h2 with ⟨rfl, z2, hl⟩ | ⟨ne2, z2⟩
      · rw [List.getElem?_set_self (by rw [← E.len]; exact hl)] at h4
        cases h4
        exact absurd ⟨j, d1, z1, h3⟩ na
      · rw [List.getElem?_set_ne ne2] at h4
        exact E.inj j j2 d1 d2 c z1 z2 h3 h4
theorem set_name {S : Env → Res Rv} {i : Nat} (h0 : io = true → i ≠ 0) {Dn : Ends} {σ : L2.St} {H : Hp} (h : tS C W io (fun e => (S e).flow fun x e1 => (rest x e1).flow fun p e2 => .nx (e2.set i (some p))) Dn σ H) : tAsg (tE C W S) (gName i) Dn σ H := by
  obtain ⟨f, e, hio, k, h⟩ := h
  have n0 : f.io.isSome = true → ¬ 0 ∈ [i] := fun z q => by
    rw [List.mem_singleton] at q
    exact h0 (hio z) q.symm
  refine ⟨f.B, e, k.ok, (PostF.flow k h).mono fun r e1 _ h v H1 b1 p1 => ?_⟩
  have k1 := k.bet b1
  show Dn.nx (σ.set i (some v)) H1
  have shared : ∀ {d : D} {e2 : Env}, SOk C f σ H1 e2 → Rp C.K H1 (orP f.B (Ow σ e2)) v d → PostF C W f Dn (.nx (e2.set i (some (false, d)))) → Dn.nx (σ.set i (some v)) H1 := fun {d e2} k2 rp h => by
    obtain ⟨E1, o1⟩ := k2.ok.put (i := i) rp
    refine h _ _ (k2.put (is := [i]) ⟨E1, o1, told_put _ _ _, fun j hj => ?_, List.length_set⟩ n0)
    have ne : i ≠ j := fun z => hj (by rw [z]; exact List.mem_cons_self)
    exact ⟨List.getElem?_set_ne ne, List.getElem?_set_ne ne⟩
  cases r with
  | val o d =>
    cases o with
    | false => exact shared k1 p1 h
    | true =>
      obtain ⟨a, rfl, q1, q2, q3⟩ := p1
      have nB : ¬ f.B a := fun z => by
        obtain ⟨o, q⟩ := k.ok.bdom a z
        rw [q1] at q
        cases q
      obtain ⟨E1, o1⟩ := q3.putOwn (i := i) q2 nB
      refine h _ _ ⟨E1, k1.evo, fun c z => ?_, fun a0 z => ?_⟩
      · rcases o1 c z with z | z
        · exact k1.ows c z
        · rw [z]; exact k.none_of q1
      · have hi : i ≠ 0 := h0 (hio (by rw [z]; rfl))
        rw [List.getElem?_set_ne hi]
        exact k1.io a0 z
  | ptr j =>
    obtain ⟨q1, ⟨o, d⟩, q2⟩ := p1
    have hj : e1[j]?.join = some (o, d) := by rw [q2]; rfl
    simp only [rest, hj] at h
    obtain ⟨d', e2, hl, b2, rp, h⟩ := leak_ok (W := W) (r := .ptr j) (k := fun d' e2 => d' = d ∧ e2 = e1.set j (some (false, d))) b1.ok ⟨q1, _, q2⟩ (by unfold leak; simp only [hj]; exact ⟨rfl, rfl⟩)
    obtain ⟨rfl, rfl⟩ := h
    exact shared (k1.bet b2) rp ‹_›
/-- a, b = .. -/
theorem set_tup {S : Env → Res Rv} {is : List Nat} (h0 : io = true → 0 ∉ is) {Dn : Ends} {σ : L2.St} {H : Hp} (h : tS C W io (fun e => (S e).flow fun x e1 => (leak x e1).flow fun d e2 => match bindTg (.t is) d e2 with | some e3 => .nx e3 | none => .stuck) Dn σ H) : tAsg (tE C W S) (tgD C.K (.t is)) Dn σ H := by
  obtain ⟨f, e, hio, k, h⟩ := h
  refine ⟨f.B, e, k.ok, (PostF.flow k h).mono fun r e1 _ h v H1 b1 p1 => ?_⟩
  have k1 := k.bet b1
  obtain ⟨d, e2, hl, b2, rp, h⟩ := leak_ok (W := W) b1.ok (p1.lok k.ok.bdom) (PostF.flow k1 h)
  cases hb : bindTg (.t is) d e2 with
  | none => rw [hb] at h; exact (show False from h).elim
  | some e3 =>
    rw [hb] at h
    exact bind_ok b2.ok rp hb fun σ1 p => h _ _ ((k1.bet b2).put p fun z => h0 (hio z))
variable {X : Cx} {a b c : Expr} {pos p : Pos} {st : Stmt} {sts : List Stmt}
theorem ps_asgD {S : Env → Res Rv} {i : Nat} {x : Str} {pos' : Pos} (h0 : io = true → i ≠ 0) (hN : X.N.Nodup) (hi : X.N[i]? = some x) (hx : X.env.scope.names.lookup x = some .local ∨ (X.fn x = true ∧ Loc X.env.scope x)) (he : PE X a (tE C W S)) (hs : swapsWith a (some (.Name x pos')) pos.line X.env = pure false) :
    PS X (.Assign [.Name x pos'] a pos) (tS C W io fun e => (S e).flow fun x e1 => (rest x e1).flow fun p e2 => .nx (e2.set i (some p))) :=
  (ps_set hN hi (hx.elim .inl (·.2)) he hs (hx.elim .inr fun z => .inl z.1)).impD fun Dn σ H h => set_name h0 h
theorem ps_asgTD {S : Env → Res Rv} {is : List Nat} {tg : Expr} (h0 : io = true → 0 ∉ is) (hg : PG X tg (tgD C.K (.t is))) (he : PE X a (tE C W S)) (hs : swapsWithSole [tg] a pos.line X.env = pure false) (hw : swappedStores [tg] a X.env = pure none) (h1 : (assignEach [tg] X.env).map (·.2) = [assign tg X.env]) :
    PS X (.Assign [tg] a pos) (tS C W io fun e => (S e).flow fun x e1 => (leak x e1).flow fun d e2 => match bindTg (.t is) d e2 with | some e3 => .nx e3 | none => .stuck) :=
  (ps_asg he hg hs hw h1).impD fun Dn σ H h => set_tup h0 h
theorem ps_setLcD {i : Nat} {y : Str} {py : Pos} {elt tg iter : Expr} {ifs : List Expr} {scope : Scope} {own : List (Str × Nat)} {pos spos : Pos} {t : Tg} {Sit : Env → Res (List D)} {Sc : Env → Res Bool} {Sa : Env → Res Rv} (h0 : io = true → i ≠ 0) (hc : X.calm = true) (hN : X.N.Nodup) (hy : X.N[i]? = some y) (hyl : X.env.scope.names.lookup y = some .local)
    (hsw : swapsWith (.ListComp elt [⟨tg, iter, ifs, 0⟩] scope pos) (some (.Name y py)) spos.line X.env = pure true) (hi : PI X tg iter (tI C W Sit)) (ok : BlkOk X.N X.env.scope scope own) (ho : own.map (·.2) = t.slots)
    (hg : ∀ (s : Shared) (H : Hp) (A : Addr) (cl : List (Str × Addr)) (fp : List Addr), PG (X.blk s H scope (compEnvC scope cl A X.env) fp) tg (tgD C.K t)) (ht : ∀ (s : Shared) (H : Hp) (A : Addr) (cl : List (Str × Addr)) (fp : List Addr), PTs (X.blk s H scope (compEnvC scope cl A X.env) fp) ifs (tC C Wf Sc))
    (he : ∀ (s : Shared) (H : Hp) (A : Addr) (cl : List (Str × Addr)) (fp : List Addr), PE (X.blk s H scope (compEnvC scope cl A X.env) fp) elt (tE C Wf Sa)) (hs : ∀ x, foldedSetIterable iter X.env x = pure x) :
    PS X (.Assign [.Name y py] (.ListComp elt [⟨tg, iter, ifs, 0⟩] scope pos) spos) (tS C W io fun e => ((Sit e).bind fun xs e1 => (turns (bindTg t) Sc (fun e => (Sa e).bind leak) (fun e => hide (shut e t.slots) t.slots) xs [] (hide (shut e1 t.slots) t.slots)).calm.bind fun ys e2 => .ok (Rv.val true (.list ys)) (back (shut e1 t.slots) e2 t.slots)).flow fun x e1 => (rest x e1).flow fun p e2 => .nx (e2.set i (some p))) :=
  (ps_setLc hc hN hy hyl hsw hi ok hg ht he hs).impD fun Dn σ H h => by
    rw [ho]
    exact lc_imp σ H _ (set_name (S := fun e => (Sit e).bind fun xs e1 => (turns (bindTg t) Sc (fun e => (Sa e).bind leak) (fun e => hide (shut e t.slots) t.slots) xs [] (hide (shut e1 t.slots) t.slots)).calm.bind fun ys e2 => .ok (Rv.val true (.list ys)) (back (shut e1 t.slots) e2 t.slots)) h0 h)
/-! ### loops -/
theorem ps_whileD {c : Expr} {body : List Stmt} {Sc : Env → Res Bool} {S : Env → Flow} {wf : Nat} (hp : PassesOwn (model X.prog X.w) X.A X.env X.xe) (hc : PT X c (tC C W Sc)) (hb : PSs X body (tS C W io S)) : PS X (.While c body [] pos) (tS C W io fun e => whileF Sc S wf e) := by
  refine (ps_while hp hc hb).impD fun Dn σ H h => ?_
  obtain ⟨f, e, hio, k, h⟩ := h
  refine ⟨fun m σ H => ∃ e, SOk C f σ H e ∧ PostF C W f Dn (whileF Sc S m e), ⟨wf, e, k, h⟩, fun m σ H ⟨e, k, h⟩ => ?_⟩
  cases m with
  | zero => exact (show False from h).elim
  | succ m =>
    rw [whileF] at h
    refine ⟨f.B, e, k.ok, (PostF.flow k h).mono fun b e1 _ h b' H1 b1 eb => ?_⟩
    cases (show b' = b from eb)
    have k1 := k.bet b1
    cases b with
    | false => rw [if_neg Bool.false_ne_true] at h ⊢; exact h σ H1 k1
    | true =>
      rw [if_pos rfl] at h ⊢
      refine ⟨fun σ' H' => ∃ e, SOk C f σ' H' e ∧ PostF C W f Dn (whileF Sc S m e), fun σ' H' q => ⟨m, Nat.lt_succ_self m, q⟩, f, e1, hio, k1, ?_⟩
      cases hs : S e1 with
      | stuck => rw [hs] at h; exact h
      | nx e2 => rw [hs] at h; exact fun σ' H' k' => ⟨e2, k', h⟩
      | bk e2 => rw [hs] at h; exact h
      | rt o d e2 => rw [hs] at h; exact h
      | exc c fs e2 => rw [hs] at h; exact h
theorem SOk.into (k : SOk C f σ H e) {σ1 : L2.St} {H1 : Hp} {e1 : Env} (k1 : SOk C ⟨f.B, H, Ow σ e, f.io⟩ σ1 H1 e1) : SOk C f σ1 H1 e1 := by
  refine ⟨k1.ok, ⟨fun a o q n => ?_, fun a o q => ?_⟩, fun a z => ?_, k1.io⟩
  · refine k1.evo.keep a o (k.evo.keep a o q n) fun z => ?_
    rcases k.ows a z with z | z
    · exact n z
    · rw [q] at z; cases z
  · obtain ⟨o', q'⟩ := k.evo.there a o q
    exact k1.evo.there a o' q'
  · rcases k1.ows a z with z | z
    · exact k.ows a z
    · exact .inr (k.evo.fresh z)
theorem SOk.self (k : SOk C f σ H e) : SOk C ⟨f.B, H, Ow σ e, f.io⟩ σ H e := ⟨k.ok, Evo.refl H, fun a z => .inl z, k.io⟩
theorem SRet.into (k : SOk C f σ H e) {o : Bool} {d : D} {w : V} {σ1 : L2.St} {H1 : Hp} {e1 : Env} (r : SRet C ⟨f.B, H, Ow σ e, f.io⟩ o d w σ1 H1 e1) : SRet C f o d w σ1 H1 e1 := by
  cases o with
  | false => exact r
  | true =>
    obtain ⟨a, q0, q1, q2, q3, q4⟩ := r
    refine ⟨a, q0, ?_, q2, q3, q4⟩
    rcases q1 with z | z
    · exact k.ows a z
    · exact .inr (k.evo.fresh z)
theorem ps_forD {tg iter : Expr} {body : List Stmt} {t : Tg} {Sit : Env → Res (List D)} {S : Env → Flow} (h0 : io = true → 0 ∉ t.slots) (hp : PassesOwn (model X.prog X.w) X.A X.env X.xe) (hc : X.calm = true) (hi : PI X tg iter (tI C W Sit)) (hg : PG X tg (tgD C.K t)) (hb : PSs X body (tS C W io S)) (hs : ∀ x, foldedSetIterable iter X.env x = pure x) :
    PS X (.For tg iter body [] pos) (tS C W io fun e => (Sit e).flow fun xs e1 => eachF (bindTg t) S xs e1) := by
  refine (ps_for hp hc hi hg hb hs).impD fun Dn σ H h => ?_
  obtain ⟨f, e, hio, k, h⟩ := h
  refine ⟨f.B, e, k.ok, (PostF.flow k h).mono fun ds e1 _ h hz J H1 G b1 src => ?_⟩
  have k1 := k.bet b1
  -- the frame of the loop
  let g : Fr := ⟨f.B, H1, Ow σ e1, f.io⟩
  have mG : ∀ {σ' : L2.St} {H' : Hp} {e' : Env}, SOk C g σ' H' e' → G H' (orP f.B (Ow σ' e')) := fun {σ' H' e'} k' => src.mono _ _ _ _ src.start fun a u q n => ⟨k'.evo.keep a u q fun z => n (.inr z), fun z => by
    rcases z with z | z
    · exact n (.inl z)
    · rcases k'.ows a z with z | z
      · exact n (.inr z)
      · rw [show H1 a = none from z] at q; cases q⟩
  refine ⟨fun i m σ' H' => m = ds.length - i ∧ i ≤ ds.length ∧ ∃ e', SOk C g σ' H' e' ∧ PostF C W f Dn (eachF (bindTg t) S (ds.drop i) e'), ⟨_, rfl, Nat.zero_le _, e1, k1.self, h⟩, ?_⟩
  rintro i m σ' H' ⟨rfl, hi, e', k', h⟩
  by_cases hlt : i < ds.length
  · refine .inr ⟨src.goes i H' _ hlt (mG k'), fun σ'' H'' => ∃ e'', SOk C g σ'' H'' e'' ∧ PostF C W f Dn (eachF (bindTg t) S (ds.drop (i + 1)) e''), fun σ'' H'' q => ⟨ds.length - (i + 1), by omega, rfl, hlt, q⟩, fun x H2 y => ?_⟩
    have hd : ds[i]? = some ds[i] := by simp [hlt]
    obtain ⟨x2, rp⟩ := src.yields i H' _ x H2 _ hd (mG k') (fun a z => k'.ok.x_there z) y
    rw [List.drop_eq_getElem_cons hlt, eachF] at h
    cases hb : bindTg t ds[i] e' with
    | none => simp only [hb] at h; exact (show False from h).elim
    | some f1 =>
    simp only [hb] at h
    have k2 : SOk C g σ' H2 e' := ⟨k'.ok.ext x2, k'.evo.trans (ExtH.evo (O := g.A0) x2) fun _ z => z, k'.ows, k'.io⟩
    refine bind_ok k2.ok rp hb fun σ1 p => ?_
    have k3 : SOk C g σ1 H2 f1 := k2.put p fun z => h0 (hio z)
    refine ⟨g, f1, hio, k3, ?_⟩
    cases hs : S f1 with
    | stuck => rw [hs] at h; exact (show False from h).elim
    | nx e2 => rw [hs] at h; exact fun σ'' H'' k'' => ⟨e2, k'', h⟩
    | bk e2 => rw [hs] at h; exact fun σ'' H'' k'' => h _ _ (k1.into k'')
    | rt o d e2 => rw [hs] at h; exact fun w σ'' H'' k'' r => h w _ _ (k1.into k'') (SRet.into k1 r)
    | exc c fs e2 => rw [hs] at h; exact fun cls dx σ'' H'' x k'' => h cls dx _ _ x (k1.into k'')
  · have e0 : i = ds.length := by omega
    subst e0
    rw [List.drop_length, eachF] at h
    exact .inl ⟨src.stops H' _ (mG k'), h _ _ (k1.into k')⟩
end
end DI

end
section
/-! DiO: the checker of expressions. -/
namespace DI
open PySem PySem.Spec PyProof.Rows L2
/-- the global names: defs (place, whether the first argument is changed), constants (place) -/
structure Tb where
  fns : List (Str × Nat × Bool)
  gls : List (Str × Nat)
def plainE : Expr → Bool
  | .Starred .. => false
  | _ => true
def opOf : Bop → Operator
  | .add => .Add
  | .sub => .Sub
  | .mul => .Mult
  | .fdiv => .FloorDiv
  | .mod => .Mod
  | .pow => .Pow
def cpOf : Cop → CmpOp
  | .eq => .Eq
  | .ne => .NotEq
  | .lt => .Lt
  | .le => .LtE
  | .gt => .Gt
  | .ge => .GtE
  | .is => .Is
  | .isnot => .IsNot
  | .isin => .In
  | .notin => .NotIn
def biName : Bi → Str
  | .len => "len"
  | .abs => "abs"
  | .int => "int"
  | .tuple => "tuple"
  | .list => "list"
  | .sorted => "sorted"
  | .sum => "sum"
  | .min => "min"
  | .max => "max"
  | .all => "all"
  | .any => "any"
  | .range => "range"
  | .zip => "zip"
  | .enum => "enumerate"
  | .str => "str"
def valB : Bi → Bool
  | .len => true
  | .abs => true
  | .int => true
  | .tuple => true
  | .list => true
  | .sum => true
  | .min => true
  | .max => true
  | .all => true
  | .any => true
  | _ => false
def tyStr : Ty → Str
  | .int => "int"
  | .bool => "bool"
  | .str => "str"
  | .tuple => "tuple"
  | .list => "list"
def muName : Mu → Str
  | .append => "append"
  | .extend => "extend"
  | .pop => "pop"
  | .insert => "insert"
  | .update => "update"
  | .setdefault => "setdefault"
def muB : Mu → Bool
  | .append => true
  | .extend => true
  | .pop => true
  | _ => false
/-- the built-in names that are used as such -/
def blts : List Str := ["len", "abs", "int", "tuple", "list", "sorted", "sum", "min", "max", "all", "any", "range", "zip", "enumerate", "str", "bool", "isinstance", "set", "ValueError"]
def visB (sc : Scope) (x : Str) : Bool := match sc.names.lookup x with
  | some .local => true
  | some .cell => true
  | some .free => true
  | _ => false
def locB (sc : Scope) (x : Str) : Bool := match sc.names.lookup x with
  | some .local => true
  | some .cell => true
  | _ => false
def glB (sc : Scope) (x : Str) : Bool := match sc.names.lookup x with
  | some .globalImplicit => true
  | _ => false
def specB (x : Str) : Bool := x == ("__debug__" : Str) || x == ("__classdict__" : Str) || x == ("__name__" : Str)
def slotB (N : List Str) (sc : Scope) (i : Nat) (x : Str) : Bool := decide (N[i]? = some x) && visB sc x && !specB x
def litB : D → Const → Bool
  | .none, .none => true
  | .bool b, .bool c => b == c
  | .int i, .int j => i == j
  | .str s, .str z => decide (z = sV s) && decide (s.length ≤ 100000) && s.all fun c => decide (c < 1114112)
  | _, _ => false
def sliceE : Expr → Bool
  | .Slice .. => true
  | _ => false
def setE : Expr → Bool
  | .Set .. => true
  | _ => false
def baseOk : Expr → Bool
  | .Call (.Name _ _) [] [] _ => false
  | _ => true
def tgsB (N : List Str) (sw : Scope) : List Nat → List Expr → Bool
  | [], [] => true
  | i :: is, .Name x _ :: es => decide (N[i]? = some x) && locB sw x && tgsB N sw is es
  | _, _ => false
def tgB (N : List Str) (sw : Scope) : Tg → Expr → Bool
  | .n i, .Name x _ => decide (N[i]? = some x) && locB sw x
  | .t is, .Tuple es _ _ => tgsB N sw is es
  | _, _ => false
def ownOf (N : List Str) (t : Tg) : List (Str × Nat) := t.slots.map fun i => (N.getD i "", i)
structure CkR where
  v : Scope → Expr → Bool
  l : Scope → List Expr → Bool
  i : Scope → Expr → Expr → Bool
  o : Scope → Option Expr → Bool
def ckV (v : Scope → Expr → Bool) : CkR := ⟨v, fun _ _ => false, fun sc _ a => v sc a, fun sc o => match o with
  | some a => v sc a
  | none => false⟩
def ckI (v : Scope → Expr → Bool) (i : Scope → Expr → Expr → Bool) : CkR := ⟨v, fun _ _ => false, i, fun sc o => match o with
  | some a => v sc a
  | none => false⟩
def ifC (c : CkR) (sc sc2 : Scope) : List Expr → Bool
  | [] => c.o sc none
  | [x] => c.v sc2 x
  | _ => false
def biC (b : Bi) (l : Scope → List Expr → Bool) (sc : Scope) : Expr → Bool
  | .Call (.Name x _) (y :: ys) [] _ => decide (x = biName b) && valB b && glB sc x && (y :: ys).all plainE && l sc (y :: ys)
  | _ => false
def rngC (l : Scope → List Expr → Bool) (sc : Scope) : Expr → Bool
  | .Call (.Name x _) [y] [] _ => decide (x = "range") && glB sc x && plainE y && l sc [y]
  | .Call (.Name x _) [y, z] [] _ => decide (x = "range") && glB sc x && plainE y && plainE z && l sc [y, z]
  | _ => false
def ck (T : Tb) (N : List Str) : Ex → CkR
  | .nil => ⟨fun _ _ => false, fun _ es => match es with
    | [] => true
    | _ => false, fun _ _ _ => false, fun _ o => match o with
    | none => true
    | _ => false⟩
  | .cons a r => ⟨fun _ _ => false, fun sc es => match es with
    | x :: xs => plainE x && (ck T N a).v sc x && (ck T N r).l sc xs
    | [] => false, fun _ _ _ => false, fun _ _ => false⟩
  | .lit d => ckV fun _ a => match a with
    | .Constant c _ _ => litB d c
    | _ => false
  | .loc i => ckV fun sc a => match a with
    | .Name x _ => slotB N sc i x
    | _ => false
  | .glo k => ckV fun sc a => match a with
    | .Name x _ => decide (T.gls.lookup x = some k) && glB sc x && !specB x
    | _ => false
  | .tup r => ckV fun sc a => match a with
    | .Tuple es _ _ => decide (es.length ≤ 1000) && (ck T N r).l sc es
    | _ => false
  | .lst r => ckV fun sc a => match a with
    | .List es _ => decide (es.length ≤ 1000) && (ck T N r).l sc es
    | _ => false
  | .bin o a b => ckV fun sc e => match e with
    | .BinOp x op y _ => decide (op = opOf o) && (ck T N a).v sc x && (ck T N b).v sc y
    | _ => false
  | .neg a => ckV fun sc e => match e with
    | .UnaryOp .USub x _ => (ck T N a).v sc x
    | _ => false
  | .not a => ckV fun sc e => match e with
    | .UnaryOp .Not x _ => (ck T N a).v sc x
    | _ => false
  | .and r => ckV fun sc e => match e with
    | .BoolOp .And (x :: xs) _ => (ck T N r).l sc (x :: xs)
    | _ => false
  | .or r => ckV fun sc e => match e with
    | .BoolOp .Or (x :: xs) _ => (ck T N r).l sc (x :: xs)
    | _ => false
  | .cmp o a b => ckV fun sc e => match e with
    | .Compare x [op] [y] _ => decide (op = cpOf o) && !behindInMarks op y && (ck T N a).v sc x && (ck T N b).v sc y
    | _ => false
  | .cmp2 o p a b c => ckV fun sc e => match e with
    | .Compare x [op, op'] [y, z] _ => decide (op = cpOf o) && decide (op' = cpOf p) && !lastMarks [op, op'] [y, z] && (ck T N a).v sc x && (ck T N b).v sc y && (ck T N c).v sc z
    | _ => false
  | .ite c a b => ckV fun sc e => match e with
    | .IfExp z x y _ => (ck T N c).v sc z && (ck T N a).v sc x && (ck T N b).v sc y
    | _ => false
  | .ix a k => ckV fun sc e => match e with
    | .Subscript x y _ => !sliceE y && (ck T N a).v sc x && (ck T N k).v sc y
    | _ => false
  | .sl a lo hi => ckV fun sc e => match e with
    | .Subscript x (.Slice l h none _) _ => (ck T N a).v sc x && (ck T N lo).o sc l && (ck T N hi).o sc h
    | _ => false
  | .rev _ => ckV fun _ _ => false
  | .call f _ r => ckV fun sc e => match e with
    | .Call (.Name x _) (y :: ys) [] _ => decide (T.fns.lookup x = some (f, false)) && glB sc x && !specB x && (y :: ys).all plainE && (ck T N r).l sc (y :: ys)
    | _ => false
  | .callIO f _ i r => ckV fun sc e => match e with
    | .Call (.Name x _) (.Name y _ :: ys) [] _ => decide (T.fns.lookup x = some (f, true)) && glB sc x && !specB x && slotB N sc i y && ys.all plainE && (ck T N r).l sc ys
    | _ => false
  | .bi b r => ckI (biC b (ck T N r).l) fun sc tg e => match b with
      | .range => rngC (ck T N r).l sc e
      | b => biC b (ck T N r).l sc e
  | .isi t a => ckV fun sc e => match e with
    | .Call (.Name x _) [y, .Name z _] [] _ => decide (x = "isinstance") && glB sc x && decide (z = tyStr t) && glB sc z && plainE y && (ck T N a).v sc y
    | _ => false
  | .me m o r => ckV fun sc e => match m, e with
    | .join, .Call (.Attribute x nm apos) [y] [] pos => decide (nm = "join") && baseOk x && (apos.endLine == pos.line) && plainE y && (ck T N o).v sc x && (ck T N r).l sc [y]
    | _, _ => false
  | .mu m i r => ckV fun sc e => match e with
    | .Call (.Attribute (.Name x _) nm apos) [] [] pos => decide (m = .pop) && decide (nm = "pop") && (apos.endLine == pos.line) && slotB N sc i x && (ck T N r).l sc []
    | .Call (.Attribute (.Name x _) nm apos) (y :: ys) [] pos => muB m && decide (nm = muName m) && (apos.endLine == pos.line) && slotB N sc i x && decide ((y :: ys).length < 20) && (y :: ys).all plainE && (ck T N r).l sc (y :: ys)
    | _ => false
  | .mkL _ => ckV fun _ _ => false
  | .mkT _ => ckV fun _ _ => false
  | .lc t a it c => ckV fun sc e => match e with
    | .ListComp elt [⟨tg, iter, ifs, 0⟩] sw _ => tgB N sw t tg && !setE iter && (ck T N it).i sc tg iter && blkC N sc sw (ownOf N t) && (ck T N a).v (relS sw sc) elt && ifC (ck T N c) sc (relS sw sc) ifs
    | _ => false
  | .lc2 _ _ _ _ _ _ => ckV fun _ _ => false
  | .dc _ _ _ _ _ => ckV fun _ _ => false
  | .dic _ _ => ckV fun _ _ => false
end DI

end
section
/-! DiP: the checker of expressions is right. -/
namespace DI
open PySem PySem.Spec PyProof.Rows L2
/-- what a context must tell -/
structure Wd (X : Cx) (C : Cy) (W : WX) (F : CallF) (G : List D) (T : Tb) (N : List Str) (sc sw : Scope) (k : Nat) : Prop where
  hK : X.K = C.K
  hN : X.N = N
  nd : N.Nodup
  calm : X.calm = true
  hsc : X.env.scope = sc
  loc : ∀ x, locB sw x = true → Loc sc x ∧ (X.fn x = true ∨ sc.names.lookup x = some .local)
  tk : Takes X W
  rm : Room k X.A
  blt : ∀ x ∈ blts, X.mg x = none
  fns : ∀ x j io, T.fns.lookup x = some (j, io) → ∃ fa fd ps, FnOk X.prog X.w X.K X.mg X.base (L2.CX X.prog X.w) k fa fd ps (spF C F io j) ∧ X.mg x = some (.ref fa) ∧ PySem.W.keepIn X.K (.ref fa) = true ∧ Binds X.K fd ps []
  gls : ∀ x j, T.gls.lookup x = some j → ∃ v u d, X.mg x = some u ∧ RelV v u ∧ G[j]? = some d ∧ ∀ H Xc, Rp C.K H Xc v d
theorem star_cons {a : Expr} {es : List Expr} {env : PySem.Env} (h : plainE a = true) : starEach (a :: es) env = (false, eval a env) :: starEach es env := by cases a <;> first | rfl | cases h
theorem star_any {pos : Pos} {env : PySem.Env} : ∀ {es : List Expr}, es.all plainE = true → (backTo pos (starEach es env)).any (·.1) = false
  | [], _ => rfl
  | a :: es, h => by
    rw [List.all_cons, Bool.and_eq_true] at h
    rw [star_cons h.1]
    have := star_any (pos := pos) (env := env) h.2
    simpa [backTo] using this
theorem star_all {pos : Pos} {env : PySem.Env} : ∀ {es : List Expr}, es.all plainE = true → (backTo pos (starEach es env)).all (fun x => !x.1) = true
  | [], _ => rfl
  | a :: es, h => by
    rw [List.all_cons, Bool.and_eq_true] at h
    rw [star_cons h.1]
    have := star_all (pos := pos) (env := env) h.2
    simpa [backTo] using this
section
variable {X : Cx} {C : Cy} {W : WX} {F : CallF} {G : List D} {T : Tb} {N : List Str} {sc sw : Scope} {k : Nat}
theorem Wd.gl (w : Wd X C W F G T N sc sw k) {x : Str} (h : glB sc x = true) : Gl X x := by
  show X.env.scope.names.lookup x = _
  rw [w.hsc]
  unfold glB at h
  split at h
  · assumption
  · cases h
theorem Wd.vis (w : Wd X C W F G T N sc sw k) {x : Str} (h : visB sc x = true) : Vis X.env.scope x := by
  rw [w.hsc]
  unfold visB at h
  split at h
  · exact .inl (by assumption)
  · exact .inr (.inl (by assumption))
  · exact .inr (.inr (by assumption))
  · cases h
theorem specB_not {x : Str} (h : specB x = false) : (x == ("__debug__" : Str)) = false ∧ (x == ("__classdict__" : Str)) = false ∧ x ≠ "__name__" := by
  unfold specB at h
  simp only [Bool.or_eq_false_iff] at h
  exact ⟨h.1.1, h.1.2, by simpa using h.2⟩
theorem Wd.units (w : Wd X C W F G T N sc sw k) : X.A.units + 170 < cLine := by have := w.rm.un; omega
theorem Wd.slot (w : Wd X C W F G T N sc sw k) {i : Nat} {x : Str} (h : slotB N sc i x = true) : X.N[i]? = some x ∧ Vis X.env.scope x ∧ (x == ("__debug__" : Str)) = false ∧ (x == ("__classdict__" : Str)) = false := by
  unfold slotB at h
  simp only [Bool.and_eq_true, decide_eq_true_eq, Bool.not_eq_true'] at h
  obtain ⟨h1, h2, _⟩ := specB_not h.2
  exact ⟨by rw [w.hN]; exact h.1.1, w.vis h.1.2, h1, h2⟩
theorem Wd.bl (w : Wd X C W F G T N sc sw k) {x : Str} (h : x ∈ blts) : X.mg x = none := w.blt x h
theorem bi_blt (b : Bi) : biName b ∈ blts := by cases b <;> decide +kernel
theorem ty_blt (t : Ty) : tyStr t ∈ blts := by cases t <;> decide +kernel
theorem bi_spec (b : Bi) : biName b ≠ "__name__" ∧ (biName b == ("__debug__" : Str)) = false := by cases b <;> decide +kernel
theorem Wd.tgs (w : Wd X C W F G T N sc sw k) : ∀ {is : List Nat} {es : List Expr}, tgsB N sw is es = true → PGs X es (gNames is)
  | [], [], _ => pgs_nil
  | [], _ :: _, h => by simp [tgsB] at h
  | i :: is, [], h => by simp [tgsB] at h
  | i :: is, e :: es, h => by
    cases e with
    | Name x p =>
      simp only [tgsB, Bool.and_eq_true, decide_eq_true_eq] at h
      obtain ⟨l1, l2⟩ := w.loc x h.1.2
      rw [← w.hsc] at l1 l2
      exact pgs_cons (pg_name (by rw [w.hN]; exact w.nd) (by rw [w.hN]; exact h.1.1) l1 l2) (w.tgs h.2)
    | _ => simp [tgsB] at h
theorem tgs_len : ∀ {is : List Nat} {es : List Expr}, tgsB N sw is es = true → es.length = is.length ∧ ∀ env, (assignEach es env).length = is.length ∧ (assignEach es env).findIdx? (·.1) = none
  | [], [], _ => ⟨rfl, fun _ => ⟨rfl, rfl⟩⟩
  | [], _ :: _, h => by simp [tgsB] at h
  | i :: is, [], h => by simp [tgsB] at h
  | i :: is, e :: es, h => by
    cases e with
    | Name x p =>
      simp only [tgsB, Bool.and_eq_true] at h
      obtain ⟨h1, h2⟩ := tgs_len h.2
      refine ⟨by simp [h1], fun env => ?_⟩
      obtain ⟨h3, h4⟩ := h2 env
      refine ⟨?_, ?_⟩
      · show ((false, _) :: assignEach es env).length = _
        simp [h3]
      · show ((false, _) :: assignEach es env).findIdx? (·.1) = none
        simp only [List.findIdx?_cons, Bool.false_eq_true, if_false, h4]
        rfl
    | _ => simp [tgsB] at h
theorem Wd.tg (w : Wd X C W F G T N sc sw k) {t : Tg} {e : Expr} (h : tgB N sw t e = true) : PG X e (tgD C.K t) := by
  cases t with
  | n i =>
    cases e with
    | Name x p =>
      simp only [tgB, Bool.and_eq_true, decide_eq_true_eq] at h
      obtain ⟨l1, l2⟩ := w.loc x h.2
      rw [← w.hsc] at l1 l2
      exact pg_name (by rw [w.hN]; exact w.nd) (by rw [w.hN]; exact h.1) l1 l2
    | _ => simp [tgB] at h
  | t is =>
    cases e with
    | Tuple es kk p =>
      simp only [tgB] at h
      obtain ⟨h1, h2⟩ := tgs_len h
      rw [tgD, ← w.hK]
      exact pg_tup w.calm (w.tgs h) (h2 X.env).1 (h2 X.env).2
    | _ => simp [tgB] at h
theorem takes_f {X : Cx} (h : X.xe = fun _ _ => False) : Takes X Wf := fun u s' ⟨a, B, sI, pins, σ, H, cls, d, _, _, _, _, _, _, _, _, w⟩ => (show False from w).elim
theorem locB_or {sc : Scope} {x : Str} (h : locB sc x = true) : sc.names.lookup x = some .local ∨ sc.names.lookup x = some .cell := by
  unfold locB at h
  split at h
  · exact .inl (by assumption)
  · exact .inr (by assumption)
  · cases h
theorem Wd.blk (w : Wd X C W F G T N sc sw k) (s : Shared) (H : Hp) (scope : Scope) (cl : List (Str × Addr)) (A : Addr) (fp : List Addr) : Wd (X.blk s H scope (compEnvC scope cl A X.env) fp) C Wf F G T N (relS scope sc) scope k := by
  refine ⟨w.hK, w.hN, w.nd, w.calm, ?_, fun x hx => ?_, takes_f rfl, w.rm, w.blt, w.fns, w.gls⟩
  · show relS scope X.env.scope = _
    rw [w.hsc]
  · rcases locB_or hx with h | h
    · have := lookup_relS_keep (sc := sc) (by simp) h
      exact ⟨.inl this, .inr this⟩
    · have := lookup_relS_keep (sc := sc) (by simp) h
      exact ⟨.inr this, .inl (by show (scope.names.lookup x == some .cell) = true; rw [h]; rfl)⟩
end
end DI

end
section
/-! DiQ: the checker of expressions is right, form by form. -/
namespace DI
open PySem PySem.Spec PyProof.Rows L2
variable {F : CallF} {G : List D} {T : Tb} {N : List Str}
structure Snd (F : CallF) (G : List D) (T : Tb) (N : List Str) (ex : Ex) : Prop where
  v : ∀ {X : Cx} {C : Cy} {W : WX} {sc sw : Scope} {k : Nat}, Wd X C W F G T N sc sw k → ∀ a, (ck T N ex).v sc a = true → PE X a (tE C W (sem F G ex).E) ∧ PT X a (tC C W (sem F G ex).C)
  l : ∀ {X : Cx} {C : Cy} {W : WX} {sc sw : Scope} {k : Nat}, Wd X C W F G T N sc sw k → ∀ es, (ck T N ex).l sc es = true → PA X es (tL C W (sem F G ex).L) ∧ PA X es (tR C W (sem F G ex).R)
  b : ∀ {X : Cx} {C : Cy} {W : WX} {sc sw : Scope} {k : Nat}, Wd X C W F G T N sc sw k → ∀ x xs pos, (ck T N ex).l sc (x :: xs) = true →
    (PE X (.BoolOp .And (x :: xs) pos) (tE C W (sem F G ex).A) ∧ PW X (.BoolOp .And (x :: xs) pos) (tC C W (testE (sem F G ex).A))) ∧ PE X (.BoolOp .Or (x :: xs) pos) (tE C W (sem F G ex).O) ∧ PW X (.BoolOp .Or (x :: xs) pos) (tC C W (testE (sem F G ex).O))
  i : ∀ {X : Cx} {C : Cy} {W : WX} {sc sw : Scope} {k : Nat}, Wd X C W F G T N sc sw k → ∀ tg a, (ck T N ex).i sc tg a = true → PI X tg a (tI C W (sem F G ex).I)
  o : ∀ {X : Cx} {C : Cy} {W : WX} {sc sw : Scope} {k : Nat}, Wd X C W F G T N sc sw k → ∀ a, (ck T N ex).o sc a = true → PO X a (tP C W (sem F G ex).P)
theorem Snd.ofV {ex : Ex} {v : Scope → Expr → Bool} {E : Env → Res Rv} (hc : ck T N ex = ckV v) (hs : sem F G ex = Sem.e E)
    (h : ∀ {X : Cx} {C : Cy} {W : WX} {sc sw : Scope} {k : Nat}, Wd X C W F G T N sc sw k → ∀ a, v sc a = true → PE X a (tE C W E) ∧ PT X a (tC C W (testE E))) : Snd F G T N ex := by
  refine ⟨fun w a q => ?_, fun w es q => ?_, fun w x xs pos q => ?_, fun w tg a q => ?_, fun w a q => ?_⟩
  · rw [hc] at q; rw [hs]; exact h w a q
  · rw [hc] at q; cases q
  · rw [hc] at q; cases q
  · rw [hc] at q; rw [hs]; exact pi_anyD w.hK (h w a q).1
  · rw [hc] at q; rw [hs]
    cases a with
    | none => cases q
    | some a => exact po_someD (h w a q).1
/-- a form whose test is its value's -/
theorem both {X : Cx} {C : Cy} {W : WX} {a : Expr} {S : Env → Res Rv} (hK : X.K = C.K) (he : PE X a (tE C W S)) (hp : ∀ whole, isTrue a X.env whole = (do let v ← whole; standAt a.pos; holding [v] (truthy v))) : PE X a (tE C W S) ∧ PT X a (tC C W (testE S)) := ⟨he, pt_gen hK he hp⟩
theorem snd_lit (d : D) : Snd F G T N (.lit d) := .ofV rfl rfl fun {X C W sc sw k} w a q => by
  cases a with
  | Constant c j p =>
    refine both w.hK ?_ fun _ => rfl
    cases d with
    | none => cases c <;> first | exact pe_litD pe_non fun _ _ => .none | simp [litB] at q
    | bool b =>
      cases c <;> first | (simp [litB] at q; done) | skip
      rename_i c
      have q : b = c := by simpa [litB] using q
      subst q
      exact pe_litD pe_bl fun _ _ => .bool _
    | int i =>
      cases c <;> first | (simp [litB] at q; done) | skip
      rename_i c
      have q : i = c := by simpa [litB] using q
      subst q
      exact pe_litD pe_int fun _ _ => .int _
    | str s =>
      cases c <;> first | (simp [litB] at q; done) | skip
      simp only [litB, Bool.and_eq_true, decide_eq_true_eq, List.all_eq_true] at q
      obtain ⟨⟨rfl, q2⟩, q3⟩ := q
      exact pe_litD pe_str fun _ _ => .str ⟨by rw [sizeLine_eq]; omega, fun c hc => q3 c hc⟩
    | _ => cases c <;> simp [litB] at q
  | _ => cases q
theorem snd_loc (i : Nat) : Snd F G T N (.loc i) := .ofV rfl rfl fun {X C W sc sw k} w a q => by
  cases a with
  | Name x p =>
    obtain ⟨h1, h2, h3, h4⟩ := w.slot q
    exact both w.hK (pe_locD h1 h2 h3 h4) fun _ => rfl
  | _ => cases q
theorem snd_glo (j : Nat) : Snd F G T N (.glo j) := .ofV rfl rfl fun {X C W sc sw k} w a q => by
  cases a with
  | Name x p =>
    simp only [Bool.and_eq_true, decide_eq_true_eq, Bool.not_eq_true'] at q
    obtain ⟨v, u, d, h1, h2, h3, h4⟩ := w.gls x j q.1.1
    refine both w.hK ?_ fun _ => rfl
    refine (pe_litD (W := W) (d := d) (pe_glob (w.gl q.1.2) h1 h2 (specB_not q.2).1) h4).impD fun σ H Q h => ?_
    simpa only [h3, Option.map_some, Res.opt] using h
  | _ => cases q
theorem sem_len : ∀ (r : Ex) (es : List Expr) (sc : Scope) (e : Env) (ds : List D) (e' : Env), (ck T N r).l sc es = true → (sem F G r).L e = .ok ds e' → ds.length = es.length
  | .nil, [], _, _, _, _, _, h => by cases h; rfl
  | .cons a r, x :: xs, sc, e, ds, e', q, h => by
    have q : (plainE x && (ck T N a).v sc x && (ck T N r).l sc xs) = true := q
    rw [Bool.and_eq_true] at q
    have h : ((sem F G a).E e).bind (fun x e1 => (leak x e1).bind fun d e2 => ((sem F G r).L e2).bind fun ds e3 => .ok (d :: ds) e3) = .ok ds e' := h
    cases h1 : (sem F G a).E e with
    | ok y e1 =>
      rw [h1] at h
      have h : (leak y e1).bind (fun d e2 => ((sem F G r).L e2).bind fun ds e3 => .ok (d :: ds) e3) = .ok ds e' := h
      cases h2 : leak y e1 with
      | ok d e2 =>
        rw [h2] at h
        have h : ((sem F G r).L e2).bind (fun ds e3 => .ok (d :: ds) e3) = .ok ds e' := h
        cases h3 : (sem F G r).L e2 with
        | ok ds' e3 =>
          rw [h3] at h
          cases h
          have := sem_len r xs sc e2 ds' _ q.2 h3
          simp [this]
        | _ => rw [h3] at h; cases h
      | _ => rw [h2] at h; cases h
    | _ => rw [h1] at h; cases h
  | .nil, _ :: _, _, _, _, _, q, _ => by cases q
  | .cons _ _, [], _, _, _, _, q, _ => by cases q
  | .lit _, _, _, _, _, _, q, _ => by cases q
  | .loc _, _, _, _, _, _, q, _ => by cases q
  | .glo _, _, _, _, _, _, q, _ => by cases q
  | .tup _, _, _, _, _, _, q, _ => by cases q
  | .lst _, _, _, _, _, _, q, _ => by cases q
  | .bin _ _ _, _, _, _, _, _, q, _ => by cases q
  | .neg _, _, _, _, _, _, q, _ => by cases q
  | .not _, _, _, _, _, _, q, _ => by cases q
  | .and _, _, _, _, _, _, q, _ => by cases q
  | .or _, _, _, _, _, _, q, _ => by cases q
  | .cmp _ _ _, _, _, _, _, _, q, _ => by cases q
  | .cmp2 _ _ _ _ _, _, _, _, _, _, q, _ => by cases q
  | .ite _ _ _, _, _, _, _, _, q, _ => by cases q
  | .ix _ _, _, _, _, _, _, q, _ => by cases q
  | .sl _ _ _, _, _, _, _, _, q, _ => by cases q
  | .rev _, _, _, _, _, _, q, _ => by cases q
  | .call _ _ _, _, _, _, _, _, q, _ => by cases q
  | .callIO _ _ _ _, _, _, _, _, _, q, _ => by cases q
  | .bi _ _, _, _, _, _, _, q, _ => by cases q
  | .isi _ _, _, _, _, _, _, q, _ => by cases q
  | .me _ _ _, _, _, _, _, _, q, _ => by cases q
  | .mu _ _ _, _, _, _, _, _, q, _ => by cases q
  | .mkL _, _, _, _, _, _, q, _ => by cases q
  | .mkT _, _, _, _, _, _, q, _ => by cases q
  | .lc _ _ _ _, _, _, _, _, _, q, _ => by cases q
  | .lc2 _ _ _ _ _ _, _, _, _, _, _, q, _ => by cases q
  | .dc _ _ _ _ _, _, _, _, _, _, q, _ => by cases q
  | .dic _ _, _, _, _, _, _, q, _ => by cases q
theorem ck_nil {r : Ex} {sc : Scope} (h : (ck T N r).l sc [] = true) : r = .nil := by
  cases r <;> first | rfl | cases h
theorem ck_onil {r : Ex} {sc : Scope} (h : (ck T N r).o sc none = true) : r = .nil := by
  cases r <;> first | rfl | cases h
theorem ck_cons {r : Ex} {sc : Scope} {x : Expr} {xs : List Expr} (h : (ck T N r).l sc (x :: xs) = true) : ∃ a r', r = .cons a r' := by
  cases r <;> first | exact ⟨_, _, rfl⟩ | cases h
theorem snd_nil : Snd F G T N .nil := by
  refine ⟨fun w a q => (by cases q), fun w es q => ?_, fun w x xs pos q => (by cases q), fun w tg a q => (by cases q), fun w a q => ?_⟩
  · cases es with
    | nil => exact ⟨paL_nil, paR_nil⟩
    | cons _ _ => cases q
  · cases a with
    | none => exact po_noneD
    | some _ => cases q
theorem c_test {a : Ex} {sc : Scope} {x : Expr} (h : (ck T N a).v sc x = true) : (sem F G a).C = testE (sem F G a).E := by
  cases a <;> first | rfl | cases h
theorem snd_cons {a r : Ex} (ha : Snd F G T N a) (hr : Snd F G T N r) : Snd F G T N (.cons a r) := by
  refine ⟨fun w a q => (by cases q), fun w es q => ?_, fun w x xs pos q => ?_, fun w tg a q => (by cases q), fun w a q => (by cases q)⟩
  · cases es with
    | nil => cases q
    | cons x xs =>
      have q : (plainE x && (ck T N a).v _ x && (ck T N r).l _ xs) = true := q
      simp only [Bool.and_eq_true] at q
      exact ⟨paL_cons (ha.v w x q.1.2).1 (hr.l w xs q.2).1 (star_cons q.1.1), paR_cons (ha.v w x q.1.2).1 (hr.l w xs q.2).2 (star_cons q.1.1)⟩
  · have q : (plainE x && (ck T N a).v _ x && (ck T N r).l _ xs) = true := q
    simp only [Bool.and_eq_true] at q
    have e1 := (ha.v w x q.1.2).1
    have t1 := (ha.v w x q.1.2).2
    rw [c_test q.1.2] at t1
    cases xs with
    | nil =>
      obtain rfl := ck_nil q.2
      exact ⟨⟨pe_one e1, pw_and1 t1⟩, pe_one e1, pw_or1 t1⟩
    | cons y ys =>
      obtain ⟨a', r', rfl⟩ := ck_cons q.2
      obtain ⟨⟨b1, b2⟩, b3, b4⟩ := hr.b w y ys pos q.2
      exact ⟨⟨pe_andD w.hK e1 b1, pw_andD t1 b2⟩, pe_orD w.hK e1 b3, pw_orD t1 b4⟩
end DI

end
section
/-! DiR: the checker of expressions is right, more forms. -/
namespace DI
open PySem PySem.Spec PyProof.Rows L2
variable {F : CallF} {G : List D} {T : Tb} {N : List Str}
theorem snd_tup {r : Ex} (hr : Snd F G T N r) : Snd F G T N (.tup r) := .ofV rfl rfl fun {X C W sc sw k} w a q => by
  cases a with
  | Tuple es kk p =>
    simp only [Bool.and_eq_true, decide_eq_true_eq] at q
    exact both w.hK (pe_tupD es.length (by unfold lim; omega) (fun e ds e' h => sem_len r es sc e ds e' q.2 h) (hr.l w es q.2).1) fun _ => rfl
  | _ => cases q
theorem snd_lst {r : Ex} (hr : Snd F G T N r) : Snd F G T N (.lst r) := .ofV rfl rfl fun {X C W sc sw k} w a q => by
  cases a with
  | List es p =>
    simp only [Bool.and_eq_true, decide_eq_true_eq] at q
    exact both w.hK (pe_lstD es.length (by unfold lim; omega) (fun e ds e' h => sem_len r es sc e ds e' q.2 h) (hr.l w es q.2).1) fun _ => rfl
  | _ => cases q
theorem snd_bin {o : Bop} {a b : Ex} (ha : Snd F G T N a) (hb : Snd F G T N b) : Snd F G T N (.bin o a b) := .ofV rfl rfl fun {X C W sc sw k} w e q => by
  cases e with
  | BinOp x op y p =>
    simp only [Bool.and_eq_true, decide_eq_true_eq] at q
    obtain ⟨⟨rfl, q1⟩, q2⟩ := q
    have e1 := (ha.v w x q1).1
    have e2 := (hb.v w y q2).1
    refine both w.hK ?_ fun _ => rfl
    cases o with
    | add => exact pe_two (w.hK ▸ op_addD) ans_add e1 e2
    | sub => exact pe_two op_sub ans_sub e1 e2
    | mul => exact pe_two (w.hK ▸ op_mulD) ans_mul e1 e2
    | fdiv => exact pe_two op_fdiv ans_fdiv e1 e2
    | mod => exact pe_two op_mod ans_mod e1 e2
    | pow => exact pe_two op_pow ans_pow e1 e2
  | _ => cases q
theorem snd_neg {a : Ex} (ha : Snd F G T N a) : Snd F G T N (.neg a) := .ofV rfl rfl fun {X C W sc sw k} w e q => by
  cases e with
  | UnaryOp op x p =>
    cases op with
    | USub => exact both w.hK (pe_negD (ha.v w x q).1) fun _ => rfl
    | _ => cases q
  | _ => cases q
theorem snd_not {a : Ex} (ha : Snd F G T N a) : Snd F G T N (.not a) := .ofV rfl rfl fun {X C W sc sw k} w e q => by
  cases e with
  | UnaryOp op x p =>
    cases op with
    | Not =>
      have t := (ha.v w x q).2
      rw [c_test q] at t
      exact ⟨pe_notD w.hK (ha.v w x q).1, pt_notD t⟩
    | _ => cases q
  | _ => cases q
theorem snd_and {r : Ex} (hr : Snd F G T N r) : Snd F G T N (.and r) := .ofV rfl rfl fun {X C W sc sw k} w e q => by
  cases e with
  | BoolOp op es p =>
    cases op with
    | And =>
      cases es with
      | nil => cases q
      | cons x xs =>
        obtain ⟨⟨b1, b2⟩, _, _⟩ := hr.b w x xs p q
        exact ⟨b1, b2.pt⟩
    | Or => cases q
  | _ => cases q
theorem snd_or {r : Ex} (hr : Snd F G T N r) : Snd F G T N (.or r) := .ofV rfl rfl fun {X C W sc sw k} w e q => by
  cases e with
  | BoolOp op es p =>
    cases op with
    | Or =>
      cases es with
      | nil => cases q
      | cons x xs =>
        obtain ⟨_, b3, b4⟩ := hr.b w x xs p q
        exact ⟨b3, b4.pt⟩
    | And => cases q
  | _ => cases q
/-- what is known of a comparison -/
theorem cop_ok (o : Cop) {X : Cx} {C : Cy} {W : WX} {sc sw : Scope} {k : Nat} (w : Wd X C W F G T N sc sw k) : ∃ r, OpR X (compareOp (cpOf o)) r ∧ AnsC C.K o r := by
  cases o with
  | eq => exact ⟨_, w.hK ▸ op_eqX w.units, ans_eq⟩
  | ne => exact ⟨_, w.hK ▸ op_neX w.units, ans_ne⟩
  | lt => exact ⟨_, w.hK ▸ op_ltX w.units, ans_lt⟩
  | le => exact ⟨_, op_le, ans_le⟩
  | gt => exact ⟨_, op_gt, ans_gt⟩
  | ge => exact ⟨_, op_ge, ans_ge⟩
  | is => exact ⟨_, op_isD, ans_is⟩
  | isnot => exact ⟨_, op_isnD, ans_isnot⟩
  | isin => exact ⟨_, w.hK ▸ op_inX w.units, ans_in⟩
  | notin => exact ⟨_, w.hK ▸ op_notInX w.units, ans_notin⟩
theorem snd_cmp {o : Cop} {a b : Ex} (ha : Snd F G T N a) (hb : Snd F G T N b) : Snd F G T N (.cmp o a b) := .ofV rfl rfl fun {X C W sc sw k} w e q => by
  cases e with
  | Compare x ops ys p =>
    match ops, ys, q with
    | [op], [y], q =>
      simp only [Bool.and_eq_true, decide_eq_true_eq, Bool.not_eq_true'] at q
      obtain ⟨⟨⟨rfl, q1⟩, q2⟩, q3⟩ := q
      obtain ⟨r, h1, h2⟩ := cop_ok o w
      exact ⟨pe_cmpD h1 h2 q1 (ha.v w x q2).1 (hb.v w y q3).1, pt_cmpD h1 h2 q1 (ha.v w x q2).1 (hb.v w y q3).1⟩
  | _ => cases q
theorem snd_ite {c a b : Ex} (hc : Snd F G T N c) (ha : Snd F G T N a) (hb : Snd F G T N b) : Snd F G T N (.ite c a b) := .ofV rfl rfl fun {X C W sc sw k} w e q => by
  cases e with
  | IfExp z x y p =>
    simp only [Bool.and_eq_true] at q
    obtain ⟨⟨q1, q2⟩, q3⟩ := q
    have t2 := (ha.v w x q2).2
    rw [c_test q2] at t2
    have t3 := (hb.v w y q3).2
    rw [c_test q3] at t3
    exact ⟨pe_iteD (hc.v w z q1).2 (ha.v w x q2).1 (hb.v w y q3).1, pt_iteD (hc.v w z q1).2 t2 t3⟩
  | _ => cases q
theorem plix {b : Expr} (h : sliceE b = false) : PlainIx b := fun o i => by cases b <;> first | rfl | cases h
theorem snd_ix {a b : Ex} (ha : Snd F G T N a) (hb : Snd F G T N b) : Snd F G T N (.ix a b) := .ofV rfl rfl fun {X C W sc sw k} w e q => by
  cases e with
  | Subscript x y p =>
    simp only [Bool.and_eq_true, Bool.not_eq_true'] at q
    obtain ⟨⟨q1, q2⟩, q3⟩ := q
    exact both w.hK (pe_ixD w.hK (plix q1) (ha.v w x q2).1 (hb.v w y q3).1) fun _ => rfl
  | _ => cases q
theorem snd_sl {a lo hi : Ex} (ha : Snd F G T N a) (hl : Snd F G T N lo) (hh : Snd F G T N hi) : Snd F G T N (.sl a lo hi) := .ofV rfl rfl fun {X C W sc sw k} w e q => by
  cases e with
  | Subscript x y p =>
    cases y with
    | Slice l h st p2 =>
      cases st with
      | none =>
        simp only [Bool.and_eq_true] at q
        obtain ⟨⟨q1, q2⟩, q3⟩ := q
        exact both w.hK (pe_sliceD w.hK (ha.v w x q1).1 (hl.o w l q2) (hh.o w h q3)) fun _ => rfl
      | some _ => cases q
    | _ => cases q
  | _ => cases q
theorem snd_rev {a : Ex} : Snd F G T N (.rev a) := .ofV rfl rfl fun w e q => by cases q
theorem snd_call {f : Nat} {fr : Bool} {r : Ex} (hr : Snd F G T N r) : Snd F G T N (.call f fr r) := .ofV rfl rfl fun {X C W sc sw k} w e q => by
  cases e with
  | Call fn as kw p =>
    cases fn with
    | Name x px =>
      match as, kw, q with
      | y :: ys, [], q =>
        have q : (decide (T.fns.lookup x = some (f, false)) && glB sc x && !specB x && (y :: ys).all plainE && (ck T N r).l sc (y :: ys)) = true := q
        simp only [Bool.and_eq_true, decide_eq_true_eq, Bool.not_eq_true'] at q
        obtain ⟨⟨⟨⟨q1, q2⟩, q3⟩, q4⟩, q5⟩ := q
        obtain ⟨fa, fd, ps, h1, h2, h3, h4⟩ := w.fns x f false q1
        have q6 : plainE y = true ∧ ys.all plainE = true := by simpa using q4
        exact both w.hK (pe_callD h1 w.rm (w.gl q2) h2 h3 h4 w.tk (hr.l w _ q5).1 (specB_not q3).1 (star_cons q6.1) (star_any q6.2)) fun _ => rfl
    | _ => cases q
  | _ => cases q
theorem snd_callIO {f : Nat} {fr : Bool} {i : Nat} {r : Ex} (hr : Snd F G T N r) : Snd F G T N (.callIO f fr i r) := .ofV rfl rfl fun {X C W sc sw k} w e q => by
  cases e with
  | Call fn as kw p =>
    cases fn with
    | Name x px =>
      match as, kw, q with
      | .Name y py :: ys, [], q =>
        have q : (decide (T.fns.lookup x = some (f, true)) && glB sc x && !specB x && slotB N sc i y && ys.all plainE && (ck T N r).l sc ys) = true := q
        simp only [Bool.and_eq_true, decide_eq_true_eq, Bool.not_eq_true'] at q
        obtain ⟨⟨⟨⟨⟨q1, q2⟩, q3⟩, q4⟩, q5⟩, q6⟩ := q
        obtain ⟨fa, fd, ps, h1, h2, h3, h4⟩ := w.fns x f true q1
        obtain ⟨s1, s2, s3, s4⟩ := w.slot q4
        exact both w.hK (pe_callIOD h1 w.rm (w.gl q2) h2 h3 h4 w.tk (pe_var s1 s2 s3 s4) (hr.l w _ q6).1 (specB_not q3).1 (star_any q5)) fun _ => rfl
    | _ => cases q
  | _ => cases q
end DI

end
section
/-! DiS: the checker of expressions is right, the rest. -/
namespace DI
open PySem PySem.Spec PyProof.Rows L2
variable {F : CallF} {G : List D} {T : Tb} {N : List Str}
theorem p_int {a : Ex} {sc : Scope} {x : Expr} (h : (ck T N a).v sc x = true) : (sem F G a).P = intE (sem F G a).E := by
  cases a <;> first | rfl | cases h
section
variable {X : Cx} {C : Cy} {W : WX}
theorem int_bind {S : Env → Res Rv} {f : Option Int → Env → Res Rv} {σ : L2.St} {H : Hp} {Q : VK} (h : tE C W (fun e => (intE S e).bind f) σ H Q) : tE C W S σ H (fun v H1 => ∃ i, v = .int i ∧ tE C W (fun e => f (some i) e) σ H1 Q) := by
  obtain ⟨B, e, E, h⟩ := h
  refine ⟨B, e, E, (Post.bind (Post.bind h)).mono fun x e1 _ h v H1 b1 p1 => ?_⟩
  obtain ⟨d, hd, ld⟩ := deref_ok b1.ok (p1.lok E.bdom)
  simp only [hd] at h
  cases d with
  | int i =>
    cases ld.int
    exact ⟨i, rfl, B, e1, b1.ok, Post.from shifts_E b1 h⟩
  | _ => exact (show False from h).elim
theorem chain_imp {o p : Cop} {r r' : R2} (ho : AnsC C.K o r) (hp : AnsC C.K p r') {Sa Sb Sc : Env → Res Rv} (σ : L2.St) (H : Hp) (Q : VK)
    (h : tE C W (fun e => (intE Sa e).bind fun i e1 => (intE Sb e1).bind fun j e2 => match i, j with
      | some i, some j => match opC o (.int i) (.int j) with
        | some true => (intE Sc e2).bind fun k e3 => match k with
          | some k => Res.opt ((opC p (.int j) (.int k)).map fun q => Rv.val false (.bool q)) e3
          | none => .stuck
        | some false => .ok (.val false (.bool false)) e2
        | none => .stuck
      | _, _ => .stuck) σ H Q) : tChain r r' (tE C W Sa) (tE C W Sb) (tE C W Sc) σ H Q := by
  have mono : ∀ {S : Env → Res Rv} {σ : L2.St} {H : Hp} {Q Q' : VK}, (∀ v H, Q v H → Q' v H) → tE C W S σ H Q → tE C W S σ H Q' := fun {S σ H Q Q'} hq ⟨B, e, E, h⟩ => ⟨B, e, E, h.mono fun a e' _ h v H' b p => hq _ _ (h v H' b p)⟩
  refine mono (fun x H1 q => ?_) (int_bind h)
  obtain ⟨i, rfl, q⟩ := q
  refine mono (fun y H2 q => ?_) (int_bind q)
  obtain ⟨j, rfl, q⟩ := q
  cases hc : opC o (.int i) (.int j) with
  | none => simp only [hc] at q; obtain ⟨B, e, E, h⟩ := q; exact (show False from h).elim
  | some c =>
    refine ho (fun _ => False) H2 _ _ (.int i) (.int j) c _ (.inl (.int i)) (.inl (.int j)) hc ?_
    refine ⟨c, rfl, ?_⟩
    cases c with
    | false =>
      simp only [hc] at q
      obtain ⟨B, e, E, h⟩ := q
      rw [if_neg Bool.false_ne_true]
      exact h _ H2 (Bet.refl E) (.bool _)
    | true =>
      simp only [hc] at q
      rw [if_pos rfl]
      refine mono (fun z H3 q => ?_) (int_bind q)
      obtain ⟨k, rfl, q⟩ := q
      cases hc2 : opC p (.int j) (.int k) with
      | none => simp only [hc2, Option.map_none, Res.opt] at q; obtain ⟨B, e, E, h⟩ := q; exact (show False from h).elim
      | some c2 =>
        simp only [hc2, Option.map_some, Res.opt] at q
        obtain ⟨B, e, E, h⟩ := q
        exact hp (fun _ => False) H3 _ _ (.int j) (.int k) c2 _ (.inl (.int j)) (.inl (.int k)) hc2 (h _ H3 (Bet.refl E) (.bool _))
/-- the answer of a chain is a bool -/
theorem chain_test {o p : Cop} {r r' : R2} (ho : AnsC C.K o r) (hp : AnsC C.K p r') {Sa Sb Sc : Env → Res Rv} (σ : L2.St) (H : Hp) (Q : Bool → Hp → Prop)
    (h : tC C W (testE fun e => (intE Sa e).bind fun i e1 => (intE Sb e1).bind fun j e2 => match i, j with
      | some i, some j => match opC o (.int i) (.int j) with
        | some true => (intE Sc e2).bind fun k e3 => match k with
          | some k => Res.opt ((opC p (.int j) (.int k)).map fun q => Rv.val false (.bool q)) e3
          | none => .stuck
        | some false => .ok (.val false (.bool false)) e2
        | none => .stuck
      | _, _ => .stuck) σ H Q) : tTest (tChain r r' (tE C W Sa) (tE C W Sb) (tE C W Sc)) σ H Q := by
  refine chain_imp ho hp σ H _ ?_
  obtain ⟨B, e, E, h⟩ := h
  refine ⟨B, e, E, (Post.bind h).mono fun x e1 he h v H1 b1 p1 => ?_⟩
  have h := Post.from shifts_B b1 h
  have : ∃ c, x = .val false (.bool c) := by
    cases h1 : intE Sa e with
    | ok i f1 =>
      simp only [h1, Res.bind] at he
      cases h2 : intE Sb f1 with
      | ok j f2 =>
        simp only [h2] at he
        cases i with
        | none => cases he
        | some i =>
          cases j with
          | none => cases he
          | some j =>
            simp only at he
            cases hc : opC o (.int i) (.int j) with
            | none => rw [hc] at he; cases he
            | some c =>
              rw [hc] at he
              cases c with
              | false => cases he; exact ⟨_, rfl⟩
              | true =>
                simp only at he
                cases h3 : intE Sc f2 with
                | ok k f3 =>
                  simp only [h3] at he
                  cases k with
                  | none => cases he
                  | some k =>
                    simp only at he
                    cases hd : opC p (.int j) (.int k) with
                    | none => rw [hd] at he; cases he
                    | some c2 => rw [hd] at he; cases he; exact ⟨_, rfl⟩
                | _ => simp only [h3] at he; cases he
      | _ => simp only [h2] at he; cases he
    | _ => simp only [h1, Res.bind] at he; cases he
  obtain ⟨c, rfl⟩ := this
  cases p1
  exact ⟨c, rfl, h c H1 (Bet.refl b1.ok) rfl⟩
end
theorem snd_cmp2 {o p : Cop} {a b c : Ex} (ha : Snd F G T N a) (hb : Snd F G T N b) (hc : Snd F G T N c) : Snd F G T N (.cmp2 o p a b c) := .ofV rfl rfl fun {X C W sc sw k} w e q => by
  cases e with
  | Compare x ops ys pp =>
    match ops, ys, q with
    | [op, op'], [y, z], q =>
      have q : (decide (op = cpOf o) && decide (op' = cpOf p) && !lastMarks [op, op'] [y, z] && (ck T N a).v sc x && (ck T N b).v sc y && (ck T N c).v sc z) = true := q
      simp only [Bool.and_eq_true, decide_eq_true_eq, Bool.not_eq_true'] at q
      obtain ⟨⟨⟨⟨⟨rfl, rfl⟩, q1⟩, q2⟩, q3⟩, q4⟩ := q
      obtain ⟨r, h1, h2⟩ := cop_ok o w
      obtain ⟨r', h3, h4⟩ := cop_ok p w
      rw [p_int q2, p_int q3, p_int q4]
      exact ⟨(pe_chain h1 h3 (ha.v w x q2).1 (hb.v w y q3).1 (hc.v w z q4).1 q1).impD (chain_imp h2 h4), (pt_chain h1 h3 (ha.v w x q2).1 (hb.v w y q3).1 (hc.v w z q4).1 q1).impD (chain_test h2 h4)⟩
  | _ => cases q
/-- built-ins as values -/
theorem bi_ok {b : Bi} {r : Ex} (hr : Snd F G T N r) {X : Cx} {C : Cy} {W : WX} {sc sw : Scope} {k : Nat} (w : Wd X C W F G T N sc sw k) {e : Expr} (q : biC b (ck T N r).l sc e = true) : PE X e (tE C W fun e => ((sem F G r).R e).bind fun xs e1 => match xs.mapM (deref e1) with
      | some ds => Res.opt ((biV b ds).map fun p => Rv.val p.1 p.2) e1
      | none => .stuck) ∧ ∀ whole, isTrue e X.env whole = (do let v ← whole; standAt e.pos; holding [v] (truthy v)) := by
  cases e with
  | Call fn as kw p =>
    refine ⟨?_, fun _ => rfl⟩
    cases fn with
    | Name x px =>
      match as, kw, q with
      | y :: ys, [], q =>
        have q : (decide (x = biName b) && valB b && glB sc x && (y :: ys).all plainE && (ck T N r).l sc (y :: ys)) = true := q
        simp only [Bool.and_eq_true, decide_eq_true_eq] at q
        obtain ⟨⟨⟨⟨rfl, q1⟩, q2⟩, q3⟩, q4⟩ := q
        have q5 : plainE y = true ∧ ys.all plainE = true := by simpa using q3
        have ha := (hr.l w _ q4).2
        have hg := w.gl q2
        have hm := w.bl (bi_blt b)
        have hs := star_cons (es := ys) (env := X.env) q5.1
        have hp := star_any (pos := p) (env := X.env) q5.2
        have K := w.hK
        cases b with
        | len => exact (pe_callB call_len hg hm PySem.boot_len ha (bi_spec .len).1 (bi_spec .len).2 hs hp).impD (args_imp (K ▸ ans_len))
        | abs => exact (pe_callB call_abs hg hm PyProof.Rows.boot_abs ha (bi_spec .abs).1 (bi_spec .abs).2 hs hp).impD (args_imp ans_abs)
        | int => exact (pe_callTy call_int1 hg hm PySem.Pv.boot_int ha (bi_spec .int).1 (bi_spec .int).2 hs hp).impD (args_imp ans_int)
        | tuple => exact (pe_callTy (call_tupleX w.calm) hg hm PySem.Pv.boot_tuple ha (bi_spec .tuple).1 (bi_spec .tuple).2 hs hp).impD (args_imp (K ▸ ans_tuple))
        | list => exact (pe_callTy (call_listX w.calm) hg hm PySem.Pv.boot_list ha (bi_spec .list).1 (bi_spec .list).2 hs hp).impD (args_imp (K ▸ ans_list))
        | sum => exact (pe_callB (cr_sum w.calm) hg hm PyProof.Rows.boot_sum ha (bi_spec .sum).1 (bi_spec .sum).2 hs hp).impD (args_imp (K ▸ ans_sum))
        | min => exact (pe_callB (CallR.or' (cr_min w.calm) (call_min2 w.calm)) hg hm PyProof.Rows.boot_min ha (bi_spec .min).1 (bi_spec .min).2 hs hp).impD (args_imp (K ▸ ans_min))
        | max => exact (pe_callB (CallR.or' (cr_max w.calm) (call_max2 w.calm)) hg hm PyProof.Rows.boot_max ha (bi_spec .max).1 (bi_spec .max).2 hs hp).impD (args_imp (K ▸ ans_max))
        | all => exact (pe_callB (cr_all w.calm) hg hm PyProof.Rows.boot_all ha (bi_spec .all).1 (bi_spec .all).2 hs hp).impD (args_imp (K ▸ ans_all))
        | any => exact (pe_callB (cr_any w.calm) hg hm PyProof.Rows.boot_any ha (bi_spec .any).1 (bi_spec .any).2 hs hp).impD (args_imp (K ▸ ans_any))
        | _ => cases q1
    | _ => cases q
  | _ => cases q
theorem snd_bi {b : Bi} {r : Ex} (hr : Snd F G T N r) : Snd F G T N (.bi b r) := by
  refine ⟨fun {X C W sc sw k} w a q => ?_, fun w es q => (by cases q), fun w x xs pos q => (by cases q), fun {X C W sc sw k} w tg a q => ?_, fun {X C W sc sw k} w a q => ?_⟩
  · obtain ⟨h1, h2⟩ := bi_ok hr w q
    exact both w.hK h1 h2
  · by_cases hb : b = .range
    · subst hb
      cases a with
      | Call fn as kw p =>
        cases fn with
        | Name x px =>
          match as, kw, q with
          | [y], [], q =>
            have q : (decide (x = "range") && glB sc x && plainE y && (ck T N r).l sc [y]) = true := q
            simp only [Bool.and_eq_true, decide_eq_true_eq] at q
            obtain ⟨⟨⟨rfl, q1⟩, q2⟩, q3⟩ := q
            exact pi_range1D (fun e ds e' h => sem_len r [y] sc e ds e' q3 h) (w.gl q1) (w.bl (bi_blt .range)) (hr.l w _ q3).1 (star_cons q2)
          | [y, z], [], q =>
            have q : (decide (x = "range") && glB sc x && plainE y && plainE z && (ck T N r).l sc [y, z]) = true := q
            simp only [Bool.and_eq_true, decide_eq_true_eq] at q
            obtain ⟨⟨⟨⟨rfl, q1⟩, q2⟩, q3⟩, q4⟩ := q
            exact pi_range2D (fun e ds e' h => sem_len r [y, z] sc e ds e' q4 h) (w.gl q1) (w.bl (bi_blt .range)) (hr.l w _ q4).1 (by rw [star_cons q2, star_cons q3]; rfl) (star_cons q3)
          | [], [], q => cases q
          | [], _ :: _, q => cases q
          | [_], _ :: _, q => cases q
          | [_, _], _ :: _, q => cases q
          | _ :: _ :: _ :: _, _ :: _, q => cases q
          | _ :: _ :: _ :: _, [], q => cases q
        | _ => cases q
      | _ => cases q
    · have hI : (sem F G (.bi b r)).I = walkE (sem F G (.bi b r)).E ∨ b = .zip ∨ b = .enum := by
        cases b
        case range => exact absurd rfl hb
        case zip => exact .inr (.inl rfl)
        case enum => exact .inr (.inr rfl)
        all_goals exact .inl rfl
      have hq : biC b (ck T N r).l sc a = true := by
        cases b
        case range => exact absurd rfl hb
        all_goals exact q
      rcases hI with hI | hI
      · rw [hI]
        exact pi_anyD w.hK (bi_ok hr w hq).1
      · -- no rule
        exfalso
        cases a with
        | Call fn as kw p =>
          cases fn with
          | Name x px =>
            match as, kw, hq with
            | y :: ys, [], hq =>
              have hq : (decide (x = biName b) && valB b && glB sc x && (y :: ys).all plainE && (ck T N r).l sc (y :: ys)) = true := hq
              simp only [Bool.and_eq_true] at hq
              rcases hI with rfl | rfl <;> cases hq.1.1.1.2
          | _ => cases hq
        | _ => cases hq
  · cases a with
    | none => cases q
    | some a => exact po_someD (bi_ok hr w q).1
end DI

end
section
/-! DiT: the checker of expressions is right: methods, comprehensions; all. -/
namespace DI
open PySem PySem.Spec PyProof.Rows L2
variable {F : CallF} {G : List D} {T : Tb} {N : List Str}
theorem ty_boot (t : Ty) : bootBuiltins (tyStr t) = some (.type (tyName t)) := by
  cases t with
  | int => exact PySem.Pv.boot_int
  | bool => exact PyProof.Rows.boot_bool
  | str => exact PyProof.Rows.boot_str
  | tuple => exact PySem.Pv.boot_tuple
  | list => exact PySem.Pv.boot_list
theorem ty_spec (t : Ty) : tyStr t ≠ "__name__" ∧ (tyStr t == ("__debug__" : Str)) = false := by cases t <;> decide +kernel
theorem isi_blt : ("isinstance" : Str) ∈ blts := by decide +kernel
theorem snd_isi {t : Ty} {a : Ex} (ha : Snd F G T N a) : Snd F G T N (.isi t a) := .ofV rfl rfl fun {X C W sc sw k} w e q => by
  cases e with
  | Call fn as kw p =>
    cases fn with
    | Name x px =>
      match as, kw, q with
      | [y, .Name z pz], [], q =>
        have q : (decide (x = "isinstance") && glB sc x && decide (z = tyStr t) && glB sc z && plainE y && (ck T N a).v sc y) = true := q
        simp only [Bool.and_eq_true, decide_eq_true_eq] at q
        obtain ⟨⟨⟨⟨⟨rfl, q1⟩, rfl⟩, q2⟩, q3⟩, q4⟩ := q
        have hz : PE X (.Name (tyStr t) pz) (L2.tC (.ty (tyName t))) := pe_bltn (w.gl q2) (w.bl (ty_blt t)) (ty_boot t) rfl (ty_spec t).1 (ty_spec t).2
        refine both w.hK ?_ fun _ => rfl
        refine (pe_callB call_isi (w.gl q1) (w.bl isi_blt) PyProof.Rows.boot_isinstance (pa_cons (ha.v w y q4).1 (pa_cons hz pa_nil rfl) (star_cons q3)) (by decide +kernel) (by decide +kernel) (star_cons q3) rfl).impD fun σ H Q h => ?_
        have h := one_imp (ans_isi t) σ H Q h
        obtain ⟨B, e, E, h⟩ := h
        refine ⟨B, e, E, h.mono fun x e1 _ h v H1 b1 p1 => ?_⟩
        obtain ⟨tx, b, h1, h2, h3⟩ := h v H1 b1 p1
        exact ⟨v, .ty (tyName t), tx, .type (tyName t), b, rfl, .ty _, w.hK ▸ h1, w.hK ▸ h2, h3⟩
    | _ => cases q
  | _ => cases q
theorem base_ok {o : Expr} {nm : Str} {env : PySem.Env} {whole : PySem.Sem Value} (h : baseOk o = true) : attributeBase o nm env whole = whole := by
  unfold attributeBase
  split
  · cases h
  · rfl
theorem snd_me {m : Me} {o r : Ex} (ho : Snd F G T N o) (hr : Snd F G T N r) : Snd F G T N (.me m o r) := .ofV rfl rfl fun {X C W sc sw k} w e q => by
  cases m with
  | join =>
    cases e with
    | Call fn as kw p =>
      cases fn with
      | Attribute x nm apos =>
        match as, kw, q with
        | [y], [], q =>
          have q : (decide (nm = "join") && baseOk x && (apos.endLine == p.line) && plainE y && (ck T N o).v sc x && (ck T N r).l sc [y]) = true := q
          simp only [Bool.and_eq_true, decide_eq_true_eq] at q
          obtain ⟨⟨⟨⟨⟨rfl, q1⟩, q2⟩, q3⟩, q4⟩, q5⟩ := q
          have hall : [y].all plainE = true := by simp [q3]
          refine both w.hK ?_ fun _ => rfl
          refine (pe_bm PySem.F.plainAttrs_str PySem.F.slot_str_join PySem.F.type_str_join mt_join (ho.v w x q4).1 (hr.l w [y] q5).2 (base_ok q1) (by rw [star_all hall]; rfl) q2 (star_cons q3) rfl).impD fun σ H Q h => ?_
          obtain ⟨B, e, E, h⟩ := h
          refine ⟨B, e, E, (Post.bind h).mono fun z e1 _ h v H1 b1 p1 => ?_⟩
          have h := Post.from shifts_E b1 h
          obtain ⟨d, hd, ld⟩ := deref_ok b1.ok (p1.lok E.bdom)
          simp only [hd] at h
          cases d with
          | str s =>
            obtain ⟨rfl, hs⟩ := ld.str
            refine ⟨rfl, B, e1, b1.ok, (Post.bind h).mono fun xs e2 _ h vs H2 b2 p2 => ?_⟩
            have h := Post.from shifts_E b2 h
            cases hm : xs.mapM (deref e2) with
            | none => simp only [hm] at h; exact (show False from h).elim
            | some ds =>
              simp only [hm] at h
              have ll := derefs_ok b2.ok p2 hm
              cases hf : meV .join (.str s) ds with
              | none => rw [hf] at h; exact (show False from h).elim
              | some p =>
                rw [hf] at h
                rw [← w.hK] at ll
                refine ansT_join _ H2 s vs ds p Q (fun a z => b2.ok.x_there z) hs ll hf fun w' H' n => ?_
                rw [w.hK] at n
                obtain ⟨E', x', q⟩ := new_fin (O := Ow σ e2) b2.ok (Evo.refl H2) n
                exact h w' H' ⟨E', x', fun _ z => z, Told.refl _⟩ q
          | _ => exact (show False from h).elim
      | _ => cases q
    | _ => cases q
  | _ => cases q
theorem snd_mu {m : Mu} {i : Nat} {r : Ex} (hr : Snd F G T N r) : Snd F G T N (.mu m i r) := .ofV rfl rfl fun {X C W sc sw k} w e q => by
  cases e with
  | Call fn as kw p =>
    cases fn with
    | Attribute o nm apos =>
      cases o with
      | Name x px =>
        match as, kw, q with
        | [], [], q =>
          have q : (decide (m = .pop) && decide (nm = "pop") && (apos.endLine == p.line) && slotB N sc i x && (ck T N r).l sc []) = true := q
          simp only [Bool.and_eq_true, decide_eq_true_eq] at q
          obtain ⟨⟨⟨⟨rfl, rfl⟩, q1⟩, q2⟩, q3⟩ := q
          obtain rfl := ck_nil q3
          obtain ⟨s1, s2, s3, s4⟩ := w.slot q2
          exact both w.hK ((pe_bm0 PySem.F.plainAttrs_list PySem.F.slot_list_pop PySem.F.type_list_pop (MtR.or mt_pop mt_popAt) (pe_var s1 s2 s3 s4) rfl q1).impD fun σ H Q h => w.hK ▸ mu_imp0 ansM_pop σ H Q h) fun _ => rfl
        | y :: ys, [], q =>
          have q : (muB m && decide (nm = muName m) && (apos.endLine == p.line) && slotB N sc i x && decide ((y :: ys).length < 20) && (y :: ys).all plainE && (ck T N r).l sc (y :: ys)) = true := q
          simp only [Bool.and_eq_true, decide_eq_true_eq] at q
          obtain ⟨⟨⟨⟨⟨⟨q0, rfl⟩, q1⟩, q2⟩, q3⟩, q4⟩, q5⟩ := q
          obtain ⟨s1, s2, s3, s4⟩ := w.slot q2
          have q6 : plainE y = true ∧ ys.all plainE = true := by simpa using q4
          have ha := (hr.l w _ q5).1
          have few : ((backTo p (starEach (y :: ys) X.env)).all (fun x => !x.1) && (backToKw p (keywordEach [] X.env)).all (fun x => x.1.isSome) && decide ((y :: ys).length + ([] : List Keyword).length + (if ([] : List Keyword).isEmpty then 0 else 1) < 30)) = true := by
            rw [star_all q4, Bool.true_and, Bool.and_eq_true]
            refine ⟨rfl, decide_eq_true ?_⟩
            simp only [List.length_nil, List.isEmpty_nil, if_true, Nat.add_zero]
            omega
          refine both w.hK ?_ fun _ => rfl
          cases m with
          | append => exact (pe_bm PySem.F.plainAttrs_list PySem.F.slot_list_append PySem.F.type_list_append mt_append (pe_var s1 s2 s3 s4) ha rfl few q1 (star_cons q6.1) (star_any q6.2)).impD fun σ H Q h => w.hK ▸ mu_imp ansM_append σ H Q h
          | extend => exact (pe_bm PySem.F.plainAttrs_list PySem.F.slot_list_extend PySem.F.type_list_extend mt_extend (pe_var s1 s2 s3 s4) ha rfl few q1 (star_cons q6.1) (star_any q6.2)).impD fun σ H Q h => w.hK ▸ mu_imp ansM_extend σ H Q h
          | pop => exact (pe_bm PySem.F.plainAttrs_list PySem.F.slot_list_pop PySem.F.type_list_pop (MtR.or mt_pop mt_popAt) (pe_var s1 s2 s3 s4) ha rfl few q1 (star_cons q6.1) (star_any q6.2)).impD fun σ H Q h => w.hK ▸ mu_imp ansM_pop σ H Q h
          | _ => cases q0
      | _ => cases q
    | _ => cases q
  | _ => cases q
theorem fold_ok {a : Expr} {env : PySem.Env} (h : setE a = false) : ∀ x, foldedSetIterable a env x = pure x := fun x => by cases a <;> first | rfl | cases h
theorem own_slots (N : List Str) (t : Tg) : (ownOf N t).map (·.2) = t.slots := by
  unfold ownOf
  rw [List.map_map]
  exact List.map_id _
theorem snd_lc {t : Tg} {a it c : Ex} (ha : Snd F G T N a) (hi : Snd F G T N it) (hc : Snd F G T N c) : Snd F G T N (.lc t a it c) := .ofV rfl rfl fun {X C W sc sw k} w e q => by
  cases e with
  | ListComp elt gs scope p =>
    match gs, q with
    | [⟨tg, iter, ifs, 0⟩], q =>
      have q : (tgB N scope t tg && !setE iter && (ck T N it).i sc tg iter && blkC N sc scope (ownOf N t) && (ck T N a).v (relS scope sc) elt && ifC (ck T N c) sc (relS scope sc) ifs) = true := q
      simp only [Bool.and_eq_true, Bool.not_eq_true'] at q
      obtain ⟨⟨⟨⟨⟨q1, q2⟩, q3⟩, q4⟩, q5⟩, q6⟩ := q
      refine both w.hK ?_ fun _ => rfl
      refine pe_lcD w.calm (by rw [w.hN]; exact w.nd) (hi.i w tg iter q3) (by rw [w.hN, w.hsc]; exact blkOk_by q4) (own_slots N t) (fun s H A cl fp => (w.blk s H scope cl A fp).tg q1) (fun s H A cl fp => ?_) (fun s H A cl fp => (ha.v (w.blk s H scope cl A fp) elt q5).1) (fold_ok q2)
      match ifs, q6 with
      | [], q6 =>
        obtain rfl := ck_onil q6
        exact pts_nilD
      | [x], q6 => exact pts_one (hc.v (w.blk s H scope cl A fp) x q6).2
  | _ => cases q
theorem snd_no {ex : Ex} (hc : ck T N ex = ckV fun _ _ => false) (E : Env → Res Rv) (hs : sem F G ex = Sem.e E) : Snd F G T N ex := .ofV hc hs fun w e q => by cases q
/-- every expression that the checker lets pass does what the evaluator says -/
theorem snd : ∀ ex : Ex, Snd F G T N ex
  | .nil => snd_nil
  | .cons a r => snd_cons (snd a) (snd r)
  | .lit d => snd_lit d
  | .loc i => snd_loc i
  | .glo k => snd_glo k
  | .tup r => snd_tup (snd r)
  | .lst r => snd_lst (snd r)
  | .bin o a b => snd_bin (snd a) (snd b)
  | .neg a => snd_neg (snd a)
  | .not a => snd_not (snd a)
  | .and r => snd_and (snd r)
  | .or r => snd_or (snd r)
  | .cmp o a b => snd_cmp (snd a) (snd b)
  | .cmp2 o p a b c => snd_cmp2 (snd a) (snd b) (snd c)
  | .ite c a b => snd_ite (snd c) (snd a) (snd b)
  | .ix a k => snd_ix (snd a) (snd k)
  | .sl a lo hi => snd_sl (snd a) (snd lo) (snd hi)
  | .rev a => snd_rev
  | .call f fr r => snd_call (snd r)
  | .callIO f fr i r => snd_callIO (snd r)
  | .bi b r => snd_bi (snd r)
  | .isi t a => snd_isi (snd a)
  | .me m o r => snd_me (snd o) (snd r)
  | .mu m i r => snd_mu (snd r)
  | .mkL it => snd_no rfl _ rfl
  | .mkT it => snd_no rfl _ rfl
  | .lc t a it c => snd_lc (snd a) (snd it) (snd c)
  | .lc2 t it t2 a it2 c2 => snd_no rfl _ rfl
  | .dc t k v it c => snd_no rfl _ rfl
  | .dic ks vs => snd_no rfl _ rfl
end DI

end
section
/-! DiU: the checker of statements, and that it is right. -/
namespace DI
open PySem PySem.Spec PyProof.Rows L2
def compE : Expr → Bool
  | .ListComp .. => true
  | .SetComp .. => true
  | .DictComp .. => true
  | _ => false
def tupE : Expr → Bool
  | .Tuple .. => true
  | _ => false
/-- whether a comprehension's value goes into the name at once -/
def swB (sc : Scope) (y : Str) (py : Pos) : Expr → Bool
  | .ListComp _ _ sw pos => decide (sc.kind = .function) && decide (sc.names.lookup y = some .local) && (py.line == pos.line) && !(sw.names.any fun nk => nk.1 == y && (nk.2 == .local || nk.2 == .cell))
  | _ => false
def swN (sc : Scope) (y : Str) (py : Pos) : Expr → Bool
  | .ListComp _ _ sw pos => decide (sc.kind = .function) && (!decide (sc.names.lookup y = some .local) || !(py.line == pos.line) || (sw.names.any fun nk => nk.1 == y && (nk.2 == .local || nk.2 == .cell)))
  | e => !compE e
structure CkS where
  s : Scope → Stmt → Bool
  ss : Scope → List Stmt → Bool
def ckSt (s : Scope → Stmt → Bool) : CkS := ⟨s, fun _ _ => false⟩
def isLc : Ex → Bool
  | .lc _ _ _ _ => true
  | _ => false
def ckS (T : Tb) (N : List Str) (io : Bool) : Sm → CkS
  | .skip => ⟨fun _ st => match st with
    | .Pass _ => true
    | _ => false, fun _ sts => match sts with
    | [] => true
    | _ => false⟩
  | .seq a b => ⟨fun _ _ => false, fun sc sts => match sts with
    | st :: r => (ckS T N io a).s sc st && (ckS T N io b).ss sc r
    | [] => false⟩
  | .asg i a => ckSt fun sc st => match st with
    | .Assign [.Name x px] e _ => decide (N[i]? = some x) && locB sc x && (!io || decide (i ≠ 0)) && (ck T N a).v sc e && (swN sc x px e || (swB sc x px e && isLc a))
    | _ => false
  | .asgT is a => ckSt fun sc st => match st with
    | .Assign [.Tuple es _ _] e _ => tgsB N sc is es && (!io || decide (0 ∉ is)) && !tupE e && (ck T N a).v sc e
    | _ => false
  | .setix i k v => ckSt fun sc st => match st with
    | .Assign [.Subscript (.Name x _) y _] e _ => slotB N sc i x && !sliceE y && (ck T N k).v sc y && (ck T N v).v sc e
    | _ => false
  | .ex a => ckSt fun sc st => match st with
    | .Expr e _ => !compE e && (ck T N a).v sc e
    | _ => false
  | .ret a => ckSt fun sc st => match st with
    | .Return (some e) _ => (ck T N a).v sc e
    | _ => false
  | .retN => ckSt fun _ st => match st with
    | .Return none _ => true
    | _ => false
  | .ifs c s t => ckSt fun sc st => match st with
    | .If e p q _ => (ck T N c).v sc e && (ckS T N io s).ss sc p && (ckS T N io t).ss sc q
    | _ => false
  | .loop c b => ckSt fun sc st => match st with
    | .While e p [] _ => (ck T N c).v sc e && (ckS T N io b).ss sc p
    | _ => false
  | .each t it b => ckSt fun sc st => match st with
    | .For tg iter p [] _ => tgB N sc t tg && (!io || decide (0 ∉ t.slots)) && !setE iter && (ck T N it).i sc tg iter && (ckS T N io b).ss sc p
    | _ => false
  | .brk => ckSt fun _ st => match st with
    | .Break _ => true
    | _ => false
  | .raise _ _ => ckSt fun _ _ => false
  | .die => ⟨fun _ _ => true, fun _ _ => true⟩
theorem sw_non {e : Expr} {t : Option Expr} {l : Nat} {env : PySem.Env} (h : compE e = false) : swapsWith e t l env = pure false := by cases e <;> first | rfl | cases h
theorem sw_nonS {e tg : Expr} {l : Nat} {env : PySem.Env} (h : compE e = false) : swapsWithSole [tg] e l env = pure false := sw_non h
theorem sw_tup {e : Expr} {es : List Expr} {kk : Nat} {p : Pos} {l : Nat} {env : PySem.Env} : swapsWithSole [.Tuple es kk p] e l env = pure false := by cases e <;> rfl
theorem sw_sub {e a b : Expr} {p : Pos} {l : Nat} {env : PySem.Env} : swapsWithSole [.Subscript a b p] e l env = pure false := by cases e <;> rfl
theorem ss_non {e tg : Expr} {env : PySem.Env} (h : tupE e = false) : swappedStores [tg] e env = pure none := by
  cases tg <;> first | rfl | (cases e <;> first | rfl | cases h)
theorem ss_sub {e a b : Expr} {p : Pos} {env : PySem.Env} : swappedStores [.Subscript a b p] e env = pure none := by cases e <;> rfl
theorem sw_no {e : Expr} {y : Str} {py : Pos} {l : Nat} {env : PySem.Env} (h : swN env.scope y py e = true) : swapsWith e (some (.Name y py)) l env = pure false := by
  cases e with
  | ListComp elt gs sw pos =>
    simp only [swN, Bool.and_eq_true, decide_eq_true_eq] at h
    obtain ⟨hk, h⟩ := h
    have hb : env.blockKind = .function := by unfold Env.blockKind; rw [hk]; rfl
    have key : (env.blockKind == .function && env.kindOf y == some .local && py.line == pos.line && !(sw.names.any fun (n, k) => n == y && (k == .local || k == .cell))) = false := by
      rw [hb]
      simp only [Bool.or_eq_true, Bool.not_eq_true', decide_eq_false_iff_not] at h
      rcases h with (h | h) | h
      · have : (env.kindOf y == some NameKind.local) = false := by
          rw [beq_eq_false_iff_ne]
          exact h
        rw [this]; simp
      · rw [h]; simp
      · have h : (sw.names.any fun (n, k) => n == y && (k == .local || k == .cell)) = true := h
        rw [h]; simp
    unfold swapsWith
    simp only [Expr.pos]
    rw [key]
  | SetComp => cases h
  | DictComp => cases h
  | _ => rfl
structure WdS (X : Cx) (C : Cy) (W : WX) (F : CallF) (G : List D) (T : Tb) (N : List Str) (sc : Scope) (k : Nat) : Prop extends Wd X C W F G T N sc sc k where
  po : PassesOwn (model X.prog X.w) X.A X.env X.xe
  fn : ∀ x, X.fn x = true
  kind : sc.kind = .function
variable {F : CallF} {G : List D} {T : Tb} {N : List Str} {io : Bool} {wf : Nat}
/-! ### o[k] = v -/
theorem set_ix {C : Cy} {W : WX} {i : Nat} {Sk Sv : Env → Res Rv} {Dn : Ends} {σ : L2.St} {H : Hp} (h : tS C W io (fun e => (Sv e).flow fun x e1 => (leak x e1).flow fun d e2 => if isOwn e2 i then (Sk e2).flow fun y e3 => (leak y e3).flow fun d' e4 => match e4[i]?.join with
    | some (true, o) => match putV o d' d with
      | some o' => .nx (e4.set i (some (true, o')))
      | none => .stuck
    | _ => .stuck else .stuck) Dn σ H) : tAsg (tE C W Sv) (gSub (tVar i) (tE C W Sk) rSetL) Dn σ H := by
  obtain ⟨f, e, hio, k, h⟩ := h
  refine ⟨f.B, e, k.ok, (PostF.flow k h).mono fun r e1 _ h v H1 b1 p1 => ?_⟩
  have k1 := k.bet b1
  obtain ⟨d, e2, _, b2, rp, h⟩ := leak_ok (W := W) b1.ok (p1.lok k.ok.bdom) (PostF.flow k1 h)
  have k2 := k1.bet b2
  cases ho : isOwn e2 i with
  | false => simp only [ho] at h; exact (show False from h).elim
  | true =>
  simp only [ho, if_true] at h
  obtain ⟨d0, he⟩ := isOwn_of ho
  obtain ⟨a, hs, hB, _⟩ := k2.ok.own i d0 he
  refine ⟨.ref a, hs, f.B, e2, k2.ok, (PostF.flow k2 h).mono fun y e3 _ h u H3 b3 p3 => ?_⟩
  have k3 := k2.bet b3
  obtain ⟨d', e4, _, b4, rp', h⟩ := leak_ok (W := W) b3.ok (p3.lok k2.ok.bdom) (PostF.flow k3 h)
  have k4 := k3.bet b4
  cases hj : e4[i]?.join with
  | none => simp only [hj] at h; exact (show False from h).elim
  | some q =>
  obtain ⟨o, d1⟩ := q
  cases o with
  | false => simp only [hj] at h; exact (show False from h).elim
  | true =>
  simp only [hj] at h
  have he4 := join_of hj
  obtain ⟨a', hs', hB', ho4⟩ := k4.ok.own i d1 he4
  rw [hs] at hs'
  cases hs'
  have rpd := Rp.keep rp (b3.trans b4)
  cases d1 with
  | list ds =>
    obtain ⟨xs, h1, h2⟩ := ho4
    cases d' with
    | int j =>
      cases rp'
      cases hp : place ds.length j with
      | none => simp only [putV, hp, Option.map_none] at h; exact (show False from h).elim
      | some n =>
        simp only [putV, hp, Option.map_some] at h
        refine ⟨a, xs, j, n, rfl, rfl, h1, by rw [h2.length]; exact hp, ?_⟩
        have haw : Ow σ e4 a := ⟨i, _, he4, hs⟩
        have x5 := upd_evo (u := .lst (xs.set n v)) h1
        have n5 : OwnAt C.K (upd H3 a (.lst (xs.set n v))) (orP f.B (Ow σ e4)) a (.list (ds.set n d)) := ⟨_, upd_same, (h2.set n rpd).updX (.inr haw)⟩
        exact h _ _ (k4.bet (Bet.put k4.ok he4 hs x5 n5))
    | _ => exact (show False from h).elim
  | _ => exact (show False from ho4).elim
/-! ### all statements -/
structure SndS (F : CallF) (G : List D) (T : Tb) (N : List Str) (io : Bool) (wf : Nat) (sm : Sm) : Prop where
  s : ∀ {X : Cx} {C : Cy} {W : WX} {sc : Scope} {k : Nat}, WdS X C W F G T N sc k → ∀ st, (ckS T N io sm).s sc st = true → PS X st (tS C W io (exS F G wf sm))
  ss : ∀ {X : Cx} {C : Cy} {W : WX} {sc : Scope} {k : Nat}, WdS X C W F G T N sc k → ∀ sts, (ckS T N io sm).ss sc sts = true → PSs X sts (tS C W io (exS F G wf sm))
theorem SndS.of {sm : Sm} {s : Scope → Stmt → Bool} (hc : ckS T N io sm = ckSt s) (h : ∀ {X : Cx} {C : Cy} {W : WX} {sc : Scope} {k : Nat}, WdS X C W F G T N sc k → ∀ st, s sc st = true → PS X st (tS C W io (exS F G wf sm))) : SndS F G T N io wf sm :=
  ⟨fun w st q => by rw [hc] at q; exact h w st q, fun w sts q => by rw [hc] at q; cases q⟩
theorem WdS.loc' {X : Cx} {C : Cy} {W : WX} {sc : Scope} {k : Nat} (w : WdS X C W F G T N sc k) {x : Str} (h : locB sc x = true) : X.env.scope.names.lookup x = some .local ∨ (X.fn x = true ∧ Loc X.env.scope x) := by
  rw [w.hsc]
  exact .inr ⟨w.fn x, (w.loc x h).1⟩
theorem io_ne {i : Nat} (h : (!io || decide (i ≠ 0)) = true) : io = true → i ≠ 0 := fun z => by
  subst z
  simpa using h
theorem io_mem {is : List Nat} (h : (!io || decide (0 ∉ is)) = true) : io = true → 0 ∉ is := fun z => by
  subst z
  simpa using h
theorem isLc_of {a : Ex} (h : isLc a = true) : ∃ t b it c, a = .lc t b it c := by
  cases a <;> first | exact ⟨_, _, _, _, rfl⟩ | cases h
theorem snds_asg {i : Nat} {a : Ex} : SndS F G T N io wf (.asg i a) := .of rfl fun {X C W sc k} w st q => by
  cases st with
  | Assign tgs e pos =>
    match tgs, q with
    | [.Name x px], q =>
      have q : (decide (N[i]? = some x) && locB sc x && (!io || decide (i ≠ 0)) && (ck T N a).v sc e && (swN sc x px e || (swB sc x px e && isLc a))) = true := q
      simp only [Bool.and_eq_true, decide_eq_true_eq] at q
      obtain ⟨⟨⟨⟨q1, q2⟩, q3⟩, q4⟩, q5⟩ := q
      rw [Bool.or_eq_true] at q5
      rcases q5 with q5 | q5
      · exact ps_asgD (io_ne q3) (by rw [w.hN]; exact w.nd) (by rw [w.hN]; exact q1) (w.loc' q2) ((snd a).v w.toWd e q4).1 (sw_no (by rw [w.hsc]; exact q5))
      · rw [Bool.and_eq_true] at q5
        obtain ⟨q5, q6⟩ := q5
        obtain ⟨t, b, it, c, rfl⟩ := isLc_of q6
        cases e with
        | ListComp elt gs scope p =>
          simp only [swB, Bool.and_eq_true, decide_eq_true_eq, Bool.not_eq_true'] at q5
          obtain ⟨⟨⟨r1, r2⟩, r3⟩, r4⟩ := q5
          match gs, q4 with
          | [⟨tg, iter, ifs, 0⟩], q4 =>
            have q : (tgB N scope t tg && !setE iter && (ck T N it).i sc tg iter && blkC N sc scope (ownOf N t) && (ck T N b).v (relS scope sc) elt && ifC (ck T N c) sc (relS scope sc) ifs) = true := q4
            simp only [Bool.and_eq_true, Bool.not_eq_true'] at q
            obtain ⟨⟨⟨⟨⟨p1, p2⟩, p3⟩, p4⟩, p5⟩, p6⟩ := q
            refine ps_setLcD (io_ne q3) w.calm (by rw [w.hN]; exact w.nd) (by rw [w.hN]; exact q1) (by rw [w.hsc]; exact r2) (sw_true (by rw [w.hsc]; exact r1) (by rw [w.hsc]; exact r2) r3 r4) ((snd it).i w.toWd tg iter p3) (by rw [w.hN, w.hsc]; exact blkOk_by p4) (own_slots N t) (fun s H A cl fp => (w.toWd.blk s H scope cl A fp).tg p1) (fun s H A cl fp => ?_) (fun s H A cl fp => ((snd b).v (w.toWd.blk s H scope cl A fp) elt p5).1) (fold_ok p2)
            match ifs, p6 with
            | [], p6 =>
              obtain rfl := ck_onil p6
              exact pts_nilD
            | [x], p6 => exact pts_one ((snd c).v (w.toWd.blk s H scope cl A fp) x p6).2
        | _ => cases q5
  | _ => cases q
theorem snds_asgT {is : List Nat} {a : Ex} : SndS F G T N io wf (.asgT is a) := .of rfl fun {X C W sc k} w st q => by
  cases st with
  | Assign tgs e pos =>
    match tgs, q with
    | [.Tuple es kk px], q =>
      have q : (tgsB N sc is es && (!io || decide (0 ∉ is)) && !tupE e && (ck T N a).v sc e) = true := q
      simp only [Bool.and_eq_true, Bool.not_eq_true'] at q
      obtain ⟨⟨⟨q1, q2⟩, q3⟩, q4⟩ := q
      exact ps_asgTD (io_mem q2) (w.toWd.tg (t := .t is) (e := .Tuple es kk px) q1) ((snd a).v w.toWd e q4).1 sw_tup (ss_non q3) rfl
  | _ => cases q
theorem snds_setix {i : Nat} {kx v : Ex} : SndS F G T N io wf (.setix i kx v) := .of rfl fun {X C W sc k} w st q => by
  cases st with
  | Assign tgs e pos =>
    match tgs, q with
    | [.Subscript (.Name x px) y ps], q =>
      have q : (slotB N sc i x && !sliceE y && (ck T N kx).v sc y && (ck T N v).v sc e) = true := q
      simp only [Bool.and_eq_true, Bool.not_eq_true'] at q
      obtain ⟨⟨⟨q1, q2⟩, q3⟩, q4⟩ := q
      obtain ⟨s1, s2, s3, s4⟩ := w.toWd.slot q1
      exact (ps_asg ((snd v).v w.toWd e q4).1 (pg_sub (pe_var s1 s2 s3 s4) ((snd kx).v w.toWd y q3).1 set_list (fun _ => by cases y <;> first | rfl | cases q2)) sw_sub ss_sub rfl).impD fun Dn σ H h => set_ix h
  | _ => cases q
theorem snds_ex {a : Ex} : SndS F G T N io wf (.ex a) := .of rfl fun {X C W sc k} w st q => by
  cases st with
  | Expr e pos =>
    simp only [Bool.and_eq_true, Bool.not_eq_true'] at q
    exact ps_exD ((snd a).v w.toWd e q.2).1 (sw_non q.1)
  | _ => cases q
theorem snds_ret {a : Ex} : SndS F G T N io wf (.ret a) := .of rfl fun {X C W sc k} w st q => by
  cases st with
  | Return e pos =>
    cases e with
    | some e => exact ps_retD ((snd a).v w.toWd e q).1
    | none => cases q
  | _ => cases q
theorem snds_retN : SndS F G T N io wf .retN := .of rfl fun {X C W sc k} w st q => by
  cases st with
  | Return e pos =>
    cases e with
    | some e => cases q
    | none => exact ps_retND
  | _ => cases q
theorem snds_if {c : Ex} {s t : Sm} (hs : SndS F G T N io wf s) (ht : SndS F G T N io wf t) : SndS F G T N io wf (.ifs c s t) := .of rfl fun {X C W sc k} w st q => by
  cases st with
  | If e p r pos =>
    simp only [Bool.and_eq_true] at q
    exact ps_ifD ((snd c).v w.toWd e q.1.1).2 (hs.ss w p q.1.2) (ht.ss w r q.2)
  | _ => cases q
theorem snds_loop {c : Ex} {b : Sm} (hb : SndS F G T N io wf b) : SndS F G T N io wf (.loop c b) := .of rfl fun {X C W sc k} w st q => by
  cases st with
  | While e p r pos =>
    cases r with
    | nil =>
      simp only [Bool.and_eq_true] at q
      exact ps_whileD w.po ((snd c).v w.toWd e q.1).2 (hb.ss w p q.2)
    | cons _ _ => cases q
  | _ => cases q
theorem snds_each {t : Tg} {it : Ex} {b : Sm} (hb : SndS F G T N io wf b) : SndS F G T N io wf (.each t it b) := .of rfl fun {X C W sc k} w st q => by
  cases st with
  | For tg iter p r pos =>
    cases r with
    | nil =>
      simp only [Bool.and_eq_true, Bool.not_eq_true'] at q
      obtain ⟨⟨⟨⟨q1, q2⟩, q3⟩, q4⟩, q5⟩ := q
      exact ps_forD (io_mem q2) w.po w.calm ((snd it).i w.toWd tg iter q4) (w.toWd.tg q1) (hb.ss w p q5) (fold_ok q3)
    | cons _ _ => cases q
  | _ => cases q
theorem snds_brk : SndS F G T N io wf .brk := .of rfl fun {X C W sc k} w st q => by
  cases st with
  | Break pos => exact ps_breakD
  | _ => cases q
theorem snds_skip : SndS F G T N io wf .skip := by
  refine ⟨fun w st q => ?_, fun w sts q => ?_⟩
  · cases st <;> first | exact ps_passD | cases q
  · cases sts <;> first | exact pss_nilD | cases q
theorem snds_seq {a b : Sm} (ha : SndS F G T N io wf a) (hb : SndS F G T N io wf b) : SndS F G T N io wf (.seq a b) := by
  refine ⟨fun w st q => (by cases q), fun w sts q => ?_⟩
  cases sts with
  | nil => cases q
  | cons st r =>
    have q : ((ckS T N io a).s _ st && (ckS T N io b).ss _ r) = true := q
    rw [Bool.and_eq_true] at q
    exact pss_consD (ha.s w st q.1) (hb.ss w r q.2)
theorem snds : ∀ sm : Sm, SndS F G T N io wf sm
  | .skip => snds_skip
  | .seq a b => snds_seq (snds a) (snds b)
  | .asg i a => snds_asg
  | .asgT is a => snds_asgT
  | .setix i k v => snds_setix
  | .ex a => snds_ex
  | .ret a => snds_ret
  | .retN => snds_retN
  | .ifs c s t => snds_if (snds s) (snds t)
  | .loop c b => snds_loop (snds b)
  | .each t it b => snds_each (snds b)
  | .brk => snds_brk
  | .raise c r => .of rfl fun w st q => (by cases q)
  | .die => ⟨fun w st q => ps_never.impD fun Dn σ H h => by obtain ⟨f, e, hio, k, h⟩ := h; exact h, fun w sts q => pss_never.impD fun Dn σ H h => by obtain ⟨f, e, hio, k, h⟩ := h; exact h⟩
end DI

end
section
/-! DiV: defs keep what the evaluator says. -/
namespace DI
open PySem PySem.Spec PyProof.Rows L2
section
variable {K : PySem.W.Frag} {B : Addr → Prop} {H : Hp} {vs : List V} {ds : List D} {N : List Str} {n m : Nat}
theorem app_rep {α : Type} {l : List α} {m : Nat} {x y : α} {j : Nat} (h : (l ++ List.replicate m y)[j]? = some x) : l[j]? = some x ∨ x = y := by
  by_cases hj : j < l.length
  · rw [List.getElem?_append_left hj] at h; exact .inl h
  · rw [List.getElem?_append_right (by omega), List.getElem?_replicate] at h
    split at h
    · exact .inr (Option.some.inj h).symm
    · cases h
theorem start_get {v : V} {j : Nat} (h : vs[j]? = some v) : (start N vs)[j]? = some (some v) := by
  have hj := (List.getElem?_eq_some_iff.mp h).1
  unfold L2.start
  rw [List.getElem?_append_left (by rw [List.length_map]; exact hj), List.getElem?_map, h]
  rfl
theorem start_frz (r : RpL K H B vs ds) (hv : vs.length ≤ N.length) (hB : ∀ a, B a → ∃ o, H a = some o) (hm : m = N.length - ds.length) : EOk K B (start N vs) H (ds.map (fun d => some (false, d)) ++ List.replicate m none) ∧ ∀ a, ¬ Ow (start N vs) (ds.map (fun d => some (false, d)) ++ List.replicate m none) a := by
  have hl := r.length
  have sl : ∀ j d, (ds.map (fun d => some (false, d)) ++ List.replicate m none)[j]? = some (some (true, d)) → False := fun j d h => by
    rcases app_rep h with h | h
    · rw [List.getElem?_map] at h
      cases hd : ds[j]? with
      | none => rw [hd] at h; cases h
      | some d' => rw [hd] at h; cases h
    · cases h
  have no : ∀ a, ¬ Ow (start N vs) (ds.map (fun d => some (false, d)) ++ List.replicate m none) a := fun a ⟨j, d, h, _⟩ => sl j d h
  refine ⟨⟨?_, fun j d h => ?_, fun j d h => (sl j d h).elim, fun i j d d' a h _ _ _ => (sl i d h).elim, hB⟩, no⟩
  · unfold L2.start
    rw [List.length_append, List.length_append, List.length_map, List.length_map, List.length_replicate, List.length_replicate]
    omega
  · rcases app_rep h with h | h
    · rw [List.getElem?_map] at h
      cases hd : ds[j]? with
      | none => rw [hd] at h; cases h
      | some d' =>
        rw [hd] at h
        cases h
        obtain ⟨v, h1, h2⟩ := r.get hd
        exact ⟨v, start_get h1, h2.weak fun a z => z.elim id fun z => (no a z).elim⟩
    · cases h
theorem start_own {a : Addr} {d0 : D} (o : OwnAt K H (orP B (isP a)) a d0) (hb : ¬ B a) (r : RpL K H (orP B (isP a)) vs ds) (hv : vs.length + 1 ≤ N.length) (hB : ∀ a, B a → ∃ o, H a = some o) (hm : m = N.length - (ds.length + 1)) :
    EOk K B (start N (.ref a :: vs)) H (some (true, d0) :: ds.map (fun d => some (false, d)) ++ List.replicate m none) ∧ ∀ c, Ow (start N (.ref a :: vs)) (some (true, d0) :: ds.map (fun d => some (false, d)) ++ List.replicate m none) c → c = a := by
  have hl := r.length
  have sl : ∀ j d, (some (true, d0) :: ds.map (fun d => some (false, d)) ++ List.replicate m none)[j]? = some (some (true, d)) → j = 0 ∧ d = d0 := fun j d h => by
    rcases app_rep h with h | h
    · cases j with
      | zero => cases h; exact ⟨rfl, rfl⟩
      | succ j =>
        rw [List.getElem?_cons_succ, List.getElem?_map] at h
        cases hd : ds[j]? with
        | none => rw [hd] at h; cases h
        | some d' => rw [hd] at h; cases h
    · cases h
  have no : ∀ c, Ow (start N (.ref a :: vs)) (some (true, d0) :: ds.map (fun d => some (false, d)) ++ List.replicate m none) c → c = a := fun c ⟨j, d, h, h2⟩ => by
    obtain ⟨rfl, _⟩ := sl j d h
    rw [start_get (v := .ref a) rfl] at h2
    cases h2
    rfl
  have wk : ∀ c, orP B (Ow (start N (.ref a :: vs)) (some (true, d0) :: ds.map (fun d => some (false, d)) ++ List.replicate m none)) c → orP B (isP a) c := fun c z => z.elim .inl fun z => .inr (no c z)
  refine ⟨⟨?_, fun j d h => ?_, fun j d h => ?_, fun i j d d' c h h' _ _ => ?_, hB⟩, no⟩
  · unfold L2.start
    rw [List.length_append, List.length_append, List.length_cons, List.length_map, List.length_map, List.length_replicate, List.length_replicate, List.length_cons]
    omega
  · rcases app_rep h with h | h
    · cases j with
      | zero => cases h
      | succ j =>
        rw [List.getElem?_cons_succ, List.getElem?_map] at h
        cases hd : ds[j]? with
        | none => rw [hd] at h; cases h
        | some d' =>
          rw [hd] at h
          cases h
          obtain ⟨v, h1, h2⟩ := r.get hd
          exact ⟨v, start_get (by rw [List.getElem?_cons_succ]; exact h1), h2.weak wk⟩
    · cases h
  · obtain ⟨rfl, rfl⟩ := sl j d h
    exact ⟨a, start_get rfl, hb, o.mono (fun _ e => e) fun c u e n => ⟨e, fun z => n (wk c z)⟩⟩
  · rw [(sl i d h).1, (sl j d' h').1]
end
/-- what is known of a def of the text -/
structure DefIs (K : PySem.W.Frag) (mg : Str → Option Value) (T : Tb) (x : Str) (io : Bool) (fd : FDef) (f : Addr) (fdd : FuncData) (ps : List Str) : Prop where
  ex : ∃ (st : Stmt) (N : List Str), Fun K x x st f fdd ∧ mg x = some (.ref f) ∧ Binds K fdd ps [] ∧ FnScope N ps (defScope st) ∧ (ckS T N io fd.body).ss (defScope st) (defBody st) = true ∧ fd.np = ps.length ∧ fd.ns = N.length ∧ ps.length ≤ N.length ∧ fd.io = io
def DefIn (K : PySem.W.Frag) (mg : Str → Option Value) (T : Tb) (x : Str) (io : Bool) (fd : FDef) : Prop := ∃ f fdd ps, DefIs K mg T x io fd f fdd ps
theorem spF_len {C : Cy} {F : CallF} {io : Bool} {j m : Nat} (hm : ∀ ds o, F j ds = some o → ds.length = m) : ∀ vs H Q E, spF C F io j vs H Q E → vs.length = m := fun vs H Q E ⟨B, ds, hB, ha, h⟩ => by
  have hl : vs.length = ds.length := by
    cases io with
    | false => exact RpL.length (show RpL C.K H B vs ds from ha)
    | true =>
      obtain ⟨a, vr, d0, dr, rfl, rfl, _, _, r⟩ := ha
      rw [List.length_cons, List.length_cons, r.length]
  rw [hl]
  cases hf : F j ds with
  | none => rw [hf] at h; exact (show False from h).elim
  | some o => exact hm ds o hf
section
variable {P : Program} {w : World} {C : Cy} {mg : Str → Option Value} {base : Heap} {G : List D} {T : Tb} {wf n : Nat} {TT : List FDef}
theorem fn_sound {x : Str} {j : Nat} {io : Bool} {fd : FDef} (hT : TT[j]? = some fd) {f : Addr} {fdd : FuncData} {ps : List Str} (df : DefIs C.K mg T x io fd f fdd ps)
    (hblt : ∀ x ∈ blts, mg x = none)
    (hfns : ∀ x j io, T.fns.lookup x = some (j, io) → ∃ fa fd ps, FnOk P w C.K mg base (L2.CX P w) n fa fd ps (spF C (callD TT G wf n) io j) ∧ mg x = some (.ref fa) ∧ PySem.W.keepIn C.K (.ref fa) = true ∧ Binds C.K fd ps [])
    (hgls : ∀ x j, T.gls.lookup x = some j → ∃ v u d, mg x = some u ∧ RelV v u ∧ G[j]? = some d ∧ ∀ H Xc, Rp C.K H Xc v d) :
    FnOk P w C.K mg base (L2.CX P w) (n + 1) f fdd ps (spF C (callD TT G wf (n + 1)) io j) := by
  obtain ⟨st, N, Fn, hm, hb, S, hck, hnp, hns, hle, hio⟩ := df.ex
  subst hio
  obtain ⟨oc, od, kV, doc, pm, an, cdv, ct, osl, rfl, lk, hcd⟩ := Fn.ex
  have clen : ∀ ds o, callD TT G wf (n + 1) j ds = some o → ds.length = ps.length := fun ds o h => by
    unfold callD at h
    simp only [hT] at h
    split at h
    · rename_i q
      rw [← hnp]
      simpa using q
    · cases h
  refine fn_of lk hcd S (spF_len clen) fun A outer s H vs Q E hr hsp => ?_
  have hvs := spF_len clen _ _ _ _ hsp
  obtain ⟨B, ds, hB, ha, h⟩ := hsp
  have wds : WdS (cxOf (L2.CX P w) P w C.K mg base N x (defScope st) f cdv A outer s H E) C (fun cls d _ H => E cls d H) (callD TT G wf n) G T N (defScope st) n :=
    { hK := rfl, hN := rfl, nd := S.nd, calm := rfl, hsc := rfl, loc := fun y hy => ⟨locB_or hy, .inl rfl⟩, tk := takes_of rfl rfl rfl rfl, rm := hr, blt := hblt, fns := hfns, gls := hgls, po := passes_of rfl, fn := fun _ => rfl, kind := S.kind }
  refine ⟨_, (snds (F := callD TT G wf n) (G := G) (T := T) (N := N) (io := fd.io) (wf := wf) fd.body).ss wds _ hck, ?_⟩
  cases hc : callD TT G wf (n + 1) j ds with
  | none => rw [hc] at h; exact (show False from h).elim
  | some out =>
  rw [hc] at h
  have hdl := clen ds out hc
  have hc : (if ds.length == fd.np then outOf fd (exS (callD TT G wf n) G wf fd.body (startE fd ds)) else none) = some out := by
    unfold callD at hc
    simpa only [hT] using hc
  rw [if_pos (by simp [hdl, hnp])] at hc
  cases hI : fd.io with
  | false =>
    rw [hI] at ha h
    have ha : RpL C.K H B vs ds := ha
    have es : startE fd ds = ds.map (fun d => some (false, d)) ++ List.replicate (N.length - ds.length) none := by
      unfold startE
      cases ds with
      | nil =>
        have : ps.length = 0 := by rw [← hdl]; rfl
        simp [hns, this]
      | cons d r => simp only [hI, List.map_cons]; rw [hns, hnp, ← hdl]
    obtain ⟨E0, no⟩ := start_frz (N := N) ha (by omega) hB rfl
    rw [← es] at E0 no
    refine ⟨⟨B, H, fun _ => False, none⟩, _, by simp, ⟨E0, Evo.refl H, fun a z => (no a z).elim, fun a0 z => by cases z⟩, ?_⟩
    have ext : ∀ {σ' : L2.St} {H' : Hp} {e' : Env}, SOk C ⟨B, H, fun _ => False, none⟩ σ' H' e' → ExtH H H' := fun k a o q => k.evo.keep a o q fun z => z
    have io0 : ∀ e', ioOf fd e' = some none := fun e' => by unfold ioOf; rw [hI]; rfl
    cases hx : exS (callD TT G wf n) G wf fd.body (startE fd ds) with
    | stuck => rw [hx] at hc; cases hc
    | bk e' => rw [hx] at hc; cases hc
    | nx e' =>
      rw [hx] at hc
      simp only [outOf, io0, Option.map_some] at hc
      cases hc
      exact fun σ' H' k => h.2 .non H' ⟨ext k, .none⟩
    | rt own d e' =>
      rw [hx] at hc
      simp only [outOf, io0, Option.map_some] at hc
      cases hc
      refine fun v σ' H' k r => h.2 v H' ⟨ext k, ?_⟩
      cases own with
      | false => exact Rp.weak (show Rp C.K H' (orP B (Ow σ' e')) v d from r) fun a z => .inl z
      | true =>
        obtain ⟨a, q0, q1, q2, q3, q4⟩ := r
        exact ⟨a, q0, q1.elim (fun z => z.elim) id, q3.mono (fun _ e => e) fun c u e n => ⟨e, fun z => n (.inl z)⟩⟩
    | exc c fs e' =>
      rw [hx] at hc
      simp only [outOf, io0, Option.map_some] at hc
      cases hc
      exact fun cls dx σ' H' xr k => h.2 cls dx H' ⟨ext k, xr.weak fun a z => .inl z⟩
  | true =>
    rw [hI] at ha h
    obtain ⟨a, vr, d0, dr, rfl, rfl, hb', ho, hr'⟩ := ha
    have es : startE fd (d0 :: dr) = some (true, d0) :: dr.map (fun d => some (false, d)) ++ List.replicate (N.length - (dr.length + 1)) none := by
      unfold startE
      rw [hI, hns, hnp, ← hdl]
      rfl
    obtain ⟨E0, no⟩ := start_own (N := N) ho hb' hr' (by rw [List.length_cons] at hvs; omega) hB rfl
    rw [← es] at E0 no
    refine ⟨⟨B, H, isP a, some a⟩, _, fun _ => rfl, ⟨E0, Evo.refl H, fun c z => .inl (no c z), fun a0 z => by cases z; exact start_get rfl⟩, ?_⟩
    -- the changed object at the end
    have fin : ∀ {σ' : L2.St} {H' : Hp} {e' : Env} {o : Option D}, SOk C ⟨B, H, isP a, some a⟩ σ' H' e' → ioOf fd e' = some o → ∃ d1, o = some d1 ∧ e'[0]? = some (some (true, d1)) ∧ σ'[0]? = some (some (V.ref a)) := fun {σ' H' e' o} k q => by
      unfold ioOf at q
      rw [hI] at q
      simp only [if_true] at q
      split at q
      · rename_i d hj
        cases q
        exact ⟨d, rfl, join_of hj, k.io a rfl⟩
      · cases q
    have at1 : ∀ {σ' : L2.St} {H' : Hp} {e' : Env} {d1 : D} {B' : Addr → Prop}, EOk C.K B' σ' H' e' → e'[0]? = some (some (true, d1)) → σ'[0]? = some (some (V.ref a)) → ¬ B' a ∧ OwnAt C.K H' (orP B' (Ow σ' e')) a d1 := fun {σ' H' e' d1 B'} E q1 q2 => by
      obtain ⟨a', h1, h2, h3⟩ := E.own 0 d1 q1
      rw [q2] at h1
      cases h1
      exact ⟨h2, h3⟩
    cases hx : exS (callD TT G wf n) G wf fd.body (startE fd (d0 :: dr)) with
    | stuck => rw [hx] at hc; cases hc
    | bk e' => rw [hx] at hc; cases hc
    | nx e' =>
      rw [hx] at hc
      simp only [outOf] at hc
      cases hi : ioOf fd e' with
      | none => rw [hi] at hc; cases hc
      | some o =>
        rw [hi] at hc
        cases hc
        intro σ' H' k
        obtain ⟨d1, rfl, q1, q2⟩ := fin k hi
        obtain ⟨_, w1⟩ := at1 k.ok q1 q2
        exact h.2 .non H' ⟨a, vr, rfl, k.evo, w1.mono (fun _ e => e) fun c u e n => ⟨e, fun z => n (z.elim .inl fun z => .inr (by rw [show c = a from z]; exact ⟨0, d1, q1, q2⟩))⟩, .none⟩
    | rt own d e' =>
      rw [hx] at hc
      simp only [outOf] at hc
      cases hi : ioOf fd e' with
      | none => rw [hi] at hc; cases hc
      | some o =>
        rw [hi] at hc
        cases hc
        intro v σ' H' k r
        obtain ⟨d1, rfl, q1, q2⟩ := fin k hi
        have ha : Ow σ' e' a := ⟨0, d1, q1, q2⟩
        obtain ⟨_, w1⟩ := at1 k.ok q1 q2
        refine h.2 v H' ⟨a, vr, rfl, k.evo, ?_⟩
        cases own with
        | false => exact ⟨w1.mono (fun _ e => e) fun c u e n => ⟨e, fun z => n (z.elim .inl fun z => .inr (by rw [show c = a from z]; exact ha))⟩, Rp.weak (show Rp C.K H' (orP B (Ow σ' e')) v d from r) fun c z => z.elim .inl fun z => .inr (by rw [show c = a from z]; exact ha)⟩
        | true =>
          obtain ⟨p, r0, r1, r2, r3, r4⟩ := r
          obtain ⟨n1, n2⟩ := at1 r4 q1 q2
          have hp : H p = none := r1.elim (fun z => (n1 (.inr (show a = p from z.symm))).elim) id
          have wk : ∀ c, orP (orP B (isP a)) (isP p) c → orP (orP B (isP p)) (Ow σ' e') c := fun c z => by
            rcases z with (z | z) | z
            · exact .inl (.inl z)
            · exact .inr (by rw [show c = a from z]; exact ha)
            · exact .inl (.inr z)
          exact ⟨p, r0, hp, n2.mono (fun _ e => e) fun c u e n => ⟨e, fun z => n (wk c z)⟩, r3.mono (fun _ e => e) fun c u e n => ⟨e, fun z => n (wk c z)⟩⟩
    | exc c fs e' =>
      rw [hx] at hc
      simp only [outOf] at hc
      cases hi : ioOf fd e' with
      | none => rw [hi] at hc; cases hc
      | some o =>
        rw [hi] at hc
        cases hc
        intro cls dx σ' H' xr k
        obtain ⟨d1, rfl, q1, q2⟩ := fin k hi
        obtain ⟨_, w1⟩ := at1 k.ok q1 q2
        have wk : ∀ c, orP B (isP a) c → orP B (Ow σ' e') c := fun c z => z.elim .inl fun z => .inr (by rw [show c = a from z]; exact ⟨0, d1, q1, q2⟩)
        exact h.2 cls dx H' ⟨a, vr, rfl, k.evo, w1.mono (fun _ e => e) fun c u e n => ⟨e, fun z => n (wk c z)⟩, xr.weak wk⟩
/-- every def, at every depth -/
theorem all_sound (hblt : ∀ x ∈ blts, mg x = none) (hgls : ∀ x j, T.gls.lookup x = some j → ∃ v u d, mg x = some u ∧ RelV v u ∧ G[j]? = some d ∧ ∀ H Xc, Rp C.K H Xc v d)
    (hdef : ∀ x j io, T.fns.lookup x = some (j, io) → ∃ fd, TT[j]? = some fd ∧ DefIn C.K mg T x io fd) :
    ∀ (n : Nat) x j io, T.fns.lookup x = some (j, io) → ∃ fa fd ps, FnOk P w C.K mg base (L2.CX P w) n fa fd ps (spF C (callD TT G wf n) io j) ∧ mg x = some (.ref fa) ∧ PySem.W.keepIn C.K (.ref fa) = true ∧ Binds C.K fd ps []
  | 0, x, j, io, h => by
    obtain ⟨fd, h1, h2⟩ := hdef x j io h
    obtain ⟨f, fdd, ps, h2⟩ := h2
    obtain ⟨st, N, Fn, hm, hb, _⟩ := h2.ex
    exact ⟨f, fdd, ps, ⟨fun vs H Q E ⟨B, ds, _, _, z⟩ => (show False from z).elim, fun A outer s H args us vs Q E _ _ _ _ ⟨B, ds, _, _, z⟩ => (show False from z).elim⟩, hm, Fn.kp, hb⟩
  | n + 1, x, j, io, h => by
    obtain ⟨fd, h1, f, fdd, ps, h2⟩ := hdef x j io h
    obtain ⟨st, N, Fn, hm, hb, _⟩ := h2.ex
    exact ⟨f, fdd, ps, fn_sound h1 h2 hblt (all_sound hblt hgls hdef n) hgls, hm, Fn.kp, hb⟩
end
end DI

end
section
/-! DiW: a law's end. -/
namespace DI
open PySem PySem.Spec PyProof.Rows L2
/-- all defs of a table -/
def AllDefs (K : PySem.W.Frag) (mg : Str → Option Value) (T : Tb) (TT : List FDef) : List (Str × Nat × Bool) → Prop
  | [] => True
  | (x, j, io) :: r => (∃ fd, TT[j]? = some fd ∧ DefIn K mg T x io fd) ∧ AllDefs K mg T TT r
theorem AllDefs.get {K : PySem.W.Frag} {mg : Str → Option Value} {T : Tb} {TT : List FDef} : ∀ {l : List (Str × Nat × Bool)}, AllDefs K mg T TT l → ∀ x j io, l.lookup x = some (j, io) → ∃ fd, TT[j]? = some fd ∧ DefIn K mg T x io fd
  | [], _, _, _, _, h => by cases h
  | (y, j', io') :: r, a, x, j, io, h => by
    rw [List.lookup_cons] at h
    cases hb : x == y with
    | true =>
      rw [hb] at h
      cases h
      rw [eq_of_beq hb]
      exact a.1
    | false =>
      rw [hb] at h
      exact AllDefs.get a.2 x j io h
def GlOk (K : PySem.W.Frag) (mg : Str → Option Value) (x : Str) (d : D) : Prop := ∃ v u, mg x = some u ∧ RelV v u ∧ ∀ H Xc, Rp K H Xc v d
def AllGls (K : PySem.W.Frag) (mg : Str → Option Value) (G : List D) : List (Str × Nat) → Prop
  | [] => True
  | (x, j) :: r => (∃ d, G[j]? = some d ∧ GlOk K mg x d) ∧ AllGls K mg G r
theorem AllGls.get {K : PySem.W.Frag} {mg : Str → Option Value} {G : List D} : ∀ {l : List (Str × Nat)}, AllGls K mg G l → ∀ x j, l.lookup x = some j → ∃ v u d, mg x = some u ∧ RelV v u ∧ G[j]? = some d ∧ ∀ H Xc, Rp K H Xc v d
  | [], _, _, _, h => by cases h
  | (y, j') :: r, a, x, j, h => by
    rw [List.lookup_cons] at h
    cases hb : x == y with
    | true =>
      rw [hb] at h
      cases h
      rw [eq_of_beq hb]
      obtain ⟨d, h1, v, u, h2, h3, h4⟩ := a.1
      exact ⟨v, u, d, h2, h3, h1, h4⟩
    | false =>
      rw [hb] at h
      exact AllGls.get a.2 x j h
theorem gl_int {K : PySem.W.Frag} {mg : Str → Option Value} {x : Str} {i : Int} {t : Tok} (h : mg x = some (.int i t)) : GlOk K mg x (.int i) := ⟨.int i, _, h, ⟨t, rfl⟩, fun _ _ => .int i⟩
def strB (s : List Nat) : Bool := decide (s.length ≤ 100000) && s.all fun c => decide (c < 1114112)
theorem strB_ok {s : List Nat} (h : strB s = true) : okS s := by
  unfold strB at h
  simp only [Bool.and_eq_true, decide_eq_true_eq, List.all_eq_true] at h
  exact ⟨by rw [sizeLine_eq]; omega, fun c hc => h.2 c hc⟩
theorem gl_str {K : PySem.W.Frag} {mg : Str → Option Value} {x : Str} {s : List Nat} {z : Str} {t : Tok} (h : mg x = some (.str z t)) (e : z = sV s) (b : strB s = true) : GlOk K mg x (.str s) := ⟨.str z, _, h, ⟨t, rfl⟩, fun _ _ => by rw [e]; exact .str (strB_ok b)⟩
theorem rp_strs {K : PySem.W.Frag} {H : Hp} {Xc : Addr → Prop} : ∀ {ss : List (List Nat)}, ss.all strB = true → RpL K H Xc (ss.map fun s => V.str (sV s)) (ss.map .str)
  | [], _ => .nil
  | s :: ss, h => by
    rw [List.all_cons, Bool.and_eq_true] at h
    exact .cons (.str (strB_ok h.1)) (rp_strs h.2)
/-- a written tuple of texts -/
theorem gl_strs {K : PySem.W.Frag} {mg : Str → Option Value} {x : Str} {ss : List (List Nat)} {a : Addr} {dd : Option Addr} {its : Array Value} {n : Nat} {sl : Array (Option Value)} (h : mg x = some (.ref a)) (l : K.lookup a = some ⟨.type "tuple", dd, .seq its n, sl⟩) (v : Vals (ss.map fun s => V.str (sV s)) its.toList) (b : ss.all strB = true) (hz : its.size ≤ sizeLine) : GlOk K mg x (.tup (ss.map .str)) :=
  ⟨.ref a, _, h, rfl, fun _ _ => .tup (.inr ⟨_, its, n, l, rfl, rfl, hz, v⟩) (rp_strs b)⟩
theorem no_let {P : Program} {w : World} (H : Hp) (s : Shared) (e : Value) (s' : Shared) (h : L2.CX P w [] H s (fun _ _ _ => False) e s') : False := by
  obtain ⟨a, B, H', cls, d, _, _, _, _, _, _, _, z⟩ := h
  exact z
theorem rp_ints {K : PySem.W.Frag} {H : Hp} {Xc : Addr → Prop} : ∀ ns : List Int, RpL K H Xc (ns.map V.int) (ns.map .int)
  | [] => .nil
  | n :: ns => .cons (.int n) (rp_ints ns)
/-- the law's promise at a script -/
theorem law_sp {C : Cy} {F : CallF} {j : Nat} {H : Hp} {a : Addr} {ns : List Int} (hO : Only H) (hS : SqL C.K H a (ns.map V.int)) (hF : ∃ o, F j [.scr (ns.map .int)] = some (.ret o (.bool true) none)) :
    spF C F false j [.ref a] H (fun v _ => v = .bl true) fun _ _ _ => False := by
  have hr : SF C.K H (fun _ => False) a (ns.map V.int) := by
    rcases hS with (h | ⟨o, h⟩) | h
    · rcases hO a with z | ⟨o, xs, z⟩
      · rw [h] at z; cases z
      · rw [h] at z; cases z
    · exact .inl ⟨o, h, fun z => z⟩
    · exact .inr h
  obtain ⟨ow, hF⟩ := hF
  refine ⟨fun _ => False, [.scr (ns.map .int)], fun _ z => z.elim, RpL.one (.scr hr (rp_ints ns)), ?_⟩
  rw [hF]
  refine ⟨rfl, fun w H' n => ?_⟩
  obtain ⟨x, n⟩ := n
  cases ow with
  | false => cases (show Rp C.K H' (fun _ => False) w (.bool true) from n); rfl
  | true =>
    obtain ⟨b, _, _, z⟩ := (show ∃ a, w = .ref a ∧ H a = none ∧ OwnAt C.K H' (orP (fun _ => False) (isP a)) a (.bool true) from n)
    exact z.elim
/-- a law's end: from the def's promise and the plain law -/
theorem law_end {l : PySem.W.OpenLaw} {k j : Nat} {q : Program} {loose : List Str} {XP : (Str → Option Value) → Heap → Prop} {YP : World → Heap → Prop} {d : DefRec} {K : Params → PySem.W.Frag} {x : Str} {Fc : CallF} {xt : Nat → Option (Addr × List Str)}
    (hn : l.most = some 63) (hdf : d.params.defaults = []) (hr : Room k callerA)
    (hY : ∀ (w : World) (h : Heap), YP w h → (K w.params).In h) (hl : ∀ ns : List Int, ns.length ≤ 63 → ∃ o, Fc j [.scr (ns.map .int)] = some (.ret o (.bool true) none))
    (F : ∀ (w : World) (mg : Str → Option Value) (fa : Addr) (h : Heap), (K w.params).In h → h.Ns mainGlobals mg → mg d.name = some (.ref fa) →
      ∃ fd : FuncData, (∀ (s : Shared) (u : Value), BindsTo s fd ⟨[u], []⟩ [(x, u)]) ∧
        ∀ base : Heap, (K w.params).In base → base.Ns mainGlobals mg → FnOk l.prog w (K w.params) mg base (L2.CX l.prog w) k fa fd [x] (spF ⟨K w.params, xt⟩ Fc false j)) :
    PySem.W.WalkO q loose XP YP l.row.toRowW d [] (fun f vs => PySem.call f vs) :=
  walk_of (K := K) (CX := fun w => L2.CX l.prog w) (sp := fun w => spF ⟨K w.params, xt⟩ Fc false j) hn (by decide) hdf hr hY F (fun w H a ns h1 h2 h3 => law_sp h2 h3 (hl ns h1)) fun w H s e s' h => no_let H s e s' h
end DI

end
section
/-! DiX: the evaluator, step by step: rows for simp, no binder in them. Plain Lean. -/
namespace DI
def runD (F : CallF) (G : List D) (wf : Nat) (fd : FDef) (ds : List D) : Option Out := outOf fd (exS F G wf fd.body (startE fd ds))
theorem call_eq {T : List FDef} {G : List D} {wf n j : Nat} {fd : FDef} {ds : List D} (h : T[j]? = some fd) (hl : (ds.length == fd.np) = true) : callD T G wf (n + 1) j ds = runD (callD T G wf n) G wf fd ds := by
  have e : callD T G wf (n + 1) j ds = match T[j]? with
    | some fd => if ds.length == fd.np then outOf fd (exS (callD T G wf n) G wf fd.body (startE fd ds)) else none
    | none => none := rfl
  rw [e, h]
  simp only [hl, if_true]
  rfl
/-! slots -/
def getS (e : Env) (i : Nat) : Option (Bool × D) := e[i]?.join
theorem getS_0 {p : Bool × D} {e : Env} : getS (some p :: e) 0 = some p := rfl
theorem getS_s {x : Option (Bool × D)} {e : Env} {i : Nat} : getS (x :: e) (i + 1) = getS e i := by unfold getS; rw [List.getElem?_cons_succ]
theorem getS_n {e : Env} : getS (none :: e) 0 = none := rfl
def opt1 (o : Option (Bool × D)) (e : Env) : Res Rv := match o with
  | some p => Res.ok (Rv.val p.1 p.2) e
  | none => .stuck
theorem opt1_s {p : Bool × D} {e : Env} : opt1 (some p) e = Res.ok (Rv.val p.1 p.2) e := rfl
def derefO (o : Option (Bool × D)) : Option D := o.map (·.2)
theorem deref_v {e : Env} {o : Bool} {d : D} : deref e (Rv.val o d) = some d := rfl
theorem deref_p {e : Env} {i : Nat} : deref e (.ptr i) = derefO (getS e i) := rfl
theorem derefO_s {o : Bool} {d : D} : derefO (some (o, d)) = some d := rfl
def leakO (o : Option (Bool × D)) (i : Nat) (e : Env) : Res D := match o with
  | some (_, d) => .ok d (e.set i (some (false, d)))
  | none => .stuck
theorem leak_v {e : Env} {o : Bool} {d : D} : leak (Rv.val o d) e = .ok d e := rfl
theorem leak_p {e : Env} {i : Nat} : leak (.ptr i) e = leakO (getS e i) i e := rfl
theorem leakO_s {o : Bool} {d : D} {e : Env} {i : Nat} : leakO (some (o, d)) i e = .ok d (e.set i (some (false, d))) := rfl
def restO (o : Option (Bool × D)) (i : Nat) (e : Env) : Res (Bool × D) := match o with
  | some (_, d) => .ok (false, d) (e.set i (some (false, d)))
  | none => .stuck
theorem rest_v {e : Env} {o : Bool} {d : D} : rest (Rv.val o d) e = .ok (o, d) e := rfl
theorem rest_p {e : Env} {i : Nat} : rest (.ptr i) e = restO (getS e i) i e := rfl
theorem restO_s {o : Bool} {d : D} {e : Env} {i : Nat} : restO (some (o, d)) i e = .ok (false, d) (e.set i (some (false, d))) := rfl
theorem set_0 {x y : Option (Bool × D)} {e : Env} : List.set (x :: e) 0 y = y :: e := rfl
theorem set_s {x y : Option (Bool × D)} {e : Env} {i : Nat} : List.set (x :: e) (i + 1) y = x :: List.set e i y := rfl
/-! expressions -/
section
variable {F : CallF} {G : List D} {e e1 : Env} {a b c r : Ex}
def locO (o : Option (Bool × D)) (i : Nat) (e : Env) : Res Rv := match o with
  | some _ => .ok (.ptr i) e
  | none => .stuck
theorem E_lit {d : D} : (sem F G (.lit d)).E e = Res.ok (Rv.val false d) e := rfl
theorem E_loc {i : Nat} : (sem F G (.loc i)).E e = locO (getS e i) i e := by
  show (match e[i]?.join with | some _ => Res.ok (.ptr i) e | none => .stuck) = locO (getS e i) i e
  unfold locO getS
  cases e[i]?.join <;> rfl
theorem locO_s {p : Bool × D} {i : Nat} : locO (some p) i e = .ok (.ptr i) e := rfl
def gloO (o : Option D) (e : Env) : Res Rv := match o with
  | some d => Res.ok (Rv.val false d) e
  | none => .stuck
theorem E_glo {k : Nat} : (sem F G (.glo k)).E e = gloO (G[k]?) e := by
  show Res.opt (G[k]?.map _) e = _
  unfold gloO
  cases G[k]? <;> rfl
theorem gloO_s {d : D} : gloO (some d) e = Res.ok (Rv.val false d) e := rfl
-- lists of arguments
def L3 (d : D) : Res (List D) → Res (List D) := fun r => r.bind fun ds e3 => .ok (d :: ds) e3
def L2_ (Lr : Env → Res (List D)) : Res D → Res (List D) := fun r => r.bind fun d e2 => L3 d (Lr e2)
def L1 (Lr : Env → Res (List D)) : Res Rv → Res (List D) := fun r => r.bind fun x e1 => L2_ Lr (leak x e1)
theorem L_nil : (sem F G .nil).L e = .ok [] e := rfl
theorem L_cons : (sem F G (.cons a r)).L e = L1 (sem F G r).L ((sem F G a).E e) := rfl
theorem L1_ok {Lr : Env → Res (List D)} {x : Rv} : L1 Lr (.ok x e) = L2_ Lr (leak x e) := rfl
theorem L2_ok {Lr : Env → Res (List D)} {d : D} : L2_ Lr (.ok d e) = L3 d (Lr e) := rfl
theorem L3_ok {d : D} {ds : List D} : L3 d (.ok ds e) = .ok (d :: ds) e := rfl
def R2_ (x : Rv) : Res (List Rv) → Res (List Rv) := fun r => r.bind fun xs e2 => .ok (x :: xs) e2
def R1 (Rr : Env → Res (List Rv)) : Res Rv → Res (List Rv) := fun r => r.bind fun x e1 => R2_ x (Rr e1)
theorem R_nil : (sem F G .nil).R e = .ok [] e := rfl
theorem R_cons : (sem F G (.cons a r)).R e = R1 (sem F G r).R ((sem F G a).E e) := rfl
theorem R1_ok {Rr : Env → Res (List Rv)} {x : Rv} : R1 Rr (.ok x e) = R2_ x (Rr e) := rfl
theorem R2_ok {x : Rv} {xs : List Rv} : R2_ x (.ok xs e) = .ok (x :: xs) e := rfl
def derefs (e : Env) : List Rv → Option (List D)
  | [] => some []
  | x :: xs => match deref e x with
    | some d => match derefs e xs with
      | some ds => some (d :: ds)
      | none => none
    | none => none
theorem derefs_eq (e : Env) : ∀ xs : List Rv, xs.mapM (deref e) = derefs e xs
  | [] => rfl
  | x :: xs => by
    rw [List.mapM_cons, derefs_eq e xs, derefs]
    cases deref e x with
    | none => rfl
    | some d => cases derefs e xs <;> rfl
def cons2 (o : Option D) (p : Option (List D)) : Option (List D) := match o, p with
  | some d, some ds => some (d :: ds)
  | _, _ => none
theorem derefs_nil : derefs e [] = some [] := rfl
theorem derefs_cons {x : Rv} {xs : List Rv} : derefs e (x :: xs) = cons2 (deref e x) (derefs e xs) := by
  rw [derefs]
  cases deref e x with
  | none => rfl
  | some d => cases derefs e xs <;> rfl
theorem cons2_s {d : D} {ds : List D} : cons2 (some d) (some ds) = some (d :: ds) := rfl
def bi2 (f : List D → Option (Bool × D)) (o : Option (List D)) (e : Env) : Res Rv := match o with
  | some ds => opt1 (f ds) e
  | none => .stuck
def bi1 (f : List D → Option (Bool × D)) : Res (List Rv) → Res Rv := fun r => r.bind fun xs e1 => bi2 f (derefs e1 xs) e1
theorem opt_map {p : Option (Bool × D)} : Res.opt (p.map fun p => Rv.val p.1 p.2) e = opt1 p e := by cases p <;> rfl
theorem E_bi {b : Bi} : (sem F G (.bi b r)).E e = bi1 (biV b) ((sem F G r).R e) := by
  show ((sem F G r).R e).bind (fun xs e1 => match xs.mapM (deref e1) with | some ds => Res.opt ((biV b ds).map fun p => Rv.val p.1 p.2) e1 | none => .stuck) = _
  unfold bi1
  congr 1
  funext xs e1
  rw [derefs_eq]
  unfold bi2
  cases derefs e1 xs with
  | none => rfl
  | some ds => exact opt_map
theorem bi1_ok {f : List D → Option (Bool × D)} {xs : List Rv} : bi1 f (.ok xs e) = bi2 f (derefs e xs) e := rfl
theorem bi2_s {f : List D → Option (Bool × D)} {ds : List D} : bi2 f (some ds) e = opt1 (f ds) e := rfl
def tup1 : Res (List D) → Res Rv := fun r => r.bind fun ds e1 => Res.ok (Rv.val false (.tup ds)) e1
def lst1 : Res (List D) → Res Rv := fun r => r.bind fun ds e1 => Res.ok (Rv.val true (.list ds)) e1
theorem E_tup : (sem F G (.tup r)).E e = tup1 ((sem F G r).L e) := rfl
theorem E_lst : (sem F G (.lst r)).E e = lst1 ((sem F G r).L e) := rfl
theorem tup1_ok {ds : List D} : tup1 (.ok ds e) = Res.ok (Rv.val false (.tup ds)) e := rfl
theorem lst1_ok {ds : List D} : lst1 (.ok ds e) = Res.ok (Rv.val true (.list ds)) e := rfl
def two3 (f : D → D → Option (Bool × D)) (x y : Option D) (e : Env) : Res Rv := match x, y with
  | some d, some d' => opt1 (f d d') e
  | _, _ => .stuck
def two2 (f : D → D → Option (Bool × D)) (x : Rv) : Res Rv → Res Rv := fun r => r.bind fun y e2 => two3 f (deref e2 x) (deref e2 y) e2
def two1 (f : D → D → Option (Bool × D)) (E' : Env → Res Rv) : Res Rv → Res Rv := fun r => r.bind fun x e1 => two2 f x (E' e1)
theorem two_eq {E E' : Env → Res Rv} {f : D → D → Option (Bool × D)} : two E E' f e = two1 f E' (E e) := by
  unfold two two1 two2
  congr 1
  funext x e1
  congr 1
  funext y e2
  unfold two3
  cases deref e2 x with
  | none => rfl
  | some d => cases deref e2 y with
    | none => rfl
    | some d' => exact opt_map
theorem two1_ok {f : D → D → Option (Bool × D)} {E' : Env → Res Rv} {x : Rv} : two1 f E' (.ok x e) = two2 f x (E' e) := rfl
theorem two2_ok {f : D → D → Option (Bool × D)} {x y : Rv} : two2 f x (.ok y e) = two3 f (deref e x) (deref e y) e := rfl
theorem two3_s {f : D → D → Option (Bool × D)} {d d' : D} : two3 f (some d) (some d') e = opt1 (f d d') e := rfl
def one2 (f : D → Option (Bool × D)) (x : Option D) (e : Env) : Res Rv := match x with
  | some d => opt1 (f d) e
  | none => .stuck
def one1 (f : D → Option (Bool × D)) : Res Rv → Res Rv := fun r => r.bind fun x e1 => one2 f (deref e1 x) e1
theorem one_eq {E : Env → Res Rv} {f : D → Option (Bool × D)} : one E f e = one1 f (E e) := by
  unfold one one1
  congr 1
  funext x e1
  unfold one2
  cases deref e1 x with
  | none => rfl
  | some d => exact opt_map
theorem one1_ok {f : D → Option (Bool × D)} {x : Rv} : one1 f (.ok x e) = one2 f (deref e x) e := rfl
theorem one2_s {f : D → Option (Bool × D)} {d : D} : one2 f (some d) e = opt1 (f d) e := rfl
def negF : D → Option (Bool × D) := fun d => match d with
  | .int i => some (false, .int (-i))
  | _ => none
def notF : D → Option (Bool × D) := fun d => some (false, .bool (!truth d))
def cmpF (o : Cop) : D → D → Option (Bool × D) := fun x y => (opC o x y).map fun c => (false, .bool c)
def ixF : D → D → Option (Bool × D) := fun x y => sc (item x y)
def isiF (t : Ty) : D → Option (Bool × D) := fun d => some (false, .bool (isTy t d))
theorem negF_i {i : Int} : negF (.int i) = some (false, .int (-i)) := rfl
theorem notF_d {d : D} : notF d = some (false, .bool (!truth d)) := rfl
def cmp1 (o : Option Bool) : Option (Bool × D) := match o with
  | some c => some (false, .bool c)
  | none => none
theorem cmpF_d {o : Cop} {x y : D} : cmpF o x y = cmp1 (opC o x y) := by unfold cmpF cmp1; cases opC o x y <;> rfl
theorem cmp1_s {c : Bool} : cmp1 (some c) = some (false, .bool c) := rfl
def sc1 (o : Option D) : Option (Bool × D) := match o with
  | some d => some (false, d)
  | none => none
theorem ixF_d {x y : D} : ixF x y = sc1 (item x y) := by unfold ixF sc sc1; cases item x y <;> rfl
theorem sc1_s {d : D} : sc1 (some d) = some (false, d) := rfl
theorem isiF_d {t : Ty} {d : D} : isiF t d = some (false, .bool (isTy t d)) := rfl
theorem E_bin {o : Bop} : (sem F G (.bin o a b)).E e = two1 (opB o) (sem F G b).E ((sem F G a).E e) := two_eq
theorem E_cmp {o : Cop} : (sem F G (.cmp o a b)).E e = two1 (cmpF o) (sem F G b).E ((sem F G a).E e) := two_eq
theorem E_ix : (sem F G (.ix a b)).E e = two1 ixF (sem F G b).E ((sem F G a).E e) := two_eq
theorem E_neg : (sem F G (.neg a)).E e = one1 negF ((sem F G a).E e) := one_eq
theorem E_not : (sem F G (.not a)).E e = one1 notF ((sem F G a).E e) := one_eq
theorem E_isi {t : Ty} : (sem F G (.isi t a)).E e = one1 (isiF t) ((sem F G a).E e) := one_eq
theorem E_and : (sem F G (.and r)).E e = (sem F G r).A e := rfl
theorem E_or : (sem F G (.or r)).E e = (sem F G r).O e := rfl
def and2 (Ar : Env → Res Rv) (x : Rv) (d : Option D) (e : Env) : Res Rv := match d with
  | some d => bif truth d then Ar e else .ok x e
  | none => .stuck
def and1 (Ar : Env → Res Rv) : Res Rv → Res Rv := fun r => r.bind fun x e1 => and2 Ar x (deref e1 x) e1
def or2 (Ar : Env → Res Rv) (x : Rv) (d : Option D) (e : Env) : Res Rv := match d with
  | some d => bif truth d then .ok x e else Ar e
  | none => .stuck
def or1 (Ar : Env → Res Rv) : Res Rv → Res Rv := fun r => r.bind fun x e1 => or2 Ar x (deref e1 x) e1
theorem A_one : (sem F G (.cons a .nil)).A e = (sem F G a).E e := rfl
theorem O_one : (sem F G (.cons a .nil)).O e = (sem F G a).E e := rfl
theorem A_cons : (sem F G (.cons a (.cons b r))).A e = and1 (sem F G (.cons b r)).A ((sem F G a).E e) := by
  show ((sem F G a).E e).bind (fun x e1 => match deref e1 x with | some d => if truth d then (sem F G (.cons b r)).A e1 else .ok x e1 | none => .stuck) = _
  unfold and1
  congr 1
  funext x e1
  unfold and2
  cases deref e1 x with
  | none => rfl
  | some d => cases h : truth d <;> simp [h]
theorem O_cons : (sem F G (.cons a (.cons b r))).O e = or1 (sem F G (.cons b r)).O ((sem F G a).E e) := by
  show ((sem F G a).E e).bind (fun x e1 => match deref e1 x with | some d => if truth d then .ok x e1 else (sem F G (.cons b r)).O e1 | none => .stuck) = _
  unfold or1
  congr 1
  funext x e1
  unfold or2
  cases deref e1 x with
  | none => rfl
  | some d => cases h : truth d <;> simp [h]
theorem and1_ok {Ar : Env → Res Rv} {x : Rv} : and1 Ar (.ok x e) = and2 Ar x (deref e x) e := rfl
theorem or1_ok {Ar : Env → Res Rv} {x : Rv} : or1 Ar (.ok x e) = or2 Ar x (deref e x) e := rfl
theorem and2_s {Ar : Env → Res Rv} {x : Rv} {d : D} : and2 Ar x (some d) e = bif truth d then Ar e else .ok x e := rfl
theorem or2_s {Ar : Env → Res Rv} {x : Rv} {d : D} : or2 Ar x (some d) e = bif truth d then .ok x e else Ar e := rfl
-- tests
def tst2 (d : Option D) (e : Env) : Res Bool := match d with
  | some d => .ok (truth d) e
  | none => .stuck
def tst1 : Res Rv → Res Bool := fun r => r.bind fun x e1 => tst2 (deref e1 x) e1
theorem testE_eq {E : Env → Res Rv} : testE E e = tst1 (E e) := by
  unfold testE tst1
  congr 1
theorem tst1_ok {x : Rv} : tst1 (.ok x e) = tst2 (deref e x) e := rfl
theorem tst2_s {d : D} : tst2 (some d) e = .ok (truth d) e := rfl
def int2 (d : Option D) (e : Env) : Res (Option Int) := match d with
  | some (.int i) => .ok (some i) e
  | _ => .stuck
def int1 : Res Rv → Res (Option Int) := fun r => r.bind fun x e1 => int2 (deref e1 x) e1
theorem intE_eq {E : Env → Res Rv} : intE E e = int1 (E e) := by
  unfold intE int1
  congr 1
theorem int1_ok {x : Rv} : int1 (.ok x e) = int2 (deref e x) e := rfl
theorem int2_s {i : Int} : int2 (some (.int i)) e = .ok (some i) e := rfl
def ite1 (A B : Env → Res Rv) : Res Bool → Res Rv := fun r => r.bind fun t e1 => bif t then A e1 else B e1
theorem E_ite : (sem F G (.ite c a b)).E e = ite1 (sem F G a).E (sem F G b).E ((sem F G c).C e) := by
  show ((sem F G c).C e).bind (fun t e1 => if t then (sem F G a).E e1 else (sem F G b).E e1) = _
  unfold ite1
  congr 1
  funext t e1
  cases t <;> rfl
theorem ite1_ok {A B : Env → Res Rv} {t : Bool} : ite1 A B (.ok t e) = bif t then A e else B e := rfl
-- x[lo:hi]
def sl4 (d : Option D) (l h : Option Int) (e : Env) : Res Rv := match d with
  | some d => opt1 (slice d l h) e
  | none => .stuck
def sl3 (x : Rv) (l : Option Int) : Res (Option Int) → Res Rv := fun r => r.bind fun h e3 => sl4 (deref e3 x) l h e3
def sl2 (x : Rv) (Ph : Env → Res (Option Int)) : Res (Option Int) → Res Rv := fun r => r.bind fun l e2 => sl3 x l (Ph e2)
def sl1 (Pl Ph : Env → Res (Option Int)) : Res Rv → Res Rv := fun r => r.bind fun x e1 => sl2 x Ph (Pl e1)
theorem E_sl : (sem F G (.sl a b c)).E e = sl1 (sem F G b).P (sem F G c).P ((sem F G a).E e) := by
  show ((sem F G a).E e).bind (fun x e1 => ((sem F G b).P e1).bind fun l e2 => ((sem F G c).P e2).bind fun h e3 => match deref e3 x with | some d => Res.opt ((slice d l h).map fun p => Rv.val p.1 p.2) e3 | none => .stuck) = _
  unfold sl1 sl2 sl3
  congr 1
  funext x e1
  congr 1
  funext l e2
  congr 1
  funext h e3
  unfold sl4
  cases deref e3 x with
  | none => rfl
  | some d => exact opt_map
theorem sl1_ok {Pl Ph : Env → Res (Option Int)} {x : Rv} : sl1 Pl Ph (.ok x e) = sl2 x Ph (Pl e) := rfl
theorem sl2_ok {x : Rv} {Ph : Env → Res (Option Int)} {l : Option Int} : sl2 x Ph (.ok l e) = sl3 x l (Ph e) := rfl
theorem sl3_ok {x : Rv} {l h : Option Int} : sl3 x l (.ok h e) = sl4 (deref e x) l h e := rfl
theorem sl4_s {d : D} {l h : Option Int} : sl4 (some d) l h e = opt1 (slice d l h) e := rfl
theorem P_nil : (sem F G .nil).P e = .ok none e := rfl
theorem C_nil : (sem F G .nil).C e = .ok true e := rfl
-- calls
def call2 (fr : Bool) (o : Option Out) (e : Env) : Res Rv := match o with
  | some (.ret own d none) => bif fr then (bif own then Res.ok (Rv.val true d) e else .stuck) else Res.ok (Rv.val false d) e
  | some (.exc c fs none) => .exc c fs e
  | _ => .stuck
def call1 (F : CallF) (f : Nat) (fr : Bool) : Res (List D) → Res Rv := fun r => r.bind fun ds e1 => call2 fr (F f ds) e1
theorem E_call {f : Nat} {fr : Bool} : (sem F G (.call f fr r)).E e = call1 F f fr ((sem F G r).L e) := by
  show ((sem F G r).L e).bind (fun ds e1 => match F f ds with
    | some (.ret own d none) => if fr then (if own then Res.ok (Rv.val true d) e1 else .stuck) else Res.ok (Rv.val false d) e1
    | some (.exc c fs none) => .exc c fs e1
    | _ => .stuck) = _
  unfold call1
  congr 1
  funext ds e1
  unfold call2
  cases F f ds with
  | none => rfl
  | some o =>
    cases o with
    | ret own d io => cases io with
      | none => cases fr <;> cases own <;> rfl
      | some _ => rfl
    | exc c fs io => cases io <;> rfl
theorem call1_ok {f : Nat} {fr : Bool} {ds : List D} : call1 F f fr (.ok ds e) = call2 fr (F f ds) e := rfl
theorem call2_f {own : Bool} {d : D} : call2 false (some (.ret own d none)) e = Res.ok (Rv.val false d) e := rfl
theorem call2_t {d : D} : call2 true (some (.ret true d none)) e = Res.ok (Rv.val true d) e := rfl
theorem call2_x {fr : Bool} {c : Nat} {fs : List D} : call2 fr (some (.exc c fs none)) e = .exc c fs e := rfl
def cio3 (fr : Bool) (i : Nat) (o : Option Out) (e : Env) : Res Rv := match o with
  | some (.ret own d (some d1)) => bif fr then (bif own then Res.ok (Rv.val true d) (e.set i (some (true, d1))) else .stuck) else Res.ok (Rv.val false d) (e.set i (some (true, d1)))
  | some (.exc c fs (some d1)) => .exc c fs (e.set i (some (true, d1)))
  | _ => .stuck
def cio2 (F : CallF) (f : Nat) (fr : Bool) (i : Nat) (ds : List D) (o : Option (Bool × D)) (e : Env) : Res Rv := match o with
  | some (true, d0) => cio3 fr i (F f (d0 :: ds)) e
  | _ => .stuck
def cio1 (F : CallF) (f : Nat) (fr : Bool) (i : Nat) : Res (List D) → Res Rv := fun r => r.bind fun ds e1 => cio2 F f fr i ds (getS e1 i) e1
def cio0 (F : CallF) (f : Nat) (fr : Bool) (i : Nat) (L : Env → Res (List D)) (o : Option (Bool × D)) (e : Env) : Res Rv := match o with
  | some (true, _) => cio1 F f fr i (L e)
  | _ => .stuck
theorem E_callIO {f : Nat} {fr : Bool} {i : Nat} : (sem F G (.callIO f fr i r)).E e = cio0 F f fr i (sem F G r).L (getS e i) e := by
  show (if isOwn e i then ((sem F G r).L e).bind (fun ds e1 => match e1[i]?.join with
    | some (true, d0) => match F f (d0 :: ds) with
      | some (.ret own d (some d1)) => if fr then (if own then Res.ok (Rv.val true d) (e1.set i (some (true, d1))) else .stuck) else Res.ok (Rv.val false d) (e1.set i (some (true, d1)))
      | some (.exc c fs (some d1)) => .exc c fs (e1.set i (some (true, d1)))
      | _ => .stuck
    | _ => .stuck) else .stuck) = _
  have inner : ((sem F G r).L e).bind (fun ds e1 => match e1[i]?.join with
    | some (true, d0) => match F f (d0 :: ds) with
      | some (.ret own d (some d1)) => if fr then (if own then Res.ok (Rv.val true d) (e1.set i (some (true, d1))) else .stuck) else Res.ok (Rv.val false d) (e1.set i (some (true, d1)))
      | some (.exc c fs (some d1)) => .exc c fs (e1.set i (some (true, d1)))
      | _ => .stuck
    | _ => .stuck) = cio1 F f fr i ((sem F G r).L e) := by
    unfold cio1
    congr 1
    funext ds e1
    unfold cio2 getS
    cases e1[i]?.join with
    | none => rfl
    | some p =>
      obtain ⟨o, d0⟩ := p
      cases o with
      | false => rfl
      | true =>
        show (match F f (d0 :: ds) with
          | some (.ret own d (some d1)) => if fr then (if own then Res.ok (Rv.val true d) (e1.set i (some (true, d1))) else .stuck) else Res.ok (Rv.val false d) (e1.set i (some (true, d1)))
          | some (.exc c fs (some d1)) => .exc c fs (e1.set i (some (true, d1)))
          | _ => .stuck) = cio3 fr i (F f (d0 :: ds)) e1
        unfold cio3
        cases F f (d0 :: ds) with
        | none => rfl
        | some o =>
          cases o with
          | ret own d io => cases io with
            | none => rfl
            | some _ => cases fr <;> cases own <;> rfl
          | exc c fs io => cases io <;> rfl
  rw [inner]
  unfold isOwn cio0 getS
  cases e[i]?.join with
  | none => rfl
  | some p => obtain ⟨o, d⟩ := p; cases o <;> rfl
theorem cio0_s {f : Nat} {fr : Bool} {i : Nat} {L : Env → Res (List D)} {d : D} : cio0 F f fr i L (some (true, d)) e = cio1 F f fr i (L e) := rfl
theorem cio1_ok {f : Nat} {fr : Bool} {i : Nat} {ds : List D} : cio1 F f fr i (.ok ds e) = cio2 F f fr i ds (getS e i) e := rfl
theorem cio2_s {f : Nat} {fr : Bool} {i : Nat} {ds : List D} {d0 : D} : cio2 F f fr i ds (some (true, d0)) e = cio3 fr i (F f (d0 :: ds)) e := rfl
theorem cio3_f {i : Nat} {own : Bool} {d d1 : D} : cio3 false i (some (.ret own d (some d1))) e = Res.ok (Rv.val false d) (e.set i (some (true, d1))) := rfl
theorem cio3_t {i : Nat} {d d1 : D} : cio3 true i (some (.ret true d (some d1))) e = Res.ok (Rv.val true d) (e.set i (some (true, d1))) := rfl
-- methods
def mu3 (i : Nat) (o : Option (D × D)) (e : Env) : Res Rv := match o with
  | some p => Res.ok (Rv.val false p.1) (e.set i (some (true, p.2)))
  | none => .stuck
def mu2 (m : Mu) (i : Nat) (ds : List D) (o : Option (Bool × D)) (e : Env) : Res Rv := match o with
  | some (true, d) => mu3 i (muV m d ds) e
  | _ => .stuck
def mu1 (m : Mu) (i : Nat) : Res (List D) → Res Rv := fun r => r.bind fun ds e1 => mu2 m i ds (getS e1 i) e1
def mu0 (m : Mu) (i : Nat) (L : Env → Res (List D)) (o : Option (Bool × D)) (e : Env) : Res Rv := match o with
  | some (true, _) => mu1 m i (L e)
  | _ => .stuck
theorem E_mu {m : Mu} {i : Nat} : (sem F G (.mu m i r)).E e = mu0 m i (sem F G r).L (getS e i) e := by
  show (if isOwn e i then ((sem F G r).L e).bind (fun ds e1 => match e1[i]?.join with
    | some (true, o) => match muV m o ds with
      | some p => Res.ok (Rv.val false p.1) (e1.set i (some (true, p.2)))
      | none => .stuck
    | _ => .stuck) else .stuck) = _
  have inner : ((sem F G r).L e).bind (fun ds e1 => match e1[i]?.join with
    | some (true, o) => match muV m o ds with
      | some p => Res.ok (Rv.val false p.1) (e1.set i (some (true, p.2)))
      | none => .stuck
    | _ => .stuck) = mu1 m i ((sem F G r).L e) := by
    unfold mu1
    congr 1
  rw [inner]
  unfold isOwn mu0 getS
  cases e[i]?.join with
  | none => rfl
  | some p => obtain ⟨o, d⟩ := p; cases o <;> rfl
theorem mu0_s {m : Mu} {i : Nat} {L : Env → Res (List D)} {d : D} : mu0 m i L (some (true, d)) e = mu1 m i (L e) := rfl
theorem mu1_ok {m : Mu} {i : Nat} {ds : List D} : mu1 m i (.ok ds e) = mu2 m i ds (getS e i) e := rfl
theorem mu2_s {m : Mu} {i : Nat} {ds : List D} {d : D} : mu2 m i ds (some (true, d)) e = mu3 i (muV m d ds) e := rfl
theorem mu3_s {i : Nat} {p : D × D} : mu3 i (some p) e = Res.ok (Rv.val false p.1) (e.set i (some (true, p.2))) := rfl
def me3 (m : Me) (s : List Nat) (o : Option (List D)) (e : Env) : Res Rv := match o with
  | some ds => opt1 (meV m (.str s) ds) e
  | none => .stuck
def me2 (m : Me) (s : List Nat) : Res (List Rv) → Res Rv := fun r => r.bind fun xs e2 => me3 m s (derefs e2 xs) e2
def me1 (m : Me) (R : Env → Res (List Rv)) (d : Option D) (e : Env) : Res Rv := match d with
  | some (.str s) => me2 m s (R e)
  | _ => .stuck
def me0 (m : Me) (R : Env → Res (List Rv)) : Res Rv → Res Rv := fun r => r.bind fun x e1 => me1 m R (deref e1 x) e1
theorem E_me {m : Me} : (sem F G (.me m a r)).E e = me0 m (sem F G r).R ((sem F G a).E e) := by
  show ((sem F G a).E e).bind (fun x e1 => match deref e1 x with
    | some (.str s) => ((sem F G r).R e1).bind fun xs e2 => match xs.mapM (deref e2) with
      | some ds => Res.opt ((meV m (.str s) ds).map fun p => Rv.val p.1 p.2) e2
      | none => .stuck
    | _ => .stuck) = _
  unfold me0
  congr 1
  funext x e1
  unfold me1
  cases deref e1 x with
  | none => rfl
  | some d =>
    cases d with
    | str s =>
      show ((sem F G r).R e1).bind _ = me2 m s ((sem F G r).R e1)
      unfold me2
      congr 1
      funext xs e2
      rw [derefs_eq]
      unfold me3
      cases derefs e2 xs with
      | none => rfl
      | some ds => exact opt_map
    | _ => rfl
theorem me0_ok {m : Me} {R : Env → Res (List Rv)} {x : Rv} : me0 m R (.ok x e) = me1 m R (deref e x) e := rfl
theorem me1_s {m : Me} {R : Env → Res (List Rv)} {s : List Nat} : me1 m R (some (.str s)) e = me2 m s (R e) := rfl
theorem me2_ok {m : Me} {s : List Nat} {xs : List Rv} : me2 m s (.ok xs e) = me3 m s (derefs e xs) e := rfl
theorem me3_s {m : Me} {s : List Nat} {ds : List D} : me3 m s (some ds) e = opt1 (meV m (.str s) ds) e := rfl
-- what is walked
def wk3 (o : Option (List D)) (e : Env) : Res (List D) := match o with
  | some ds => .ok ds e
  | none => .stuck
def wk2 : Res D → Res (List D) := fun r => r.bind fun d e2 => wk3 (itemsOf d) e2
def wk1 : Res Rv → Res (List D) := fun r => r.bind fun x e1 => wk2 (leak x e1)
theorem walkE_eq {E : Env → Res Rv} : walkE E e = wk1 (E e) := by
  unfold walkE wk1 wk2
  congr 1
  funext x e1
  congr 1
  funext d e2
  unfold wk3 Res.opt
  cases itemsOf d <;> rfl
theorem wk1_ok {x : Rv} : wk1 (.ok x e) = wk2 (leak x e) := rfl
theorem wk2_ok {d : D} : wk2 (.ok d e) = wk3 (itemsOf d) e := rfl
theorem wk3_s {ds : List D} : wk3 (some ds) e = .ok ds e := rfl
def rg1 : Res (List D) → Res (List D) := fun r => r.bind fun ds e1 => wk3 (rangeOf ds) e1
theorem I_range : (sem F G (.bi .range r)).I e = rg1 ((sem F G r).L e) := by
  show ((sem F G r).L e).bind (fun ds e1 => Res.opt (rangeOf ds) e1) = _
  unfold rg1
  congr 1
  funext ds e1
  unfold wk3 Res.opt
  cases rangeOf ds <;> rfl
theorem rg1_ok {ds : List D} : rg1 (.ok ds e) = wk3 (rangeOf ds) e := rfl
theorem I_of {s : Sem} {E : Env → Res Rv} (h : s = Sem.e E) : s.I e = wk1 (s.E e) := by
  subst h
  exact walkE_eq
theorem I_loc {i : Nat} : (sem F G (.loc i)).I e = wk1 ((sem F G (.loc i)).E e) := I_of rfl
theorem I_call {f : Nat} {fr : Bool} : (sem F G (.call f fr r)).I e = wk1 ((sem F G (.call f fr r)).E e) := I_of rfl
theorem I_callIO {f : Nat} {fr : Bool} {i : Nat} : (sem F G (.callIO f fr i r)).I e = wk1 ((sem F G (.callIO f fr i r)).E e) := I_of rfl
theorem I_ix : (sem F G (.ix a b)).I e = wk1 ((sem F G (.ix a b)).E e) := I_of rfl
theorem I_lst : (sem F G (.lst r)).I e = wk1 ((sem F G (.lst r)).E e) := I_of rfl
theorem I_tup : (sem F G (.tup r)).I e = wk1 ((sem F G (.tup r)).E e) := I_of rfl
theorem I_glo {k : Nat} : (sem F G (.glo k)).I e = wk1 ((sem F G (.glo k)).E e) := I_of rfl
theorem I_lit {d : D} : (sem F G (.lit d)).I e = wk1 ((sem F G (.lit d)).E e) := I_of rfl
theorem I_sl : (sem F G (.sl a b c)).I e = wk1 ((sem F G (.sl a b c)).E e) := I_of rfl
theorem I_bin {o : Bop} : (sem F G (.bin o a b)).I e = wk1 ((sem F G (.bin o a b)).E e) := I_of rfl
-- comprehensions
def lc3 (es : Env) (sl : List Nat) : Res (List D) → Res Rv := fun r => r.calm.bind fun ys e2 => Res.ok (Rv.val true (.list ys)) (back es e2 sl)
def bodyE (E : Env → Res Rv) : Env → Res D := fun e => (E e).bind leak
def cleanE (sl : List Nat) : Env → Env := fun e => hide (shut e sl) sl
def lc1 (t : Tg) (Cc : Env → Res Bool) (Ea : Env → Res Rv) : Res (List D) → Res Rv := fun r => r.bind fun xs e1 => lc3 (shut e1 t.slots) t.slots (turns (bindTg t) Cc (bodyE Ea) (cleanE t.slots) xs [] (cleanE t.slots e1))
theorem E_lc {t : Tg} : (sem F G (.lc t a b c)).E e = lc1 t (sem F G c).C (sem F G a).E ((sem F G b).I e) := rfl
theorem lc1_ok {t : Tg} {Cc : Env → Res Bool} {Ea : Env → Res Rv} {xs : List D} : lc1 t Cc Ea (.ok xs e) = lc3 (shut e t.slots) t.slots (turns (bindTg t) Cc (bodyE Ea) (cleanE t.slots) xs [] (cleanE t.slots e)) := rfl
theorem lc3_ok {es : Env} {sl : List Nat} {ys : List D} : lc3 es sl (.ok ys e) = Res.ok (Rv.val true (.list ys)) (back es e sl) := rfl
end
end DI

end
section
/-! DiY: the evaluator, step by step: tests, ints, statements, defs. Plain Lean. -/
namespace DI
section
variable {F : CallF} {G : List D} {e e1 : Env} {a b c r : Ex} {wf : Nat}
theorem C_of {s : Sem} (h : s.C = testE s.E) : s.C e = tst1 (s.E e) := by rw [h]; exact testE_eq
theorem P_of {s : Sem} (h : s.P = intE s.E) : s.P e = int1 (s.E e) := by rw [h]; exact intE_eq
theorem C_lit {d : D} : (sem F G (.lit d)).C e = tst1 ((sem F G (.lit d)).E e) := C_of rfl
theorem C_loc {i : Nat} : (sem F G (.loc i)).C e = tst1 ((sem F G (.loc i)).E e) := C_of rfl
theorem C_glo {i : Nat} : (sem F G (.glo i)).C e = tst1 ((sem F G (.glo i)).E e) := C_of rfl
theorem C_bin {o : Bop} : (sem F G (.bin o a b)).C e = tst1 ((sem F G (.bin o a b)).E e) := C_of rfl
theorem C_not : (sem F G (.not a)).C e = tst1 ((sem F G (.not a)).E e) := C_of rfl
theorem C_and : (sem F G (.and r)).C e = tst1 ((sem F G (.and r)).E e) := C_of rfl
theorem C_or : (sem F G (.or r)).C e = tst1 ((sem F G (.or r)).E e) := C_of rfl
theorem C_cmp {o : Cop} : (sem F G (.cmp o a b)).C e = tst1 ((sem F G (.cmp o a b)).E e) := C_of rfl
theorem C_cmp2 {o p : Cop} : (sem F G (.cmp2 o p a b c)).C e = tst1 ((sem F G (.cmp2 o p a b c)).E e) := C_of rfl
theorem C_ite : (sem F G (.ite c a b)).C e = tst1 ((sem F G (.ite c a b)).E e) := C_of rfl
theorem C_ix : (sem F G (.ix a b)).C e = tst1 ((sem F G (.ix a b)).E e) := C_of rfl
theorem C_call {f : Nat} {fr : Bool} : (sem F G (.call f fr r)).C e = tst1 ((sem F G (.call f fr r)).E e) := C_of rfl
theorem C_callIO {f : Nat} {fr : Bool} {i : Nat} : (sem F G (.callIO f fr i r)).C e = tst1 ((sem F G (.callIO f fr i r)).E e) := C_of rfl
theorem C_bi {o : Bi} : (sem F G (.bi o r)).C e = tst1 ((sem F G (.bi o r)).E e) := C_of rfl
theorem C_isi {t : Ty} : (sem F G (.isi t a)).C e = tst1 ((sem F G (.isi t a)).E e) := C_of rfl
theorem C_lc {t : Tg} : (sem F G (.lc t a b c)).C e = tst1 ((sem F G (.lc t a b c)).E e) := C_of rfl
theorem P_lit {d : D} : (sem F G (.lit d)).P e = int1 ((sem F G (.lit d)).E e) := P_of rfl
theorem P_loc {i : Nat} : (sem F G (.loc i)).P e = int1 ((sem F G (.loc i)).E e) := P_of rfl
theorem P_glo {i : Nat} : (sem F G (.glo i)).P e = int1 ((sem F G (.glo i)).E e) := P_of rfl
theorem P_bin {o : Bop} : (sem F G (.bin o a b)).P e = int1 ((sem F G (.bin o a b)).E e) := P_of rfl
theorem P_neg : (sem F G (.neg a)).P e = int1 ((sem F G (.neg a)).E e) := P_of rfl
theorem P_ix : (sem F G (.ix a b)).P e = int1 ((sem F G (.ix a b)).E e) := P_of rfl
theorem P_bi {o : Bi} : (sem F G (.bi o r)).P e = int1 ((sem F G (.bi o r)).E e) := P_of rfl
theorem P_call {f : Nat} {fr : Bool} : (sem F G (.call f fr r)).P e = int1 ((sem F G (.call f fr r)).E e) := P_of rfl
theorem P_callIO {f : Nat} {fr : Bool} {i : Nat} : (sem F G (.callIO f fr i r)).P e = int1 ((sem F G (.callIO f fr i r)).E e) := P_of rfl
-- a op b op c
def ch5 (p : Cop) (j : Int) (k : Option Int) (e : Env) : Res Rv := match k with
  | some k => opt1 (cmp1 (opC p (.int j) (.int k))) e
  | none => .stuck
def ch4 (p : Cop) (j : Int) : Res (Option Int) → Res Rv := fun r => r.bind fun k e3 => ch5 p j k e3
def ch3 (p : Cop) (j : Int) (Pc : Env → Res (Option Int)) (t : Option Bool) (e : Env) : Res Rv := match t with
  | some t => bif t then ch4 p j (Pc e) else .ok (.val false (.bool false)) e
  | none => .stuck
def ch2 (o p : Cop) (i : Option Int) (Pc : Env → Res (Option Int)) : Res (Option Int) → Res Rv := fun r => r.bind fun j e2 => match i, j with
  | some i, some j => ch3 p j Pc (opC o (.int i) (.int j)) e2
  | _, _ => .stuck
def ch1 (o p : Cop) (Pb Pc : Env → Res (Option Int)) : Res (Option Int) → Res Rv := fun r => r.bind fun i e1 => ch2 o p i Pc (Pb e1)
theorem E_cmp2 {o p : Cop} : (sem F G (.cmp2 o p a b c)).E e = ch1 o p (sem F G b).P (sem F G c).P ((sem F G a).P e) := by
  show ((sem F G a).P e).bind (fun i e1 => ((sem F G b).P e1).bind fun j e2 => match i, j with
    | some i, some j => match opC o (.int i) (.int j) with
      | some true => ((sem F G c).P e2).bind fun k e3 => match k with
        | some k => Res.opt ((opC p (.int j) (.int k)).map fun q => Rv.val false (.bool q)) e3
        | none => .stuck
      | some false => .ok (.val false (.bool false)) e2
      | none => .stuck
    | _, _ => .stuck) = _
  unfold ch1 ch2
  congr 1
  funext i e1
  congr 1
  funext j e2
  cases i with
  | none => rfl
  | some i =>
    cases j with
    | none => rfl
    | some j =>
      show (match opC o (.int i) (.int j) with
        | some true => ((sem F G c).P e2).bind fun k e3 => match k with
          | some k => Res.opt ((opC p (.int j) (.int k)).map fun q => Rv.val false (.bool q)) e3
          | none => .stuck
        | some false => .ok (.val false (.bool false)) e2
        | none => .stuck) = ch3 p j (sem F G c).P (opC o (.int i) (.int j)) e2
      cases opC o (.int i) (.int j) with
      | none => rfl
      | some t =>
        cases t with
        | false => rfl
        | true =>
          show ((sem F G c).P e2).bind _ = ch4 p j ((sem F G c).P e2)
          unfold ch4
          congr 1
          funext k e3
          cases k with
          | none => rfl
          | some k =>
            show Res.opt _ e3 = opt1 _ e3
            cases opC p (.int j) (.int k) <;> rfl
theorem ch1_ok {o p : Cop} {Pb Pc : Env → Res (Option Int)} {i : Option Int} : ch1 o p Pb Pc (.ok i e) = ch2 o p i Pc (Pb e) := rfl
theorem ch2_ok {o p : Cop} {i j : Int} {Pc : Env → Res (Option Int)} : ch2 o p (some i) Pc (.ok (some j) e) = ch3 p j Pc (opC o (.int i) (.int j)) e := rfl
theorem ch3_s {p : Cop} {j : Int} {Pc : Env → Res (Option Int)} {t : Bool} : ch3 p j Pc (some t) e = bif t then ch4 p j (Pc e) else .ok (.val false (.bool false)) e := rfl
theorem ch4_ok {p : Cop} {j : Int} {k : Option Int} : ch4 p j (.ok k e) = ch5 p j k e := rfl
theorem ch5_s {p : Cop} {j k : Int} : ch5 p j (some k) e = opt1 (cmp1 (opC p (.int j) (.int k))) e := rfl
/-! statements -/
variable {s t : Sm}
theorem then_nx {f : Env → Flow} : (Flow.nx e).then f = f e := rfl
theorem then_rt {f : Env → Flow} {o : Bool} {d : D} : (Flow.rt o d e).then f = .rt o d e := rfl
theorem then_bk {f : Env → Flow} : (Flow.bk e).then f = .bk e := rfl
theorem then_exc {f : Env → Flow} {k : Nat} {fs : List D} : (Flow.exc k fs e).then f = .exc k fs e := rfl
theorem S_skip : exS F G wf .skip e = .nx e := rfl
theorem S_seq : exS F G wf (.seq s t) e = (exS F G wf s e).then (exS F G wf t) := rfl
def asg2 (i : Nat) : Res (Bool × D) → Flow := fun r => r.flow fun p e2 => .nx (e2.set i (some p))
def asg1 (i : Nat) : Res Rv → Flow := fun r => r.flow fun x e1 => asg2 i (rest x e1)
theorem S_asg {i : Nat} : exS F G wf (.asg i a) e = asg1 i ((sem F G a).E e) := rfl
theorem asg1_ok {i : Nat} {x : Rv} : asg1 i (.ok x e) = asg2 i (rest x e) := rfl
theorem asg1_exc {i k : Nat} {fs : List D} : asg1 i (.exc k fs e) = .exc k fs e := rfl
theorem asg2_ok {i : Nat} {p : Bool × D} : asg2 i (.ok p e) = .nx (e.set i (some p)) := rfl
def nxO (o : Option Env) : Flow := match o with
  | some e => .nx e
  | none => .stuck
def asT2 (is : List Nat) : Res D → Flow := fun r => r.flow fun d e2 => nxO (bindTg (.t is) d e2)
def asT1 (is : List Nat) : Res Rv → Flow := fun r => r.flow fun x e1 => asT2 is (leak x e1)
theorem S_asgT {is : List Nat} : exS F G wf (.asgT is a) e = asT1 is ((sem F G a).E e) := by
  show ((sem F G a).E e).flow (fun x e1 => (leak x e1).flow fun d e2 => match bindTg (.t is) d e2 with | some e3 => .nx e3 | none => .stuck) = _
  unfold asT1 asT2 nxO
  rfl
theorem asT1_ok {is : List Nat} {x : Rv} : asT1 is (.ok x e) = asT2 is (leak x e) := rfl
theorem asT2_ok {is : List Nat} {d : D} : asT2 is (.ok d e) = nxO (bindTg (.t is) d e) := rfl
theorem nxO_s : nxO (some e) = .nx e := rfl
def six5 (i : Nat) (o : Option D) (e : Env) : Flow := match o with
  | some o' => .nx (e.set i (some (true, o')))
  | none => .stuck
def six4 (i : Nat) (d' d : D) (o : Option (Bool × D)) (e : Env) : Flow := match o with
  | some (true, o) => six5 i (putV o d' d) e
  | _ => .stuck
def six3 (i : Nat) (d : D) : Res D → Flow := fun r => r.flow fun d' e4 => six4 i d' d (getS e4 i) e4
def six2 (i : Nat) (d : D) : Res Rv → Flow := fun r => r.flow fun y e3 => six3 i d (leak y e3)
def six1 (i : Nat) (Sk : Env → Res Rv) (d : D) (o : Option (Bool × D)) (e : Env) : Flow := match o with
  | some (true, _) => six2 i d (Sk e)
  | _ => .stuck
def six0 (i : Nat) (Sk : Env → Res Rv) : Res D → Flow := fun r => r.flow fun d e2 => six1 i Sk d (getS e2 i) e2
def sixv (i : Nat) (Sk : Env → Res Rv) : Res Rv → Flow := fun r => r.flow fun x e1 => six0 i Sk (leak x e1)
theorem S_setix {i : Nat} : exS F G wf (.setix i a b) e = sixv i (sem F G a).E ((sem F G b).E e) := by
  show ((sem F G b).E e).flow (fun x e1 => (leak x e1).flow fun d e2 => if isOwn e2 i then ((sem F G a).E e2).flow (fun y e3 => (leak y e3).flow fun d' e4 => match e4[i]?.join with
    | some (true, o) => match putV o d' d with
      | some o' => .nx (e4.set i (some (true, o')))
      | none => .stuck
    | _ => .stuck) else .stuck) = _
  unfold sixv six0
  congr 1
  funext x e1
  congr 1
  funext d e2
  have inner : ((sem F G a).E e2).flow (fun y e3 => (leak y e3).flow fun d' e4 => match e4[i]?.join with
    | some (true, o) => match putV o d' d with
      | some o' => .nx (e4.set i (some (true, o')))
      | none => .stuck
    | _ => .stuck) = six2 i d ((sem F G a).E e2) := by
    unfold six2 six3
    congr 1
  rw [inner]
  unfold isOwn six1 getS
  cases e2[i]?.join with
  | none => rfl
  | some p => obtain ⟨o, d⟩ := p; cases o <;> rfl
theorem sixv_ok {i : Nat} {Sk : Env → Res Rv} {x : Rv} : sixv i Sk (.ok x e) = six0 i Sk (leak x e) := rfl
theorem six0_ok {i : Nat} {Sk : Env → Res Rv} {d : D} : six0 i Sk (.ok d e) = six1 i Sk d (getS e i) e := rfl
theorem six1_s {i : Nat} {Sk : Env → Res Rv} {d d0 : D} : six1 i Sk d (some (true, d0)) e = six2 i d (Sk e) := rfl
theorem six2_ok {i : Nat} {d : D} {y : Rv} : six2 i d (.ok y e) = six3 i d (leak y e) := rfl
theorem six3_ok {i : Nat} {d d' : D} : six3 i d (.ok d' e) = six4 i d' d (getS e i) e := rfl
theorem six4_s {i : Nat} {d d' o : D} : six4 i d' d (some (true, o)) e = six5 i (putV o d' d) e := rfl
theorem six5_s {i : Nat} {o' : D} : six5 i (some o') e = .nx (e.set i (some (true, o'))) := rfl
def exx : Res Rv → Flow := fun r => r.flow fun _ e1 => .nx e1
theorem S_ex : exS F G wf (.ex a) e = exx ((sem F G a).E e) := rfl
theorem exx_ok {x : Rv} : exx (.ok x e) = .nx e := rfl
theorem exx_exc {k : Nat} {fs : List D} : exx (.exc k fs e) = .exc k fs e := rfl
def rtO (i : Nat) (o : Option (Bool × D)) (e : Env) : Flow := match o with
  | some (o, d) => .rt o d (bif o then e.set i none else e)
  | none => .stuck
def ret2 : Rv → Env → Flow
  | .val o d, e => .rt o d e
  | .ptr i, e => rtO i (getS e i) e
def ret1 : Res Rv → Flow := fun r => r.flow ret2
theorem S_ret : exS F G wf (.ret a) e = ret1 ((sem F G a).E e) := by
  show ((sem F G a).E e).flow (fun x e1 => match x with
    | .val o d => .rt o d e1
    | .ptr i => match e1[i]?.join with
      | some (o, d) => .rt o d (if o then e1.set i none else e1)
      | none => .stuck) = _
  unfold ret1
  congr 1
  funext x e1
  cases x with
  | val o d => rfl
  | ptr i =>
    show (match e1[i]?.join with | some (o, d) => Flow.rt o d (if o then e1.set i none else e1) | none => .stuck) = rtO i (getS e1 i) e1
    unfold rtO getS
    cases e1[i]?.join with
    | none => rfl
    | some p => obtain ⟨o, d⟩ := p; cases o <;> rfl
theorem ret1_ok {x : Rv} : ret1 (.ok x e) = ret2 x e := rfl
theorem ret1_exc {k : Nat} {fs : List D} : ret1 (.exc k fs e) = .exc k fs e := rfl
theorem ret2_v {o : Bool} {d : D} : ret2 (.val o d) e = .rt o d e := rfl
theorem ret2_p {i : Nat} : ret2 (.ptr i) e = rtO i (getS e i) e := rfl
theorem rtO_s {i : Nat} {o : Bool} {d : D} : rtO i (some (o, d)) e = .rt o d (bif o then e.set i none else e) := rfl
theorem S_retN : exS F G wf .retN e = .rt false .none e := rfl
def ifs1 (S T : Env → Flow) : Res Bool → Flow := fun r => r.flow fun b e1 => bif b then S e1 else T e1
theorem S_ifs : exS F G wf (.ifs c s t) e = ifs1 (exS F G wf s) (exS F G wf t) ((sem F G c).C e) := by
  show ((sem F G c).C e).flow (fun b e1 => if b then exS F G wf s e1 else exS F G wf t e1) = _
  unfold ifs1
  congr 1
  funext b e1
  cases b <;> rfl
theorem ifs1_ok {S T : Env → Flow} {b : Bool} : ifs1 S T (.ok b e) = bif b then S e else T e := rfl
def each1 (t : Tg) (S : Env → Flow) : Res (List D) → Flow := fun r => r.flow fun xs e1 => eachF (bindTg t) S xs e1
theorem S_each {t : Tg} : exS F G wf (.each t a s) e = each1 t (exS F G wf s) ((sem F G a).I e) := rfl
theorem each1_ok {t : Tg} {S : Env → Flow} {xs : List D} : each1 t S (.ok xs e) = eachF (bindTg t) S xs e := rfl
theorem S_loop : exS F G wf (.loop c s) e = whileF (sem F G c).C (exS F G wf s) wf e := rfl
theorem S_brk : exS F G wf .brk e = .bk e := rfl
theorem bind_n {i : Nat} {d : D} : bindTg (.n i) d e = some (e.set i (some (false, d))) := rfl
theorem bind_t {is : List Nat} {xs : List D} (h : (xs.length == is.length) = true) : bindTg (.t is) (.tup xs) e = some (setAll e is xs) := if_pos h
theorem setAll_c {i : Nat} {is : List Nat} {d : D} {ds : List D} : setAll e (i :: is) (d :: ds) = setAll (e.set i (some (false, d))) is ds := rfl
theorem setAll_n {ds : List D} : setAll e [] ds = e := rfl
/-! loops -/
theorem eachF_nil {bd : D → Env → Option Env} {S : Env → Flow} : eachF bd S [] e = .nx e := rfl
def each3 (bd : D → Env → Option Env) (S : Env → Flow) (xs : List D) : Flow → Flow
  | .nx e2 => eachF bd S xs e2
  | .bk e2 => .nx e2
  | r => r
def each2 (bd : D → Env → Option Env) (S : Env → Flow) (xs : List D) : Option Env → Flow
  | none => .stuck
  | some e1 => each3 bd S xs (S e1)
theorem eachF_cons {bd : D → Env → Option Env} {S : Env → Flow} {x : D} {xs : List D} : eachF bd S (x :: xs) e = each2 bd S xs (bd x e) := by
  rw [eachF]
  cases bd x e with
  | none => rfl
  | some e1 =>
    show (match S e1 with | .nx e2 => eachF bd S xs e2 | .bk e2 => .nx e2 | r => r) = each3 bd S xs (S e1)
    cases S e1 <;> rfl
theorem each2_s {bd : D → Env → Option Env} {S : Env → Flow} {xs : List D} : each2 bd S xs (some e) = each3 bd S xs (S e) := rfl
theorem each3_nx {bd : D → Env → Option Env} {S : Env → Flow} {xs : List D} : each3 bd S xs (.nx e) = eachF bd S xs e := rfl
theorem each3_rt {bd : D → Env → Option Env} {S : Env → Flow} {xs : List D} {o : Bool} {d : D} : each3 bd S xs (.rt o d e) = .rt o d e := rfl
theorem each3_bk {bd : D → Env → Option Env} {S : Env → Flow} {xs : List D} : each3 bd S xs (.bk e) = .nx e := rfl
theorem each3_exc {bd : D → Env → Option Env} {S : Env → Flow} {xs : List D} {k : Nat} {fs : List D} : each3 bd S xs (.exc k fs e) = .exc k fs e := rfl
/-- a comprehension whose element is f d, whose test is p d, and which leaves the slots alone -/
theorem turns_map {bd : D → Env → Option Env} {Cc : Env → Res Bool} {B : Env → Res D} {cl : Env → Env} {f : D → D} (e : Env) : ∀ (xs acc : List D), (∀ x ∈ xs, ∃ e1 e2 e3, bd x e = some e1 ∧ Cc e1 = .ok true e2 ∧ B e2 = .ok (f x) e3 ∧ cl e3 = e) → turns bd Cc B cl xs acc e = .ok (acc ++ xs.map f) e
  | [], acc, _ => by simp [turns]
  | x :: xs, acc, h => by
    obtain ⟨e1, e2, e3, h1, h2, h3, h4⟩ := h x List.mem_cons_self
    rw [turns, h1]
    simp only [h2, Res.bind, h3, if_true, h4]
    rw [turns_map e xs (acc ++ [f x]) fun y hy => h y (List.mem_cons_of_mem _ hy)]
    simp
/-! defs -/
def outF : Flow → Option Out
  | .rt own d _ => some (.ret own d none)
  | .nx _ => some (.ret false .none none)
  | .exc c fs _ => some (.exc c fs none)
  | _ => none
def ret0 (own : Bool) (d : D) (o : Option (Bool × D)) : Option Out := match o with
  | some (true, d1) => some (.ret own d (some d1))
  | _ => none
def exc0 (c : Nat) (fs : List D) (o : Option (Bool × D)) : Option Out := match o with
  | some (true, d1) => some (.exc c fs (some d1))
  | _ => none
def outT : Flow → Option Out
  | .rt own d e => ret0 own d (getS e 0)
  | .nx e => ret0 false .none (getS e 0)
  | .exc c fs e => exc0 c fs (getS e 0)
  | _ => none
def st0 (io : Bool) (np ns : Nat) : List D → Env
  | [] => List.replicate ns none
  | d :: r => some (io, d) :: (r.map fun d => some (false, d)) ++ List.replicate (ns - np) none
theorem st0_c {io : Bool} {np ns : Nat} {d : D} {r : List D} : st0 io np ns (d :: r) = some (io, d) :: (r.map fun d => some (false, d)) ++ List.replicate (ns - np) none := rfl
theorem st0_n {io : Bool} {np ns : Nat} : st0 io np ns [] = List.replicate ns none := rfl
theorem run_f {np ns : Nat} {s : Sm} {ds : List D} : runD F G wf ⟨false, np, ns, s⟩ ds = outF (exS F G wf s (st0 false np ns ds)) := by
  have e : startE ⟨false, np, ns, s⟩ ds = st0 false np ns ds := by cases ds <;> rfl
  unfold runD
  rw [e]
  cases exS F G wf s (st0 false np ns ds) <;> rfl
theorem run_t {np ns : Nat} {s : Sm} {ds : List D} : runD F G wf ⟨true, np, ns, s⟩ ds = outT (exS F G wf s (st0 true np ns ds)) := by
  have e : startE ⟨true, np, ns, s⟩ ds = st0 true np ns ds := by cases ds <;> rfl
  unfold runD
  rw [e]
  have q : ∀ (e : Env) (own : Bool) (d : D), Option.map (fun o => Out.ret own d o) (if true then (match e[0]?.join with | some (true, d) => some (some d) | _ => none) else some none) = ret0 own d (getS e 0) := fun e own d => by
    unfold ret0 getS
    cases e[0]?.join with
    | none => rfl
    | some p => obtain ⟨o, d⟩ := p; cases o <;> rfl
  have q2 : ∀ (e : Env) (c : Nat) (fs : List D), Option.map (fun o => Out.exc c fs o) (if true then (match e[0]?.join with | some (true, d) => some (some d) | _ => none) else some none) = exc0 c fs (getS e 0) := fun e own d => by
    unfold exc0 getS
    cases e[0]?.join with
    | none => rfl
    | some p => obtain ⟨o, d⟩ := p; cases o <;> rfl
  cases exS F G wf s (st0 true np ns ds) with
  | rt own d e => exact q e own d
  | nx e => exact q e false .none
  | exc c fs e => exact q2 e c fs
  | _ => rfl
theorem outF_rt {own : Bool} {d : D} : outF (.rt own d e) = some (.ret own d none) := rfl
theorem outF_nx : outF (.nx e) = some (.ret false .none none) := rfl
theorem outF_exc {k : Nat} {fs : List D} : outF (.exc k fs e) = some (.exc k fs none) := rfl
theorem outT_rt {own : Bool} {d : D} : outT (.rt own d e) = ret0 own d (getS e 0) := rfl
theorem outT_nx : outT (.nx e) = ret0 false .none (getS e 0) := rfl
theorem outT_exc {k : Nat} {fs : List D} : outT (.exc k fs e) = exc0 k fs (getS e 0) := rfl
theorem ret0_s {own : Bool} {d d1 : D} : ret0 own d (some (true, d1)) = some (.ret own d (some d1)) := rfl
theorem exc0_s {k : Nat} {fs : List D} {d1 : D} : exc0 k fs (some (true, d1)) = some (.exc k fs (some d1)) := rfl
end
end DI

end
section
/-! DiZ: operators and built-ins on data, row by row. Plain Lean. -/
namespace DI
def leakR : Res Rv → Res D := fun r => r.bind leak
theorem leakR_ok {x : Rv} {e : Env} : leakR (.ok x e) = leak x e := rfl
section
variable {x y v : D} {xs ys : List D} {s t : List Nat} {i j : Int} {b c : Bool}
theorem t_none : truth .none = false := rfl
theorem t_bool : truth (.bool b) = b := rfl
theorem t_int : truth (.int i) = (i != 0) := rfl
theorem t_str : truth (.str s) = !s.isEmpty := rfl
theorem t_tup : truth (.tup xs) = !xs.isEmpty := rfl
theorem t_list : truth (.list xs) = !xs.isEmpty := rfl
-- a block's own names
def closeO (o : Option (Bool × D)) (i : Nat) (e : Env) : Env := match o with
  | some (_, d) => e.set i (some (false, d))
  | none => e
theorem clean_eq {sl : List Nat} {e : Env} : cleanE sl e = hide (shut e sl) sl := rfl
theorem shut_n {e : Env} : shut e [] = e := rfl
theorem shut_c {e : Env} {k : Nat} {sl : List Nat} : shut e (k :: sl) = shut (closeO (getS e k) k e) sl := by
  rw [shut]
  congr 1
theorem closeO_s {e : Env} {k : Nat} {o : Bool} {d : D} : closeO (some (o, d)) k e = e.set k (some (false, d)) := rfl
theorem closeO_n {e : Env} {k : Nat} : closeO none k e = e := rfl
theorem hide_n {e : Env} : hide e [] = e := rfl
theorem hide_c {e : Env} {k : Nat} {sl : List Nat} : hide e (k :: sl) = hide (e.set k none) sl := rfl
theorem back_n {e0 e : Env} : back e0 e [] = e := rfl
theorem back_c {e0 e : Env} {k : Nat} {sl : List Nat} : back e0 e (k :: sl) = back e0 (e.set k (getS e0 k)) sl := rfl
theorem body_ok {E : Env → Res Rv} {e : Env} : bodyE E e = leakR (E e) := rfl
-- operators
theorem o_add : opB .add (.int i) (.int j) = some (false, .int (i + j)) := rfl
theorem o_sub : opB .sub (.int i) (.int j) = some (false, .int (i - j)) := rfl
theorem small_ofZ (h : -18446744073709551616 < i) (h2 : i < 18446744073709551616) : small i = true := by
  unfold small
  rw [Bool.and_eq_true]
  exact ⟨decide_eq_true (by omega), decide_eq_true (by omega)⟩
theorem o_mul_r (h : -18446744073709551616 < j) (h2 : j < 18446744073709551616) : opB .mul (.int i) (.int j) = some (false, .int (i * j)) := if_pos (by rw [small_ofZ h h2, Bool.or_true])
theorem o_mul_l (h : -18446744073709551616 < i) (h2 : i < 18446744073709551616) : opB .mul (.int i) (.int j) = some (false, .int (i * j)) := if_pos (by rw [small_ofZ h h2, Bool.true_or])
theorem o_fdiv (h : 0 < j) (h2 : j < 1073741824) : opB .fdiv (.int i) (.int j) = some (false, .int (i / j)) := if_pos (by rw [decide_eq_true h, decide_eq_true h2]; rfl)
theorem o_mod (h : 0 < j) : opB .mod (.int i) (.int j) = some (false, .int (i % j)) := if_pos h
theorem o_pow (h : 0 ≤ j) (h2 : j ≤ 1000) (h3 : -18446744073709551616 < i) (h4 : i < 18446744073709551616) : opB .pow (.int i) (.int j) = some (false, .int (i ^ j.toNat)) := if_pos (by rw [decide_eq_true h, decide_eq_true h2, small_ofZ h3 h4]; rfl)
theorem o_adds (h : s.length + t.length ≤ 1000000) : opB .add (.str s) (.str t) = some (false, .str (s ++ t)) := if_pos h
theorem o_addt (h : xs.length + ys.length ≤ 1000000) : opB .add (.tup xs) (.tup ys) = some (false, .tup (xs ++ ys)) := if_pos h
theorem o_addl (h : xs.length + ys.length ≤ 1000000) : opB .add (.list xs) (.list ys) = some (true, .list (xs ++ ys)) := if_pos h
theorem o_muls (h : 0 ≤ j) (h2 : j ≤ 1000) (h3 : s.length ≤ 1000) : opB .mul (.str s) (.int j) = some (false, .str (rep j.toNat s)) := if_pos (by rw [decide_eq_true h, decide_eq_true h2, decide_eq_true h3]; rfl)
theorem o_mult (h : 2 ≤ j) (h2 : j ≤ 1000) (h3 : (x :: xs).length ≤ 1000) : opB .mul (.tup (x :: xs)) (.int j) = some (false, .tup (rep j.toNat (x :: xs))) := if_pos (by rw [decide_eq_true h, decide_eq_true h2, decide_eq_true h3]; rfl)
-- comparisons
theorem c_eqi : opC .eq (.int i) (.int j) = some (i == j) := rfl
theorem c_nei : opC .ne (.int i) (.int j) = some (!(i == j)) := rfl
theorem c_eqs : opC .eq (.str s) (.str t) = some (s == t) := rfl
theorem c_nes : opC .ne (.str s) (.str t) = some (!(s == t)) := rfl
theorem c_eqb : opC .eq (.bool b) (.bool c) = some (b == c) := rfl
theorem c_lti : opC .lt (.int i) (.int j) = some (decide (i < j)) := rfl
theorem c_lei : opC .le (.int i) (.int j) = some (decide (i ≤ j)) := rfl
theorem c_gti : opC .gt (.int i) (.int j) = some (decide (j < i)) := rfl
theorem c_gei : opC .ge (.int i) (.int j) = some (decide (j ≤ i)) := rfl
theorem c_is0 : opC .is .none .none = some true := rfl
theorem c_isb : opC .is (.bool b) (.bool c) = some (b == c) := rfl
theorem c_is1 : opC .is (.bool b) .none = some false := rfl
theorem c_is2 : opC .is (.int i) .none = some false := rfl
theorem c_is3 : opC .is (.str s) .none = some false := rfl
theorem c_is4 : opC .is (.tup xs) .none = some false := rfl
theorem c_is5 : opC .is (.list xs) .none = some false := rfl
theorem c_isn0 : opC .isnot .none .none = some false := rfl
theorem c_isnb : opC .isnot (.bool b) (.bool c) = some (!(b == c)) := rfl
theorem c_isn1 : opC .isnot (.bool b) .none = some true := rfl
theorem c_isn2 : opC .isnot (.int i) .none = some true := rfl
theorem c_isn3 : opC .isnot (.str s) .none = some true := rfl
theorem c_isn4 : opC .isnot (.tup xs) .none = some true := rfl
theorem c_isn5 : opC .isnot (.list xs) .none = some true := rfl
theorem c_inc {k : Nat} : opC .isin (.str [k]) (.str t) = some (t.contains k) := rfl
theorem c_ninc {k : Nat} : opC .notin (.str [k]) (.str t) = some (!t.contains k) := rfl
theorem c_inl (h : (D.flat 150 x && D.flatL 150 ys) = true) : opC .isin x (.list ys) = some (isIn x ys) := by
  cases x with
  | str s => match s with
    | [] => exact if_pos h
    | [_] => exact if_pos h
    | _ :: _ :: _ => exact if_pos h
  | _ => exact if_pos h
theorem c_int (h : (D.flat 150 x && D.flatL 150 ys) = true) : opC .isin x (.tup ys) = some (isIn x ys) := by
  cases x with
  | str s => match s with
    | [] => exact if_pos h
    | [_] => exact if_pos h
    | _ :: _ :: _ => exact if_pos h
  | _ => exact if_pos h
theorem c_nint (h : (D.flat 150 x && D.flatL 150 ys) = true) : opC .notin x (.tup ys) = some (!isIn x ys) := by
  cases x with
  | str s => match s with
    | [] => exact if_pos h
    | [_] => exact if_pos h
    | _ :: _ :: _ => exact if_pos h
  | _ => exact if_pos h
theorem c_ninl (h : (D.flat 150 x && D.flatL 150 ys) = true) : opC .notin x (.list ys) = some (!isIn x ys) := by
  cases x with
  | str s => match s with
    | [] => exact if_pos h
    | [_] => exact if_pos h
    | _ :: _ :: _ => exact if_pos h
  | _ => exact if_pos h
theorem q_nn : (([] : List Nat) == []) = true := rfl
theorem q_nc {a : Nat} : (([] : List Nat) == a :: s) = false := rfl
theorem q_cn {a : Nat} : (a :: s == ([] : List Nat)) = false := rfl
theorem q_cc {a b : Nat} : (a :: s == b :: t) = (a == b && s == t) := rfl
-- x[k]
theorem place_nat {n k : Nat} (h : k < n) : place n (k : Int) = some k := by
  unfold place
  rw [if_pos (by omega), if_pos (by omega)]
  simp
theorem item_list {k : Nat} (h : k < xs.length) : item (.list xs) (.int (k : Int)) = xs[k]? := by
  show (place xs.length (k : Int)).bind _ = _
  rw [place_nat h]; rfl
theorem item_tup {k : Nat} (h : k < xs.length) : item (.tup xs) (.int (k : Int)) = xs[k]? := by
  show (place xs.length (k : Int)).bind _ = _
  rw [place_nat h]; rfl
theorem item_at (h : 0 ≤ i) (h2 : i < xs.length) : item (.list xs) (.int i) = xs[i.toNat]? := by
  obtain ⟨k, rfl⟩ := Int.eq_ofNat_of_zero_le h
  rw [item_list (by omega)]
  simp
theorem item_tat (h : 0 ≤ i) (h2 : i < xs.length) : item (.tup xs) (.int i) = xs[i.toNat]? := by
  obtain ⟨k, rfl⟩ := Int.eq_ofNat_of_zero_le h
  rw [item_tup (by omega)]
  simp
theorem i_l0 : item (.list (x :: xs)) (.int 0) = some x := by
  have := item_list (xs := x :: xs) (k := 0) (by simp)
  simpa using this
theorem i_l1 {a : D} : item (.list (a :: x :: xs)) (.int 1) = some x := by
  have := item_list (xs := a :: x :: xs) (k := 1) (by simp)
  simpa using this
theorem i_l2 {a b : D} : item (.list (a :: b :: x :: xs)) (.int 2) = some x := by
  have := item_list (xs := a :: b :: x :: xs) (k := 2) (by simp)
  simpa using this
theorem i_t0 : item (.tup (x :: xs)) (.int 0) = some x := by
  have := item_tup (xs := x :: xs) (k := 0) (by simp)
  simpa using this
theorem i_t1 {a : D} : item (.tup (a :: x :: xs)) (.int 1) = some x := by
  have := item_tup (xs := a :: x :: xs) (k := 1) (by simp)
  simpa using this
theorem i_t2 {a b : D} : item (.tup (a :: b :: x :: xs)) (.int 2) = some x := by
  have := item_tup (xs := a :: b :: x :: xs) (k := 2) (by simp)
  simpa using this
theorem putV_list {k : Nat} (h : k < xs.length) : putV (.list xs) (.int (k : Int)) v = some (.list (xs.set k v)) := by
  show (place xs.length (k : Int)).map _ = _
  rw [place_nat h]; rfl
theorem p_l0 : putV (.list (x :: xs)) (.int 0) v = some (.list (v :: xs)) := by
  have := putV_list (xs := x :: xs) (k := 0) (v := v) (by simp)
  simpa using this
theorem p_l1 {a : D} : putV (.list (a :: x :: xs)) (.int 1) v = some (.list (a :: v :: xs)) := by
  have := putV_list (xs := a :: x :: xs) (k := 1) (v := v) (by simp)
  simpa using this
theorem p_l2 {a b : D} : putV (.list (a :: b :: x :: xs)) (.int 2) v = some (.list (a :: b :: v :: xs)) := by
  have := putV_list (xs := a :: b :: x :: xs) (k := 2) (v := v) (by simp)
  simpa using this
-- built-ins
theorem b_lens : biV .len [.str s] = some (false, .int s.length) := rfl
theorem b_lent : biV .len [.tup xs] = some (false, .int xs.length) := rfl
theorem b_lenl : biV .len [.list xs] = some (false, .int xs.length) := rfl
theorem b_abs : biV .abs [.int i] = some (false, .int i.natAbs) := rfl
theorem b_int : biV .int [.int i] = some (false, .int i) := rfl
theorem b_intb : biV .int [.bool b] = some (false, .int (if b then 1 else 0)) := rfl
theorem b_tupl : biV .tuple [.list xs] = some (false, .tup xs) := rfl
theorem b_tupt : biV .tuple [.tup xs] = some (false, .tup xs) := rfl
theorem b_lstl : biV .list [.list xs] = some (true, .list xs) := rfl
theorem b_lstt : biV .list [.tup xs] = some (true, .list xs) := rfl
theorem b_lstc : biV .list [.scr xs] = some (true, .list xs) := rfl
theorem b_lsts : biV .list [.str s] = some (true, .list (s.map fun c => .str [c])) := rfl
theorem b_max2 : biV .max [.int i, .int j] = some (false, .int (if i < j then j else i)) := rfl
theorem b_min2 : biV .min [.int i, .int j] = some (false, .int (if j < i then j else i)) := rfl
theorem ints_map (l : List Int) : intsD (l.map .int) = some l := by
  induction l with
  | nil => rfl
  | cons a l ih => simp [intsD, ih]
theorem b_sum {l : List Int} : biV .sum [.list (l.map .int)] = some (false, .int l.sum) := by
  show (intsD (l.map .int)).map _ = _
  rw [ints_map]; rfl
theorem bools_map (l : List Bool) : boolsD (l.map .bool) = some l := by
  induction l with
  | nil => rfl
  | cons a l ih => simp [boolsD, ih]
theorem b_all {l : List Bool} : biV .all [.list (l.map .bool)] = some (false, .bool (l.all id)) := by
  show (boolsD (l.map .bool)).map _ = _
  rw [bools_map]; rfl
theorem b_any {l : List Bool} : biV .any [.list (l.map .bool)] = some (false, .bool (l.any id)) := by
  show (boolsD (l.map .bool)).map _ = _
  rw [bools_map]; rfl
theorem m_app (h : xs.length < 1000000) : muV .append (.list xs) [x] = some (.none, .list (xs ++ [x])) := if_pos h
theorem strs_map (l : List (List Nat)) : strsD (l.map .str) = some l := by
  induction l with
  | nil => rfl
  | cons a l ih => simp [strsD, ih]
theorem m_join {l : List (List Nat)} (h : (joinL s l).length + s.length ≤ 1000000) : meV .join (.str s) [.list (l.map .str)] = some (false, .str (joinL s l)) := by
  show (strsD (l.map .str)).bind _ = _
  rw [strs_map]
  exact if_pos h
theorem is_int1 : isTy .int (.int i) = true := rfl
theorem w_list : itemsOf (.list xs) = some xs := rfl
theorem w_tup : itemsOf (.tup xs) = some xs := rfl
theorem w_str : itemsOf (.str s) = some (s.map fun c => .str [c]) := rfl
theorem w_rng (h : -1000000 ≤ j) (h2 : j ≤ 1000000) : rangeOf [.int j] = some (rangeL 0 j.toNat) := if_pos (by rw [Bool.and_eq_true]; exact ⟨decide_eq_true h, decide_eq_true h2⟩)
theorem w_rng2 (h : -1000000 ≤ i) (h2 : i ≤ 1000000) (h3 : -1000000 ≤ j) (h4 : j ≤ 1000000) : rangeOf [.int i, .int j] = some (rangeL i (j - i).toNat) := if_pos (by simp only [Bool.and_eq_true]; exact ⟨⟨⟨decide_eq_true h, decide_eq_true h2⟩, decide_eq_true h3⟩, decide_eq_true h4⟩)
theorem dec_t {p : Prop} {q : Decidable p} (h : p) : @decide p q = true := decide_eq_true h
theorem dec_f {p : Prop} {q : Decidable p} (h : ¬ p) : @decide p q = false := decide_eq_false h
theorem beq_t (h : i = j) : (i == j) = true := beq_iff_eq.mpr h
theorem beq_f (h : ¬ i = j) : (i == j) = false := beq_eq_false_iff_ne.mpr h
theorem s_str {lo hi : Option Int} : slice (.str s) lo hi = some (false, .str (cut s lo hi)) := rfl
theorem s_tup {lo hi : Option Int} : slice (.tup xs) lo hi = some (false, .tup (cut xs lo hi)) := rfl
theorem s_list {lo hi : Option Int} : slice (.list xs) lo hi = some (true, .list (cut xs lo hi)) := rfl
end
/-! ### turns -/
def accO (acc : List D) : Option D → List D
  | some y => acc ++ [y]
  | none => acc
def tu3 (cl : Env → Env) : Res D → Res (Option D) := fun r => r.bind fun y e3 => .ok (some y) (cl e3)
def tu2 (B : Env → Res D) (cl : Env → Env) : Res Bool → Res (Option D) := fun r => r.bind fun b e2 => bif b then tu3 cl (B e2) else .ok none (cl e2)
def tu1 (Cc : Env → Res Bool) (B : Env → Res D) (cl : Env → Env) : Option Env → Res (Option D)
  | none => .stuck
  | some e1 => tu2 B cl (Cc e1)
section
variable {Cc : Env → Res Bool} {B : Env → Res D} {cl : Env → Env} {bd : D → Env → Option Env} {e : Env}
theorem tu1_s : tu1 Cc B cl (some e) = tu2 B cl (Cc e) := rfl
theorem tu2_ok {b : Bool} : tu2 B cl (.ok b e) = bif b then tu3 cl (B e) else .ok none (cl e) := rfl
theorem tu3_ok {y : D} : tu3 cl (.ok y e) = .ok (some y) (cl e) := rfl
theorem turns_c {x : D} {xs acc : List D} {o : Option D} {e' : Env} (h : tu1 Cc B cl (bd x e) = .ok o e') : turns bd Cc B cl (x :: xs) acc e = turns bd Cc B cl xs (accO acc o) e' := by
  rw [turns]
  cases hb : bd x e with
  | none => rw [hb] at h; cases h
  | some e1 =>
    rw [hb] at h
    have h : tu2 B cl (Cc e1) = .ok o e' := h
    cases hc : Cc e1 with
    | stuck => rw [hc] at h; cases h
    | exc => rw [hc] at h; cases h
    | ok b e2 =>
      rw [hc] at h
      show (Cc e1).bind (fun b e2 => if b then (B e2).bind fun y e3 => turns bd Cc B cl xs (acc ++ [y]) (cl e3) else turns bd Cc B cl xs acc (cl e2)) = _
      rw [hc]
      cases b with
      | false =>
        cases h
        rfl
      | true =>
        have h : tu3 cl (B e2) = .ok o e' := h
        show (B e2).bind (fun y e3 => turns bd Cc B cl xs (acc ++ [y]) (cl e3)) = _
        cases hB : B e2 with
        | stuck => rw [hB] at h; cases h
        | exc => rw [hB] at h; cases h
        | ok y e3 =>
          rw [hB] at h
          cases h
          rfl
/-- every turn gives f x -/
theorem lc_map (f : D → D) (xs : List D) (h : ∀ x ∈ xs, tu1 Cc B cl (bd x e) = .ok (some (f x)) e) : turns bd Cc B cl xs [] e = .ok (xs.map f) e := by
  have : ∀ (xs acc : List D), (∀ x ∈ xs, tu1 Cc B cl (bd x e) = .ok (some (f x)) e) → turns bd Cc B cl xs acc e = .ok (acc ++ xs.map f) e := fun xs => by
    induction xs with
    | nil => intro acc _; simp [turns]
    | cons x xs ih =>
      intro acc h
      rw [turns_c (h x List.mem_cons_self)]
      show turns bd Cc B cl xs (acc ++ [f x]) e = _
      rw [ih _ fun y hy => h y (List.mem_cons_of_mem _ hy)]
      simp
  simpa using this xs [] h
/-- an invariant of the turns -/
theorem lc_inv {P : Env → List D → Prop} (xs : List D) (h0 : P e []) (hs : ∀ x ∈ xs, ∀ e acc, P e acc → ∃ o e', tu1 Cc B cl (bd x e) = .ok o e' ∧ P e' (accO acc o)) : ∃ acc' e', turns bd Cc B cl xs [] e = .ok acc' e' ∧ P e' acc' := by
  have : ∀ (xs acc : List D) (e : Env), P e acc → (∀ x ∈ xs, ∀ e acc, P e acc → ∃ o e', tu1 Cc B cl (bd x e) = .ok o e' ∧ P e' (accO acc o)) → ∃ acc' e', turns bd Cc B cl xs acc e = .ok acc' e' ∧ P e' acc' := fun xs => by
    induction xs with
    | nil => intro acc e h _; exact ⟨acc, e, rfl, h⟩
    | cons x xs ih =>
      intro acc e h hs
      obtain ⟨o, e', h1, h2⟩ := hs x List.mem_cons_self e acc h
      rw [turns_c h1]
      exact ih _ _ h2 fun y hy => hs y (List.mem_cons_of_mem _ hy)
  exact this xs [] e h0 hs
/-- an invariant of a loop -/
theorem each_inv {S : Env → Flow} {P : List D → Env → Prop} : ∀ (xs : List D) (e : Env), P xs e → (∀ x xs e, P (x :: xs) e → ∃ e2, each3 bd S xs (match bd x e with | some e1 => S e1 | none => .stuck) = eachF bd S xs e2 ∧ P xs e2) → ∃ e', eachF bd S xs e = .nx e' ∧ P [] e'
  | [], e, h, _ => ⟨e, rfl, h⟩
  | x :: xs, e, h, hs => by
    obtain ⟨e2, h2, h3⟩ := hs x xs e h
    obtain ⟨e', h4, h5⟩ := each_inv xs e2 h3 hs
    refine ⟨e', ?_, h5⟩
    rw [eachF_cons]
    cases hb : bd x e with
    | none => rw [hb] at h2; rw [h4] at h2; cases h2
    | some e1 =>
      rw [hb] at h2
      rw [each2_s]
      exact h2.trans h4
end
end DI

end
local macro_rules | `(tactic| walk_at "di") => `(tactic| simp (disch := (simp (config := { failIfUnchanged := false }) only [List.length_map, List.length_append, List.length_cons, List.length_nil]; omega)) only [DI.getS_0, DI.getS_s, DI.getS_n, DI.opt1_s, DI.deref_v, DI.deref_p, DI.derefO_s, DI.leak_v, DI.leak_p, DI.leakO_s, DI.rest_v, DI.rest_p, DI.restO_s, DI.set_0, DI.set_s, DI.E_lit, DI.E_loc, DI.locO_s, DI.E_glo, DI.gloO_s, DI.L_nil, DI.L_cons, DI.L1_ok, DI.L2_ok, DI.L3_ok, DI.R_nil, DI.R_cons, DI.R1_ok, DI.R2_ok, DI.cons2_s, DI.E_bi, DI.bi1_ok, DI.bi2_s, DI.E_tup, DI.E_lst, DI.tup1_ok, DI.lst1_ok, DI.two1_ok, DI.two2_ok, DI.two3_s, DI.one1_ok, DI.one2_s, DI.negF_i, DI.notF_d, DI.cmpF_d, DI.cmp1_s, DI.ixF_d, DI.sc1_s, DI.isiF_d, DI.E_bin, DI.E_cmp, DI.E_ix, DI.E_neg, DI.E_not, DI.E_isi, DI.E_and, DI.E_or, DI.A_one, DI.O_one, DI.A_cons, DI.O_cons, DI.and1_ok, DI.or1_ok, DI.and2_s, DI.or2_s, DI.tst1_ok, DI.tst2_s, DI.int1_ok, DI.int2_s, DI.E_ite, DI.ite1_ok, DI.E_sl, DI.sl1_ok, DI.sl2_ok, DI.sl3_ok, DI.sl4_s, DI.P_nil, DI.C_nil, DI.E_call, DI.call1_ok, DI.call2_f, DI.call2_t, DI.call2_x, DI.E_callIO, DI.cio0_s, DI.cio1_ok, DI.cio2_s, DI.cio3_f, DI.cio3_t, DI.E_mu, DI.mu0_s, DI.mu1_ok, DI.mu2_s, DI.mu3_s, DI.E_me, DI.me0_ok, DI.me1_s, DI.me2_ok, DI.me3_s, DI.wk1_ok, DI.wk2_ok, DI.wk3_s, DI.I_range, DI.rg1_ok, DI.I_loc, DI.I_call, DI.I_callIO, DI.I_ix, DI.I_lst, DI.I_tup, DI.I_glo, DI.I_lit, DI.I_sl, DI.I_bin, DI.E_lc, DI.lc1_ok, DI.lc3_ok, DI.C_lit, DI.C_loc, DI.C_glo, DI.C_bin, DI.C_not, DI.C_and, DI.C_or, DI.C_cmp, DI.C_cmp2, DI.C_ite, DI.C_ix, DI.C_call, DI.C_callIO, DI.C_bi, DI.C_isi, DI.C_lc, DI.P_lit, DI.P_loc, DI.P_glo, DI.P_bin, DI.P_neg, DI.P_ix, DI.P_bi, DI.P_call, DI.P_callIO, DI.E_cmp2, DI.ch1_ok, DI.ch2_ok, DI.ch3_s, DI.ch4_ok, DI.ch5_s, DI.then_nx, DI.then_rt, DI.then_bk, DI.then_exc, DI.S_skip, DI.S_seq, DI.S_asg, DI.asg1_ok, DI.asg1_exc, DI.asg2_ok, DI.S_asgT, DI.asT1_ok, DI.asT2_ok, DI.nxO_s, DI.S_setix, DI.sixv_ok, DI.six0_ok, DI.six1_s, DI.six2_ok, DI.six3_ok, DI.six4_s, DI.six5_s, DI.S_ex, DI.exx_ok, DI.exx_exc, DI.S_ret, DI.ret1_ok, DI.ret1_exc, DI.ret2_v, DI.ret2_p, DI.rtO_s, DI.S_retN, DI.S_ifs, DI.ifs1_ok, DI.S_each, DI.each1_ok, DI.S_loop, DI.S_brk, DI.bind_n, DI.setAll_c, DI.setAll_n, DI.each2_s, DI.each3_nx, DI.each3_rt, DI.each3_bk, DI.each3_exc, DI.st0_c, DI.st0_n, DI.run_f, DI.run_t, DI.outF_rt, DI.outF_nx, DI.outF_exc, DI.outT_rt, DI.outT_nx, DI.outT_exc, DI.ret0_s, DI.exc0_s, DI.leakR_ok, DI.t_none, DI.t_bool, DI.t_int, DI.t_str, DI.t_tup, DI.t_list, DI.clean_eq, DI.shut_n, DI.shut_c, DI.closeO_s, DI.closeO_n, DI.hide_n, DI.hide_c, DI.back_n, DI.back_c, DI.body_ok, DI.o_add, DI.o_sub, DI.o_mul_r, DI.o_mul_l, DI.o_fdiv, DI.o_mod, DI.o_pow, DI.o_adds, DI.o_addt, DI.o_addl, DI.o_muls, DI.o_mult, DI.c_eqi, DI.c_nei, DI.c_eqs, DI.c_nes, DI.c_eqb, DI.c_lti, DI.c_lei, DI.c_gti, DI.c_gei, DI.c_is0, DI.c_isb, DI.c_is1, DI.c_is2, DI.c_is3, DI.c_is4, DI.c_is5, DI.c_isn0, DI.c_isnb, DI.c_isn1, DI.c_isn2, DI.c_isn3, DI.c_isn4, DI.c_isn5, DI.c_inc, DI.c_ninc, DI.c_inl, DI.c_int, DI.c_nint, DI.c_ninl, DI.q_nn, DI.q_nc, DI.q_cn, DI.q_cc, DI.item_at, DI.item_tat, DI.i_l0, DI.i_l1, DI.i_l2, DI.i_t0, DI.i_t1, DI.i_t2, DI.p_l0, DI.p_l1, DI.p_l2, DI.b_lens, DI.b_lent, DI.b_lenl, DI.b_int, DI.b_intb, DI.b_tupl, DI.b_tupt, DI.b_lstl, DI.b_lstt, DI.b_lstc, DI.b_lsts, DI.b_max2, DI.b_min2, DI.b_sum, DI.b_all, DI.b_any, DI.m_app, DI.m_join, DI.is_int1, DI.w_list, DI.w_tup, DI.w_str, DI.w_rng, DI.w_rng2, DI.dec_t, DI.dec_f, DI.beq_t, DI.beq_f, DI.s_str, DI.s_tup, DI.s_list, DI.tu1_s, DI.tu2_ok, DI.tu3_ok, DI.derefs_nil, DI.derefs_cons, List.map_cons, List.map_nil, cond_true, cond_false, Bool.not_true, Bool.not_false, List.cons_append, List.nil_append, List.replicate_succ, List.replicate_zero, DI.Tg.slots, DI.isTy, Bool.or_true, Bool.true_or, Bool.and_true, Bool.true_and, Bool.false_and, Bool.and_false, Bool.or_false, Bool.false_or, decide_true, decide_false, beq_self_eq_true, Nat.reduceBEq, Int.reduceToNat, Int.reduceAdd, Int.reduceSub, Int.reduceMul, Int.reduceNeg, Int.reducePow, Nat.reduceAdd, Nat.reduceSub, Nat.reduceMul, Int.toNat_natCast, List.isEmpty_nil, List.isEmpty_cons, List.getElem?_cons_zero, List.getElem?_cons_succ, List.length_map, List.length_cons, List.length_nil])
section
/-! GTk01: the defs, in the small syntax. Printed by gen.py. -/
namespace Gk01
open DI
/-- is_leaf(value): 0=value -/
def b_is_leaf : Sm :=
  (.seq (.ret (.and (.cons (.isi .str (.loc 0)) (.cons (.or (.cons (.cmp .eq (.loc 0) (.lit (.str []))) (.cons (.and (.cons (.cmp .eq (.bi .len (.cons (.loc 0) .nil)) (.lit (.int 1))) (.cons (.cmp .isin (.loc 0) (.glo 0)) .nil))) .nil))) .nil))))
  .skip)
/-- has_form(value, outer, deep): 0=value 1=outer 2=deep 3=part -/
def b_has_form : Sm :=
  (.seq (.ifs (.call 0 false (.cons (.loc 0) .nil))
   (.seq (.ret (.lit (.bool true)))
   .skip)
   .skip)
  (.seq (.ifs (.or (.cons (.cmp .eq (.loc 2) (.lit (.int 0))) (.cons (.not (.isi .tuple (.loc 0))) (.cons (.cmp .ne (.bi .len (.cons (.loc 0) .nil)) (.lit (.int 2))) (.cons (.not (.isi .str (.ix (.loc 0) (.lit (.int 0))))) .nil)))))
   (.seq (.ret (.lit (.bool false)))
   .skip)
   .skip)
  (.seq (.ifs (.cmp .isin (.ix (.loc 0) (.lit (.int 0))) (.glo 1))
   (.seq (.ret (.call 1 false (.cons (.ix (.loc 0) (.lit (.int 1))) (.cons (.lit (.str [])) (.cons (.bin .sub (.loc 2) (.lit (.int 1))) .nil)))))
   .skip)
   .skip)
  (.seq (.ifs (.or (.cons (.cmp .notin (.ix (.loc 0) (.lit (.int 0))) (.glo 2)) (.cons (.cmp .eq (.ix (.loc 0) (.lit (.int 0))) (.loc 1)) (.cons (.not (.isi .tuple (.ix (.loc 0) (.lit (.int 1))))) .nil))))
   (.seq (.ret (.lit (.bool false)))
   .skip)
   .skip)
  (.seq (.ifs (.not (.cmp2 .le .le (.lit (.int 2)) (.bi .len (.cons (.ix (.loc 0) (.lit (.int 1))) .nil)) (.glo 3)))
   (.seq (.ret (.lit (.bool false)))
   .skip)
   .skip)
  (.seq (.ret (.bi .all (.cons (.lc (.n 3) (.call 1 false (.cons (.loc 3) (.cons (.ix (.loc 0) (.lit (.int 0))) (.cons (.bin .sub (.loc 2) (.lit (.int 1))) .nil)))) (.ix (.loc 0) (.lit (.int 1))) .nil) .nil)))
  .skip))))))
/-- parts_of(expression): 0=expression -/
def b_parts_of : Sm :=
  (.seq (.ifs (.isi .str (.loc 0))
   (.seq (.ret (.tup .nil))
   .skip)
   .skip)
  (.seq (.ret (.ite (.cmp .isin (.ix (.loc 0) (.lit (.int 0))) (.glo 1)) (.tup (.cons (.ix (.loc 0) (.lit (.int 1))) .nil)) (.ix (.loc 0) (.lit (.int 1)))))
  .skip))
/-- letters_of(expression): 0=expression 1=part -/
def b_letters_of : Sm :=
  (.seq (.ifs (.isi .str (.loc 0))
   (.seq (.ret (.loc 0))
   .skip)
   .skip)
  (.seq (.ret (.me .join (.lit (.str [])) (.cons (.lc (.n 1) (.call 3 false (.cons (.loc 1) .nil)) (.call 2 false (.cons (.loc 0) .nil)) .nil) .nil)))
  .skip))
/-- count_of(expression): 0=expression 1=part -/
def b_count_of : Sm :=
  (.seq (.ret (.bin .add (.lit (.int 1)) (.bi .sum (.cons (.lc (.n 1) (.call 4 false (.cons (.loc 1) .nil)) (.call 2 false (.cons (.loc 0) .nil)) .nil) .nil))))
  .skip)
/-- is_expression(value): 0=value -/
def b_is_expression : Sm :=
  (.seq (.ifs (.not (.call 1 false (.cons (.loc 0) (.cons (.lit (.str [])) (.cons (.glo 4) .nil)))))
   (.seq (.ret (.lit (.bool false)))
   .skip)
   .skip)
  (.seq (.ret (.and (.cons (.cmp .le (.bi .len (.cons (.call 3 false (.cons (.loc 0) .nil)) .nil)) (.glo 5)) (.cons (.cmp .le (.call 4 false (.cons (.loc 0) .nil)) (.glo 6)) .nil))))
  .skip))
/-- is_long(value): 0=value -/
def b_is_long : Sm :=
  (.seq (.ifs (.not (.call 1 false (.cons (.loc 0) (.cons (.lit (.str [])) (.cons (.glo 7) .nil)))))
   (.seq (.ret (.lit (.bool false)))
   .skip)
   .skip)
  (.seq (.ret (.and (.cons (.cmp .le (.bi .len (.cons (.call 3 false (.cons (.loc 0) .nil)) .nil)) (.glo 8)) (.cons (.cmp .le (.call 4 false (.cons (.loc 0) .nil)) (.glo 3)) .nil))))
  .skip))
/-- is_word(value): 0=value 1=letter -/
def b_is_word : Sm :=
  (.seq (.ret (.and (.cons (.isi .str (.loc 0)) (.cons (.cmp .le (.bi .len (.cons (.loc 0) .nil)) (.glo 9)) (.cons (.bi .all (.cons (.lc (.n 1) (.cmp .isin (.loc 1) (.glo 0)) (.loc 0) .nil) .nil)) .nil)))))
  .skip)
/-- _law_stream(_law_script): 0=_law_script -/
def b_law_stream : Sm :=
  (.seq (.ret (.lst (.cons (.bi .list (.cons (.loc 0) .nil)) (.cons (.lit (.int 0)) (.cons (.lit (.int 0)) .nil)))))
  .skip)
/-- _law_next(_law_stream_here, _law_many): 0=_law_stream_here 1=_law_many 2=_law_digit 3=_law_k 4=_law_cell -/
def b_law_next : Sm :=
  (.seq (.ifs (.cmp .eq (.ix (.loc 0) (.lit (.int 1))) (.lit (.int 0)))
   (.seq (.asg 3 (.ix (.loc 0) (.lit (.int 2))))
   (.seq (.asg 4 (.bin .add (.lit (.int 7)) (.loc 3)))
   (.seq (.ifs (.cmp .lt (.loc 3) (.bi .len (.cons (.ix (.loc 0) (.lit (.int 0))) .nil)))
    (.seq (.asg 4 (.bi .abs (.cons (.ix (.ix (.loc 0) (.lit (.int 0))) (.loc 3)) .nil)))
    .skip)
    .skip)
   (.seq (.ifs (.cmp .lt (.loc 4) (.bin .pow (.lit (.int 10)) (.lit (.int 18))))
    (.seq (.asg 4 (.bin .mod (.bi .int (.cons (.bin .add (.bin .add (.bin .mul (.loc 4) (.lit (.int 48271))) (.bin .mul (.loc 3) (.lit (.int 69621)))) (.lit (.int 11))) .nil)) (.lit (.int 2147483647))))
    (.seq (.asg 4 (.bin .add (.bin .mul (.bin .mod (.bi .int (.cons (.bin .add (.bin .mul (.loc 4) (.lit (.int 16807))) (.lit (.int 13))) .nil)) (.lit (.int 2147483647))) (.lit (.int 65537))) (.loc 4)))
    .skip))
    .skip)
   (.seq (.setix 0 (.lit (.int 1)) (.loc 4))
   (.seq (.setix 0 (.lit (.int 2)) (.bin .add (.loc 3) (.lit (.int 1))))
   .skip))))))
   .skip)
  (.seq (.asg 2 (.bin .mod (.bi .int (.cons (.ix (.loc 0) (.lit (.int 1))) .nil)) (.loc 1)))
  (.seq (.setix 0 (.lit (.int 1)) (.bin .fdiv (.ix (.loc 0) (.lit (.int 1))) (.loc 1)))
  (.seq (.ret (.loc 2))
  .skip))))
/-- _law_is_integer(_law_actual): 0=_law_actual -/
def b_law_is_integer : Sm :=
  (.seq (.ret (.and (.cons (.isi .int (.loc 0)) (.cons (.not (.isi .bool (.loc 0))) .nil))))
  .skip)
/-- _law_equal(_law_actual, _law_due): 0=_law_actual 1=_law_due 2=_law_at_here -/
def b_law_equal : Sm :=
  (.seq (.ifs (.cmp .is (.loc 1) (.lit (.none)))
   (.seq (.ret (.cmp .is (.loc 0) (.lit (.none))))
   .skip)
   .skip)
  (.seq (.ifs (.isi .bool (.loc 1))
   (.seq (.ret (.and (.cons (.isi .bool (.loc 0)) (.cons (.cmp .eq (.loc 0) (.loc 1)) .nil))))
   .skip)
   .skip)
  (.seq (.ifs (.isi .int (.loc 1))
   (.seq (.ret (.and (.cons (.call 10 false (.cons (.loc 0) .nil)) (.cons (.cmp .eq (.loc 0) (.loc 1)) .nil))))
   .skip)
   .skip)
  (.seq (.ifs (.isi .str (.loc 1))
   (.seq (.ret (.and (.cons (.isi .str (.loc 0)) (.cons (.cmp .eq (.loc 0) (.loc 1)) .nil))))
   .skip)
   .skip)
  (.seq (.ifs (.and (.cons (.isi .tuple (.loc 1)) (.cons (.not (.isi .tuple (.loc 0))) .nil)))
   (.seq (.ret (.lit (.bool false)))
   .skip)
   .skip)
  (.seq (.ifs (.and (.cons (.isi .list (.loc 1)) (.cons (.not (.isi .list (.loc 0))) .nil)))
   (.seq (.ret (.lit (.bool false)))
   .skip)
   .skip)
  (.seq (.ifs (.cmp .ne (.bi .len (.cons (.loc 0) .nil)) (.bi .len (.cons (.loc 1) .nil)))
   (.seq (.ret (.lit (.bool false)))
   .skip)
   .skip)
  (.seq (.ret (.bi .all (.cons (.lc (.n 2) (.call 11 false (.cons (.ix (.loc 0) (.loc 2)) (.cons (.ix (.loc 1) (.loc 2)) .nil))) (.bi .range (.cons (.bi .len (.cons (.loc 1) .nil)) .nil)) .nil) .nil)))
  .skip))))))))
/-- _law_pick(_law_stream_here, _law_rows): 0=_law_stream_here 1=_law_rows -/
def b_law_pick : Sm :=
  (.seq (.ret (.ix (.loc 1) (.callIO 9 false 0 (.cons (.bi .len (.cons (.loc 1) .nil)) .nil))))
  .skip)
/-- _law_grown(_law_stream_here, _law_letters, _law_room, _law_deep, _law_outer): 0=_law_stream_here 1=_law_letters 2=_law_room 3=_law_deep 4=_law_outer 5=_law_pick_here 6=_law_word 7=_law_many 8=_law_left 9=_law_parts 10=_law_k 11=_law_share -/
def b_law_grown : Sm :=
  (.seq (.asg 5 (.callIO 9 false 0 (.cons (.lit (.int 8)) .nil)))
  (.seq (.ifs (.or (.cons (.cmp .eq (.loc 3) (.lit (.int 0))) (.cons (.cmp .eq (.loc 2) (.lit (.int 0))) (.cons (.cmp .eq (.loc 5) (.lit (.int 0))) .nil))))
   (.seq (.ret (.ite (.and (.cons (.cmp .gt (.loc 2) (.lit (.int 0))) (.cons (.cmp .gt (.callIO 9 false 0 (.cons (.lit (.int 8)) .nil)) (.lit (.int 0))) .nil))) (.callIO 12 false 0 (.cons (.bi .list (.cons (.loc 1) .nil)) .nil)) (.lit (.str []))))
   .skip)
   .skip)
  (.seq (.ifs (.cmp .lt (.loc 5) (.lit (.int 4)))
   (.seq (.ret (.tup (.cons (.callIO 12 false 0 (.cons (.lst (.cons (.lit (.str [109,97,121,98,101])) (.cons (.lit (.str [109,97,110,121])) .nil))) .nil)) (.cons (.callIO 13 false 0 (.cons (.loc 1) (.cons (.loc 2) (.cons (.bin .sub (.loc 3) (.lit (.int 1))) (.cons (.lit (.str [])) .nil))))) .nil))))
   .skip)
   .skip)
  (.seq (.asg 6 (.callIO 12 false 0 (.cons (.lst (.cons (.lit (.str [106,111,105,110])) (.cons (.lit (.str [111,114])) .nil))) .nil)))
  (.seq (.ifs (.cmp .eq (.loc 6) (.loc 4))
   (.seq (.asg 6 (.ite (.cmp .eq (.loc 4) (.lit (.str [106,111,105,110]))) (.lit (.str [111,114])) (.lit (.str [106,111,105,110]))))
   .skip)
   .skip)
  (.seq (.asg 7 (.bin .add (.lit (.int 2)) (.callIO 9 false 0 (.cons (.lit (.int 2)) .nil))))
  (.seq (.asg 8 (.loc 2))
  (.seq (.asg 9 (.lst .nil))
  (.seq (.each (.n 10) (.bi .range (.cons (.loc 7) .nil))
   (.seq (.asg 11 (.ite (.cmp .eq (.bin .add (.loc 10) (.lit (.int 1))) (.loc 7)) (.loc 8) (.callIO 9 false 0 (.cons (.bin .add (.loc 8) (.lit (.int 1))) .nil))))
   (.seq (.asg 8 (.bin .sub (.loc 8) (.loc 11)))
   (.seq (.ex (.mu .append 9 (.cons (.callIO 13 false 0 (.cons (.loc 1) (.cons (.loc 11) (.cons (.bin .sub (.loc 3) (.lit (.int 1))) (.cons (.loc 6) .nil))))) .nil)))
   .skip))))
  (.seq (.ret (.tup (.cons (.loc 6) (.cons (.bi .tuple (.cons (.loc 9) .nil)) .nil))))
  .skip))))))))))
/-- _law_expression(_law_stream_here, _law_most): 0=_law_stream_here 1=_law_most 2=_law_letters -/
def b_law_expression : Sm :=
  (.seq (.asg 2 (.callIO 12 false 0 (.cons (.lst (.cons (.lit (.str [97,98])) (.cons (.lit (.str [97,98])) (.cons (.lit (.str [97,98,99])) (.cons (.lit (.str [99,100])) (.cons (.lit (.str [100,98,97])) (.cons (.lit (.str [97,98,99,100])) .nil))))))) .nil)))
  (.seq (.ret (.callIO 13 false 0 (.cons (.loc 2) (.cons (.bin .add (.lit (.int 1)) (.callIO 9 false 0 (.cons (.loc 1) .nil))) (.cons (.bin .add (.lit (.int 1)) (.callIO 9 false 0 (.cons (.lit (.int 4)) .nil))) (.cons (.lit (.str [])) .nil))))))
  .skip))
/-- _law_inside(_law_expression_here): 0=_law_expression_here -/
def b_law_inside : Sm :=
  (.seq (.ifs (.isi .str (.loc 0))
   (.seq (.ret (.tup .nil))
   .skip)
   .skip)
  (.seq (.ret (.ite (.cmp .isin (.ix (.loc 0) (.lit (.int 0))) (.lst (.cons (.lit (.str [109,97,121,98,101])) (.cons (.lit (.str [109,97,110,121])) .nil)))) (.tup (.cons (.ix (.loc 0) (.lit (.int 1))) .nil)) (.ix (.loc 0) (.lit (.int 1)))))
  .skip))
/-- _law_count(_law_expression_here): 0=_law_expression_here 1=_law_part -/
def b_law_count : Sm :=
  (.seq (.ret (.bin .add (.lit (.int 1)) (.bi .sum (.cons (.lc (.n 1) (.call 16 false (.cons (.loc 1) .nil)) (.call 15 false (.cons (.loc 0) .nil)) .nil) .nil))))
  .skip)
/-- _law_at(_law_expression_here, _law_path, _law_value): 0=_law_expression_here 1=_law_path 2=_law_value 3=_law_at_here -/
def b_law_at : Sm :=
  (.seq (.ifs (.or (.cons (.not (.loc 1)) (.cons (.isi .str (.loc 0)) .nil)))
   (.seq (.ret (.loc 2))
   .skip)
   .skip)
  (.seq (.ifs (.cmp .isin (.ix (.loc 0) (.lit (.int 0))) (.lst (.cons (.lit (.str [109,97,121,98,101])) (.cons (.lit (.str [109,97,110,121])) .nil))))
   (.seq (.ret (.tup (.cons (.ix (.loc 0) (.lit (.int 0))) (.cons (.call 17 false (.cons (.ix (.loc 0) (.lit (.int 1))) (.cons (.sl (.loc 1) (.lit (.int 1)) .nil) (.cons (.loc 2) .nil)))) .nil))))
   .skip)
   .skip)
  (.seq (.asg 3 (.bin .mod (.bi .int (.cons (.ix (.loc 1) (.lit (.int 0))) .nil)) (.bi .len (.cons (.ix (.loc 0) (.lit (.int 1))) .nil))))
  (.seq (.ret (.tup (.cons (.ix (.loc 0) (.lit (.int 0))) (.cons (.bin .add (.bin .add (.sl (.ix (.loc 0) (.lit (.int 1))) .nil (.loc 3)) (.tup (.cons (.call 17 false (.cons (.ix (.ix (.loc 0) (.lit (.int 1))) (.loc 3)) (.cons (.sl (.loc 1) (.lit (.int 1)) .nil) (.cons (.loc 2) .nil)))) .nil))) (.sl (.ix (.loc 0) (.lit (.int 1))) (.bin .add (.loc 3) (.lit (.int 1))) .nil)) .nil))))
  .skip))))
/-- _law_wrong(_law_stream_here): 0=_law_stream_here -/
def b_law_wrong : Sm :=
  (.seq (.ret (.callIO 12 false 0 (.cons (.lst (.cons (.lit (.none)) (.cons (.lit (.bool true)) (.cons (.lit (.int 7)) (.cons (.lit (.str [101])) (.cons (.lit (.str [65])) (.cons (.lit (.str [97,98])) (.cons (.lit (.str [32])) (.cons (.lst (.cons (.lit (.str [106,111,105,110])) (.cons (.tup (.cons (.lit (.str [97])) (.cons (.lit (.str [98])) .nil))) .nil))) (.cons (.tup (.cons (.lit (.str [106,111,105,110])) (.cons (.lst (.cons (.lit (.str [97])) (.cons (.lit (.str [98])) .nil))) .nil))) (.cons (.tup (.cons (.lit (.str [106,111,105,110])) (.cons (.tup (.cons (.lit (.str [97])) .nil)) .nil))) (.cons (.tup (.cons (.lit (.str [111,114])) (.cons (.tup .nil) .nil))) (.cons (.tup (.cons (.lit (.str [111,114])) (.cons (.tup (.cons (.lit (.str [97])) .nil)) .nil))) (.cons (.tup (.cons (.lit (.str [106,111,105,110])) (.cons (.tup (.cons (.lit (.str [97])) (.cons (.lit (.str [98])) .nil))) (.cons (.lit (.int 0)) .nil)))) (.cons (.tup (.cons (.lit (.str [106,111,105,110])) .nil)) (.cons (.tup (.cons (.lit (.str [109,97,121,98,101])) .nil)) (.cons (.tup (.cons (.lit (.str [109,97,121,98,101])) (.cons (.lit (.str [97])) (.cons (.lit (.str [98])) .nil)))) (.cons (.tup (.cons (.lit (.str [109,97,110,121])) (.cons (.tup (.cons (.lit (.str [97])) .nil)) .nil))) (.cons (.tup (.cons (.lit (.str [97,108,108])) (.cons (.tup (.cons (.lit (.str [97])) (.cons (.lit (.str [98])) .nil))) .nil))) (.cons (.tup (.cons (.lit (.str [106,111,105,110])) (.cons (.tup (.cons (.tup (.cons (.lit (.str [106,111,105,110])) (.cons (.tup (.cons (.lit (.str [97])) (.cons (.lit (.str [98])) .nil))) .nil))) (.cons (.lit (.str [99])) .nil))) .nil))) (.cons (.tup (.cons (.lit (.str [106,111,105,110])) (.cons (.tup (.cons (.lit (.str [99])) (.cons (.tup (.cons (.lit (.str [106,111,105,110])) (.cons (.tup (.cons (.lit (.str [97])) (.cons (.lit (.str [98])) .nil))) .nil))) .nil))) .nil))) (.cons (.tup (.cons (.lit (.str [111,114])) (.cons (.tup (.cons (.lit (.str [97])) (.cons (.tup (.cons (.lit (.str [111,114])) (.cons (.tup (.cons (.lit (.str [98])) (.cons (.lit (.str [99])) .nil))) .nil))) .nil))) .nil))) (.cons (.tup (.cons (.lit (.str [111,114])) (.cons (.tup (.cons (.tup (.cons (.lit (.str [111,114])) (.cons (.tup (.cons (.lit (.str [97])) (.cons (.lit (.str [98])) .nil))) .nil))) (.cons (.lit (.str [99])) (.cons (.lit (.str [100])) .nil)))) .nil))) (.cons (.tup (.cons (.lit (.str [109,97,121,98,101])) (.cons (.lit (.none)) .nil))) (.cons (.tup (.cons (.lit (.str [109,97,110,121])) (.cons (.lit (.str [101])) .nil))) (.cons (.tup (.cons (.lit (.none)) (.cons (.lit (.str [97])) .nil))) (.cons (.tup (.cons (.lit (.str [106,111,105,110])) (.cons (.tup (.cons (.lit (.str [97])) (.cons (.lit (.none)) .nil))) .nil))) (.cons (.tup (.cons (.lit (.str [111,114])) (.cons (.tup (.cons (.lit (.int 1)) (.cons (.lit (.str [97])) .nil))) .nil))) (.cons (.tup (.cons (.lit (.str [106,111,105,110])) (.cons (.lit (.str [97,98])) .nil))) (.cons (.tup .nil) .nil)))))))))))))))))))))))))))))) .nil)))
  .skip)
/-- _law_chain(_law_many): 0=_law_many 1=_law_found 2=_law_k -/
def b_law_chain : Sm :=
  (.seq (.asg 1 (.lit (.str [97])))
  (.seq (.each (.n 2) (.bi .range (.cons (.loc 0) .nil))
   (.seq (.asg 1 (.tup (.cons (.ite (.cmp .eq (.bin .sub (.loc 2) (.bin .mul (.lit (.int 2)) (.bin .fdiv (.loc 2) (.lit (.int 2))))) (.lit (.int 0))) (.lit (.str [109,97,121,98,101])) (.lit (.str [109,97,110,121]))) (.cons (.loc 1) .nil))))
   .skip))
  (.seq (.ret (.loc 1))
  .skip)))
/-- law(_law_script): 0=_law_script 1=_law_stream_here 2=_law_expression_here 3=_law_path 4=_law_wrong_here 5=_law_letters 6=_law_row 7=_law_deep 8=_law_parts 9=_law_wide 10=_law_told 11=_law_word 12=_law_long 13=_law_bad 14=_law_k -/
def b_law : Sm :=
  (.seq (.asg 1 (.call 8 true (.cons (.loc 0) .nil)))
  (.seq (.asg 2 (.callIO 14 false 1 (.cons (.lit (.int 8)) .nil)))
  (.seq (.asg 3 (.lc (.n 14) (.callIO 9 false 1 (.cons (.lit (.int 3)) .nil)) (.bi .range (.cons (.callIO 9 false 1 (.cons (.lit (.int 4)) .nil)) .nil)) .nil))
  (.seq (.asg 4 (.call 17 false (.cons (.loc 2) (.cons (.loc 3) (.cons (.callIO 18 false 1 .nil) .nil)))))
  (.seq (.ifs (.not (.call 11 false (.cons (.lst (.cons (.call 5 false (.cons (.loc 2) .nil)) (.cons (.call 6 false (.cons (.loc 2) .nil)) (.cons (.call 5 false (.cons (.loc 4) .nil)) (.cons (.call 6 false (.cons (.loc 4) .nil)) .nil))))) (.cons (.lst (.cons (.cmp .le (.call 16 false (.cons (.loc 2) .nil)) (.lit (.int 24))) (.cons (.lit (.bool true)) (.cons (.lit (.bool false)) (.cons (.lit (.bool false)) .nil))))) .nil))))
   (.seq (.ret (.lit (.bool false)))
   .skip)
   .skip)
  (.seq (.asg 5 (.callIO 12 false 1 (.cons (.lst (.cons (.lit (.int 1)) (.cons (.lit (.int 7)) (.cons (.lit (.int 8)) (.cons (.lit (.int 9)) (.cons (.lit (.int 39)) (.cons (.lit (.int 40)) (.cons (.lit (.int 41)) .nil)))))))) .nil)))
  (.seq (.asg 6 (.tup (.cons (.lit (.str [111,114])) (.cons (.bin .add (.tup (.cons (.lit (.str [])) .nil)) (.bi .tuple (.cons (.lc (.n 14) (.ix (.lit (.str [97,98,99,100])) (.callIO 9 false 1 (.cons (.lit (.int 4)) .nil))) (.bi .range (.cons (.loc 5) .nil)) .nil) .nil))) .nil))))
  (.seq (.asg 7 (.callIO 12 false 1 (.cons (.lst (.cons (.lit (.int 5)) (.cons (.lit (.int 6)) (.cons (.lit (.int 7)) (.cons (.lit (.int 39)) (.cons (.lit (.int 40)) (.cons (.lit (.int 41)) (.cons (.lit (.int 3000)) .nil)))))))) .nil)))
  (.seq (.asg 8 (.callIO 12 false 1 (.cons (.lst (.cons (.lit (.int 22)) (.cons (.lit (.int 23)) (.cons (.lit (.int 24)) (.cons (.lit (.int 198)) (.cons (.lit (.int 199)) (.cons (.lit (.int 200)) .nil))))))) .nil)))
  (.seq (.asg 9 (.tup (.cons (.lit (.str [106,111,105,110])) (.cons (.bin .mul (.tup (.cons (.lit (.str [])) .nil)) (.loc 8)) .nil))))
  (.seq (.asg 10 (.lst (.cons (.call 5 false (.cons (.loc 6) .nil)) (.cons (.call 6 false (.cons (.loc 6) .nil)) (.cons (.call 5 false (.cons (.call 19 false (.cons (.loc 7) .nil)) .nil)) (.cons (.call 6 false (.cons (.call 19 false (.cons (.loc 7) .nil)) .nil)) (.cons (.call 5 false (.cons (.loc 9) .nil)) (.cons (.call 6 false (.cons (.loc 9) .nil)) .nil))))))))
  (.seq (.ifs (.not (.call 11 false (.cons (.loc 10) (.cons (.lst (.cons (.cmp .le (.loc 5) (.lit (.int 8))) (.cons (.cmp .le (.loc 5) (.lit (.int 40))) (.cons (.cmp .le (.loc 7) (.lit (.int 6))) (.cons (.cmp .le (.loc 7) (.lit (.int 40))) (.cons (.cmp .le (.loc 8) (.lit (.int 23))) (.cons (.cmp .le (.loc 8) (.lit (.int 199))) .nil))))))) .nil))))
   (.seq (.ret (.lit (.bool false)))
   .skip)
   .skip)
  (.seq (.asg 11 (.me .join (.lit (.str [])) (.cons (.lc (.n 14) (.callIO 12 false 1 (.cons (.lst (.cons (.lit (.str [97])) (.cons (.lit (.str [98])) (.cons (.lit (.str [99])) (.cons (.lit (.str [100])) .nil))))) .nil)) (.bi .range (.cons (.callIO 9 false 1 (.cons (.lit (.int 25)) .nil)) .nil)) .nil) .nil)))
  (.seq (.asg 12 (.sl (.bin .add (.loc 11) (.bin .mul (.lit (.str [97])) (.lit (.int 24)))) .nil (.lit (.int 24))))
  (.seq (.asg 13 (.callIO 12 false 1 (.cons (.lst (.cons (.lit (.none)) (.cons (.lst (.cons (.loc 11) .nil)) (.cons (.lit (.int 7)) (.cons (.bin .add (.loc 12) (.lit (.str [98]))) (.cons (.lit (.str [101])) (.cons (.bin .add (.sl (.loc 11) .nil (.lit (.int 23))) (.lit (.str [65]))) (.cons (.bin .add (.sl (.loc 11) .nil (.lit (.int 23))) (.lit (.str [32]))) (.cons (.lit (.bool true)) (.cons (.tup (.cons (.lit (.str [97])) .nil)) .nil)))))))))) .nil)))
  (.seq (.ret (.call 11 false (.cons (.lst (.cons (.call 7 false (.cons (.loc 11) .nil)) (.cons (.call 7 false (.cons (.loc 12) .nil)) (.cons (.call 7 false (.cons (.lit (.str [])) .nil)) (.cons (.call 7 false (.cons (.loc 13) .nil)) .nil))))) (.cons (.lst (.cons (.lit (.bool true)) (.cons (.lit (.bool true)) (.cons (.lit (.bool true)) (.cons (.lit (.bool false)) .nil))))) .nil))))
  .skip))))))))))))))))
def TT : List FDef := [⟨false, 1, 1, b_is_leaf⟩,
  ⟨false, 3, 4, b_has_form⟩,
  ⟨false, 1, 1, b_parts_of⟩,
  ⟨false, 1, 2, b_letters_of⟩,
  ⟨false, 1, 2, b_count_of⟩,
  ⟨false, 1, 1, b_is_expression⟩,
  ⟨false, 1, 1, b_is_long⟩,
  ⟨false, 1, 2, b_is_word⟩,
  ⟨false, 1, 1, b_law_stream⟩,
  ⟨true, 2, 5, b_law_next⟩,
  ⟨false, 1, 1, b_law_is_integer⟩,
  ⟨false, 2, 3, b_law_equal⟩,
  ⟨true, 2, 2, b_law_pick⟩,
  ⟨true, 5, 12, b_law_grown⟩,
  ⟨true, 2, 3, b_law_expression⟩,
  ⟨false, 1, 1, b_law_inside⟩,
  ⟨false, 1, 2, b_law_count⟩,
  ⟨false, 3, 4, b_law_at⟩,
  ⟨true, 1, 1, b_law_wrong⟩,
  ⟨false, 1, 3, b_law_chain⟩,
  ⟨false, 1, 15, b_law⟩]
def G : List D := [.str [97,98,99,100], .tup [.str [109,97,121,98,101], .str [109,97,110,121]], .tup [.str [106,111,105,110], .str [111,114]], .int 200, .int 6, .int 8, .int 24, .int 40, .int 40, .int 24]
abbrev f_is_leaf : Nat := 0
abbrev f_has_form : Nat := 1
abbrev f_parts_of : Nat := 2
abbrev f_letters_of : Nat := 3
abbrev f_count_of : Nat := 4
abbrev f_is_expression : Nat := 5
abbrev f_is_long : Nat := 6
abbrev f_is_word : Nat := 7
abbrev f_law_stream : Nat := 8
abbrev f_law_next : Nat := 9
abbrev f_law_is_integer : Nat := 10
abbrev f_law_equal : Nat := 11
abbrev f_law_pick : Nat := 12
abbrev f_law_grown : Nat := 13
abbrev f_law_expression : Nat := 14
abbrev f_law_inside : Nat := 15
abbrev f_law_count : Nat := 16
abbrev f_law_at : Nat := 17
abbrev f_law_wrong : Nat := 18
abbrev f_law_chain : Nat := 19
abbrev f_law : Nat := 20
end Gk01

end
section
/-! GCk01: the defs of the text are these. Printed by gen.py. -/
namespace Gk01
open PySem PySem.Spec PyProof.Rows L2 DI
def topS (i : Nat) : Stmt := PySem.Challenge.pw_nodoubt_k01_forms_of_expressions.main.body.getD i (.Pass ⟨0, 0, 0, 0⟩)
def TB : Tb := ⟨[("is_leaf", 0, false), ("has_form", 1, false), ("parts_of", 2, false), ("letters_of", 3, false), ("count_of", 4, false), ("is_expression", 5, false), ("is_long", 6, false), ("is_word", 7, false), ("_law_stream", 8, false), ("_law_next", 9, true), ("_law_is_integer", 10, false), ("_law_equal", 11, false), ("_law_pick", 12, true), ("_law_grown", 13, true), ("_law_expression", 14, true), ("_law_inside", 15, false), ("_law_count", 16, false), ("_law_at", 17, false), ("_law_wrong", 18, true), ("_law_chain", 19, false), ("law", 20, false)], [("LETTERS", 0), ("SINGLES", 1), ("ROWS", 2), ("MOST_LONG_PARTS", 3), ("DEEPEST", 4), ("MOST_LETTERS", 5), ("MOST_PARTS", 6), ("DEEPEST_LONG", 7), ("MOST_LONG_LETTERS", 8), ("LONGEST_WORD", 9)]⟩
abbrev s0 : Stmt := topS 11
theorem sc0 : FnScope ["value"] ["value"] (defScope s0) := ⟨rfl, rfl, rfl, by decide +kernel, rfl, by decide +kernel, by decide +kernel⟩
theorem ck0 : (ckS TB ["value"] false b_is_leaf).ss (defScope s0) (defBody s0) = true := by decide +kernel
abbrev s1 : Stmt := topS 12
theorem sc1 : FnScope ["value", "outer", "deep", "part"] ["value", "outer", "deep"] (defScope s1) := ⟨rfl, rfl, rfl, by decide +kernel, rfl, by decide +kernel, by decide +kernel⟩
theorem ck1 : (ckS TB ["value", "outer", "deep", "part"] false b_has_form).ss (defScope s1) (defBody s1) = true := by decide +kernel
abbrev s2 : Stmt := topS 13
theorem sc2 : FnScope ["expression"] ["expression"] (defScope s2) := ⟨rfl, rfl, rfl, by decide +kernel, rfl, by decide +kernel, by decide +kernel⟩
theorem ck2 : (ckS TB ["expression"] false b_parts_of).ss (defScope s2) (defBody s2) = true := by decide +kernel
abbrev s3 : Stmt := topS 14
theorem sc3 : FnScope ["expression", "part"] ["expression"] (defScope s3) := ⟨rfl, rfl, rfl, by decide +kernel, rfl, by decide +kernel, by decide +kernel⟩
theorem ck3 : (ckS TB ["expression", "part"] false b_letters_of).ss (defScope s3) (defBody s3) = true := by decide +kernel
abbrev s4 : Stmt := topS 15
theorem sc4 : FnScope ["expression", "part"] ["expression"] (defScope s4) := ⟨rfl, rfl, rfl, by decide +kernel, rfl, by decide +kernel, by decide +kernel⟩
theorem ck4 : (ckS TB ["expression", "part"] false b_count_of).ss (defScope s4) (defBody s4) = true := by decide +kernel
abbrev s5 : Stmt := topS 16
theorem sc5 : FnScope ["value"] ["value"] (defScope s5) := ⟨rfl, rfl, rfl, by decide +kernel, rfl, by decide +kernel, by decide +kernel⟩
theorem ck5 : (ckS TB ["value"] false b_is_expression).ss (defScope s5) (defBody s5) = true := by decide +kernel
abbrev s6 : Stmt := topS 17
theorem sc6 : FnScope ["value"] ["value"] (defScope s6) := ⟨rfl, rfl, rfl, by decide +kernel, rfl, by decide +kernel, by decide +kernel⟩
theorem ck6 : (ckS TB ["value"] false b_is_long).ss (defScope s6) (defBody s6) = true := by decide +kernel
abbrev s7 : Stmt := topS 18
theorem sc7 : FnScope ["value", "letter"] ["value"] (defScope s7) := ⟨rfl, rfl, rfl, by decide +kernel, rfl, by decide +kernel, by decide +kernel⟩
theorem ck7 : (ckS TB ["value", "letter"] false b_is_word).ss (defScope s7) (defBody s7) = true := by decide +kernel
abbrev s8 : Stmt := topS 20
theorem sc8 : FnScope ["_law_script"] ["_law_script"] (defScope s8) := ⟨rfl, rfl, rfl, by decide +kernel, rfl, by decide +kernel, by decide +kernel⟩
theorem ck8 : (ckS TB ["_law_script"] false b_law_stream).ss (defScope s8) (defBody s8) = true := by decide +kernel
abbrev s9 : Stmt := topS 21
theorem sc9 : FnScope ["_law_stream_here", "_law_many", "_law_digit", "_law_k", "_law_cell"] ["_law_stream_here", "_law_many"] (defScope s9) := ⟨rfl, rfl, rfl, by decide +kernel, rfl, by decide +kernel, by decide +kernel⟩
theorem ck9 : (ckS TB ["_law_stream_here", "_law_many", "_law_digit", "_law_k", "_law_cell"] true b_law_next).ss (defScope s9) (defBody s9) = true := by decide +kernel
abbrev s10 : Stmt := topS 22
theorem sc10 : FnScope ["_law_actual"] ["_law_actual"] (defScope s10) := ⟨rfl, rfl, rfl, by decide +kernel, rfl, by decide +kernel, by decide +kernel⟩
theorem ck10 : (ckS TB ["_law_actual"] false b_law_is_integer).ss (defScope s10) (defBody s10) = true := by decide +kernel
abbrev s11 : Stmt := topS 23
theorem sc11 : FnScope ["_law_actual", "_law_due", "_law_at_here"] ["_law_actual", "_law_due"] (defScope s11) := ⟨rfl, rfl, rfl, by decide +kernel, rfl, by decide +kernel, by decide +kernel⟩
theorem ck11 : (ckS TB ["_law_actual", "_law_due", "_law_at_here"] false b_law_equal).ss (defScope s11) (defBody s11) = true := by decide +kernel
abbrev s12 : Stmt := topS 24
theorem sc12 : FnScope ["_law_stream_here", "_law_rows"] ["_law_stream_here", "_law_rows"] (defScope s12) := ⟨rfl, rfl, rfl, by decide +kernel, rfl, by decide +kernel, by decide +kernel⟩
theorem ck12 : (ckS TB ["_law_stream_here", "_law_rows"] true b_law_pick).ss (defScope s12) (defBody s12) = true := by decide +kernel
abbrev s13 : Stmt := topS 25
theorem sc13 : FnScope ["_law_stream_here", "_law_letters", "_law_room", "_law_deep", "_law_outer", "_law_pick_here", "_law_word", "_law_many", "_law_left", "_law_parts", "_law_k", "_law_share"] ["_law_stream_here", "_law_letters", "_law_room", "_law_deep", "_law_outer"] (defScope s13) := ⟨rfl, rfl, rfl, by decide +kernel, rfl, by decide +kernel, by decide +kernel⟩
theorem ck13 : (ckS TB ["_law_stream_here", "_law_letters", "_law_room", "_law_deep", "_law_outer", "_law_pick_here", "_law_word", "_law_many", "_law_left", "_law_parts", "_law_k", "_law_share"] true b_law_grown).ss (defScope s13) (defBody s13) = true := by decide +kernel
abbrev s14 : Stmt := topS 26
theorem sc14 : FnScope ["_law_stream_here", "_law_most", "_law_letters"] ["_law_stream_here", "_law_most"] (defScope s14) := ⟨rfl, rfl, rfl, by decide +kernel, rfl, by decide +kernel, by decide +kernel⟩
theorem ck14 : (ckS TB ["_law_stream_here", "_law_most", "_law_letters"] true b_law_expression).ss (defScope s14) (defBody s14) = true := by decide +kernel
abbrev s15 : Stmt := topS 27
theorem sc15 : FnScope ["_law_expression_here"] ["_law_expression_here"] (defScope s15) := ⟨rfl, rfl, rfl, by decide +kernel, rfl, by decide +kernel, by decide +kernel⟩
theorem ck15 : (ckS TB ["_law_expression_here"] false b_law_inside).ss (defScope s15) (defBody s15) = true := by decide +kernel
abbrev s16 : Stmt := topS 28
theorem sc16 : FnScope ["_law_expression_here", "_law_part"] ["_law_expression_here"] (defScope s16) := ⟨rfl, rfl, rfl, by decide +kernel, rfl, by decide +kernel, by decide +kernel⟩
theorem ck16 : (ckS TB ["_law_expression_here", "_law_part"] false b_law_count).ss (defScope s16) (defBody s16) = true := by decide +kernel
abbrev s17 : Stmt := topS 29
theorem sc17 : FnScope ["_law_expression_here", "_law_path", "_law_value", "_law_at_here"] ["_law_expression_here", "_law_path", "_law_value"] (defScope s17) := ⟨rfl, rfl, rfl, by decide +kernel, rfl, by decide +kernel, by decide +kernel⟩
theorem ck17 : (ckS TB ["_law_expression_here", "_law_path", "_law_value", "_law_at_here"] false b_law_at).ss (defScope s17) (defBody s17) = true := by decide +kernel
abbrev s18 : Stmt := topS 30
theorem sc18 : FnScope ["_law_stream_here"] ["_law_stream_here"] (defScope s18) := ⟨rfl, rfl, rfl, by decide +kernel, rfl, by decide +kernel, by decide +kernel⟩
theorem ck18 : (ckS TB ["_law_stream_here"] true b_law_wrong).ss (defScope s18) (defBody s18) = true := by decide +kernel
abbrev s19 : Stmt := topS 31
theorem sc19 : FnScope ["_law_many", "_law_found", "_law_k"] ["_law_many"] (defScope s19) := ⟨rfl, rfl, rfl, by decide +kernel, rfl, by decide +kernel, by decide +kernel⟩
theorem ck19 : (ckS TB ["_law_many", "_law_found", "_law_k"] false b_law_chain).ss (defScope s19) (defBody s19) = true := by decide +kernel
abbrev s20 : Stmt := topS 32
theorem sc20 : FnScope ["_law_script", "_law_stream_here", "_law_expression_here", "_law_path", "_law_wrong_here", "_law_letters", "_law_row", "_law_deep", "_law_parts", "_law_wide", "_law_told", "_law_word", "_law_long", "_law_bad", "_law_k"] ["_law_script"] (defScope s20) := ⟨rfl, rfl, rfl, by decide +kernel, rfl, by decide +kernel, by decide +kernel⟩
theorem ck20 : (ckS TB ["_law_script", "_law_stream_here", "_law_expression_here", "_law_path", "_law_wrong_here", "_law_letters", "_law_row", "_law_deep", "_law_parts", "_law_wide", "_law_told", "_law_word", "_law_long", "_law_bad", "_law_k"] false b_law).ss (defScope s20) (defBody s20) = true := by decide +kernel
theorem all_mk {K : PySem.W.Frag} {xt : Nat → Option (Addr × List Str)} {w : World} {h : Heap} {mg : Str → Option Value} {fa : Addr} {wf n : Nat} (X : K.In h) (Gn : h.Ns mainGlobals mg) (hfa : mg "law" = some (.ref fa))
    {f0 : Addr} {od0 an0 : Option Addr} {sl0 : Array (Option Value)} {oc0 kV0 dc0 pm0 cd0 ct0 : Value}
    (a0 : PySem.W.nsIn K mainGlobals "is_leaf" = some (some (.ref f0)))
    (l0 : K.lookup f0 = some ⟨oc0, od0, .func (PySem.W.fnOf "is_leaf" "is_leaf" (defArgs s0) (defBody s0) (defScope s0) .none kV0 dc0 pm0 an0 cd0 ct0), sl0⟩)
    (c0 : PySem.W.codeIn K cd0 "is_leaf" = true) (k0 : PySem.W.keepIn K (.ref f0) = true)
    {f1 : Addr} {od1 an1 : Option Addr} {sl1 : Array (Option Value)} {oc1 kV1 dc1 pm1 cd1 ct1 : Value}
    (a1 : PySem.W.nsIn K mainGlobals "has_form" = some (some (.ref f1)))
    (l1 : K.lookup f1 = some ⟨oc1, od1, .func (PySem.W.fnOf "has_form" "has_form" (defArgs s1) (defBody s1) (defScope s1) .none kV1 dc1 pm1 an1 cd1 ct1), sl1⟩)
    (c1 : PySem.W.codeIn K cd1 "has_form" = true) (k1 : PySem.W.keepIn K (.ref f1) = true)
    {f2 : Addr} {od2 an2 : Option Addr} {sl2 : Array (Option Value)} {oc2 kV2 dc2 pm2 cd2 ct2 : Value}
    (a2 : PySem.W.nsIn K mainGlobals "parts_of" = some (some (.ref f2)))
    (l2 : K.lookup f2 = some ⟨oc2, od2, .func (PySem.W.fnOf "parts_of" "parts_of" (defArgs s2) (defBody s2) (defScope s2) .none kV2 dc2 pm2 an2 cd2 ct2), sl2⟩)
    (c2 : PySem.W.codeIn K cd2 "parts_of" = true) (k2 : PySem.W.keepIn K (.ref f2) = true)
    {f3 : Addr} {od3 an3 : Option Addr} {sl3 : Array (Option Value)} {oc3 kV3 dc3 pm3 cd3 ct3 : Value}
    (a3 : PySem.W.nsIn K mainGlobals "letters_of" = some (some (.ref f3)))
    (l3 : K.lookup f3 = some ⟨oc3, od3, .func (PySem.W.fnOf "letters_of" "letters_of" (defArgs s3) (defBody s3) (defScope s3) .none kV3 dc3 pm3 an3 cd3 ct3), sl3⟩)
    (c3 : PySem.W.codeIn K cd3 "letters_of" = true) (k3 : PySem.W.keepIn K (.ref f3) = true)
    {f4 : Addr} {od4 an4 : Option Addr} {sl4 : Array (Option Value)} {oc4 kV4 dc4 pm4 cd4 ct4 : Value}
    (a4 : PySem.W.nsIn K mainGlobals "count_of" = some (some (.ref f4)))
    (l4 : K.lookup f4 = some ⟨oc4, od4, .func (PySem.W.fnOf "count_of" "count_of" (defArgs s4) (defBody s4) (defScope s4) .none kV4 dc4 pm4 an4 cd4 ct4), sl4⟩)
    (c4 : PySem.W.codeIn K cd4 "count_of" = true) (k4 : PySem.W.keepIn K (.ref f4) = true)
    {f5 : Addr} {od5 an5 : Option Addr} {sl5 : Array (Option Value)} {oc5 kV5 dc5 pm5 cd5 ct5 : Value}
    (a5 : PySem.W.nsIn K mainGlobals "is_expression" = some (some (.ref f5)))
    (l5 : K.lookup f5 = some ⟨oc5, od5, .func (PySem.W.fnOf "is_expression" "is_expression" (defArgs s5) (defBody s5) (defScope s5) .none kV5 dc5 pm5 an5 cd5 ct5), sl5⟩)
    (c5 : PySem.W.codeIn K cd5 "is_expression" = true) (k5 : PySem.W.keepIn K (.ref f5) = true)
    {f6 : Addr} {od6 an6 : Option Addr} {sl6 : Array (Option Value)} {oc6 kV6 dc6 pm6 cd6 ct6 : Value}
    (a6 : PySem.W.nsIn K mainGlobals "is_long" = some (some (.ref f6)))
    (l6 : K.lookup f6 = some ⟨oc6, od6, .func (PySem.W.fnOf "is_long" "is_long" (defArgs s6) (defBody s6) (defScope s6) .none kV6 dc6 pm6 an6 cd6 ct6), sl6⟩)
    (c6 : PySem.W.codeIn K cd6 "is_long" = true) (k6 : PySem.W.keepIn K (.ref f6) = true)
    {f7 : Addr} {od7 an7 : Option Addr} {sl7 : Array (Option Value)} {oc7 kV7 dc7 pm7 cd7 ct7 : Value}
    (a7 : PySem.W.nsIn K mainGlobals "is_word" = some (some (.ref f7)))
    (l7 : K.lookup f7 = some ⟨oc7, od7, .func (PySem.W.fnOf "is_word" "is_word" (defArgs s7) (defBody s7) (defScope s7) .none kV7 dc7 pm7 an7 cd7 ct7), sl7⟩)
    (c7 : PySem.W.codeIn K cd7 "is_word" = true) (k7 : PySem.W.keepIn K (.ref f7) = true)
    {f8 : Addr} {od8 an8 : Option Addr} {sl8 : Array (Option Value)} {oc8 kV8 dc8 pm8 cd8 ct8 : Value}
    (a8 : PySem.W.nsIn K mainGlobals "_law_stream" = some (some (.ref f8)))
    (l8 : K.lookup f8 = some ⟨oc8, od8, .func (PySem.W.fnOf "_law_stream" "_law_stream" (defArgs s8) (defBody s8) (defScope s8) .none kV8 dc8 pm8 an8 cd8 ct8), sl8⟩)
    (c8 : PySem.W.codeIn K cd8 "_law_stream" = true) (k8 : PySem.W.keepIn K (.ref f8) = true)
    {f9 : Addr} {od9 an9 : Option Addr} {sl9 : Array (Option Value)} {oc9 kV9 dc9 pm9 cd9 ct9 : Value}
    (a9 : PySem.W.nsIn K mainGlobals "_law_next" = some (some (.ref f9)))
    (l9 : K.lookup f9 = some ⟨oc9, od9, .func (PySem.W.fnOf "_law_next" "_law_next" (defArgs s9) (defBody s9) (defScope s9) .none kV9 dc9 pm9 an9 cd9 ct9), sl9⟩)
    (c9 : PySem.W.codeIn K cd9 "_law_next" = true) (k9 : PySem.W.keepIn K (.ref f9) = true)
    {f10 : Addr} {od10 an10 : Option Addr} {sl10 : Array (Option Value)} {oc10 kV10 dc10 pm10 cd10 ct10 : Value}
    (a10 : PySem.W.nsIn K mainGlobals "_law_is_integer" = some (some (.ref f10)))
    (l10 : K.lookup f10 = some ⟨oc10, od10, .func (PySem.W.fnOf "_law_is_integer" "_law_is_integer" (defArgs s10) (defBody s10) (defScope s10) .none kV10 dc10 pm10 an10 cd10 ct10), sl10⟩)
    (c10 : PySem.W.codeIn K cd10 "_law_is_integer" = true) (k10 : PySem.W.keepIn K (.ref f10) = true)
    {f11 : Addr} {od11 an11 : Option Addr} {sl11 : Array (Option Value)} {oc11 kV11 dc11 pm11 cd11 ct11 : Value}
    (a11 : PySem.W.nsIn K mainGlobals "_law_equal" = some (some (.ref f11)))
    (l11 : K.lookup f11 = some ⟨oc11, od11, .func (PySem.W.fnOf "_law_equal" "_law_equal" (defArgs s11) (defBody s11) (defScope s11) .none kV11 dc11 pm11 an11 cd11 ct11), sl11⟩)
    (c11 : PySem.W.codeIn K cd11 "_law_equal" = true) (k11 : PySem.W.keepIn K (.ref f11) = true)
    {f12 : Addr} {od12 an12 : Option Addr} {sl12 : Array (Option Value)} {oc12 kV12 dc12 pm12 cd12 ct12 : Value}
    (a12 : PySem.W.nsIn K mainGlobals "_law_pick" = some (some (.ref f12)))
    (l12 : K.lookup f12 = some ⟨oc12, od12, .func (PySem.W.fnOf "_law_pick" "_law_pick" (defArgs s12) (defBody s12) (defScope s12) .none kV12 dc12 pm12 an12 cd12 ct12), sl12⟩)
    (c12 : PySem.W.codeIn K cd12 "_law_pick" = true) (k12 : PySem.W.keepIn K (.ref f12) = true)
    {f13 : Addr} {od13 an13 : Option Addr} {sl13 : Array (Option Value)} {oc13 kV13 dc13 pm13 cd13 ct13 : Value}
    (a13 : PySem.W.nsIn K mainGlobals "_law_grown" = some (some (.ref f13)))
    (l13 : K.lookup f13 = some ⟨oc13, od13, .func (PySem.W.fnOf "_law_grown" "_law_grown" (defArgs s13) (defBody s13) (defScope s13) .none kV13 dc13 pm13 an13 cd13 ct13), sl13⟩)
    (c13 : PySem.W.codeIn K cd13 "_law_grown" = true) (k13 : PySem.W.keepIn K (.ref f13) = true)
    {f14 : Addr} {od14 an14 : Option Addr} {sl14 : Array (Option Value)} {oc14 kV14 dc14 pm14 cd14 ct14 : Value}
    (a14 : PySem.W.nsIn K mainGlobals "_law_expression" = some (some (.ref f14)))
    (l14 : K.lookup f14 = some ⟨oc14, od14, .func (PySem.W.fnOf "_law_expression" "_law_expression" (defArgs s14) (defBody s14) (defScope s14) .none kV14 dc14 pm14 an14 cd14 ct14), sl14⟩)
    (c14 : PySem.W.codeIn K cd14 "_law_expression" = true) (k14 : PySem.W.keepIn K (.ref f14) = true)
    {f15 : Addr} {od15 an15 : Option Addr} {sl15 : Array (Option Value)} {oc15 kV15 dc15 pm15 cd15 ct15 : Value}
    (a15 : PySem.W.nsIn K mainGlobals "_law_inside" = some (some (.ref f15)))
    (l15 : K.lookup f15 = some ⟨oc15, od15, .func (PySem.W.fnOf "_law_inside" "_law_inside" (defArgs s15) (defBody s15) (defScope s15) .none kV15 dc15 pm15 an15 cd15 ct15), sl15⟩)
    (c15 : PySem.W.codeIn K cd15 "_law_inside" = true) (k15 : PySem.W.keepIn K (.ref f15) = true)
    {f16 : Addr} {od16 an16 : Option Addr} {sl16 : Array (Option Value)} {oc16 kV16 dc16 pm16 cd16 ct16 : Value}
    (a16 : PySem.W.nsIn K mainGlobals "_law_count" = some (some (.ref f16)))
    (l16 : K.lookup f16 = some ⟨oc16, od16, .func (PySem.W.fnOf "_law_count" "_law_count" (defArgs s16) (defBody s16) (defScope s16) .none kV16 dc16 pm16 an16 cd16 ct16), sl16⟩)
    (c16 : PySem.W.codeIn K cd16 "_law_count" = true) (k16 : PySem.W.keepIn K (.ref f16) = true)
    {f17 : Addr} {od17 an17 : Option Addr} {sl17 : Array (Option Value)} {oc17 kV17 dc17 pm17 cd17 ct17 : Value}
    (a17 : PySem.W.nsIn K mainGlobals "_law_at" = some (some (.ref f17)))
    (l17 : K.lookup f17 = some ⟨oc17, od17, .func (PySem.W.fnOf "_law_at" "_law_at" (defArgs s17) (defBody s17) (defScope s17) .none kV17 dc17 pm17 an17 cd17 ct17), sl17⟩)
    (c17 : PySem.W.codeIn K cd17 "_law_at" = true) (k17 : PySem.W.keepIn K (.ref f17) = true)
    {f18 : Addr} {od18 an18 : Option Addr} {sl18 : Array (Option Value)} {oc18 kV18 dc18 pm18 cd18 ct18 : Value}
    (a18 : PySem.W.nsIn K mainGlobals "_law_wrong" = some (some (.ref f18)))
    (l18 : K.lookup f18 = some ⟨oc18, od18, .func (PySem.W.fnOf "_law_wrong" "_law_wrong" (defArgs s18) (defBody s18) (defScope s18) .none kV18 dc18 pm18 an18 cd18 ct18), sl18⟩)
    (c18 : PySem.W.codeIn K cd18 "_law_wrong" = true) (k18 : PySem.W.keepIn K (.ref f18) = true)
    {f19 : Addr} {od19 an19 : Option Addr} {sl19 : Array (Option Value)} {oc19 kV19 dc19 pm19 cd19 ct19 : Value}
    (a19 : PySem.W.nsIn K mainGlobals "_law_chain" = some (some (.ref f19)))
    (l19 : K.lookup f19 = some ⟨oc19, od19, .func (PySem.W.fnOf "_law_chain" "_law_chain" (defArgs s19) (defBody s19) (defScope s19) .none kV19 dc19 pm19 an19 cd19 ct19), sl19⟩)
    (c19 : PySem.W.codeIn K cd19 "_law_chain" = true) (k19 : PySem.W.keepIn K (.ref f19) = true)
    {f20 : Addr} {od20 an20 : Option Addr} {sl20 : Array (Option Value)} {oc20 kV20 dc20 pm20 cd20 ct20 : Value}
    (a20 : PySem.W.nsIn K mainGlobals "law" = some (some (.ref f20)))
    (l20 : K.lookup f20 = some ⟨oc20, od20, .func (PySem.W.fnOf "law" "law" (defArgs s20) (defBody s20) (defScope s20) .none kV20 dc20 pm20 an20 cd20 ct20), sl20⟩)
    (c20 : PySem.W.codeIn K cd20 "law" = true) (k20 : PySem.W.keepIn K (.ref f20) = true)
    (z0 : PySem.W.nsIn K mainGlobals "len" = some none)
    (z1 : PySem.W.nsIn K mainGlobals "abs" = some none)
    (z2 : PySem.W.nsIn K mainGlobals "int" = some none)
    (z3 : PySem.W.nsIn K mainGlobals "tuple" = some none)
    (z4 : PySem.W.nsIn K mainGlobals "list" = some none)
    (z5 : PySem.W.nsIn K mainGlobals "sorted" = some none)
    (z6 : PySem.W.nsIn K mainGlobals "sum" = some none)
    (z7 : PySem.W.nsIn K mainGlobals "min" = some none)
    (z8 : PySem.W.nsIn K mainGlobals "max" = some none)
    (z9 : PySem.W.nsIn K mainGlobals "all" = some none)
    (z10 : PySem.W.nsIn K mainGlobals "any" = some none)
    (z11 : PySem.W.nsIn K mainGlobals "range" = some none)
    (z12 : PySem.W.nsIn K mainGlobals "zip" = some none)
    (z13 : PySem.W.nsIn K mainGlobals "enumerate" = some none)
    (z14 : PySem.W.nsIn K mainGlobals "str" = some none)
    (z15 : PySem.W.nsIn K mainGlobals "bool" = some none)
    (z16 : PySem.W.nsIn K mainGlobals "isinstance" = some none)
    (z17 : PySem.W.nsIn K mainGlobals "set" = some none)
    (z18 : PySem.W.nsIn K mainGlobals "ValueError" = some none)
    {gt0 : Tok} (g0 : PySem.W.nsIn K mainGlobals "LETTERS" = some (some (.str "abcd" gt0))) {ga1 : Addr} {gd1 : Option Addr} {gn1 : Nat} {gs1 : Array (Option Value)} {gt1_0 : Tok} {gt1_1 : Tok} (g1 : PySem.W.nsIn K mainGlobals "SINGLES" = some (some (.ref ga1))) (h1 : K.lookup ga1 = some ⟨.type "tuple", gd1, .seq #[.str "maybe" gt1_0, .str "many" gt1_1] gn1, gs1⟩) {ga2 : Addr} {gd2 : Option Addr} {gn2 : Nat} {gs2 : Array (Option Value)} {gt2_0 : Tok} {gt2_1 : Tok} (g2 : PySem.W.nsIn K mainGlobals "ROWS" = some (some (.ref ga2))) (h2 : K.lookup ga2 = some ⟨.type "tuple", gd2, .seq #[.str "join" gt2_0, .str "or" gt2_1] gn2, gs2⟩) {gt3 : Tok} (g3 : PySem.W.nsIn K mainGlobals "MOST_LONG_PARTS" = some (some (.int 200 gt3))) {gt4 : Tok} (g4 : PySem.W.nsIn K mainGlobals "DEEPEST" = some (some (.int 6 gt4))) {gt5 : Tok} (g5 : PySem.W.nsIn K mainGlobals "MOST_LETTERS" = some (some (.int 8 gt5))) {gt6 : Tok} (g6 : PySem.W.nsIn K mainGlobals "MOST_PARTS" = some (some (.int 24 gt6))) {gt7 : Tok} (g7 : PySem.W.nsIn K mainGlobals "DEEPEST_LONG" = some (some (.int 40 gt7))) {gt8 : Tok} (g8 : PySem.W.nsIn K mainGlobals "MOST_LONG_LETTERS" = some (some (.int 40 gt8))) {gt9 : Tok} (g9 : PySem.W.nsIn K mainGlobals "LONGEST_WORD" = some (some (.int 24 gt9))) :
    ∃ fd : FuncData, (∀ (s : Shared) (v : Value), BindsTo s fd ⟨[v], []⟩ [("_law_script", v)]) ∧ ∀ base : Heap, K.In base → base.Ns mainGlobals mg → FnOk PySem.Challenge.rw_nodoubt_k01_forms_of_expressions.prog w K mg base (L2.CX PySem.Challenge.rw_nodoubt_k01_forms_of_expressions.prog w) (n + 1) fa fd ["_law_script"] (spF ⟨K, xt⟩ (callD TT G wf (n + 1)) false 20) := by
  have e := hfa.symm.trans (PySem.W.mg_of X Gn a20)
  cases e
  have F0 := fun_mk (st := s0) l0 c0 k0
  have b0 := F0.binds (ps := ["value"]) fun _ _ _ _ _ _ us hl => match us, hl with | [_], _ => rfl
  have D0 : DefIs K mg TB "is_leaf" false ⟨false, 1, 1, b_is_leaf⟩ _ _ ["value"] := ⟨s0, _, F0, PySem.W.mg_of X Gn a0, b0, sc0, ck0, rfl, rfl, by decide, rfl⟩
  have F1 := fun_mk (st := s1) l1 c1 k1
  have b1 := F1.binds (ps := ["value", "outer", "deep"]) fun _ _ _ _ _ _ us hl => match us, hl with | [_, _, _], _ => rfl
  have D1 : DefIs K mg TB "has_form" false ⟨false, 3, 4, b_has_form⟩ _ _ ["value", "outer", "deep"] := ⟨s1, _, F1, PySem.W.mg_of X Gn a1, b1, sc1, ck1, rfl, rfl, by decide, rfl⟩
  have F2 := fun_mk (st := s2) l2 c2 k2
  have b2 := F2.binds (ps := ["expression"]) fun _ _ _ _ _ _ us hl => match us, hl with | [_], _ => rfl
  have D2 : DefIs K mg TB "parts_of" false ⟨false, 1, 1, b_parts_of⟩ _ _ ["expression"] := ⟨s2, _, F2, PySem.W.mg_of X Gn a2, b2, sc2, ck2, rfl, rfl, by decide, rfl⟩
  have F3 := fun_mk (st := s3) l3 c3 k3
  have b3 := F3.binds (ps := ["expression"]) fun _ _ _ _ _ _ us hl => match us, hl with | [_], _ => rfl
  have D3 : DefIs K mg TB "letters_of" false ⟨false, 1, 2, b_letters_of⟩ _ _ ["expression"] := ⟨s3, _, F3, PySem.W.mg_of X Gn a3, b3, sc3, ck3, rfl, rfl, by decide, rfl⟩
  have F4 := fun_mk (st := s4) l4 c4 k4
  have b4 := F4.binds (ps := ["expression"]) fun _ _ _ _ _ _ us hl => match us, hl with | [_], _ => rfl
  have D4 : DefIs K mg TB "count_of" false ⟨false, 1, 2, b_count_of⟩ _ _ ["expression"] := ⟨s4, _, F4, PySem.W.mg_of X Gn a4, b4, sc4, ck4, rfl, rfl, by decide, rfl⟩
  have F5 := fun_mk (st := s5) l5 c5 k5
  have b5 := F5.binds (ps := ["value"]) fun _ _ _ _ _ _ us hl => match us, hl with | [_], _ => rfl
  have D5 : DefIs K mg TB "is_expression" false ⟨false, 1, 1, b_is_expression⟩ _ _ ["value"] := ⟨s5, _, F5, PySem.W.mg_of X Gn a5, b5, sc5, ck5, rfl, rfl, by decide, rfl⟩
  have F6 := fun_mk (st := s6) l6 c6 k6
  have b6 := F6.binds (ps := ["value"]) fun _ _ _ _ _ _ us hl => match us, hl with | [_], _ => rfl
  have D6 : DefIs K mg TB "is_long" false ⟨false, 1, 1, b_is_long⟩ _ _ ["value"] := ⟨s6, _, F6, PySem.W.mg_of X Gn a6, b6, sc6, ck6, rfl, rfl, by decide, rfl⟩
  have F7 := fun_mk (st := s7) l7 c7 k7
  have b7 := F7.binds (ps := ["value"]) fun _ _ _ _ _ _ us hl => match us, hl with | [_], _ => rfl
  have D7 : DefIs K mg TB "is_word" false ⟨false, 1, 2, b_is_word⟩ _ _ ["value"] := ⟨s7, _, F7, PySem.W.mg_of X Gn a7, b7, sc7, ck7, rfl, rfl, by decide, rfl⟩
  have F8 := fun_mk (st := s8) l8 c8 k8
  have b8 := F8.binds (ps := ["_law_script"]) fun _ _ _ _ _ _ us hl => match us, hl with | [_], _ => rfl
  have D8 : DefIs K mg TB "_law_stream" false ⟨false, 1, 1, b_law_stream⟩ _ _ ["_law_script"] := ⟨s8, _, F8, PySem.W.mg_of X Gn a8, b8, sc8, ck8, rfl, rfl, by decide, rfl⟩
  have F9 := fun_mk (st := s9) l9 c9 k9
  have b9 := F9.binds (ps := ["_law_stream_here", "_law_many"]) fun _ _ _ _ _ _ us hl => match us, hl with | [_, _], _ => rfl
  have D9 : DefIs K mg TB "_law_next" true ⟨true, 2, 5, b_law_next⟩ _ _ ["_law_stream_here", "_law_many"] := ⟨s9, _, F9, PySem.W.mg_of X Gn a9, b9, sc9, ck9, rfl, rfl, by decide, rfl⟩
  have F10 := fun_mk (st := s10) l10 c10 k10
  have b10 := F10.binds (ps := ["_law_actual"]) fun _ _ _ _ _ _ us hl => match us, hl with | [_], _ => rfl
  have D10 : DefIs K mg TB "_law_is_integer" false ⟨false, 1, 1, b_law_is_integer⟩ _ _ ["_law_actual"] := ⟨s10, _, F10, PySem.W.mg_of X Gn a10, b10, sc10, ck10, rfl, rfl, by decide, rfl⟩
  have F11 := fun_mk (st := s11) l11 c11 k11
  have b11 := F11.binds (ps := ["_law_actual", "_law_due"]) fun _ _ _ _ _ _ us hl => match us, hl with | [_, _], _ => rfl
  have D11 : DefIs K mg TB "_law_equal" false ⟨false, 2, 3, b_law_equal⟩ _ _ ["_law_actual", "_law_due"] := ⟨s11, _, F11, PySem.W.mg_of X Gn a11, b11, sc11, ck11, rfl, rfl, by decide, rfl⟩
  have F12 := fun_mk (st := s12) l12 c12 k12
  have b12 := F12.binds (ps := ["_law_stream_here", "_law_rows"]) fun _ _ _ _ _ _ us hl => match us, hl with | [_, _], _ => rfl
  have D12 : DefIs K mg TB "_law_pick" true ⟨true, 2, 2, b_law_pick⟩ _ _ ["_law_stream_here", "_law_rows"] := ⟨s12, _, F12, PySem.W.mg_of X Gn a12, b12, sc12, ck12, rfl, rfl, by decide, rfl⟩
  have F13 := fun_mk (st := s13) l13 c13 k13
  have b13 := F13.binds (ps := ["_law_stream_here", "_law_letters", "_law_room", "_law_deep", "_law_outer"]) fun _ _ _ _ _ _ us hl => match us, hl with | [_, _, _, _, _], _ => rfl
  have D13 : DefIs K mg TB "_law_grown" true ⟨true, 5, 12, b_law_grown⟩ _ _ ["_law_stream_here", "_law_letters", "_law_room", "_law_deep", "_law_outer"] := ⟨s13, _, F13, PySem.W.mg_of X Gn a13, b13, sc13, ck13, rfl, rfl, by decide, rfl⟩
  have F14 := fun_mk (st := s14) l14 c14 k14
  have b14 := F14.binds (ps := ["_law_stream_here", "_law_most"]) fun _ _ _ _ _ _ us hl => match us, hl with | [_, _], _ => rfl
  have D14 : DefIs K mg TB "_law_expression" true ⟨true, 2, 3, b_law_expression⟩ _ _ ["_law_stream_here", "_law_most"] := ⟨s14, _, F14, PySem.W.mg_of X Gn a14, b14, sc14, ck14, rfl, rfl, by decide, rfl⟩
  have F15 := fun_mk (st := s15) l15 c15 k15
  have b15 := F15.binds (ps := ["_law_expression_here"]) fun _ _ _ _ _ _ us hl => match us, hl with | [_], _ => rfl
  have D15 : DefIs K mg TB "_law_inside" false ⟨false, 1, 1, b_law_inside⟩ _ _ ["_law_expression_here"] := ⟨s15, _, F15, PySem.W.mg_of X Gn a15, b15, sc15, ck15, rfl, rfl, by decide, rfl⟩
  have F16 := fun_mk (st := s16) l16 c16 k16
  have b16 := F16.binds (ps := ["_law_expression_here"]) fun _ _ _ _ _ _ us hl => match us, hl with | [_], _ => rfl
  have D16 : DefIs K mg TB "_law_count" false ⟨false, 1, 2, b_law_count⟩ _ _ ["_law_expression_here"] := ⟨s16, _, F16, PySem.W.mg_of X Gn a16, b16, sc16, ck16, rfl, rfl, by decide, rfl⟩
  have F17 := fun_mk (st := s17) l17 c17 k17
  have b17 := F17.binds (ps := ["_law_expression_here", "_law_path", "_law_value"]) fun _ _ _ _ _ _ us hl => match us, hl with | [_, _, _], _ => rfl
  have D17 : DefIs K mg TB "_law_at" false ⟨false, 3, 4, b_law_at⟩ _ _ ["_law_expression_here", "_law_path", "_law_value"] := ⟨s17, _, F17, PySem.W.mg_of X Gn a17, b17, sc17, ck17, rfl, rfl, by decide, rfl⟩
  have F18 := fun_mk (st := s18) l18 c18 k18
  have b18 := F18.binds (ps := ["_law_stream_here"]) fun _ _ _ _ _ _ us hl => match us, hl with | [_], _ => rfl
  have D18 : DefIs K mg TB "_law_wrong" true ⟨true, 1, 1, b_law_wrong⟩ _ _ ["_law_stream_here"] := ⟨s18, _, F18, PySem.W.mg_of X Gn a18, b18, sc18, ck18, rfl, rfl, by decide, rfl⟩
  have F19 := fun_mk (st := s19) l19 c19 k19
  have b19 := F19.binds (ps := ["_law_many"]) fun _ _ _ _ _ _ us hl => match us, hl with | [_], _ => rfl
  have D19 : DefIs K mg TB "_law_chain" false ⟨false, 1, 3, b_law_chain⟩ _ _ ["_law_many"] := ⟨s19, _, F19, PySem.W.mg_of X Gn a19, b19, sc19, ck19, rfl, rfl, by decide, rfl⟩
  have F20 := fun_mk (st := s20) l20 c20 k20
  have b20 := F20.binds (ps := ["_law_script"]) fun _ _ _ _ _ _ us hl => match us, hl with | [_], _ => rfl
  have D20 : DefIs K mg TB "law" false ⟨false, 1, 15, b_law⟩ _ _ ["_law_script"] := ⟨s20, _, F20, PySem.W.mg_of X Gn a20, b20, sc20, ck20, rfl, rfl, by decide, rfl⟩
  have hd : AllDefs K mg TB TT TB.fns := ⟨⟨_, rfl, _, _, _, D0⟩, ⟨⟨_, rfl, _, _, _, D1⟩, ⟨⟨_, rfl, _, _, _, D2⟩, ⟨⟨_, rfl, _, _, _, D3⟩, ⟨⟨_, rfl, _, _, _, D4⟩, ⟨⟨_, rfl, _, _, _, D5⟩, ⟨⟨_, rfl, _, _, _, D6⟩, ⟨⟨_, rfl, _, _, _, D7⟩, ⟨⟨_, rfl, _, _, _, D8⟩, ⟨⟨_, rfl, _, _, _, D9⟩, ⟨⟨_, rfl, _, _, _, D10⟩, ⟨⟨_, rfl, _, _, _, D11⟩, ⟨⟨_, rfl, _, _, _, D12⟩, ⟨⟨_, rfl, _, _, _, D13⟩, ⟨⟨_, rfl, _, _, _, D14⟩, ⟨⟨_, rfl, _, _, _, D15⟩, ⟨⟨_, rfl, _, _, _, D16⟩, ⟨⟨_, rfl, _, _, _, D17⟩, ⟨⟨_, rfl, _, _, _, D18⟩, ⟨⟨_, rfl, _, _, _, D19⟩, ⟨⟨_, rfl, _, _, _, D20⟩, trivial⟩⟩⟩⟩⟩⟩⟩⟩⟩⟩⟩⟩⟩⟩⟩⟩⟩⟩⟩⟩⟩
  have hg : AllGls K mg G TB.gls := ⟨⟨_, rfl, gl_str (PySem.W.mg_of X Gn g0) (by decide +kernel) (by decide +kernel)⟩, ⟨⟨_, rfl, gl_strs (ss := [[109,97,121,98,101], [109,97,110,121]]) (PySem.W.mg_of X Gn g1) h1 (.cons ⟨_, congrArg (fun z => Value.str z _) (by decide +kernel)⟩ (.cons ⟨_, congrArg (fun z => Value.str z _) (by decide +kernel)⟩ .nil)) (by decide +kernel) (show 2 ≤ sizeLine by decide +kernel)⟩, ⟨⟨_, rfl, gl_strs (ss := [[106,111,105,110], [111,114]]) (PySem.W.mg_of X Gn g2) h2 (.cons ⟨_, congrArg (fun z => Value.str z _) (by decide +kernel)⟩ (.cons ⟨_, congrArg (fun z => Value.str z _) (by decide +kernel)⟩ .nil)) (by decide +kernel) (show 2 ≤ sizeLine by decide +kernel)⟩, ⟨⟨_, rfl, gl_int (PySem.W.mg_of X Gn g3)⟩, ⟨⟨_, rfl, gl_int (PySem.W.mg_of X Gn g4)⟩, ⟨⟨_, rfl, gl_int (PySem.W.mg_of X Gn g5)⟩, ⟨⟨_, rfl, gl_int (PySem.W.mg_of X Gn g6)⟩, ⟨⟨_, rfl, gl_int (PySem.W.mg_of X Gn g7)⟩, ⟨⟨_, rfl, gl_int (PySem.W.mg_of X Gn g8)⟩, ⟨⟨_, rfl, gl_int (PySem.W.mg_of X Gn g9)⟩, trivial⟩⟩⟩⟩⟩⟩⟩⟩⟩⟩
  have hz : ∀ x ∈ blts, mg x = none := by
    intro x hx
    simp only [blts, List.mem_cons, List.not_mem_nil, or_false] at hx
    rcases hx with rfl | rfl | rfl | rfl | rfl | rfl | rfl | rfl | rfl | rfl | rfl | rfl | rfl | rfl | rfl | rfl | rfl | rfl | rfl
    · exact PySem.W.mg_none_of X Gn z0
    · exact PySem.W.mg_none_of X Gn z1
    · exact PySem.W.mg_none_of X Gn z2
    · exact PySem.W.mg_none_of X Gn z3
    · exact PySem.W.mg_none_of X Gn z4
    · exact PySem.W.mg_none_of X Gn z5
    · exact PySem.W.mg_none_of X Gn z6
    · exact PySem.W.mg_none_of X Gn z7
    · exact PySem.W.mg_none_of X Gn z8
    · exact PySem.W.mg_none_of X Gn z9
    · exact PySem.W.mg_none_of X Gn z10
    · exact PySem.W.mg_none_of X Gn z11
    · exact PySem.W.mg_none_of X Gn z12
    · exact PySem.W.mg_none_of X Gn z13
    · exact PySem.W.mg_none_of X Gn z14
    · exact PySem.W.mg_none_of X Gn z15
    · exact PySem.W.mg_none_of X Gn z16
    · exact PySem.W.mg_none_of X Gn z17
    · exact PySem.W.mg_none_of X Gn z18
  refine ⟨PySem.W.fnOf "law" "law" (defArgs s20) (defBody s20) (defScope s20) .none kV20 dc20 pm20 an20 cd20 ct20, fun s v => .of_eq rfl, fun base _ _ => ?_⟩
  exact fn_sound (C := ⟨K, xt⟩) (TT := TT) rfl D20 hz (all_sound hz hg.get hd.get n) hg.get
end Gk01

end
section
namespace Gk01
open DI
def St (d : D) : Prop := ∃ (cs : List Int) (v k : Int), d = .list [.list (cs.map .int), .int v, .int k] ∧ 0 ≤ v ∧ 0 ≤ k
theorem next_run (F : CallF) (wf : Nat) (s : D) (m : Int) (hs : St s) (h1 : 0 < m) (h2 : m < 1000000) : ∃ (d : Int) (s' : D), 0 ≤ d ∧ d < m ∧ St s' ∧ runD F G wf ⟨true, 2, 5, b_law_next⟩ [s, .int m] = some (.ret false (.int d) (some s')) := by
  obtain ⟨cs, v, k, rfl, hv, hk⟩ := hs
  have out : ∀ (c k' : Int), 0 ≤ c → 0 ≤ k' → ∃ (d : Int) (s' : D), 0 ≤ d ∧ d < m ∧ St s' ∧ some (Out.ret false (.int (c % m)) (some (.list [.list (cs.map .int), .int (c / m), .int k']))) = some (.ret false (.int d) (some s')) := fun c k' hc hk' =>
    ⟨c % m, _, Int.emod_nonneg _ (by omega), Int.emod_lt_of_pos _ h1, ⟨cs, c / m, k', rfl, Int.ediv_nonneg hc (by omega), hk'⟩, rfl⟩
  have big : ∀ a b : Int, 0 ≤ a % 2147483647 * 65537 + b % 2147483647 := fun a b => Int.add_nonneg (Int.mul_nonneg (Int.emod_nonneg _ (by decide)) (by decide)) (Int.emod_nonneg _ (by decide))
  unfold b_law_next
  rw [run_t]
  by_cases hv0 : v = 0
  · subst hv0
    by_cases hc : k < cs.length
    · obtain ⟨c0, hget⟩ : ∃ c0, (cs.map D.int)[k.toNat]? = some (.int c0) := ⟨cs[k.toNat]'(by omega), by simp [show k.toNat < cs.length by omega]⟩
      obtain ⟨c1, hc1, habs⟩ : ∃ c1 : Int, 0 ≤ c1 ∧ biV .abs [.int c0] = some (false, .int c1) := ⟨_, Int.natCast_nonneg _, b_abs⟩
      walk_at "di"
      simp only [hget]
      walk_at "di"
      simp only [habs]
      clear hget habs
      by_cases hb : c1 < 1000000000000000000
      · walk_at "di"
        exact out _ _ (big _ _) (by omega)
      · walk_at "di"
        exact out _ _ (by omega) (by omega)
    · by_cases hb : 7 + k < 1000000000000000000
      · walk_at "di"
        exact out _ _ (big _ _) (by omega)
      · walk_at "di"
        exact out _ _ (by omega) (by omega)
  · walk_at "di"
    exact out v k hv hk
end Gk01

end
section
namespace Gk01
open DI
variable {wf n : Nat}
theorem next_ok {n : Nat} {s : D} {m : Int} (hs : St s) (h1 : 0 < m) (h2 : m < 1000000) : ∃ (d : Int) (s' : D), 0 ≤ d ∧ d < m ∧ St s' ∧ callD TT G wf (n + 1) 9 [s, .int m] = some (.ret false (.int d) (some s')) := by
  rw [call_eq (fd := ⟨true, 2, 5, b_law_next⟩) rfl rfl]
  exact next_run _ _ s m hs h1 h2
theorem pick_ok {n : Nat} {s : D} {rows : List D} (hs : St s) (h1 : 0 < rows.length) (h2 : rows.length < 1000000) : ∃ (x : D) (s' : D), x ∈ rows ∧ St s' ∧ callD TT G wf (n + 2) 12 [s, .list rows] = some (.ret false x (some s')) := by
  rw [call_eq (fd := ⟨true, 2, 2, b_law_pick⟩) rfl rfl]
  obtain ⟨d, s', hd0, hd1, hs', hc⟩ := next_ok (wf := wf) (n := n) (s := s) (m := rows.length) hs (by omega) (by omega)
  obtain ⟨x, hx⟩ : ∃ x, rows[d.toNat]? = some x := ⟨rows[d.toNat]'(by omega), by simp [show d.toNat < rows.length by omega]⟩
  refine ⟨x, s', List.mem_of_getElem? hx, hs', ?_⟩
  unfold b_law_pick
  rw [run_t]
  walk_at "di"
  simp only [hc]
  walk_at "di"
  simp only [ixF_d, item_at hd0 hd1, hx]
  walk_at "di"
end Gk01

end
section
namespace Gk01
open DI
variable {wf n : Nat}
abbrev wJoin : List Nat := [106,111,105,110]
abbrev wOr : List Nat := [111,114]
abbrev wMaybe : List Nat := [109,97,121,98,101]
abbrev wMany : List Nat := [109,97,110,121]
def leafF : D → Bool
  | .str [] => true
  | .str [c] => [97, 98, 99, 100].contains c
  | _ => false
/-- what stands at the second place of a row -/
def partsF (r : D → Bool) : D → Bool
  | .tup ps => decide (2 ≤ ps.length) && (decide (ps.length ≤ 200) && ps.all r)
  | _ => false
def pairF (r : List Nat → D → Bool) (o w : List Nat) (x : D) : Bool :=
  bif wMaybe == w || wMany == w then r [] x else bif (wJoin == w || wOr == w) && !(w == o) then partsF (r w) x else false
def stepF (r : List Nat → D → Bool) (o : List Nat) : D → Bool
  | .tup [.str w, x] => pairF r o w x
  | v => leafF v
def hasF : Nat → List Nat → D → Bool
  | 0 => fun _ v => leafF v
  | d + 1 => stepF (hasF d)
theorem G_0 : G[0]? = some (.str [97,98,99,100]) := rfl
theorem G_1 : G[1]? = some (.tup [.str wMaybe, .str wMany]) := rfl
theorem G_2 : G[2]? = some (.tup [.str wJoin, .str wOr]) := rfl
theorem G_3 : G[3]? = some (.int 200) := rfl
theorem leaf_ok (v : D) : callD TT G wf (n + 1) 0 [v] = some (.ret false (.bool (leafF v)) none) := by
  rw [call_eq (fd := ⟨false, 1, 1, b_is_leaf⟩) rfl rfl]
  unfold b_is_leaf
  rw [run_f]
  cases v with
  | str s =>
    match s with
    | [] => walk_at "di"; rfl
    | [c] => walk_at "di"; simp only [G_0]; walk_at "di"; rfl
    | a :: b :: s => walk_at "di"; rfl
  | _ => walk_at "di"; rfl
theorem hasF_leaf {d : Nat} {o : List Nat} {v : D} (h : leafF v = true) : hasF d o v = true := by
  cases d with
  | zero => exact h
  | succ d =>
    show stepF (hasF d) o v = true
    unfold stepF
    split
    · cases h
    · exact h
theorem form_ok : ∀ (d : Nat) (v : D) (o : List Nat), callD TT G wf (n + d + 2) 1 [v, .str o, .int d] = some (.ret false (.bool (hasF d o v)) none) := by
  intro d
  induction d generalizing n with
  | zero =>
    intro v o
    rw [call_eq (fd := ⟨false, 3, 4, b_has_form⟩) rfl rfl]
    unfold b_has_form
    rw [run_f]
    walk_at "di"
    simp only [leaf_ok]
    walk_at "di"
    simp only [hasF]
    cases leafF v with
    | true => walk_at "di"
    | false => walk_at "di"
  | succ d ih =>
    intro v o
    have hd : ((d + 1 : Nat) : Int) - 1 = d := by omega
    rw [call_eq (fd := ⟨false, 3, 4, b_has_form⟩) rfl rfl]
    unfold b_has_form
    rw [run_f]
    have lf : ∀ v : D, callD TT G wf (n + (d + 1) + 1) 0 [v] = some (.ret false (.bool (leafF v)) none) := fun v => leaf_ok v
    have ih' : ∀ (v : D) (o : List Nat), callD TT G wf (n + (d + 1) + 1) 1 [v, .str o, .int d] = some (.ret false (.bool (hasF d o v)) none) := fun v o => by
      have := ih (n := n) v o
      rw [show n + (d + 1) + 1 = n + d + 2 by omega]
      exact this
    walk_at "di"
    simp only [lf]
    cases hl : leafF v with
    | true =>
      rw [hasF_leaf hl]
      walk_at "di"
    | false =>
      walk_at "di"
      show _ = some (Out.ret false (.bool (stepF (hasF d) o v)) none)
      cases v with
      | tup xs =>
        match xs with
        | [] => walk_at "di"; rfl
        | [a] => walk_at "di"; cases a <;> rfl
        | a :: b :: c :: r => walk_at "di"; cases a <;> rfl
        | [a, x] =>
          cases a with
          | str w =>
            show _ = some (Out.ret false (.bool (pairF (hasF d) o w x)) none)
            unfold pairF
            walk_at "di"
            simp only [G_1]
            walk_at "di"
            simp only [c_int (x := .str w) (ys := [.str wMaybe, .str wMany]) rfl, isIn, D.eqv, Bool.or_false]
            cases h1 : (wMaybe == w || wMany == w) with
            | true =>
              walk_at "di"
              simp only [hd, ih']
              walk_at "di"
            | false =>
              walk_at "di"
              simp only [G_2]
              walk_at "di"
              simp only [c_nint (x := .str w) (ys := [.str wJoin, .str wOr]) rfl, isIn, D.eqv, Bool.or_false]
              cases h2 : (wJoin == w || wOr == w) with
              | false => walk_at "di"
              | true =>
                walk_at "di"
                cases h3 : (w == o) with
                | true => walk_at "di"
                | false =>
                  walk_at "di"
                  cases x with
                  | tup ps =>
                    walk_at "di"
                    simp only [G_3]
                    walk_at "di"
                    unfold partsF
                    by_cases h4 : 2 ≤ ps.length
                    · by_cases h5 : ps.length ≤ 200
                      · walk_at "di"
                        rw [lc_map (fun x => .bool (hasF d w x)) ps fun x hx => ?_]
                        · walk_at "di"
                          rw [show ps.map (fun x => D.bool (hasF d w x)) = (ps.map (hasF d w)).map D.bool by simp]
                          walk_at "di"
                          simp
                        · walk_at "di"
                          simp only [hd, ih']
                          walk_at "di"
                      · walk_at "di"
                    · walk_at "di"
                  | _ => walk_at "di"; rfl
          | _ => walk_at "di"; rfl
      | str s =>
        walk_at "di"
        rw [show stepF (hasF d) o (.str s) = leafF (.str s) from rfl, hl]
      | _ => walk_at "di"; rfl
end Gk01

end
section
namespace Gk01
open DI
variable {wf n : Nat}
def sngB (w : List Nat) : Bool := wMaybe == w || wMany == w
/-- the parts -/
def partsOf : D → List D
  | .tup [.str w, x] => bif sngB w then [x] else match x with
    | .tup ps => ps
    | _ => []
  | _ => []
inductive Exp : D → Prop
  | str (s : List Nat) : Exp (.str s)
  | one {w : List Nat} (x : D) : sngB w = true → Exp (.tup [.str w, x])
  | row {w : List Nat} (ps : List D) : sngB w = false → Exp (.tup [.str w, .tup ps])
theorem parts_ok {v : D} (h : Exp v) : callD TT G wf (n + 1) 2 [v] = some (.ret false (.tup (partsOf v)) none) := by
  rw [call_eq (fd := ⟨false, 1, 1, b_parts_of⟩) rfl rfl]
  unfold b_parts_of
  rw [run_f]
  cases h with
  | str s => walk_at "di"; rfl
  | @one w x h =>
    have h' : (wMaybe == w || wMany == w) = true := h
    have e : partsOf (.tup [.str w, x]) = [x] := by show cond _ _ _ = _; rw [h]; rfl
    rw [e]
    walk_at "di"
    simp only [G_1]
    walk_at "di"
    simp only [c_int (x := .str w) (ys := [.str wMaybe, .str wMany]) rfl, isIn, D.eqv, Bool.or_false, h']
    walk_at "di"
  | @row w ps h =>
    have h' : (wMaybe == w || wMany == w) = false := h
    have e : partsOf (.tup [.str w, .tup ps]) = ps := by show cond _ _ _ = _; rw [h]; rfl
    rw [e]
    walk_at "di"
    simp only [G_1]
    walk_at "di"
    simp only [c_int (x := .str w) (ys := [.str wMaybe, .str wMany]) rfl, isIn, D.eqv, Bool.or_false, h']
    walk_at "di"
theorem inside_ok {v : D} (h : Exp v) : callD TT G wf (n + 1) 15 [v] = some (.ret false (.tup (partsOf v)) none) := by
  rw [call_eq (fd := ⟨false, 1, 1, b_law_inside⟩) rfl rfl]
  unfold b_law_inside
  rw [run_f]
  cases h with
  | str s => walk_at "di"; rfl
  | @one w x h =>
    have h' : (wMaybe == w || wMany == w) = true := h
    have e : partsOf (.tup [.str w, x]) = [x] := by show cond _ _ _ = _; rw [h]; rfl
    rw [e]
    walk_at "di"
    simp only [c_inl (x := .str w) (ys := [.str wMaybe, .str wMany]) rfl, isIn, D.eqv, Bool.or_false, h']
    walk_at "di"
  | @row w ps h =>
    have h' : (wMaybe == w || wMany == w) = false := h
    have e : partsOf (.tup [.str w, .tup ps]) = ps := by show cond _ _ _ = _; rw [h]; rfl
    rw [e]
    walk_at "di"
    simp only [c_inl (x := .str w) (ys := [.str wMaybe, .str wMany]) rfl, isIn, D.eqv, Bool.or_false, h']
    walk_at "di"
theorem hasF_exp {d : Nat} {o : List Nat} {v : D} (h : hasF d o v = true) : Exp v ∧ ∀ x ∈ partsOf v, ∃ o', hasF (d - 1) o' x = true := by
  have lf : ∀ v : D, leafF v = true → Exp v ∧ ∀ x ∈ partsOf v, ∃ o', hasF (d - 1) o' x = true := fun v h => by
    unfold leafF at h
    split at h
    · exact ⟨.str _, fun x hx => by cases hx⟩
    · exact ⟨.str _, fun x hx => by cases hx⟩
    · cases h
  cases d with
  | zero => exact lf v h
  | succ d =>
    have h : stepF (hasF d) o v = true := h
    have other : stepF (hasF d) o v = leafF v → Exp v ∧ ∀ x ∈ partsOf v, ∃ o', hasF d o' x = true := fun e => lf v (by rw [← e]; exact h)
    cases v with
    | tup xs =>
      match xs with
      | [] => exact other rfl
      | [a] => cases a <;> exact other rfl
      | a :: b :: c :: r => cases a <;> exact other rfl
      | [a, x] =>
        cases a with
        | str w =>
          have h : pairF (hasF d) o w x = true := h
          unfold pairF at h
          cases h1 : (wMaybe == w || wMany == w) with
          | true =>
            rw [h1] at h
            refine ⟨.one x h1, fun y hy => ?_⟩
            have e : partsOf (.tup [.str w, x]) = [x] := by show cond (sngB w) _ _ = _; rw [show sngB w = true from h1]; rfl
            rw [e, List.mem_singleton] at hy
            subst hy
            exact ⟨[], h⟩
          | false =>
            rw [h1] at h
            cases h2 : ((wJoin == w || wOr == w) && !(w == o)) with
            | false => rw [h2] at h; cases h
            | true =>
              rw [h2] at h
              have h : partsF (hasF d w) x = true := h
              cases x with
              | tup ps =>
                have h : (decide (2 ≤ ps.length) && (decide (ps.length ≤ 200) && ps.all (hasF d w))) = true := h
                rw [Bool.and_eq_true, Bool.and_eq_true] at h
                refine ⟨.row ps h1, fun y hy => ?_⟩
                have e : partsOf (.tup [.str w, .tup ps]) = ps := by show cond (sngB w) _ _ = _; rw [show sngB w = false from h1]; rfl
                rw [e] at hy
                exact ⟨w, List.all_eq_true.mp h.2.2 y hy⟩
              | _ => cases h
        | _ => exact other rfl
    | _ => exact other rfl
def cntF : Nat → D → Int
  | 0 => fun _ => 1
  | d + 1 => fun v => 1 + ((partsOf v).map (cntF d)).sum
theorem parts_leaf {v : D} (h : leafF v = true) : partsOf v = [] := by
  unfold leafF at h
  split at h
  · rfl
  · rfl
  · cases h
theorem count_ok : ∀ (d : Nat) (v : D) (o : List Nat), hasF d o v = true → callD TT G wf (n + d + 2) 4 [v] = some (.ret false (.int (cntF d v)) none) := by
  intro d
  induction d generalizing n with
  | zero =>
    intro v o h
    obtain ⟨h1, h2⟩ := hasF_exp h
    have hp : callD TT G wf (n + 0 + 1) 2 [v] = _ := parts_ok h1
    rw [parts_leaf (show leafF v = true from h)] at hp
    rw [call_eq (fd := ⟨false, 1, 2, b_count_of⟩) rfl rfl]
    unfold b_count_of
    rw [run_f]
    walk_at "di"
    simp only [hp]
    walk_at "di"
    simp only [turns]
    walk_at "di"
    simp only [show biV .sum [.list []] = some (false, .int 0) from rfl]
    walk_at "di"
    rfl
  | succ d ih =>
    intro v o h
    obtain ⟨h1, h2⟩ := hasF_exp h
    have hp : callD TT G wf (n + (d + 1) + 1) 2 [v] = _ := parts_ok h1
    have hc : ∀ x ∈ partsOf v, callD TT G wf (n + (d + 1) + 1) 4 [x] = some (.ret false (.int (cntF d x)) none) := fun x hx => by
      obtain ⟨o', h3⟩ := h2 x hx
      have := ih (n := n) x o' h3
      rw [show n + (d + 1) + 1 = n + d + 2 by omega]
      exact this
    rw [call_eq (fd := ⟨false, 1, 2, b_count_of⟩) rfl rfl]
    unfold b_count_of
    rw [run_f]
    walk_at "di"
    simp only [hp]
    walk_at "di"
    rw [lc_map (fun x => .int (cntF d x)) (partsOf v) fun x hx => ?_]
    · walk_at "di"
      rw [show (partsOf v).map (fun x => D.int (cntF d x)) = ((partsOf v).map (cntF d)).map D.int by simp]
      walk_at "di"
      rfl
    · walk_at "di"
      simp only [hc x hx]
      walk_at "di"
end Gk01

end
section
namespace Gk01
open DI
variable {wf n : Nat}
theorem lcount_ok : ∀ (d : Nat) (v : D) (o : List Nat), hasF d o v = true → callD TT G wf (n + d + 2) 16 [v] = some (.ret false (.int (cntF d v)) none) := by
  intro d
  induction d generalizing n with
  | zero =>
    intro v o h
    obtain ⟨h1, h2⟩ := hasF_exp h
    have hp : callD TT G wf (n + 0 + 1) 15 [v] = _ := inside_ok h1
    rw [parts_leaf (show leafF v = true from h)] at hp
    rw [call_eq (fd := ⟨false, 1, 2, b_law_count⟩) rfl rfl]
    unfold b_law_count
    rw [run_f]
    walk_at "di"
    simp only [hp]
    walk_at "di"
    simp only [turns]
    walk_at "di"
    simp only [show biV .sum [.list []] = some (false, .int 0) from rfl]
    walk_at "di"
    rfl
  | succ d ih =>
    intro v o h
    obtain ⟨h1, h2⟩ := hasF_exp h
    have hp : callD TT G wf (n + (d + 1) + 1) 15 [v] = _ := inside_ok h1
    have hc : ∀ x ∈ partsOf v, callD TT G wf (n + (d + 1) + 1) 16 [x] = some (.ret false (.int (cntF d x)) none) := fun x hx => by
      obtain ⟨o', h3⟩ := h2 x hx
      have := ih (n := n) x o' h3
      rw [show n + (d + 1) + 1 = n + d + 2 by omega]
      exact this
    rw [call_eq (fd := ⟨false, 1, 2, b_law_count⟩) rfl rfl]
    unfold b_law_count
    rw [run_f]
    walk_at "di"
    simp only [hp]
    walk_at "di"
    rw [lc_map (fun x => .int (cntF d x)) (partsOf v) fun x hx => ?_]
    · walk_at "di"
      rw [show (partsOf v).map (fun x => D.int (cntF d x)) = ((partsOf v).map (cntF d)).map D.int by simp]
      walk_at "di"
      rfl
    · walk_at "di"
      simp only [hc x hx]
      walk_at "di"
def strF : D → Option (List Nat)
  | .str s => some s
  | _ => none
def letF : Nat → D → List Nat
  | 0 => fun v => (strF v).getD []
  | d + 1 => fun v => (strF v).getD (joinL [] ((partsOf v).map (letF d)))
theorem join_len : ∀ (l : List (List Nat)) (x : List Nat), x ∈ l → x.length ≤ (joinL [] l).length
  | [], _, h => by cases h
  | [y], x, h => by
    rw [List.mem_singleton] at h
    subst h
    exact Nat.le_refl _
  | y :: z :: r, x, h => by
    rw [joinL, List.length_append, List.length_append]
    rcases List.mem_cons.mp h with rfl | h
    · omega
    · have := join_len (z :: r) x h
      omega
theorem letters_ok : ∀ (d : Nat) (v : D) (o : List Nat), hasF d o v = true → (letF d v).length ≤ 1000000 → callD TT G wf (n + d + 2) 3 [v] = some (.ret false (.str (letF d v)) none) := by
  intro d
  induction d generalizing n with
  | zero =>
    intro v o h hz
    rw [call_eq (fd := ⟨false, 1, 2, b_letters_of⟩) rfl rfl]
    unfold b_letters_of
    rw [run_f]
    cases v with
    | str s => walk_at "di"; rfl
    | _ => cases h
  | succ d ih =>
    intro v o h hz
    obtain ⟨h1, h2⟩ := hasF_exp h
    have hp : callD TT G wf (n + (d + 1) + 1) 2 [v] = _ := parts_ok h1
    rw [call_eq (fd := ⟨false, 1, 2, b_letters_of⟩) rfl rfl]
    unfold b_letters_of
    rw [run_f]
    cases v with
    | str s => walk_at "di"; rfl
    | tup xs =>
      have e : letF (d + 1) (.tup xs) = joinL [] ((partsOf (.tup xs)).map (letF d)) := rfl
      rw [e] at hz ⊢
      have hc : ∀ x ∈ partsOf (.tup xs), callD TT G wf (n + (d + 1) + 1) 3 [x] = some (.ret false (.str (letF d x)) none) := fun x hx => by
        obtain ⟨o', h3⟩ := h2 x hx
        have := ih (n := n) x o' h3 (Nat.le_trans (join_len _ _ (List.mem_map_of_mem hx)) hz)
        rw [show n + (d + 1) + 1 = n + d + 2 by omega]
        exact this
      walk_at "di"
      simp only [hp]
      walk_at "di"
      rw [lc_map (fun x => .str (letF d x)) (partsOf (.tup xs)) fun x hx => ?_]
      · walk_at "di"
        rw [show (partsOf (.tup xs)).map (fun x => D.str (letF d x)) = ((partsOf (.tup xs)).map (letF d)).map D.str by simp]
        simp only [m_join (s := []) (l := (partsOf (.tup xs)).map (letF d)) (by simpa using hz)]
        walk_at "di"
      · walk_at "di"
        simp only [hc x hx]
        walk_at "di"
    | _ => exact absurd h1 (fun z => by cases z)
end Gk01

end
section
namespace Gk01
open DI
variable {wf n : Nat}
theorem G_4 : G[4]? = some (.int 6) := rfl
theorem G_5 : G[5]? = some (.int 8) := rfl
theorem G_6 : G[6]? = some (.int 24) := rfl
theorem G_7 : G[7]? = some (.int 40) := rfl
theorem G_8 : G[8]? = some (.int 40) := rfl
theorem G_9 : G[9]? = some (.int 24) := rfl
def isF (d m p : Nat) (v : D) : Bool := hasF d [] v && (decide ((letF d v).length ≤ m) && decide (cntF d v ≤ p))
theorem isex_ok {v : D} (hz : hasF 6 [] v = true → (letF 6 v).length ≤ 1000000) : callD TT G wf (n + 9) 5 [v] = some (.ret false (.bool (isF 6 8 24 v)) none) := by
  have hf : callD TT G wf (n + 8) 1 [v, .str [], .int 6] = some (.ret false (.bool (hasF 6 [] v)) none) := form_ok (n := n) 6 v []
  rw [call_eq (fd := ⟨false, 1, 1, b_is_expression⟩) rfl rfl]
  unfold b_is_expression isF
  rw [run_f]
  walk_at "di"
  simp only [G_4]
  walk_at "di"
  simp only [hf]
  cases h : hasF 6 [] v with
  | false => walk_at "di"
  | true =>
    have hl : callD TT G wf (n + 8) 3 [v] = _ := letters_ok (n := n) 6 v [] h (hz h)
    have hc : callD TT G wf (n + 8) 4 [v] = _ := count_ok (n := n) 6 v [] h
    walk_at "di"
    simp only [hl]
    walk_at "di"
    simp only [G_5]
    walk_at "di"
    by_cases h1 : (letF 6 v).length ≤ 8
    · walk_at "di"
      simp only [hc, G_6]
      walk_at "di"
      rfl
    · walk_at "di"
theorem islong_ok {v : D} (hz : hasF 40 [] v = true → (letF 40 v).length ≤ 1000000) : callD TT G wf (n + 43) 6 [v] = some (.ret false (.bool (isF 40 40 200 v)) none) := by
  have hf : callD TT G wf (n + 42) 1 [v, .str [], .int 40] = some (.ret false (.bool (hasF 40 [] v)) none) := form_ok (n := n) 40 v []
  rw [call_eq (fd := ⟨false, 1, 1, b_is_long⟩) rfl rfl]
  unfold b_is_long isF
  rw [run_f]
  walk_at "di"
  simp only [G_7]
  walk_at "di"
  simp only [hf]
  cases h : hasF 40 [] v with
  | false => walk_at "di"
  | true =>
    have hl : callD TT G wf (n + 42) 3 [v] = _ := letters_ok (n := n) 40 v [] h (hz h)
    have hc : callD TT G wf (n + 42) 4 [v] = _ := count_ok (n := n) 40 v [] h
    walk_at "di"
    simp only [hl]
    walk_at "di"
    simp only [G_8]
    walk_at "di"
    by_cases h1 : (letF 40 v).length ≤ 40
    · walk_at "di"
      simp only [hc, G_3]
      walk_at "di"
      rfl
    · walk_at "di"
def wordF : D → Bool
  | .str s => decide (s.length ≤ 24) && s.all fun c => [97, 98, 99, 100].contains c
  | _ => false
theorem isword_ok {v : D} : callD TT G wf (n + 1) 7 [v] = some (.ret false (.bool (wordF v)) none) := by
  rw [call_eq (fd := ⟨false, 1, 2, b_is_word⟩) rfl rfl]
  unfold b_is_word
  rw [run_f]
  cases v with
  | str s =>
    show _ = some (Out.ret false (.bool (decide (s.length ≤ 24) && s.all fun c => [97, 98, 99, 100].contains c)) none)
    walk_at "di"
    simp only [G_9]
    walk_at "di"
    by_cases h1 : s.length ≤ 24
    · walk_at "di"
      have key : ∀ x ∈ s.map (fun c => D.str [c]), ∃ c ∈ s, x = .str [c] := fun x hx => by
        obtain ⟨c, h1, h2⟩ := List.mem_map.mp hx
        exact ⟨c, h1, h2.symm⟩
      rw [lc_map (fun x => match x with | .str [c] => .bool ([97, 98, 99, 100].contains c) | _ => .none) (s.map fun c => D.str [c]) fun x hx => ?_]
      · walk_at "di"
        rw [show (s.map fun c => D.str [c]).map (fun x => match x with | .str [c] => D.bool ([97, 98, 99, 100].contains c) | _ => .none) = (s.map fun c => [97, 98, 99, 100].contains c).map D.bool by simp]
        walk_at "di"
        simp
      · obtain ⟨c, _, rfl⟩ := key x hx
        walk_at "di"
        simp only [G_0]
        walk_at "di"
    · walk_at "di"
  | _ => walk_at "di"; rfl
end Gk01

end
section
namespace Gk01
open DI
variable {wf n : Nat}
theorem eqb_ok {a : Bool} : callD TT G wf (n + 1) 11 [.bool a, .bool a] = some (.ret false (.bool true) none) := by
  rw [call_eq (fd := ⟨false, 2, 3, b_law_equal⟩) rfl rfl]
  unfold b_law_equal
  rw [run_f]
  walk_at "di"
theorem rangeL_mem : ∀ (k : Nat) (lo : Int) (x : D), x ∈ rangeL lo k → ∃ i : Nat, i < k ∧ x = .int (lo + i)
  | 0, _, _, h => by cases h
  | k + 1, lo, x, h => by
    rcases List.mem_cons.mp h with rfl | h
    · exact ⟨0, by omega, by simp⟩
    · obtain ⟨i, h1, rfl⟩ := rangeL_mem k (lo + 1) x h
      exact ⟨i + 1, by omega, by congr 1; omega⟩
theorem rangeL_len : ∀ (k : Nat) (lo : Int), (rangeL lo k).length = k
  | 0, _ => rfl
  | k + 1, lo => by rw [rangeL, List.length_cons, rangeL_len k]
theorem eql_ok {l : List Bool} (hl : l.length < 1000) : callD TT G wf (n + 2) 11 [.list (l.map .bool), .list (l.map .bool)] = some (.ret false (.bool true) none) := by
  rw [call_eq (fd := ⟨false, 2, 3, b_law_equal⟩) rfl rfl]
  unfold b_law_equal
  rw [run_f]
  walk_at "di"
  rw [lc_map (fun x => .bool true) _ fun x hx => ?_]
  · walk_at "di"
    rw [show (rangeL 0 l.length).map (fun _ => D.bool true) = (List.replicate l.length true).map D.bool by rw [List.map_replicate]; simp [rangeL_len, List.map_const']]
    walk_at "di"
    simp
  · obtain ⟨i, hi, rfl⟩ := rangeL_mem _ _ _ hx
    have hi : i < l.length := by simpa using hi
    have hg : (l.map D.bool)[(0 + (i : Int)).toNat]? = some (.bool l[i]) := by
      rw [Int.zero_add, Int.toNat_natCast]
      simp [hi]
    walk_at "di"
    simp only [hg]
    walk_at "di"
    simp only [hg]
    walk_at "di"
    simp only [eqb_ok]
    walk_at "di"
theorem stream_ok {ns : List Int} : ∃ s, St s ∧ callD TT G wf (n + 1) 8 [.scr (ns.map .int)] = some (.ret true s none) := by
  refine ⟨.list [.list (ns.map .int), .int 0, .int 0], ⟨ns, 0, 0, rfl, by omega, by omega⟩, ?_⟩
  rw [call_eq (fd := ⟨false, 1, 1, b_law_stream⟩) rfl rfl]
  unfold b_law_stream
  rw [run_f]
  walk_at "di"
end Gk01

end
section
namespace Gk01
open DI
variable {wf n : Nat}
inductive Ch : Nat → D → Prop
  | a : Ch 0 (.str [97])
  | s {m : Nat} {w : List Nat} {c : D} : sngB w = true → Ch m c → Ch (m + 1) (.tup [.str w, c])
theorem ch_form {m : Nat} {c : D} (h : Ch m c) : ∀ (d : Nat) (o : List Nat), hasF d o c = decide (m ≤ d) := by
  induction h with
  | a => intro d o; rw [hasF_leaf rfl]; simp
  | @s m w c hw _ ih =>
    intro d o
    cases d with
    | zero => simp [hasF, leafF]
    | succ d =>
      show pairF (hasF d) o w c = _
      unfold pairF
      rw [show (wMaybe == w || wMany == w) = true from hw, cond_true, ih]
      simp
theorem ch_parts {w : List Nat} {x : D} (h : sngB w = true) : partsOf (.tup [.str w, x]) = [x] := by
  show cond (sngB w) _ _ = _
  rw [h]; rfl
theorem ch_let {m : Nat} {c : D} (h : Ch m c) : ∀ d, m ≤ d → letF d c = [97] := by
  induction h with
  | a => intro d _; cases d <;> rfl
  | @s m w c hw _ ih =>
    intro d hd
    cases d with
    | zero => omega
    | succ d =>
      show joinL [] ((partsOf (.tup [.str w, c])).map (letF d)) = _
      rw [ch_parts hw]
      show letF d c = _
      exact ih d (by omega)
theorem ch_cnt {m : Nat} {c : D} (h : Ch m c) : ∀ d, m ≤ d → cntF d c = m + 1 := by
  induction h with
  | a => intro d _; cases d <;> rfl
  | @s m w c hw _ ih =>
    intro d hd
    cases d with
    | zero => omega
    | succ d =>
      show 1 + ((partsOf (.tup [.str w, c])).map (cntF d)).sum = _
      rw [ch_parts hw]
      simp only [List.map_cons, List.map_nil, List.sum_cons, List.sum_nil, ih d (by omega)]
      omega
theorem chain_ok {M : Nat} (hM : M ≤ 100000) : ∃ c, Ch M c ∧ callD TT G wf (n + 1) 19 [.int M] = some (.ret false c none) := by
  rw [call_eq (fd := ⟨false, 1, 3, b_law_chain⟩) rfl rfl]
  unfold b_law_chain
  rw [run_f]
  walk_at "di"
  obtain ⟨e', h1, i, c, y, h2, h3, h4, h5⟩ := each_inv (bd := bindTg (.n 2)) (S := exS (callD TT G wf n) G wf (.seq (.asg 1 (.tup (.cons (.ite (.cmp .eq (.bin .sub (.loc 2) (.bin .mul (.lit (.int 2)) (.bin .fdiv (.loc 2) (.lit (.int 2))))) (.lit (.int 0))) (.lit (.str [109,97,121,98,101])) (.lit (.str [109,97,110,121]))) (.cons (.loc 1) .nil))))
   .skip)) (P := fun xs e => ∃ (i : Nat) (c : D) (y : Option (Bool × D)), xs = rangeL i (M - i) ∧ e = [some (false, .int M), some (false, c), y] ∧ Ch i c ∧ i ≤ M)
    (rangeL 0 M) [some (false, .int M), some (false, .str [97]), none] ⟨0, _, none, rfl, rfl, .a, by omega⟩ (fun x xs e ⟨i, c, y, h1, h2, h3, h4⟩ => by
      subst h2
      cases hk : M - i with
      | zero => rw [hk] at h1; cases h1
      | succ k =>
        rw [hk, rangeL] at h1
        injection h1 with hx hxs
        subst hx
        have hxs' : xs = rangeL ((i + 1 : Nat) : Int) (M - (i + 1)) := by rw [hxs]; congr 1; omega
        by_cases hp : (i : Int) - 2 * ((i : Int) / 2) = 0
        · refine ⟨[some (false, .int M), some (false, .tup [.str wMaybe, c]), some (false, .int i)], ?_, i + 1, _, _, hxs', rfl, .s rfl h3, by omega⟩
          walk_at "di"
        · refine ⟨[some (false, .int M), some (false, .tup [.str wMany, c]), some (false, .int i)], ?_, i + 1, _, _, hxs', rfl, .s rfl h3, by omega⟩
          walk_at "di")
  have hi : i = M := by
    cases hk : M - i with
    | zero => omega
    | succ k => rw [hk] at h2; cases h2
  subst hi h3
  refine ⟨c, h4, ?_⟩
  rw [h1]
  walk_at "di"
end Gk01

end
section
namespace Gk01
open DI
variable {wf n : Nat}
def Bad (v : D) : Prop := ∀ d o, hasF d o v = false
theorem cut_1 {α : Type} (x : α) (xs : List α) : cut (x :: xs) (some 1) none = xs := by
  unfold cut clip
  simp
theorem cut_len {α : Type} (xs : List α) (lo hi : Option Int) : (cut xs lo hi).length ≤ xs.length := by
  unfold cut
  rw [List.length_take, List.length_drop]
  omega
theorem bad_one {w : List Nat} {x : D} (hw : sngB w = true) (h : Bad x) : Bad (.tup [.str w, x]) := fun d o => by
  cases d with
  | zero => rfl
  | succ d =>
    show pairF (hasF d) o w x = _
    unfold pairF
    rw [show (wMaybe == w || wMany == w) = true from hw, cond_true, h]
theorem bad_row {w : List Nat} {x : D} {A B : List D} (hw : sngB w = false) (h : Bad x) : Bad (.tup [.str w, .tup (A ++ [x] ++ B)]) := fun d o => by
  cases d with
  | zero => rfl
  | succ d =>
    show pairF (hasF d) o w _ = _
    unfold pairF
    rw [show (wMaybe == w || wMany == w) = false from hw, cond_false]
    cases ((wJoin == w || wOr == w) && !(w == o)) with
    | false => rfl
    | true =>
      show (decide _ && (decide _ && (A ++ [x] ++ B).all (hasF d w))) = false
      rw [List.all_append, List.all_append, List.all_cons, h]
      simp
theorem row_len {d : Nat} {o w : List Nat} {qs : List D} (hw : sngB w = false) (h : hasF (d + 1) o (.tup [.str w, .tup qs]) = true) : 2 ≤ qs.length ∧ qs.length ≤ 200 := by
  have h : pairF (hasF d) o w (.tup qs) = true := h
  unfold pairF at h
  rw [show (wMaybe == w || wMany == w) = false from hw, cond_false] at h
  cases h2 : ((wJoin == w || wOr == w) && !(w == o)) with
  | false => rw [h2] at h; cases h
  | true =>
    rw [h2] at h
    have h : (decide (2 ≤ qs.length) && (decide (qs.length ≤ 200) && qs.all (hasF d w))) = true := h
    simp only [Bool.and_eq_true, decide_eq_true_eq] at h
    exact ⟨h.1, h.2.1⟩
theorem row_parts {w : List Nat} {qs : List D} (h : sngB w = false) : partsOf (.tup [.str w, .tup qs]) = qs := by
  show cond (sngB w) _ _ = _
  rw [h]; rfl
theorem at_ok : ∀ (d : Nat) (e : D) (o : List Nat) (ps : List Int) (v : D), hasF d o e = true → (∀ p ∈ ps, 0 ≤ p) → Bad v → ∃ r, Bad r ∧ callD TT G wf (n + d + 1) 17 [e, .list (ps.map .int), v] = some (.ret false r none) := by
  intro d
  induction d generalizing n with
  | zero =>
    intro e o ps v h hp hv
    refine ⟨v, hv, ?_⟩
    rw [call_eq (fd := ⟨false, 3, 4, b_law_at⟩) rfl rfl]
    unfold b_law_at
    rw [run_f]
    cases e with
    | str s => cases ps <;> walk_at "di"
    | _ => cases h
  | succ d ih =>
    intro e o ps v h hp hv
    have ih' : ∀ (e : D) (o : List Nat) (ps : List Int) (v : D), hasF d o e = true → (∀ p ∈ ps, 0 ≤ p) → Bad v → ∃ r, Bad r ∧ callD TT G wf (n + (d + 1)) 17 [e, .list (ps.map .int), v] = some (.ret false r none) := fun e o ps v a b f => by
      have := ih (n := n) e o ps v a b f
      rw [show n + (d + 1) = n + d + 1 by omega]
      exact this
    obtain ⟨h1, h2⟩ := hasF_exp h
    cases ps with
    | nil =>
      refine ⟨v, hv, ?_⟩
      rw [call_eq (fd := ⟨false, 3, 4, b_law_at⟩) rfl rfl]
      unfold b_law_at
      rw [run_f]
      walk_at "di"
    | cons p ps =>
      have hp0 := hp p List.mem_cons_self
      have hps : ∀ q ∈ ps, 0 ≤ q := fun q hq => hp q (List.mem_cons_of_mem _ hq)
      rw [call_eq (fd := ⟨false, 3, 4, b_law_at⟩) rfl rfl]
      unfold b_law_at
      rw [run_f]
      cases h1 with
      | str s => exact ⟨v, hv, by walk_at "di"⟩
      | @one w x hw =>
        have hw' : (wMaybe == w || wMany == w) = true := hw
        obtain ⟨o', hx⟩ := h2 x (by rw [ch_parts hw]; exact List.mem_singleton_self x)
        obtain ⟨r, hr, hc⟩ := ih' x o' ps v hx hps hv
        refine ⟨_, bad_one hw hr, ?_⟩
        walk_at "di"
        simp only [c_inl (x := .str w) (ys := [.str wMaybe, .str wMany]) rfl, isIn, D.eqv, Bool.or_false, hw']
        walk_at "di"
        simp only [cut_1, hc]
        walk_at "di"
      | @row w qs hw =>
        have hw' : (wMaybe == w || wMany == w) = false := hw
        obtain ⟨l1, l2⟩ := row_len hw h
        have j0 : 0 ≤ p % (qs.length : Int) := Int.emod_nonneg _ (by omega)
        have j1 : p % (qs.length : Int) < qs.length := Int.emod_lt_of_pos _ (by omega)
        generalize hj : p % (qs.length : Int) = j at j0 j1
        obtain ⟨x, hx⟩ : ∃ x, qs[j.toNat]? = some x := ⟨qs[j.toNat]'(by omega), by simp [show j.toNat < qs.length by omega]⟩
        obtain ⟨o', hf⟩ := h2 x (by rw [row_parts hw]; exact List.mem_of_getElem? hx)
        obtain ⟨r, hr, hc⟩ := ih' x o' ps v hf hps hv
        have k1 := cut_len qs none (some j)
        have k2 := cut_len qs (some (j + 1)) none
        refine ⟨_, bad_row (A := cut qs none (some j)) (B := cut qs (some (j + 1)) none) hw hr, ?_⟩
        walk_at "di"
        simp only [c_inl (x := .str w) (ys := [.str wMaybe, .str wMany]) rfl, isIn, D.eqv, Bool.or_false, hw']
        walk_at "di"
        simp only [hj]
        simp only [hx]
        walk_at "di"
        simp only [cut_1, hc]
        walk_at "di"
end Gk01

end
section
namespace Gk01
open DI
variable {wf n : Nat}
def wrongs : List D := [.none, .bool true, .int 7, .str [101], .str [65], .str [97,98], .str [32], .list [.str wJoin, .tup [.str [97], .str [98]]], .tup [.str wJoin, .list [.str [97], .str [98]]], .tup [.str wJoin, .tup [.str [97]]], .tup [.str wOr, .tup []], .tup [.str wOr, .tup [.str [97]]],
  .tup [.str wJoin, .tup [.str [97], .str [98]], .int 0], .tup [.str wJoin], .tup [.str wMaybe], .tup [.str wMaybe, .str [97], .str [98]], .tup [.str wMany, .tup [.str [97]]], .tup [.str [97,108,108], .tup [.str [97], .str [98]]],
  .tup [.str wJoin, .tup [.tup [.str wJoin, .tup [.str [97], .str [98]]], .str [99]]], .tup [.str wJoin, .tup [.str [99], .tup [.str wJoin, .tup [.str [97], .str [98]]]]], .tup [.str wOr, .tup [.str [97], .tup [.str wOr, .tup [.str [98], .str [99]]]]],
  .tup [.str wOr, .tup [.tup [.str wOr, .tup [.str [97], .str [98]]], .str [99], .str [100]]], .tup [.str wMaybe, .none], .tup [.str wMany, .str [101]], .tup [.none, .str [97]], .tup [.str wJoin, .tup [.str [97], .none]], .tup [.str wOr, .tup [.int 1, .str [97]]], .tup [.str wJoin, .str [97,98]], .tup []]
theorem wrongs_bad : ∀ x ∈ wrongs, Bad x := by
  intro x hx d o
  simp only [wrongs, List.mem_cons, List.not_mem_nil, or_false] at hx
  rcases d with _ | _ | _ | d <;> rcases hx with rfl | rfl | rfl | rfl | rfl | rfl | rfl | rfl | rfl | rfl | rfl | rfl | rfl | rfl | rfl | rfl | rfl | rfl | rfl | rfl | rfl | rfl | rfl | rfl | rfl | rfl | rfl | rfl | rfl <;>
    simp [hasF, stepF, pairF, partsF, leafF]
theorem wrong_ok {s : D} (hs : St s) : ∃ r s', Bad r ∧ St s' ∧ callD TT G wf (n + 3) 18 [s] = some (.ret false r (some s')) := by
  obtain ⟨x, s', hx, hs', hc⟩ := pick_ok (wf := wf) (n := n) (rows := wrongs) hs (by decide) (by decide)
  refine ⟨x, s', wrongs_bad x hx, hs', ?_⟩
  rw [call_eq (fd := ⟨true, 1, 1, b_law_wrong⟩) rfl rfl]
  unfold b_law_wrong
  rw [run_t]
  unfold wrongs at hc
  walk_at "di"
  simp only [hc]
  walk_at "di"
end Gk01

end
section
namespace Gk01
open DI
variable {wf n : Nat}
def bnd : Nat → Int
  | 0 => 1
  | d + 1 => 1 + 3 * bnd d
/-- a drawn expression: of depth d, within a row o, at most r letters -/
structure Gr (d : Nat) (o : List Nat) (r : Int) (t : D) : Prop where
  form : hasF d o t = true
  lets : ((letF d t).length : Int) ≤ r
  cnt : cntF d t ≤ bnd d
theorem bnd_pos : ∀ d, 1 ≤ bnd d
  | 0 => by decide
  | d + 1 => by have := bnd_pos d; unfold bnd; omega
theorem gr_leaf {s : List Nat} (h : leafF (.str s) = true) (d : Nat) (o : List Nat) {r : Int} (hr : (s.length : Int) ≤ r) : Gr d o r (.str s) := by
  refine ⟨hasF_leaf h, ?_, ?_⟩
  · cases d <;> exact hr
  · cases d with
    | zero => exact Int.le_refl _
    | succ d =>
      show 1 + ((partsOf (.str s)).map (cntF d)).sum ≤ _
      rw [parts_leaf h]
      have := bnd_pos d
      simp only [List.map_nil, List.sum_nil, bnd]
      omega
theorem gr_one {w : List Nat} {x : D} {d : Nat} {r : Int} (o : List Nat) (hw : sngB w = true) (h : Gr d [] r x) : Gr (d + 1) o r (.tup [.str w, x]) := by
  refine ⟨?_, ?_, ?_⟩
  · show pairF (hasF d) o w x = _
    unfold pairF
    rw [show (wMaybe == w || wMany == w) = true from hw, cond_true, h.form]
  · show ((joinL [] ((partsOf (.tup [.str w, x])).map (letF d))).length : Int) ≤ r
    rw [ch_parts hw]
    exact h.lets
  · show 1 + ((partsOf (.tup [.str w, x])).map (cntF d)).sum ≤ _
    rw [ch_parts hw]
    have := h.cnt
    have := bnd_pos d
    simp only [List.map_cons, List.map_nil, List.sum_cons, List.sum_nil, bnd]
    omega
def lsum (d : Nat) (ts : List D) : Int := (ts.map fun t => ((letF d t).length : Int)).sum
theorem join_sum (d : Nat) : ∀ ts : List D, ((joinL [] (ts.map (letF d))).length : Int) = lsum d ts
  | [] => rfl
  | [t] => by simp [lsum, joinL]
  | t :: u :: ts => by
    have := join_sum d (u :: ts)
    simp only [List.map_cons, joinL, List.length_append, List.length_nil] at this ⊢
    simp only [lsum, List.map_cons, List.sum_cons] at this ⊢
    omega
theorem cnt_sum (d : Nat) : ∀ ts : List D, (∀ t ∈ ts, cntF d t ≤ bnd d) → (ts.map (cntF d)).sum ≤ ts.length * bnd d
  | [], _ => by simp
  | t :: ts, h => by
    have h1 := h t List.mem_cons_self
    have h2 := cnt_sum d ts fun u hu => h u (List.mem_cons_of_mem _ hu)
    simp only [List.map_cons, List.sum_cons, List.length_cons]
    rw [show ((ts.length + 1 : Nat) : Int) * bnd d = ts.length * bnd d + bnd d by rw [Int.natCast_add, Int.add_mul]; simp]
    omega
theorem gr_row {w o : List Nat} {d : Nat} {ts : List D} {r : Int} (hw : w = wJoin ∨ w = wOr) (ho : (w == o) = false) (h1 : 2 ≤ ts.length) (h2 : ts.length ≤ 3) (hf : ∀ t ∈ ts, hasF d w t = true) (hc : ∀ t ∈ ts, cntF d t ≤ bnd d) (hl : lsum d ts ≤ r) : Gr (d + 1) o r (.tup [.str w, .tup ts]) := by
  have hs : sngB w = false := by rcases hw with rfl | rfl <;> rfl
  refine ⟨?_, ?_, ?_⟩
  · show pairF (hasF d) o w (.tup ts) = _
    unfold pairF
    rw [show (wMaybe == w || wMany == w) = false from hs, cond_false, ho, show (wJoin == w || wOr == w) = true by rcases hw with rfl | rfl <;> rfl]
    show (decide (2 ≤ ts.length) && (decide (ts.length ≤ 200) && ts.all (hasF d w))) = true
    rw [decide_eq_true h1, decide_eq_true (by omega), List.all_eq_true.mpr hf]
    rfl
  · show ((joinL [] ((partsOf (.tup [.str w, .tup ts])).map (letF d))).length : Int) ≤ r
    rw [row_parts hs, join_sum]
    exact hl
  · show 1 + ((partsOf (.tup [.str w, .tup ts])).map (cntF d)).sum ≤ _
    rw [row_parts hs]
    have q := cnt_sum d ts hc
    have hb := bnd_pos d
    have : (ts.length : Int) * bnd d ≤ 3 * bnd d := Int.mul_le_mul_of_nonneg_right (by omega) (by omega)
    simp only [bnd]
    omega
end Gk01

end
section
namespace Gk01
open DI
variable {wf n : Nat}
def Ls (ls : List Nat) : Prop := 0 < ls.length ∧ ls.length < 100 ∧ ∀ c ∈ ls, leafF (.str [c]) = true
def bLeaf : Sm := .seq (.ret (.ite (.and (.cons (.cmp .gt (.loc 2) (.lit (.int 0))) (.cons (.cmp .gt (.callIO 9 false 0 (.cons (.lit (.int 8)) .nil)) (.lit (.int 0))) .nil))) (.callIO 12 false 0 (.cons (.bi .list (.cons (.loc 1) .nil)) .nil)) (.lit (.str []))))
   .skip
def bTurn : Sm := .seq (.asg 11 (.ite (.cmp .eq (.bin .add (.loc 10) (.lit (.int 1))) (.loc 7)) (.loc 8) (.callIO 9 false 0 (.cons (.bin .add (.loc 8) (.lit (.int 1))) .nil))))
   (.seq (.asg 8 (.bin .sub (.loc 8) (.loc 11)))
   (.seq (.ex (.mu .append 9 (.cons (.callIO 13 false 0 (.cons (.loc 1) (.cons (.loc 11) (.cons (.bin .sub (.loc 3) (.lit (.int 1))) (.cons (.loc 6) .nil))))) .nil)))
   .skip))
def bRow : Sm := .seq (.asg 7 (.bin .add (.lit (.int 2)) (.callIO 9 false 0 (.cons (.lit (.int 2)) .nil))))
  (.seq (.asg 8 (.loc 2))
  (.seq (.asg 9 (.lst .nil))
  (.seq (.each (.n 10) (.bi .range (.cons (.loc 7) .nil)) bTurn)
  (.seq (.ret (.tup (.cons (.loc 6) (.cons (.bi .tuple (.cons (.loc 9) .nil)) .nil))))
  .skip))))
def bWord : Sm := .seq (.asg 6 (.callIO 12 false 0 (.cons (.lst (.cons (.lit (.str [106,111,105,110])) (.cons (.lit (.str [111,114])) .nil))) .nil)))
  (.seq (.ifs (.cmp .eq (.loc 6) (.loc 4))
   (.seq (.asg 6 (.ite (.cmp .eq (.loc 4) (.lit (.str [106,111,105,110]))) (.lit (.str [111,114])) (.lit (.str [106,111,105,110]))))
   .skip)
   .skip) bRow)
def bRest : Sm := .seq (.ifs (.cmp .lt (.loc 5) (.lit (.int 4)))
   (.seq (.ret (.tup (.cons (.callIO 12 false 0 (.cons (.lst (.cons (.lit (.str [109,97,121,98,101])) (.cons (.lit (.str [109,97,110,121])) .nil))) .nil)) (.cons (.callIO 13 false 0 (.cons (.loc 1) (.cons (.loc 2) (.cons (.bin .sub (.loc 3) (.lit (.int 1))) (.cons (.lit (.str [])) .nil))))) .nil))))
   .skip)
   .skip) bWord
theorem grown_eq : b_law_grown = .seq (.asg 5 (.callIO 9 false 0 (.cons (.lit (.int 8)) .nil)))
  (.seq (.ifs (.or (.cons (.cmp .eq (.loc 3) (.lit (.int 0))) (.cons (.cmp .eq (.loc 2) (.lit (.int 0))) (.cons (.cmp .eq (.loc 5) (.lit (.int 0))) .nil)))) bLeaf .skip) bRest) := rfl
theorem leaf_run {m d : Nat} {s : D} {ls o : List Nat} {r p : Int} (hs : St s) (hl : Ls ls) (h0 : 0 ≤ r) : ∃ t s' e', Gr d o r t ∧ St s' ∧ exS (callD TT G wf (m + 2)) G wf bLeaf [some (true, s), some (false, .str ls), some (false, .int r), some (false, .int d), some (false, .str o), some (false, .int p), none, none, none, none, none, none] = .rt false t e' ∧ getS e' 0 = some (true, s') := by
  unfold bLeaf
  by_cases hr : 0 < r
  · obtain ⟨q, s2, q0, q1, hs2, hc⟩ := next_ok (wf := wf) (n := m + 1) (m := 8) hs (by omega) (by omega)
    have hc : callD TT G wf (m + 2) 9 [s, .int 8] = _ := hc
    by_cases hq : 0 < q
    · obtain ⟨x, s3, hx, hs3, hc3⟩ := pick_ok (wf := wf) (n := m) (rows := ls.map fun c => D.str [c]) hs2 (by rw [List.length_map]; exact hl.1) (by rw [List.length_map]; have := hl.2.1; omega)
      obtain ⟨c, hcm, rfl⟩ := List.mem_map.mp hx
      refine ⟨_, s3, [some (true, s3), some (false, .str ls), some (false, .int r), some (false, .int d), some (false, .str o), some (false, .int p), none, none, none, none, none, none], gr_leaf (hl.2.2 c hcm) d o (by simp; omega), hs3, ?_, rfl⟩
      walk_at "di"
      simp only [hc]
      walk_at "di"
      simp only [hc3]
      walk_at "di"
    · refine ⟨_, s2, [some (true, s2), some (false, .str ls), some (false, .int r), some (false, .int d), some (false, .str o), some (false, .int p), none, none, none, none, none, none], gr_leaf (s := []) rfl d o (by simpa using h0), hs2, ?_, rfl⟩
      walk_at "di"
      simp only [hc]
      walk_at "di"
  · refine ⟨_, s, [some (true, s), some (false, .str ls), some (false, .int r), some (false, .int d), some (false, .str o), some (false, .int p), none, none, none, none, none, none], gr_leaf (s := []) rfl d o (by simpa using h0), hs, ?_, rfl⟩
    walk_at "di"
theorem lsum_app (d : Nat) (ts : List D) (t : D) : lsum d (ts ++ [t]) = lsum d ts + (letF d t).length := by simp [lsum]
theorem row_run {F : CallF} {d : Nat} {s : D} {ls o w : List Nat} {r p : Int} (nx : ∀ (s : D) (m : Int), St s → 0 < m → m < 1000000 → ∃ (p : Int) (s' : D), 0 ≤ p ∧ p < m ∧ St s' ∧ F 9 [s, .int m] = some (.ret false (.int p) (some s')))
    (gr : ∀ (s : D) (r : Int) (o : List Nat), St s → 0 ≤ r → r ≤ 8 → ∃ t s', Gr d o r t ∧ St s' ∧ F 13 [s, .str ls, .int r, .int d, .str o] = some (.ret false t (some s')))
    (hs : St s) (h0 : 0 ≤ r) (h8 : r ≤ 8) (hw : w = wJoin ∨ w = wOr) (ho : (w == o) = false) : ∃ t s' e', Gr (d + 1) o r t ∧ St s' ∧ exS F G wf bRow [some (true, s), some (false, .str ls), some (false, .int r), some (false, .int (d + 1 : Nat)), some (false, .str o), some (false, .int p), some (false, .str w), none, none, none, none, none] = .rt false t e' ∧ getS e' 0 = some (true, s') := by
  have hd : ((d + 1 : Nat) : Int) - 1 = d := by omega
  obtain ⟨q, s1, q0, q1, hs1, hc⟩ := nx s 2 hs (by omega) (by omega)
  obtain ⟨M, hM⟩ := Int.eq_ofNat_of_zero_le (show 0 ≤ 2 + q by omega)
  have hM2 : 2 ≤ M := by omega
  have hM3 : M ≤ 3 := by omega
  obtain ⟨e', h1, k, s2, left, ts, x, y, h2, h3, h4, h5, h6, h7, h8', h9, h10⟩ := each_inv (bd := bindTg (.n 10)) (S := exS F G wf bTurn)
    (P := fun xs e => ∃ (k : Nat) (s : D) (left : Int) (ts : List D) (x y : Option (Bool × D)), xs = rangeL k (M - k) ∧ e = [some (true, s), some (false, .str ls), some (false, .int r), some (false, .int (d + 1 : Nat)), some (false, .str o), some (false, .int p), some (false, .str w), some (false, .int (M : Nat)), some (false, .int left), some (true, .list ts), x, y] ∧ St s ∧ ts.length = k ∧ k ≤ M ∧ 0 ≤ left ∧ lsum d ts + left ≤ r ∧ (∀ t ∈ ts, hasF d w t = true) ∧ ∀ t ∈ ts, cntF d t ≤ bnd d)
    (rangeL 0 M) [some (true, s1), some (false, .str ls), some (false, .int r), some (false, .int (d + 1 : Nat)), some (false, .str o), some (false, .int p), some (false, .str w), some (false, .int (M : Nat)), some (false, .int r), some (true, .list []), none, none]
    ⟨0, s1, r, [], none, none, rfl, rfl, hs1, rfl, by omega, h0, by simp [lsum], (fun t h => by cases h), (fun t h => by cases h)⟩ (fun x xs e ⟨k, s, left, ts, x1, y1, h1, h2, h3, h4, h5, h6, h7, h8', h9⟩ => by
      subst h2
      cases hk : M - k with
      | zero => rw [hk] at h1; cases h1
      | succ k' =>
        rw [hk, rangeL] at h1
        injection h1 with hx hxs
        subst hx
        have hxs' : xs = rangeL ((k + 1 : Nat) : Int) (M - (k + 1)) := by rw [hxs]; congr 1; omega
        have hls : 0 ≤ lsum d ts := by rw [← join_sum]; omega
        have nex : ∀ {s' : D} {left' : Int} {t : D} {x y : Option (Bool × D)} {share : Int}, St s' → left' = left - share → 0 ≤ left' → Gr d w share t → ∃ e2 : Env, e2 = [some (true, s'), some (false, .str ls), some (false, .int r), some (false, .int (d + 1 : Nat)), some (false, .str o), some (false, .int p), some (false, .str w), some (false, .int (M : Nat)), some (false, .int left'), some (true, .list (ts ++ [t])), x, y] ∧ ∃ (k : Nat) (s : D) (left : Int) (ts : List D) (x y : Option (Bool × D)), xs = rangeL k (M - k) ∧ e2 = [some (true, s), some (false, .str ls), some (false, .int r), some (false, .int (d + 1 : Nat)), some (false, .str o), some (false, .int p), some (false, .str w), some (false, .int (M : Nat)), some (false, .int left), some (true, .list ts), x, y] ∧ St s ∧ ts.length = k ∧ k ≤ M ∧ 0 ≤ left ∧ lsum d ts + left ≤ r ∧ (∀ t ∈ ts, hasF d w t = true) ∧ ∀ t ∈ ts, cntF d t ≤ bnd d :=
          fun {s' left' t x y share} a b c g => by
            refine ⟨_, rfl, k + 1, s', left', ts ++ [t], x, y, hxs', rfl, a, by simp [h4], by omega, c, ?_, fun u hu => ?_, fun u hu => ?_⟩
            · rw [lsum_app]
              have := g.lets
              omega
            · rcases List.mem_append.mp hu with hu | hu
              · exact h8' u hu
              · rw [List.mem_singleton] at hu; subst hu; exact g.form
            · rcases List.mem_append.mp hu with hu | hu
              · exact h9 u hu
              · rw [List.mem_singleton] at hu; subst hu; exact g.cnt
        by_cases hl : k + 1 = M
        · obtain ⟨t, s', hg, hs', hct⟩ := gr s left w h3 h6 (by omega)
          obtain ⟨e2, he2, hP⟩ := nex (x := some (false, .int k)) (y := some (false, .int left)) hs' rfl (by omega) hg
          refine ⟨e2, ?_, hP⟩
          unfold bTurn
          walk_at "di"
          simp only [hd, hct]
          walk_at "di"
          rw [he2]
        · obtain ⟨sh, s3, sh0, sh1, hs3, hcn⟩ := nx s (left + 1) h3 (by omega) (by omega)
          obtain ⟨t, s', hg, hs', hct⟩ := gr s3 sh w hs3 sh0 (by omega)
          obtain ⟨e2, he2, hP⟩ := nex (x := some (false, .int k)) (y := some (false, .int sh)) hs' rfl (by omega) hg
          refine ⟨e2, ?_, hP⟩
          unfold bTurn
          walk_at "di"
          simp only [hcn]
          walk_at "di"
          simp only [hd, hct]
          walk_at "di"
          rw [he2])
  have hk : k = M := by
    cases hk : M - k with
    | zero => omega
    | succ z => rw [hk] at h2; cases h2
  subst hk h3
  refine ⟨_, s2, [some (true, s2), some (false, .str ls), some (false, .int r), some (false, .int (d + 1 : Nat)), some (false, .str o), some (false, .int p), some (false, .str w), some (false, .int (k : Nat)), some (false, .int left), some (true, .list ts), x, y], gr_row (ts := ts) hw ho (by omega) (by omega) h9 h10 (by omega), h4, ?_, rfl⟩
  unfold bRow
  walk_at "di"
  simp only [hc]
  walk_at "di"
  simp only [hM]
  walk_at "di"
  rw [h1]
  walk_at "di"
theorem grown_ok : ∀ (d : Nat) (s : D) (ls : List Nat) (r : Int) (o : List Nat), St s → Ls ls → 0 ≤ r → r ≤ 8 → ∃ t s', Gr d o r t ∧ St s' ∧ callD TT G wf (n + d + 3) 13 [s, .str ls, .int r, .int d, .str o] = some (.ret false t (some s')) := by
  intro d
  induction d generalizing n with
  | zero =>
    intro s ls r o hs hl h0 h8
    rw [call_eq (fd := ⟨true, 5, 12, b_law_grown⟩) rfl rfl, grown_eq, run_t]
    obtain ⟨p, s1, p0, p1, hs1, hc⟩ := next_ok (wf := wf) (n := n + 1) (m := 8) hs (by omega) (by omega)
    have hc : callD TT G wf (n + 0 + 2) 9 [s, .int 8] = _ := hc
    obtain ⟨t, s', e', hg, hs', hf, he⟩ := leaf_run (wf := wf) (m := n + 0) (d := 0) (o := o) (p := p) hs1 hl h0
    refine ⟨t, s', hg, hs', ?_⟩
    walk_at "di"
    simp only [hc]
    walk_at "di"
    simp only [hf]
    walk_at "di"
    simp only [he]
    walk_at "di"
  | succ d ih =>
    intro s ls r o hs hl h0 h8
    have hd : ((d + 1 : Nat) : Int) - 1 = d := by omega
    have ih' : ∀ (s : D) (r : Int) (o : List Nat), St s → 0 ≤ r → r ≤ 8 → ∃ t s', Gr d o r t ∧ St s' ∧ callD TT G wf (n + (d + 1) + 2) 13 [s, .str ls, .int r, .int d, .str o] = some (.ret false t (some s')) := fun s r o a b c => by
      have := ih (n := n) s ls r o a hl b c
      rw [show n + (d + 1) + 2 = n + d + 3 by omega]
      exact this
    have nx : ∀ (s : D) (m : Int), St s → 0 < m → m < 1000000 → ∃ (p : Int) (s' : D), 0 ≤ p ∧ p < m ∧ St s' ∧ callD TT G wf (n + (d + 1) + 2) 9 [s, .int m] = some (.ret false (.int p) (some s')) := fun s m a b c => next_ok (wf := wf) (n := n + (d + 1) + 1) a b c
    rw [call_eq (fd := ⟨true, 5, 12, b_law_grown⟩) rfl rfl, grown_eq, run_t]
    obtain ⟨p, s1, p0, p1, hs1, hc⟩ := nx s 8 hs (by omega) (by omega)
    by_cases hz : r = 0 ∨ p = 0
    · obtain ⟨t, s', e', hg, hs', hf, he⟩ := leaf_run (wf := wf) (m := n + (d + 1)) (d := d + 1) (o := o) (p := p) hs1 hl h0
      refine ⟨t, s', hg, hs', ?_⟩
      walk_at "di"
      simp only [hc]
      by_cases hr : r = 0
      · walk_at "di"
        simp only [hf]
        walk_at "di"
        simp only [he]
        walk_at "di"
      · walk_at "di"
        simp only [hf]
        walk_at "di"
        simp only [he]
        walk_at "di"
    · have hr0 : ¬ r = 0 := fun z => hz (.inl z)
      have hp0 : ¬ p = 0 := fun z => hz (.inr z)
      by_cases h4 : p < 4
      · obtain ⟨x, s2, hx, hs2, hcx⟩ := pick_ok (wf := wf) (n := n + (d + 1)) (rows := [.str wMaybe, .str wMany]) hs1 (by decide) (by decide)
        obtain ⟨t, s', hg, hs', hct⟩ := ih' s2 r [] hs2 h0 h8
        obtain ⟨w, rfl, hw⟩ : ∃ w, x = .str w ∧ sngB w = true := by
          simp only [List.mem_cons, List.not_mem_nil, or_false] at hx
          rcases hx with rfl | rfl
          · exact ⟨_, rfl, rfl⟩
          · exact ⟨_, rfl, rfl⟩
        refine ⟨_, s', gr_one o hw hg, hs', ?_⟩
        walk_at "di"
        simp only [hc]
        unfold bRest
        walk_at "di"
        simp only [hcx]
        walk_at "di"
        simp only [hd, hct]
        walk_at "di"
      · obtain ⟨x, s2, hx, hs2, hcx⟩ := pick_ok (wf := wf) (n := n + (d + 1)) (rows := [.str wJoin, .str wOr]) hs1 (by decide) (by decide)
        obtain ⟨w, rfl, hw⟩ : ∃ w, x = .str w ∧ (w = wJoin ∨ w = wOr) := by
          simp only [List.mem_cons, List.not_mem_nil, or_false] at hx
          rcases hx with rfl | rfl
          · exact ⟨_, rfl, .inl rfl⟩
          · exact ⟨_, rfl, .inr rfl⟩
        cases ho : (w == o) with
        | false =>
          obtain ⟨t, s', e', hg, hs', hf, he⟩ := row_run (wf := wf) (F := callD TT G wf (n + (d + 1) + 2)) (ls := ls) (p := p) (o := o) nx ih' hs2 h0 h8 hw ho
          refine ⟨t, s', hg, hs', ?_⟩
          walk_at "di"
          simp only [hc]
          unfold bRest
          walk_at "di"
          unfold bWord
          walk_at "di"
          simp only [hcx]
          walk_at "di"
          simp only [ho]
          walk_at "di"
          simp only [hf]
          walk_at "di"
          simp only [he]
          walk_at "di"
        | true =>
          have hwo : o = w := (eq_of_beq ho).symm
          subst hwo
          rcases hw with rfl | rfl
          · obtain ⟨t, s', e', hg, hs', hf, he⟩ := row_run (wf := wf) (F := callD TT G wf (n + (d + 1) + 2)) (ls := ls) (p := p) (o := wJoin) (w := wOr) nx ih' hs2 h0 h8 (.inr rfl) rfl
            refine ⟨t, s', hg, hs', ?_⟩
            walk_at "di"
            simp only [hc]
            unfold bRest
            walk_at "di"
            unfold bWord
            walk_at "di"
            simp only [hcx]
            walk_at "di"
            simp only [hf]
            walk_at "di"
            simp only [he]
            walk_at "di"
          · obtain ⟨t, s', e', hg, hs', hf, he⟩ := row_run (wf := wf) (F := callD TT G wf (n + (d + 1) + 2)) (ls := ls) (p := p) (o := wOr) (w := wJoin) nx ih' hs2 h0 h8 (.inl rfl) rfl
            refine ⟨t, s', hg, hs', ?_⟩
            walk_at "di"
            simp only [hc]
            unfold bRest
            walk_at "di"
            unfold bWord
            walk_at "di"
            simp only [hcx]
            walk_at "di"
            simp only [hf]
            walk_at "di"
            simp only [he]
            walk_at "di"
end Gk01

end
section
namespace Gk01
open DI
variable {wf n : Nat}
theorem up : ∀ (d : Nat) (o : List Nat) (t : D), hasF d o t = true → hasF (d + 1) o t = true ∧ letF (d + 1) t = letF d t ∧ cntF (d + 1) t = cntF d t := by
  intro d
  induction d with
  | zero =>
    intro o t h
    have h : leafF t = true := h
    refine ⟨hasF_leaf h, ?_, ?_⟩
    · cases t <;> first | rfl | cases h
    · show 1 + ((partsOf t).map (cntF 0)).sum = 1
      rw [parts_leaf h]; rfl
  | succ d ih =>
    intro o t h
    obtain ⟨h1, h2⟩ := hasF_exp h
    have h2 : ∀ x ∈ partsOf t, ∃ o', hasF d o' x = true := h2
    refine ⟨?_, ?_, ?_⟩
    · cases h1 with
      | str s => exact hasF_leaf (show leafF (.str s) = true from h)
      | @one w x hw =>
        have h : pairF (hasF d) o w x = true := h
        show pairF (hasF (d + 1)) o w x = true
        unfold pairF at h ⊢
        rw [show (wMaybe == w || wMany == w) = true from hw, cond_true] at h ⊢
        exact (ih [] x h).1
      | @row w ps hw =>
        have h : pairF (hasF d) o w (.tup ps) = true := h
        show pairF (hasF (d + 1)) o w (.tup ps) = true
        unfold pairF at h ⊢
        rw [show (wMaybe == w || wMany == w) = false from hw, cond_false] at h ⊢
        cases h3 : ((wJoin == w || wOr == w) && !(w == o)) with
        | false => rw [h3] at h; cases h
        | true =>
          rw [h3] at h
          have h : (decide (2 ≤ ps.length) && (decide (ps.length ≤ 200) && ps.all (hasF d w))) = true := h
          show (decide (2 ≤ ps.length) && (decide (ps.length ≤ 200) && ps.all (hasF (d + 1) w))) = true
          simp only [Bool.and_eq_true, List.all_eq_true] at h ⊢
          exact ⟨h.1, h.2.1, fun x hx => (ih w x (h.2.2 x hx)).1⟩
    · show (strF t).getD (joinL [] ((partsOf t).map (letF (d + 1)))) = (strF t).getD (joinL [] ((partsOf t).map (letF d)))
      rw [List.map_congr_left fun x hx => by obtain ⟨o', h3⟩ := h2 x hx; exact (ih o' x h3).2.1]
    · show 1 + ((partsOf t).map (cntF (d + 1))).sum = 1 + ((partsOf t).map (cntF d)).sum
      rw [List.map_congr_left fun x hx => by obtain ⟨o', h3⟩ := h2 x hx; exact (ih o' x h3).2.2]
theorem ups {d : Nat} {o : List Nat} {t : D} (h : hasF d o t = true) : ∀ k, hasF (d + k) o t = true ∧ letF (d + k) t = letF d t ∧ cntF (d + k) t = cntF d t
  | 0 => ⟨h, rfl, rfl⟩
  | k + 1 => by
    obtain ⟨a, b, c⟩ := ups h k
    obtain ⟨a', b', c'⟩ := up _ _ _ a
    exact ⟨a', b'.trans b, c'.trans c⟩
theorem gr_up {d e : Nat} {o : List Nat} {r : Int} {t : D} (g : Gr d o r t) (h : d ≤ e) : hasF e o t = true ∧ ((letF e t).length : Int) ≤ r ∧ cntF e t ≤ bnd d ∧ cntF e t = cntF d t := by
  obtain ⟨a, b, c⟩ := ups g.form (e - d)
  rw [show d + (e - d) = e by omega] at a b c
  exact ⟨a, by rw [b]; exact g.lets, by rw [c]; exact g.cnt, c⟩
theorem grown_up {d : Nat} (hd : d ≤ 4) {s : D} {ls o : List Nat} {r : Int} (hs : St s) (hl : Ls ls) (h0 : 0 ≤ r) (h8 : r ≤ 8) : ∃ t s', Gr d o r t ∧ St s' ∧ callD TT G wf (n + 7) 13 [s, .str ls, .int r, .int d, .str o] = some (.ret false t (some s')) := by
  have := grown_ok (wf := wf) (n := n + (4 - d)) d s ls r o hs hl h0 h8
  rw [show n + (4 - d) + d + 3 = n + 7 by omega] at this
  exact this
theorem expr_ok {s : D} (hs : St s) : ∃ d t s', d ≤ 4 ∧ Gr d [] 8 t ∧ St s' ∧ callD TT G wf (n + 8) 14 [s, .int 8] = some (.ret false t (some s')) := by
  rw [call_eq (fd := ⟨true, 2, 3, b_law_expression⟩) rfl rfl]
  unfold b_law_expression
  rw [run_t]
  obtain ⟨x, s1, hx, hs1, hc1⟩ := pick_ok (wf := wf) (n := n + 5) (rows := [.str [97,98], .str [97,98], .str [97,98,99], .str [99,100], .str [100,98,97], .str [97,98,99,100]]) hs (by decide) (by decide)
  obtain ⟨ls, rfl, hl⟩ : ∃ ls, x = .str ls ∧ Ls ls := by
    simp only [List.mem_cons, List.not_mem_nil, or_false] at hx
    rcases hx with rfl | rfl | rfl | rfl | rfl | rfl <;> exact ⟨_, rfl, by decide, by decide, by decide⟩
  obtain ⟨p, s2, p0, p1, hs2, hc2⟩ := next_ok (wf := wf) (n := n + 6) (m := 8) hs1 (by omega) (by omega)
  obtain ⟨q, s3, q0, q1, hs3, hc3⟩ := next_ok (wf := wf) (n := n + 6) (m := 4) hs2 (by omega) (by omega)
  obtain ⟨d, hd⟩ := Int.eq_ofNat_of_zero_le (show 0 ≤ 1 + q by omega)
  obtain ⟨t, s', hg, hs', hc4⟩ := grown_up (wf := wf) (n := n) (d := d) (by omega) (o := []) (r := 1 + p) hs3 hl (by omega) (by omega)
  refine ⟨d, t, s', by omega, ⟨hg.form, Int.le_trans hg.lets (by omega), hg.cnt⟩, hs', ?_⟩
  walk_at "di"
  simp only [hc1]
  walk_at "di"
  simp only [hc2]
  walk_at "di"
  simp only [hc3]
  walk_at "di"
  simp only [hd, hc4]
  walk_at "di"
end Gk01

end
section
namespace Gk01
open DI
variable {wf n : Nat}
theorem hasF_row {d : Nat} {w : List Nat} {ps : List D} (hw : w = wJoin ∨ w = wOr) (hl : ∀ p ∈ ps, leafF p = true) : hasF (d + 1) [] (.tup [.str w, .tup ps]) = (decide (2 ≤ ps.length) && decide (ps.length ≤ 200)) := by
  show pairF (hasF d) [] w (.tup ps) = _
  unfold pairF
  have hs : (wMaybe == w || wMany == w) = false := by rcases hw with rfl | rfl <;> rfl
  have h2 : ((wJoin == w || wOr == w) && !(w == ([] : List Nat))) = true := by rcases hw with rfl | rfl <;> rfl
  rw [hs, h2, cond_false, cond_true]
  show (decide (2 ≤ ps.length) && (decide (ps.length ≤ 200) && ps.all (hasF d w))) = _
  rw [List.all_eq_true.mpr fun p hp => hasF_leaf (hl p hp), Bool.and_true]
theorem cnt_row {d : Nat} {w : List Nat} {ps : List D} (hw : w = wJoin ∨ w = wOr) (hl : ∀ p ∈ ps, leafF p = true) : cntF (d + 1) (.tup [.str w, .tup ps]) = ps.length + 1 := by
  show 1 + ((partsOf (.tup [.str w, .tup ps])).map (cntF d)).sum = _
  rw [row_parts (by rcases hw with rfl | rfl <;> rfl)]
  have : ∀ p ∈ ps, cntF d p = 1 := fun p hp => by
    cases d with
    | zero => rfl
    | succ d =>
      show 1 + ((partsOf p).map (cntF d)).sum = 1
      rw [parts_leaf (hl p hp)]; rfl
  have key : ∀ ps : List D, (∀ p ∈ ps, cntF d p = 1) → (ps.map (cntF d)).sum = ps.length := fun ps => by
    induction ps with
    | nil => intro _; rfl
    | cons p ps ih =>
      intro h
      rw [List.map_cons, List.sum_cons, ih fun q hq => h q (List.mem_cons_of_mem _ hq), h p List.mem_cons_self, List.length_cons]
      omega
  rw [key ps this]
  omega
theorem let_leaf {d : Nat} {s : List Nat} : letF d (.str s) = s := by cases d <;> rfl
theorem let_row {d : Nat} {w : List Nat} {ps : List D} (hw : w = wJoin ∨ w = wOr) : ((letF (d + 1) (.tup [.str w, .tup ps])).length : Int) = lsum d ps := by
  show ((joinL [] ((partsOf (.tup [.str w, .tup ps])).map (letF d))).length : Int) = _
  rw [row_parts (by rcases hw with rfl | rfl <;> rfl), join_sum]
theorem lsum_signs (d : Nat) : ∀ cs : List Nat, lsum d (cs.map fun c => .str [c]) = cs.length
  | [] => rfl
  | c :: cs => by
    have := lsum_signs d cs
    simp only [lsum, List.map_cons, List.sum_cons, let_leaf, List.length_cons, List.length_nil] at this ⊢
    omega
theorem lsum_none (d : Nat) : ∀ m : Nat, lsum d (List.replicate m (.str [])) = 0
  | 0 => rfl
  | m + 1 => by
    have := lsum_none d m
    simp only [lsum, List.replicate_succ, List.map_cons, List.sum_cons, let_leaf, List.length_nil] at this ⊢
    omega
/-- the row with k letters -/
theorem isF_signs {d m p : Nat} {cs : List Nat} (hc : ∀ c ∈ cs, leafF (.str [c]) = true) (h1 : 1 ≤ cs.length) (h2 : cs.length ≤ 100) : isF (d + 1) m p (.tup [.str wOr, .tup (.str [] :: cs.map fun c => .str [c])]) = (decide (cs.length ≤ m) && decide (cs.length + 2 ≤ p)) := by
  have hl : ∀ q ∈ (.str [] :: cs.map fun c => D.str [c]), leafF q = true := fun q hq => by
    rcases List.mem_cons.mp hq with rfl | hq
    · rfl
    · obtain ⟨c, h, rfl⟩ := List.mem_map.mp hq; exact hc c h
  unfold isF
  rw [hasF_row (.inr rfl) hl, cnt_row (.inr rfl) hl]
  have e := let_row (d := d) (w := wOr) (ps := .str [] :: cs.map fun c => D.str [c]) (.inr rfl)
  have e2 : lsum d (.str [] :: cs.map fun c => D.str [c]) = cs.length := by
    have := lsum_signs d cs
    simp only [lsum, List.map_cons, List.sum_cons, let_leaf, List.length_nil] at this ⊢
    omega
  rw [e2] at e
  have e3 : (letF (d + 1) (.tup [.str wOr, .tup (.str [] :: cs.map fun c => D.str [c])])).length = cs.length := by omega
  rw [e3]
  simp only [List.length_cons, List.length_map]
  rw [decide_eq_true (show 2 ≤ cs.length + 1 by omega), decide_eq_true (show cs.length + 1 ≤ 200 by omega)]
  simp only [Bool.true_and]
  congr 1
  rw [decide_eq_decide]
  omega
/-- the wide row -/
theorem isF_wide {d m p k : Nat} (h1 : 2 ≤ k) (h2 : k ≤ 200) : isF (d + 1) m p (.tup [.str wJoin, .tup (List.replicate k (.str []))]) = decide (k + 1 ≤ p) := by
  have hl : ∀ q ∈ List.replicate k (D.str []), leafF q = true := fun q hq => by rw [List.eq_of_mem_replicate hq]; rfl
  unfold isF
  rw [hasF_row (.inl rfl) hl, cnt_row (.inl rfl) hl]
  have e := let_row (d := d) (w := wJoin) (ps := List.replicate k (D.str [])) (.inl rfl)
  rw [lsum_none] at e
  have e3 : (letF (d + 1) (.tup [.str wJoin, .tup (List.replicate k (D.str []))])).length = 0 := by omega
  rw [e3]
  simp only [List.length_replicate]
  rw [decide_eq_true h1, decide_eq_true h2]
  simp only [Bool.true_and, Nat.zero_le, decide_true]
  rw [decide_eq_decide]
  omega
theorem isF_bad {d m p : Nat} {v : D} (h : Bad v) : isF d m p v = false := by unfold isF; rw [h d []]; rfl
theorem isF_chain {d m p M : Nat} {c : D} (h : Ch M c) (hm : 1 ≤ m) (hp : d + 1 ≤ p) : isF d m p c = decide (M ≤ d) := by
  unfold isF
  rw [ch_form h]
  by_cases hd : M ≤ d
  · rw [ch_let h d hd, ch_cnt h d hd, decide_eq_true hd, decide_eq_true (by simpa using hm), decide_eq_true (by omega)]
    rfl
  · rw [decide_eq_false hd]; rfl
end Gk01

end
section
namespace DI
theorem lc_invL {Cc : Env → Res Bool} {B : Env → Res D} {cl : Env → Env} {bd : D → Env → Option Env} {P : List D → Env → List D → Prop} (hs : ∀ x xs e acc, P (x :: xs) e acc → ∃ o e', tu1 Cc B cl (bd x e) = .ok o e' ∧ P xs e' (accO acc o)) : ∀ (xs acc : List D) (e : Env), P xs e acc → ∃ acc' e', turns bd Cc B cl xs acc e = .ok acc' e' ∧ P [] e' acc'
  | [], acc, e, h => ⟨acc, e, rfl, h⟩
  | x :: xs, acc, e, h => by
    obtain ⟨o, e', h1, h2⟩ := hs x xs e acc h
    rw [turns_c h1]
    exact lc_invL hs xs _ _ h2
end DI
namespace Gk01
open DI
variable {wf n : Nat}
theorem item_sat {s : List Nat} {i : Int} (h : 0 ≤ i) (h2 : i < s.length) : ∃ c ∈ s, item (.str s) (.int i) = some (.str [c]) := by
  obtain ⟨k, rfl⟩ := Int.eq_ofNat_of_zero_le h
  have hk : k < s.length := by omega
  refine ⟨s[k], List.getElem_mem hk, ?_⟩
  show ((place s.length (k : Int)).bind fun j => s[j]?).map _ = _
  rw [place_nat hk]
  simp [hk]
def bT3 : Sm :=
  (.seq (.asg 11 (.me .join (.lit (.str [])) (.cons (.lc (.n 14) (.callIO 12 false 1 (.cons (.lst (.cons (.lit (.str [97])) (.cons (.lit (.str [98])) (.cons (.lit (.str [99])) (.cons (.lit (.str [100])) .nil))))) .nil)) (.bi .range (.cons (.callIO 9 false 1 (.cons (.lit (.int 25)) .nil)) .nil)) .nil) .nil)))
  (.seq (.asg 12 (.sl (.bin .add (.loc 11) (.bin .mul (.lit (.str [97])) (.lit (.int 24)))) .nil (.lit (.int 24))))
  (.seq (.asg 13 (.callIO 12 false 1 (.cons (.lst (.cons (.lit (.none)) (.cons (.lst (.cons (.loc 11) .nil)) (.cons (.lit (.int 7)) (.cons (.bin .add (.loc 12) (.lit (.str [98]))) (.cons (.lit (.str [101])) (.cons (.bin .add (.sl (.loc 11) .nil (.lit (.int 23))) (.lit (.str [65]))) (.cons (.bin .add (.sl (.loc 11) .nil (.lit (.int 23))) (.lit (.str [32]))) (.cons (.lit (.bool true)) (.cons (.tup (.cons (.lit (.str [97])) .nil)) .nil)))))))))) .nil)))
  (.seq (.ret (.call 11 false (.cons (.lst (.cons (.call 7 false (.cons (.loc 11) .nil)) (.cons (.call 7 false (.cons (.loc 12) .nil)) (.cons (.call 7 false (.cons (.lit (.str [])) .nil)) (.cons (.call 7 false (.cons (.loc 13) .nil)) .nil))))) (.cons (.lst (.cons (.lit (.bool true)) (.cons (.lit (.bool true)) (.cons (.lit (.bool true)) (.cons (.lit (.bool false)) .nil))))) .nil))))
  .skip))))
def bT2 : Sm :=
  (.seq (.asg 7 (.callIO 12 false 1 (.cons (.lst (.cons (.lit (.int 5)) (.cons (.lit (.int 6)) (.cons (.lit (.int 7)) (.cons (.lit (.int 39)) (.cons (.lit (.int 40)) (.cons (.lit (.int 41)) (.cons (.lit (.int 3000)) .nil)))))))) .nil)))
  (.seq (.asg 8 (.callIO 12 false 1 (.cons (.lst (.cons (.lit (.int 22)) (.cons (.lit (.int 23)) (.cons (.lit (.int 24)) (.cons (.lit (.int 198)) (.cons (.lit (.int 199)) (.cons (.lit (.int 200)) .nil))))))) .nil)))
  (.seq (.asg 9 (.tup (.cons (.lit (.str [106,111,105,110])) (.cons (.bin .mul (.tup (.cons (.lit (.str [])) .nil)) (.loc 8)) .nil))))
  (.seq (.asg 10 (.lst (.cons (.call 5 false (.cons (.loc 6) .nil)) (.cons (.call 6 false (.cons (.loc 6) .nil)) (.cons (.call 5 false (.cons (.call 19 false (.cons (.loc 7) .nil)) .nil)) (.cons (.call 6 false (.cons (.call 19 false (.cons (.loc 7) .nil)) .nil)) (.cons (.call 5 false (.cons (.loc 9) .nil)) (.cons (.call 6 false (.cons (.loc 9) .nil)) .nil))))))))
  (.seq (.ifs (.not (.call 11 false (.cons (.loc 10) (.cons (.lst (.cons (.cmp .le (.loc 5) (.lit (.int 8))) (.cons (.cmp .le (.loc 5) (.lit (.int 40))) (.cons (.cmp .le (.loc 7) (.lit (.int 6))) (.cons (.cmp .le (.loc 7) (.lit (.int 40))) (.cons (.cmp .le (.loc 8) (.lit (.int 23))) (.cons (.cmp .le (.loc 8) (.lit (.int 199))) .nil))))))) .nil))))
   (.seq (.ret (.lit (.bool false)))
   .skip)
   .skip)
  bT3)))))
def bT1 : Sm :=
  (.seq (.asg 1 (.call 8 true (.cons (.loc 0) .nil)))
  (.seq (.asg 2 (.callIO 14 false 1 (.cons (.lit (.int 8)) .nil)))
  (.seq (.asg 3 (.lc (.n 14) (.callIO 9 false 1 (.cons (.lit (.int 3)) .nil)) (.bi .range (.cons (.callIO 9 false 1 (.cons (.lit (.int 4)) .nil)) .nil)) .nil))
  (.seq (.asg 4 (.call 17 false (.cons (.loc 2) (.cons (.loc 3) (.cons (.callIO 18 false 1 .nil) .nil)))))
  (.seq (.ifs (.not (.call 11 false (.cons (.lst (.cons (.call 5 false (.cons (.loc 2) .nil)) (.cons (.call 6 false (.cons (.loc 2) .nil)) (.cons (.call 5 false (.cons (.loc 4) .nil)) (.cons (.call 6 false (.cons (.loc 4) .nil)) .nil))))) (.cons (.lst (.cons (.cmp .le (.call 16 false (.cons (.loc 2) .nil)) (.lit (.int 24))) (.cons (.lit (.bool true)) (.cons (.lit (.bool false)) (.cons (.lit (.bool false)) .nil))))) .nil))))
   (.seq (.ret (.lit (.bool false)))
   .skip)
   .skip)
  (.seq (.asg 5 (.callIO 12 false 1 (.cons (.lst (.cons (.lit (.int 1)) (.cons (.lit (.int 7)) (.cons (.lit (.int 8)) (.cons (.lit (.int 9)) (.cons (.lit (.int 39)) (.cons (.lit (.int 40)) (.cons (.lit (.int 41)) .nil)))))))) .nil)))
  (.seq (.asg 6 (.tup (.cons (.lit (.str [111,114])) (.cons (.bin .add (.tup (.cons (.lit (.str [])) .nil)) (.bi .tuple (.cons (.lc (.n 14) (.ix (.lit (.str [97,98,99,100])) (.callIO 9 false 1 (.cons (.lit (.int 4)) .nil))) (.bi .range (.cons (.loc 5) .nil)) .nil) .nil))) .nil))))
  bT2)))))))
theorem law_eq : b_law = bT1 := rfl
theorem join_signs : ∀ cs : List Nat, joinL [] (cs.map fun c => [c]) = cs
  | [] => rfl
  | [c] => rfl
  | c :: d :: cs => by
    have := join_signs (d :: cs)
    simp only [List.map_cons, joinL, List.append_nil] at this ⊢
    rw [this]; rfl
def let4 (c : Nat) : Bool := [97, 98, 99, 100].contains c
theorem word_ok {s : List Nat} (h1 : s.length ≤ 24) (h2 : ∀ c ∈ s, let4 c = true) : wordF (.str s) = true := by
  show (decide (s.length ≤ 24) && s.all let4) = true
  rw [decide_eq_true h1, List.all_eq_true.mpr h2]; rfl
theorem word_no {s : List Nat} {c : Nat} (h : let4 c = false) : wordF (.str (s ++ [c])) = false := by
  show (decide _ && (s ++ [c]).all let4) = false
  rw [List.all_append, List.all_cons, h]
  simp
theorem tail3 {s a0 a2 a3 a4 a5 a6 a7 a8 a9 a10 : D} (hs : St s) : outF (exS (callD TT G wf (n + 50)) G wf bT3 [some (false, a0), some (true, s), some (false, a2), some (false, a3), some (false, a4), some (false, a5), some (false, a6), some (false, a7), some (false, a8), some (false, a9), some (false, a10), none, none, none, none]) = some (.ret false (.bool true) none) := by
  unfold bT3
  obtain ⟨q, s2, q0, q1, hs2, c2⟩ := next_ok (wf := wf) (n := n + 49) (m := 25) hs (by omega) (by omega)
  obtain ⟨k, rfl⟩ := Int.eq_ofNat_of_zero_le q0
  have c2 : callD TT G wf (n + 50) 9 _ = _ := c2
  walk_at "di"
  simp only [c2]
  walk_at "di"
  obtain ⟨acc2, e2, hlc2, j, cs, s6, hj, hacc2, he2, hs6, hcs, hcl, _⟩ := lc_invL (bd := bindTg (.n 14)) (Cc := (sem (callD TT G wf (n + 50)) G .nil).C) (B := bodyE (sem (callD TT G wf (n + 50)) G (.callIO 12 false 1 (.cons (.lst (.cons (.lit (.str [97])) (.cons (.lit (.str [98])) (.cons (.lit (.str [99])) (.cons (.lit (.str [100])) .nil))))) .nil))).E) (cl := cleanE [14])
    (P := fun xs e acc => ∃ (j : Nat) (cs : List Nat) (s : D), xs = rangeL j (k - j) ∧ acc = cs.map (fun c => .str [c]) ∧ e = [some (false, a0), some (true, s), some (false, a2), some (false, a3), some (false, a4), some (false, a5), some (false, a6), some (false, a7), some (false, a8), some (false, a9), some (false, a10), none, none, none, none] ∧ St s ∧ (∀ c ∈ cs, let4 c = true) ∧ (cs.length = j ∧ j ≤ k))
    (fun x xs e acc ⟨j, cs, s, h1, h2, h3, h4, h5, h6, h7⟩ => by
      subst h3
      cases hk : k - j with
      | zero => rw [hk] at h1; cases h1
      | succ z =>
        rw [hk, rangeL] at h1
        injection h1 with hx hxs
        subst hx
        obtain ⟨y, s', hy, hs', hc⟩ := pick_ok (wf := wf) (n := n + 48) (rows := [.str [97], .str [98], .str [99], .str [100]]) h4 (by decide) (by decide)
        have hc : callD TT G wf (n + 50) 12 _ = _ := hc
        obtain ⟨c, rfl, hcm⟩ : ∃ c, y = .str [c] ∧ let4 c = true := by
          simp only [List.mem_cons, List.not_mem_nil, or_false] at hy
          rcases hy with rfl | rfl | rfl | rfl <;> exact ⟨_, rfl, rfl⟩
        refine ⟨some (.str [c]), [some (false, a0), some (true, s'), some (false, a2), some (false, a3), some (false, a4), some (false, a5), some (false, a6), some (false, a7), some (false, a8), some (false, a9), some (false, a10), none, none, none, none], ?_, j + 1, cs ++ [c], s', ?_, by simp [accO, h2], rfl, hs', fun u hu => ?_, by simp [h6], by omega⟩
        · walk_at "di"
          simp only [hc]
          walk_at "di"
        · rw [hxs]
          congr 1
          omega
        · rcases List.mem_append.mp hu with hu | hu
          · exact h5 u hu
          · rw [List.mem_singleton] at hu; subst hu; exact hcm)
    (rangeL 0 k) [] [some (false, a0), some (true, s2), some (false, a2), some (false, a3), some (false, a4), some (false, a5), some (false, a6), some (false, a7), some (false, a8), some (false, a9), some (false, a10), none, none, none, none] ⟨0, [], s2, rfl, rfl, rfl, hs2, (fun c h => by cases h), rfl, by omega⟩
  have hjk : j = k := by
    cases hz : k - j with
    | zero => omega
    | succ z => rw [hz] at hj; cases hj
  subst he2 hacc2
  simp only [hlc2]
  walk_at "di"
  rw [show cs.map (fun c => D.str [c]) = (cs.map fun c => [c]).map D.str by simp]
  simp only [m_join (s := []) (l := cs.map fun c => [c]) (by rw [join_signs]; simp; omega), join_signs]
  walk_at "di"
  have hr : (rep 24 [97]).length = 24 := rfl
  simp only [o_adds (s := cs) (t := rep 24 [97]) (by rw [hr]; omega)]
  walk_at "di"
  obtain ⟨L, hLe, hL1, hL2⟩ : ∃ L, cut (cs ++ rep 24 [97]) none (some 24) = L ∧ L.length = 24 ∧ ∀ c ∈ L, let4 c = true := by
    refine ⟨_, rfl, ?_, fun c hc => ?_⟩
    · unfold cut clip
      simp [hr]
    · have hc : c ∈ cs ++ rep 24 [97] := List.mem_of_mem_drop (List.mem_of_mem_take hc)
      rcases List.mem_append.mp hc with hc | hc
      · exact hcs c hc
      · have : ∀ c ∈ rep 24 [97], let4 c = true := by decide
        exact this c hc
  obtain ⟨M, hMe, hM⟩ : ∃ M, cut cs none (some 23) = M ∧ M.length ≤ cs.length := ⟨_, rfl, cut_len _ _ _⟩
  simp only [hLe]
  walk_at "di"
  simp only [hMe]
  walk_at "di"
  clear hlc2
  have hw1 : wordF (.str cs) = true := word_ok (by omega) hcs
  have hw2 : wordF (.str L) = true := word_ok (by omega) hL2
  obtain ⟨bv, s7, hbv, hs7, c7⟩ := pick_ok (wf := wf) (n := n + 48) (rows := [.none, .list [.str cs], .int 7, .str (L ++ [98]), .str [101], .str (M ++ [65]), .str (M ++ [32]), .bool true, .tup [.str [97]]]) hs6 (by simp) (by simp)
  have c7 : callD TT G wf (n + 50) 12 _ = _ := c7
  have hb : wordF bv = false := by
    simp only [List.mem_cons, List.not_mem_nil, or_false] at hbv
    rcases hbv with rfl | rfl | rfl | rfl | rfl | rfl | rfl | rfl | rfl
    · rfl
    · rfl
    · rfl
    · show (decide ((L ++ [98]).length ≤ 24) && _) = false
      rw [decide_eq_false (by rw [List.length_append, hL1]; simp)]
      rfl
    · rfl
    · exact word_no rfl
    · exact word_no rfl
    · rfl
    · rfl
  have w1 : ∀ v, callD TT G wf (n + 50) 7 [v] = some (.ret false (.bool (wordF v)) none) := fun v => isword_ok (n := n + 49)
  have e1 : callD TT G wf (n + 50) 11 [.list [.bool true, .bool true, .bool true, .bool false], .list [.bool true, .bool true, .bool true, .bool false]] = some (.ret false (.bool true) none) := eql_ok (wf := wf) (n := n + 48) (l := [true, true, true, false]) (by decide)
  simp only [hMe]
  walk_at "di"
  simp only [c7]
  walk_at "di"
  simp only [w1, hw1, hw2, hb, show wordF (.str []) = true from rfl]
  walk_at "di"
  simp only [w1, hw1, hw2, hb, show wordF (.str []) = true from rfl]
  walk_at "di"
  simp only [w1, hw1, hw2, hb, show wordF (.str []) = true from rfl]
  walk_at "di"
  simp only [w1, hw1, hw2, hb, show wordF (.str []) = true from rfl]
  walk_at "di"
  simp only [e1]
  walk_at "di"
end Gk01

end
section
namespace Gk01
open DI
variable {wf n : Nat}
theorem rep_one {α : Type} (x : α) : ∀ m : Nat, rep m [x] = List.replicate m x
  | 0 => rfl
  | m + 1 => by
    have := rep_one x m
    unfold rep at this ⊢
    rw [List.replicate_succ, List.flatten_cons, this]
    rfl
theorem dec_nat {a b : Nat} : decide ((a : Int) ≤ (b : Int)) = decide (a ≤ b) := by rw [decide_eq_decide]; omega
theorem tail2 {s a0 a2 a3 a4 : D} {k : Nat} {cs : List Nat} (hs : St s) (hk : cs.length = k) (hk1 : 1 ≤ k) (hk2 : k ≤ 41) (hcs : ∀ c ∈ cs, leafF (.str [c]) = true) : outF (exS (callD TT G wf (n + 50)) G wf bT2 [some (false, a0), some (true, s), some (false, a2), some (false, a3), some (false, a4), some (false, .int k), some (false, .tup [.str [111,114], .tup (.str [] :: cs.map fun c => .str [c])]), none, none, none, none, none, none, none, none]) = some (.ret false (.bool true) none) := by
  unfold bT2
  obtain ⟨x, s1, hx, hs1, c1⟩ := pick_ok (wf := wf) (n := n + 48) (rows := [.int 5, .int 6, .int 7, .int 39, .int 40, .int 41, .int 3000]) hs (by decide) (by decide)
  obtain ⟨dp, rfl, d1⟩ : ∃ dp : Nat, x = .int dp ∧ dp ≤ 3000 := by
    simp only [List.mem_cons, List.not_mem_nil, or_false] at hx
    rcases hx with rfl | rfl | rfl | rfl | rfl | rfl | rfl
    · exact ⟨5, rfl, by omega⟩
    · exact ⟨6, rfl, by omega⟩
    · exact ⟨7, rfl, by omega⟩
    · exact ⟨39, rfl, by omega⟩
    · exact ⟨40, rfl, by omega⟩
    · exact ⟨41, rfl, by omega⟩
    · exact ⟨3000, rfl, by omega⟩
  obtain ⟨y, s2, hy, hs2, c2⟩ := pick_ok (wf := wf) (n := n + 48) (rows := [.int 22, .int 23, .int 24, .int 198, .int 199, .int 200]) hs1 (by decide) (by decide)
  obtain ⟨m, rfl, m1, m2⟩ : ∃ m : Nat, y = .int m ∧ 2 ≤ m ∧ m ≤ 200 := by
    simp only [List.mem_cons, List.not_mem_nil, or_false] at hy
    rcases hy with rfl | rfl | rfl | rfl | rfl | rfl
    · exact ⟨22, rfl, by omega, by omega⟩
    · exact ⟨23, rfl, by omega, by omega⟩
    · exact ⟨24, rfl, by omega, by omega⟩
    · exact ⟨198, rfl, by omega, by omega⟩
    · exact ⟨199, rfl, by omega, by omega⟩
    · exact ⟨200, rfl, by omega, by omega⟩
  obtain ⟨ch, hch, c3⟩ := chain_ok (wf := wf) (n := n + 49) (M := dp) (by omega)
  have c1 : callD TT G wf (n + 50) 12 _ = _ := c1
  have c2 : callD TT G wf (n + 50) 12 _ = _ := c2
  have c3 : callD TT G wf (n + 50) 19 _ = _ := c3
  -- the six answers
  have small : ∀ (d : Nat) (v : D), ((letF d v).length : Int) ≤ 41 → (letF d v).length ≤ 1000000 := fun d v h => by omega
  have r1 := isF_signs (d := 5) (m := 8) (p := 24) hcs (by omega) (by omega)
  have r2 := isF_signs (d := 39) (m := 40) (p := 200) hcs (by omega) (by omega)
  have w1 := isF_wide (d := 5) (m := 8) (p := 24) m1 m2
  have w2 := isF_wide (d := 39) (m := 40) (p := 200) m1 m2
  have q1 := isF_chain (d := 6) (m := 8) (p := 24) hch (by omega) (by omega)
  have q2 := isF_chain (d := 40) (m := 40) (p := 200) hch (by omega) (by omega)
  have lr : ∀ d, ((letF (d + 1) (.tup [.str wOr, .tup (.str [] :: cs.map fun c => .str [c])])).length : Int) ≤ 41 := fun d => by
    rw [let_row (.inr rfl)]
    have := lsum_signs d cs
    simp only [lsum, List.map_cons, List.sum_cons, let_leaf, List.length_nil] at this ⊢
    omega
  have lw : ∀ d, ((letF (d + 1) (.tup [.str wJoin, .tup (List.replicate m (.str []))])).length : Int) ≤ 41 := fun d => by
    rw [let_row (.inl rfl), lsum_none]
    omega
  have lc : ∀ d, hasF d [] ch = true → (letF d ch).length ≤ 1000000 := fun d h => by
    rw [ch_form hch] at h
    rw [ch_let hch d (of_decide_eq_true h)]
    decide
  have x1 := isex_ok (wf := wf) (n := n + 41) (v := .tup [.str wOr, .tup (.str [] :: cs.map fun c => .str [c])]) fun _ => small _ _ (lr 5)
  have x2 := islong_ok (wf := wf) (n := n + 7) (v := .tup [.str wOr, .tup (.str [] :: cs.map fun c => .str [c])]) fun _ => small _ _ (lr 39)
  have x3 := isex_ok (wf := wf) (n := n + 41) (v := ch) (lc 6)
  have x4 := islong_ok (wf := wf) (n := n + 7) (v := ch) (lc 40)
  have x5 := isex_ok (wf := wf) (n := n + 41) (v := .tup [.str wJoin, .tup (List.replicate m (.str []))]) fun _ => small _ _ (lw 5)
  have x6 := islong_ok (wf := wf) (n := n + 7) (v := .tup [.str wJoin, .tup (List.replicate m (.str []))]) fun _ => small _ _ (lw 39)
  have e1 : isF 6 8 24 (.tup [.str wOr, .tup (.str [] :: cs.map fun c => .str [c])]) = decide ((k : Int) ≤ 8) := by
    rw [r1, hk, ← Bool.decide_and, decide_eq_decide]; omega
  have e2 : isF 40 40 200 (.tup [.str wOr, .tup (.str [] :: cs.map fun c => .str [c])]) = decide ((k : Int) ≤ 40) := by
    rw [r2, hk, ← Bool.decide_and, decide_eq_decide]; omega
  have e3 : isF 6 8 24 ch = decide ((dp : Int) ≤ 6) := by rw [q1, decide_eq_decide]; omega
  have e4 : isF 40 40 200 ch = decide ((dp : Int) ≤ 40) := by rw [q2, decide_eq_decide]; omega
  have e5 : isF 6 8 24 (.tup [.str wJoin, .tup (List.replicate m (.str []))]) = decide ((m : Int) ≤ 23) := by rw [w1, decide_eq_decide]; omega
  have e6 : isF 40 40 200 (.tup [.str wJoin, .tup (List.replicate m (.str []))]) = decide ((m : Int) ≤ 199) := by rw [w2, decide_eq_decide]; omega
  rw [e1] at x1
  rw [e2] at x2
  rw [e3] at x3
  rw [e4] at x4
  rw [e5] at x5
  rw [e6] at x6
  have x1 : callD TT G wf (n + 50) 5 [.tup [.str [111,114], .tup (.str [] :: cs.map fun c => .str [c])]] = _ := x1
  have x2 : callD TT G wf (n + 50) 6 [.tup [.str [111,114], .tup (.str [] :: cs.map fun c => .str [c])]] = _ := x2
  have x3 : callD TT G wf (n + 50) 5 [ch] = _ := x3
  have x4 : callD TT G wf (n + 50) 6 [ch] = _ := x4
  have x5 : callD TT G wf (n + 50) 5 [.tup [.str [106,111,105,110], .tup (List.replicate m (.str []))]] = _ := x5
  have x6 : callD TT G wf (n + 50) 6 [.tup [.str [106,111,105,110], .tup (List.replicate m (.str []))]] = _ := x6
  clear r1 r2 w1 w2 q1 q2 lr lw lc e1 e2 e3 e4 e5 e6 small
  generalize g1 : decide ((k : Int) ≤ 8) = v1 at *
  generalize g2 : decide ((k : Int) ≤ 40) = v2 at *
  generalize g3 : decide ((dp : Int) ≤ 6) = v3 at *
  generalize g4 : decide ((dp : Int) ≤ 40) = v4 at *
  generalize g5 : decide ((m : Int) ≤ 23) = v5 at *
  generalize g6 : decide ((m : Int) ≤ 199) = v6 at *
  have eq : callD TT G wf (n + 50) 11 [.list [.bool v1, .bool v2, .bool v3, .bool v4, .bool v5, .bool v6], .list [.bool v1, .bool v2, .bool v3, .bool v4, .bool v5, .bool v6]] = some (.ret false (.bool true) none) := eql_ok (wf := wf) (n := n + 48) (l := [v1, v2, v3, v4, v5, v6]) (by simp)
  walk_at "di"
  simp only [c1]
  walk_at "di"
  simp only [c2]
  walk_at "di"
  simp only [rep_one, x1]
  walk_at "di"
  simp only [x2]
  walk_at "di"
  simp only [c3]
  walk_at "di"
  simp only [x3]
  walk_at "di"
  simp only [c3]
  walk_at "di"
  simp only [x4]
  walk_at "di"
  simp only [x5]
  walk_at "di"
  simp only [x6]
  walk_at "di"
  simp only [g1, g2, g3, g4, g5, g6]
  simp only [eq]
  walk_at "di"
  exact tail3 hs2
end Gk01

end
section
namespace Gk01
open DI
variable {wf n : Nat}
theorem law_ok (ns : List Int) : ∃ o, callD TT G wf (n + 51) 20 [.scr (ns.map .int)] = some (.ret o (.bool true) none) := by
  rw [call_eq (fd := ⟨false, 1, 15, b_law⟩) rfl rfl]
  rw [law_eq]
  unfold bT1
  rw [run_f]
  obtain ⟨s0, hs0, c0⟩ := stream_ok (wf := wf) (n := n + 49) (ns := ns)
  obtain ⟨d, t, s1, hd, hg, hs1, c1⟩ := expr_ok (wf := wf) (n := n + 42) hs0
  obtain ⟨q, s2, q0, q1, hs2, c2⟩ := next_ok (wf := wf) (n := n + 49) (m := 4) hs1 (by omega) (by omega)
  walk_at "di"
  simp only [c0]
  walk_at "di"
  simp only [c1]
  walk_at "di"
  simp only [c2]
  walk_at "di"
  obtain ⟨acc, e', hlc, ps, s3, hacc, he, hs3, hps, hpl⟩ := lc_inv (bd := bindTg (.n 14)) (Cc := (sem (callD TT G wf (n + 50)) G .nil).C) (B := bodyE (sem (callD TT G wf (n + 50)) G (.callIO 9 false 1 (.cons (.lit (.int 3)) .nil))).E) (cl := cleanE [14])
    (P := fun e acc => ∃ (ps : List Int) (s : D), acc = ps.map .int ∧ e = [some (false, .scr (ns.map .int)), some (true, s), some (false, t), none, none, none, none, none, none, none, none, none, none, none, none] ∧ St s ∧ (∀ p ∈ ps, 0 ≤ p) ∧ ps.length ≤ acc.length)
    (rangeL 0 q.toNat) (e := [some (false, .scr (ns.map .int)), some (true, s2), some (false, t), none, none, none, none, none, none, none, none, none, none, none, none]) ⟨[], s2, rfl, rfl, hs2, (fun p h => by cases h), Nat.le_refl _⟩ (fun x hx e acc ⟨ps, s, h1, h2, h3, h4, h5⟩ => by
      subst h2
      obtain ⟨p, s', p0, p1, hs', hc⟩ := next_ok (wf := wf) (n := n + 49) (m := 3) h3 (by omega) (by omega)
      obtain ⟨i, _, rfl⟩ := rangeL_mem _ _ _ hx
      refine ⟨some (.int p), [some (false, .scr (ns.map .int)), some (true, s'), some (false, t), none, none, none, none, none, none, none, none, none, none, none, none], ?_, ps ++ [p], s', by simp [h1, accO], rfl, hs', fun z hz => ?_, by simp [accO, h1]⟩
      · walk_at "di"
        simp only [hc]
        walk_at "di"
      · rcases List.mem_append.mp hz with hz | hz
        · exact h4 z hz
        · rw [List.mem_singleton] at hz; subst hz; exact p0)
  subst he hacc
  simp only [hlc]
  walk_at "di"
  obtain ⟨wv, s4, hwv, hs4, c4⟩ := wrong_ok (wf := wf) (n := n + 47) hs3
  obtain ⟨w, hw, c5⟩ := at_ok (wf := wf) (n := n + 49 - d) d t [] ps wv hg.form hps hwv
  rw [show n + 49 - d + d + 1 = n + 50 by omega] at c5
  simp only [c4]
  walk_at "di"
  simp only [c5]
  walk_at "di"
  -- what is said of the expression
  obtain ⟨g1, g2, g3, g4⟩ := gr_up hg (e := 6) (by omega)
  obtain ⟨k1, k2, k3, k4⟩ := gr_up hg (e := 40) (by omega)
  have x1 := isex_ok (wf := wf) (n := n + 41) (v := t) (fun _ => by omega)
  have x2 := islong_ok (wf := wf) (n := n + 7) (v := t) (fun _ => by omega)
  have x3 := isex_ok (wf := wf) (n := n + 41) (v := w) (fun z => by rw [hw] at z; cases z)
  have x4 := islong_ok (wf := wf) (n := n + 7) (v := w) (fun z => by rw [hw] at z; cases z)
  have x5 := lcount_ok (wf := wf) (n := n + 48 - d) d t [] hg.form
  rw [show n + 48 - d + d + 2 = n + 50 by omega] at x5
  have hb : bnd d ≤ 121 := by
    have : d = 0 ∨ d = 1 ∨ d = 2 ∨ d = 3 ∨ d = 4 := by omega
    rcases this with rfl | rfl | rfl | rfl | rfl <;> decide
  have y1 : isF 6 8 24 t = decide (cntF d t ≤ 24) := by unfold isF; rw [g1, g4, decide_eq_true (show (letF 6 t).length ≤ 8 by omega)]; rfl
  have y2 : isF 40 40 200 t = true := by unfold isF; rw [k1, k4, decide_eq_true (show (letF 40 t).length ≤ 40 by omega), decide_eq_true (by omega)]; rfl
  rw [y1] at x1
  rw [y2] at x2
  rw [isF_bad hw] at x3 x4
  have x1 : callD TT G wf (n + 50) 5 [t] = _ := x1
  have x2 : callD TT G wf (n + 50) 6 [t] = _ := x2
  have x3 : callD TT G wf (n + 50) 5 [w] = _ := x3
  have x4 : callD TT G wf (n + 50) 6 [w] = _ := x4
  have e1 : callD TT G wf (n + 50) 11 [.list [.bool (decide (cntF d t ≤ 24)), .bool true, .bool false, .bool false], .list [.bool (decide (cntF d t ≤ 24)), .bool true, .bool false, .bool false]] = some (.ret false (.bool true) none) := eql_ok (wf := wf) (n := n + 48) (l := [decide (cntF d t ≤ 24), true, false, false]) (by simp)
  simp only [x1]
  walk_at "di"
  simp only [x2]
  walk_at "di"
  simp only [x3]
  walk_at "di"
  simp only [x4]
  walk_at "di"
  simp only [x5]
  walk_at "di"
  simp only [e1]
  walk_at "di"
  clear x1 x2 x3 x4 x5 y1 y2 e1 g1 g2 g3 g4 k1 k2 k3 k4 c0 c1 c2 c4 c5 hlc
  obtain ⟨kx, s5, hk, hs5, c6⟩ := pick_ok (wf := wf) (n := n + 48) (rows := [.int 1, .int 7, .int 8, .int 9, .int 39, .int 40, .int 41]) hs4 (by decide) (by decide)
  obtain ⟨k, rfl, k0, k1⟩ : ∃ k : Nat, kx = .int k ∧ 1 ≤ k ∧ k ≤ 41 := by
    simp only [List.mem_cons, List.not_mem_nil, or_false] at hk
    rcases hk with rfl | rfl | rfl | rfl | rfl | rfl | rfl
    · exact ⟨1, rfl, by omega, by omega⟩
    · exact ⟨7, rfl, by omega, by omega⟩
    · exact ⟨8, rfl, by omega, by omega⟩
    · exact ⟨9, rfl, by omega, by omega⟩
    · exact ⟨39, rfl, by omega, by omega⟩
    · exact ⟨40, rfl, by omega, by omega⟩
    · exact ⟨41, rfl, by omega, by omega⟩
  have c6 : callD TT G wf (n + 50) 12 _ = _ := c6
  simp only [c6]
  walk_at "di"
  obtain ⟨acc2, e2, hlc2, j, cs, s6, hj, hacc2, he2, hs6, hcs, hcl⟩ := lc_invL (bd := bindTg (.n 14)) (Cc := (sem (callD TT G wf (n + 50)) G .nil).C) (B := bodyE (sem (callD TT G wf (n + 50)) G (.ix (.lit (.str [97, 98, 99, 100])) (.callIO 9 false 1 (.cons (.lit (.int 4)) .nil)))).E) (cl := cleanE [14])
    (P := fun xs e acc => ∃ (j : Nat) (cs : List Nat) (s : D), xs = rangeL j (k - j) ∧ acc = cs.map (fun c => .str [c]) ∧ e = [some (false, .scr (ns.map .int)), some (true, s), some (false, t), some (false, .list (ps.map .int)), some (false, w), some (false, .int k), none, none, none, none, none, none, none, none, none] ∧ St s ∧ (∀ c ∈ cs, leafF (.str [c]) = true) ∧ (cs.length = j ∧ j ≤ k))
    (fun x xs e acc ⟨j, cs, s, h1, h2, h3, h4, h5, h6, h7⟩ => by
      subst h3
      cases hk : k - j with
      | zero => rw [hk] at h1; cases h1
      | succ z =>
        rw [hk, rangeL] at h1
        injection h1 with hx hxs
        subst hx
        obtain ⟨p, s', p0, p1, hs', hc⟩ := next_ok (wf := wf) (n := n + 49) (m := 4) h4 (by omega) (by omega)
        obtain ⟨c, hcm, hci⟩ := item_sat (s := [97, 98, 99, 100]) (i := p) p0 (by simpa using p1)
        refine ⟨some (.str [c]), [some (false, .scr (ns.map .int)), some (true, s'), some (false, t), some (false, .list (ps.map .int)), some (false, w), some (false, .int k), none, none, none, none, none, none, none, none, none], ?_, j + 1, cs ++ [c], s', ?_, by simp [accO, h2], rfl, hs', fun u hu => ?_, by simp [h6], by omega⟩
        · walk_at "di"
          simp only [hc]
          walk_at "di"
          simp only [hci]
          walk_at "di"
        · rw [hxs]
          congr 1
          omega
        · rcases List.mem_append.mp hu with hu | hu
          · exact h5 u hu
          · rw [List.mem_singleton] at hu; subst hu
            simp only [List.mem_cons, List.not_mem_nil, or_false] at hcm
            rcases hcm with rfl | rfl | rfl | rfl <;> rfl)
    (rangeL 0 k) [] [some (false, .scr (ns.map .int)), some (true, s5), some (false, t), some (false, .list (ps.map .int)), some (false, w), some (false, .int k), none, none, none, none, none, none, none, none, none] ⟨0, [], s5, rfl, rfl, rfl, hs5, (fun c h => by cases h), rfl, by omega⟩
  have hjk : j = k := by
    cases hz : k - j with
    | zero => omega
    | succ z => rw [hz] at hj; cases hj
  subst he2 hacc2
  simp only [hlc2]
  walk_at "di"
  exact ⟨_, tail2 hs6 (hcl.1.trans hjk) k0 k1 hcs⟩
end Gk01

end
namespace Gk01
abbrev depth : Nat := 80
abbrev fuel : Nat := 0
theorem plain (ns : List Int) (h : ns.length ≤ 63) : ∃ o, DI.callD TT G fuel (depth + 1) 20 [.scr (ns.map .int)] = some (.ret o (.bool true) none) := law_ok (n := 30) ns

end Gk01
open PySem PySem.W PyProof.Rows
set_option maxHeartbeats 0 in
theorem PySem.Challenge.cw_nodoubt_k01_forms_of_expressions_holds : PySem.Challenge.rw_nodoubt_k01_forms_of_expressions.Holds := by
  w_on; o_law; k_head; (case hw => w_witness2)
  k_fill
  refine DI.law_end (l := PySem.Challenge.rw_nodoubt_k01_forms_of_expressions) (k := Gk01.depth + 1) (j := 20) (x := "_law_script") (Fc := DI.callD Gk01.TT Gk01.G Gk01.fuel (Gk01.depth + 1)) (xt := fun _ => none) rfl rfl ⟨rfl, by decide, by decide⟩ (fun w h Y => PySem.W.kIn_of Y) Gk01.plain ?F
  case F =>
    intro w mg fa h KX G hmg
    refine' Gk01.all_mk (xt := fun _ => none) KX G hmg ?di_a0 ?di_l0 ?di_c0 ?di_k0 ?di_a1 ?di_l1 ?di_c1 ?di_k1 ?di_a2 ?di_l2 ?di_c2 ?di_k2 ?di_a3 ?di_l3 ?di_c3 ?di_k3 ?di_a4 ?di_l4 ?di_c4 ?di_k4 ?di_a5 ?di_l5 ?di_c5 ?di_k5 ?di_a6 ?di_l6 ?di_c6 ?di_k6 ?di_a7 ?di_l7 ?di_c7 ?di_k7 ?di_a8 ?di_l8 ?di_c8 ?di_k8 ?di_a9 ?di_l9 ?di_c9 ?di_k9 ?di_a10 ?di_l10 ?di_c10 ?di_k10 ?di_a11 ?di_l11 ?di_c11 ?di_k11 ?di_a12 ?di_l12 ?di_c12 ?di_k12 ?di_a13 ?di_l13 ?di_c13 ?di_k13 ?di_a14 ?di_l14 ?di_c14 ?di_k14 ?di_a15 ?di_l15 ?di_c15 ?di_k15 ?di_a16 ?di_l16 ?di_c16 ?di_k16 ?di_a17 ?di_l17 ?di_c17 ?di_k17 ?di_a18 ?di_l18 ?di_c18 ?di_k18 ?di_a19 ?di_l19 ?di_c19 ?di_k19 ?di_a20 ?di_l20 ?di_c20 ?di_k20 ?di_z0 ?di_z1 ?di_z2 ?di_z3 ?di_z4 ?di_z5 ?di_z6 ?di_z7 ?di_z8 ?di_z9 ?di_z10 ?di_z11 ?di_z12 ?di_z13 ?di_z14 ?di_z15 ?di_z16 ?di_z17 ?di_z18 ?di_g0 ?di_g1 ?di_h1 ?di_g2 ?di_h2 ?di_g3 ?di_g4 ?di_g5 ?di_g6 ?di_g7 ?di_g8 ?di_g9
    (case di_a0 => k_is); (case di_l0 => k_is); (case di_c0 => k_is); (case di_k0 => k_is); (case di_a1 => k_is); (case di_l1 => k_is); (case di_c1 => k_is); (case di_k1 => k_is); (case di_a2 => k_is); (case di_l2 => k_is); (case di_c2 => k_is); (case di_k2 => k_is); (case di_a3 => k_is); (case di_l3 => k_is); (case di_c3 => k_is); (case di_k3 => k_is); (case di_a4 => k_is); (case di_l4 => k_is); (case di_c4 => k_is); (case di_k4 => k_is); (case di_a5 => k_is); (case di_l5 => k_is); (case di_c5 => k_is); (case di_k5 => k_is); (case di_a6 => k_is); (case di_l6 => k_is); (case di_c6 => k_is); (case di_k6 => k_is); (case di_a7 => k_is); (case di_l7 => k_is); (case di_c7 => k_is); (case di_k7 => k_is); (case di_a8 => k_is); (case di_l8 => k_is); (case di_c8 => k_is); (case di_k8 => k_is); (case di_a9 => k_is); (case di_l9 => k_is); (case di_c9 => k_is); (case di_k9 => k_is); (case di_a10 => k_is); (case di_l10 => k_is); (case di_c10 => k_is); (case di_k10 => k_is); (case di_a11 => k_is); (case di_l11 => k_is); (case di_c11 => k_is); (case di_k11 => k_is); (case di_a12 => k_is); (case di_l12 => k_is); (case di_c12 => k_is); (case di_k12 => k_is); (case di_a13 => k_is); (case di_l13 => k_is); (case di_c13 => k_is); (case di_k13 => k_is); (case di_a14 => k_is); (case di_l14 => k_is); (case di_c14 => k_is); (case di_k14 => k_is); (case di_a15 => k_is); (case di_l15 => k_is); (case di_c15 => k_is); (case di_k15 => k_is); (case di_a16 => k_is); (case di_l16 => k_is); (case di_c16 => k_is); (case di_k16 => k_is); (case di_a17 => k_is); (case di_l17 => k_is); (case di_c17 => k_is); (case di_k17 => k_is); (case di_a18 => k_is); (case di_l18 => k_is); (case di_c18 => k_is); (case di_k18 => k_is); (case di_a19 => k_is); (case di_l19 => k_is); (case di_c19 => k_is); (case di_k19 => k_is); (case di_a20 => k_is); (case di_l20 => k_is); (case di_c20 => k_is); (case di_k20 => k_is); (case di_z0 => k_is); (case di_z1 => k_is); (case di_z2 => k_is); (case di_z3 => k_is); (case di_z4 => k_is); (case di_z5 => k_is); (case di_z6 => k_is); (case di_z7 => k_is); (case di_z8 => k_is); (case di_z9 => k_is); (case di_z10 => k_is); (case di_z11 => k_is); (case di_z12 => k_is); (case di_z13 => k_is); (case di_z14 => k_is); (case di_z15 => k_is); (case di_z16 => k_is); (case di_z17 => k_is); (case di_z18 => k_is); (case di_g0 => k_is); (case di_g1 => k_is); (case di_h1 => k_is); (case di_g2 => k_is); (case di_h2 => k_is); (case di_g3 => k_is); (case di_g4 => k_is); (case di_g5 => k_is); (case di_g6 => k_is); (case di_g7 => k_is); (case di_g8 => k_is); (case di_g9 => k_is)
