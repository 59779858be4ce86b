import PyProof.Rows.All
import Wide.All
import OpenK.AllK
import Wide.FinOn
import PyProof.CompFree
import PyProof.DefCall
import PyProof.StationsW
import PyProof.Rows.News
import PyProof.TupleKey
import PyProof.EqKinds
import PyProof.DictKinds
import PyProof.Rules3
import PyProof.Cells
import PyProof.PureInt
import PyProof.ListOps
import PyProof.StrBlock2
import PyProof.NoPylong
import PyProof.Rows.RuleB_floordiv
import PyProof.Rows.IntRules
import PyProof.EqLayable
import PyProof.P3In
import PyProof.FString5
import PyProof.Truth
import PyProof.ListTruth
import PyProof.Rows.Nodes
import PyProof.Rows.TupMore
import PyProof.Rows.Lst
import PyProof.SliceMore
import PyProof.SliceStr2
import PyProof.SliceSyntax
import PyProof.LetGo
import PyProof.ListIndexNeg
import PyProof.TupleIter
import PyProof.Rows.TupSub
import PyProof.Rows.StrTemp
import PyProof.Rows.FactsTup
import PyProof.Rows.FactsSeq_str
import PyProof.FactsIdx
import PyProof.StrBlockI
import PyProof.SeqI
import OpenK.KWalk
import PySem.Challenge.RW_uf020013_01
/-! An abstract interpreter for the part of Python that the laws use (typed by hand; not of the kit). -/
set_option Elab.async false
namespace Mine

/-- a value: textsA are lists of codes, tuples are values, lists, dicts and instances are places in an abstract heap -/
inductive AV where
  | none
  | bool (b : Bool)
  | int (i : Int)
  | str (s : List Nat)
  | tup (xs : List AV)
  | ref (l : Nat)
  | exc (c : Nat)
  | scr (ns : List Int)
  | rng (a b : Int)
deriving Inhabited

/-- an object -/
inductive AO where
  | list (xs : List AV)
  | dict (ep : Nat) (es : List (AV × AV))
  | inst (c : Nat) (fs : List (Option AV))
deriving Inhabited

abbrev Hp := List AO
abbrev Vs := List (Option AV)

inductive Out (α : Type) where
  | ok (a : α) (h : Hp)
  | exc (c : Nat) (h : Hp)
  | fail
deriving Inhabited

@[inline] def Out.bind {α β : Type} (x : Out α) (f : α → Hp → Out β) : Out β :=
  match x with
  | .ok a h => f a h
  | .exc c h => .exc c h
  | .fail => .fail

inductive OutS where
  | next (h : Hp) (vs : Vs)
  | ret (v : AV) (h : Hp)
  | exc (c : Nat) (h : Hp) (vs : Vs)
  | fail
deriving Inhabited

inductive BOp where | add | sub | mul | mod | div
deriving DecidableEq, Inhabited
inductive COp where | eq | ne | lt | le | gt | ge | isin | notin
deriving DecidableEq, Inhabited
inductive Kd where | int | str | bool | tup | list | value | cls (c : Nat)
deriving DecidableEq, Inhabited
/-- built-in functions -/
inductive Bi where | len | ord | range | min | max | sum | all | any | sorted | sortedSet | list | tuple | str | int | dict
deriving DecidableEq, Inhabited
/-- methods of built-in types -/
inductive Bm where | append | extend | get | pop | setdefault | values | join | split | replace | partition
deriving DecidableEq, Inhabited

inductive ME where
  | none
  | bool (b : Bool)
  | int (i : Int)
  | str (s : List Nat)
  | var (x : Nat)
  | powc (a b : Nat)
  | glob (s : List Nat)
  | globI (i : Int)
  | bin (op : BOp) (l r : ME)
  | not (e : ME)
  | neg (e : ME)
  | and (es : List ME)
  | or (es : List ME)
  | cmp (l : ME) (ops : List COp) (rs : List ME)
  | isNone (e : ME)
  | isTrue (e : ME)
  | tup (es : List ME)
  | list (es : List ME)
  /-- keys and values in turn -/
  | dict (kvs : List ME)
  | idx (o i : ME)
  | slice (o lo hi : ME)
  | attr (o : ME) (a : Nat)
  | call (f : Nat) (args : List ME)
  | new (c : Nat) (args : List ME)
  | meth (o : ME) (m : Nat) (args : List ME)
  | bi (b : Bi) (args : List ME)
  | bm (m : Bm) (o : ME) (args : List ME)
  | inst (e : ME) (k : Kd)
  | comp (elt : ME) (x : Nat) (src : ME) (conds : List ME)
deriving Inhabited

inductive MS where
  | set (x : Nat) (e : ME)
  | unpack (xs : List Nat) (e : ME)
  | setAttr (o : ME) (a : Nat) (e : ME)
  | setItem (o i : ME) (e : ME)
  | expr (e : ME)
  | ifs (t : ME) (a b : List MS)
  | loop (x : Nat) (src : ME) (body : List MS)
  | whil (t : ME) (body : List MS)
  | ret (e : ME)
  | pass
  | raise (c : Nat) (msg : List Nat)
  | try_ (body : List MS) (c : Nat) (x : Nat) (hb : List MS)
deriving Inhabited

structure Fn where
  name : PySem.Str
  np : Nat
  /-- how many slots are the def's own names; the rest are comprehensions' -/
  nl : Nat
  names : List PySem.Str
  body : List MS
deriving Inhabited

structure Cl where
  name : PySem.Str := ""
  exc : Bool := false
  /-- itself and the own classes above it -/
  ups : List Nat := []
  init : Option Nat := Option.none
  meths : List (Nat × Nat) := []
  nattr : Nat := 0
deriving Inhabited

structure Pr where
  fns : List Fn
  cls : List Cl
  attrs : List PySem.Str
  methNames : List PySem.Str
deriving Inhabited

def lim : Nat := 16777216

/-! ### equality of keys -/
mutual
def AV.beq : AV → AV → Bool
  | .none, .none => true
  | .bool a, .bool b => a == b
  | .int a, .int b => a == b
  | .str a, .str b => a == b
  | .tup a, .tup b => AV.beqs a b
  | .ref a, .ref b => a == b
  | .exc a, .exc b => a == b
  | .scr a, .scr b => a == b
  | .rng a b, .rng c d => a == c && b == d
  | _, _ => false
def AV.beqs : List AV → List AV → Bool
  | [], [] => true
  | x :: xs, y :: ys => AV.beq x y && AV.beqs xs ys
  | _, _ => false
end

/-- the kinds of keys: intsA and textsA, pairs (text, int) -/
def AV.kd : AV → Nat
  | .int _ => 1
  | .str _ => 1
  | .tup [.str _, .int _] => 2
  | _ => 0

/-! ### data behind values -/
inductive D where
  | none
  | bool (b : Bool)
  | int (i : Int)
  | str (s : List Nat)
  | list (xs : List D)
  | tup (xs : List D)
deriving Inhabited

mutual
/-- Python's == on data -/
def D.eqb : D → D → Bool
  | .none, .none => true
  | .bool a, .bool b => a == b
  | .bool a, .int b => (if a then 1 else 0) == b
  | .int a, .bool b => a == (if b then 1 else 0)
  | .int a, .int b => a == b
  | .str a, .str b => a == b
  | .list a, .list b => D.eqbs a b
  | .tup a, .tup b => D.eqbs a b
  | _, _ => false
def D.eqbs : List D → List D → Bool
  | [], [] => true
  | x :: xs, y :: ys => D.eqb x y && D.eqbs xs ys
  | _, _ => false
end

def mapO {α β : Type} (f : α → Option β) : List α → Option (List β)
  | [] => some []
  | x :: xs => match f x, mapO f xs with
    | some y, some ys => some (y :: ys)
    | _, _ => Option.none

def dat (h : Hp) : Nat → AV → Option D
  | _, .none => some .none
  | _, .bool b => some (.bool b)
  | _, .int i => some (.int i)
  | _, .str s => some (.str s)
  | n + 1, .tup xs => (mapO (dat h n) xs).map .tup
  | n + 1, .ref l => match h[l]? with
    | some (.list xs) => (mapO (dat h n) xs).map .list
    | _ => Option.none
  | _, _ => Option.none

def eqA (h : Hp) (a b : AV) : Option Bool := match dat h 8 a, dat h 8 b with
  | some x, some y => some (D.eqb x y)
  | _, _ => Option.none

/-! ### dicts -/
def dget (es : List (AV × AV)) (k : AV) : Option AV := match es with
  | [] => Option.none
  | (a, v) :: r => if AV.beq a k then some v else dget r k
/-- may the key be sought here -/
def kfit (es : List (AV × AV)) (k : AV) : Bool := decide (k.kd ≠ 0) && es.all fun p => decide (p.1.kd = k.kd)
def dput (es : List (AV × AV)) (k v : AV) : List (AV × AV) := match es with
  | [] => [(k, v)]
  | (a, w) :: r => if AV.beq a k then (a, v) :: r else (a, w) :: dput r k v
def ddel (es : List (AV × AV)) (k : AV) : List (AV × AV) := match es with
  | [] => []
  | (a, w) :: r => if AV.beq a k then r else (a, w) :: ddel r k

/-! ### order -/
def ltFlat : AV → AV → Bool
  | .int a, .int b => decide (a < b)
  | .str a, .str b => decide (a < b)
  | _, _ => false
def ltTup : List AV → List AV → Bool
  | [], [] => false
  | [], _ :: _ => true
  | _ :: _, [] => false
  | x :: xs, y :: ys => if AV.beq x y then ltTup xs ys else ltFlat x y
def ltA : AV → AV → Bool
  | .tup a, .tup b => ltTup a b
  | a, b => ltFlat a b
/-- all of one kind: intsA, textsA, pairs (text, int), triples (int, text, int) -/
def sameKind (xs : List AV) : Bool :=
  xs.all (fun | .int _ => true | _ => false) || xs.all (fun | .str _ => true | _ => false) ||
  xs.all (fun | .tup [.str _, .int _] => true | _ => false) || xs.all (fun | .tup [.int _, .str _, .int _] => true | _ => false)
def insA (x : AV) : List AV → List AV
  | [] => [x]
  | y :: r => if ltA y x then y :: insA x r else x :: y :: r
def sortA : List AV → List AV
  | [] => []
  | x :: r => insA x (sortA r)
def risen : List AV → Bool
  | x :: y :: r => !ltA y x && risen (y :: r)
  | _ => true
def onceA : List AV → List AV
  | [] => []
  | x :: r => x :: (onceA r).filter fun y => !AV.beq y x

/-! ### textsA -/
def rep (n : Nat) (s : List Nat) : List Nat := match n with
  | 0 => []
  | n + 1 => s ++ rep n s
def joinT (sep : List Nat) : List (List Nat) → List Nat
  | [] => []
  | [x] => x
  | x :: y :: r => x ++ sep ++ joinT sep (y :: r)
/-- split at a sign -/
def splitT (c : Nat) : List Nat → List (List Nat)
  | [] => [[]]
  | x :: r => if x == c then [] :: splitT c r else match splitT c r with
    | p :: ps => (x :: p) :: ps
    | [] => [[x]]
def replT (c : Nat) (new : List Nat) : List Nat → List Nat
  | [] => []
  | x :: r => (if x == c then new else [x]) ++ replT c new r
def partT (c : Nat) : List Nat → List Nat × List Nat × List Nat
  | [] => ([], [], [])
  | x :: r => if x == c then ([], [c], r) else let p := partT c r; (x :: p.1, p.2.1, p.2.2)
def digits (fuel n : Nat) (acc : List Nat) : List Nat := match fuel with
  | 0 => acc
  | f + 1 => if n < 10 then (48 + n) :: acc else digits f (n / 10) ((48 + n % 10) :: acc)
def natT (n : Nat) : List Nat := digits (n + 1) n []
def isDig (c : Nat) : Bool := decide (48 ≤ c) && decide (c ≤ 57)
def numT (s : List Nat) : Nat := s.foldl (fun a c => 10 * a + (c - 48)) 0

/-! ### operations -/
def small (a : Int) : Bool := decide (a.natAbs < 18446744073709551616)
def newList (xs : List AV) (h : Hp) : Out AV := if xs.length ≤ lim then .ok (.ref h.length) (h ++ [.list xs]) else .fail

def binA : BOp → AV → AV → Hp → Out AV
  | .add, .int a, .int b, h => .ok (.int (a + b)) h
  | .add, .str a, .str b, h => if a.length + b.length ≤ lim then .ok (.str (a ++ b)) h else .fail
  | .add, .ref a, .ref b, h => match h[a]?, h[b]? with
    | some (.list xs), some (.list ys) => newList (xs ++ ys) h
    | _, _ => .fail
  | .sub, .int a, .int b, h => .ok (.int (a - b)) h
  | .mul, .int a, .int b, h => if small a || small b then .ok (.int (a * b)) h else .fail
  | .mul, .str a, .int b, h => if -lim ≤ b ∧ b ≤ lim ∧ a.length * b.toNat ≤ lim then .ok (.str (rep b.toNat a)) h else .fail
  | .mod, .int a, .int b, h => if 0 < b then .ok (.int (a % b)) h else .fail
  | .div, .int a, .int b, h => if 0 < b ∧ b < 18446744073709551616 then .ok (.int (a / b)) h else .fail
  | _, _, _, _ => .fail

def ordI (op : COp) (x y : Int) : Option Bool := match op with
  | .lt => some (decide (x < y))
  | .le => some (decide (x ≤ y))
  | .gt => some (decide (x > y))
  | .ge => some (decide (x ≥ y))
  | _ => Option.none
def ordS (op : COp) (x y : List Nat) : Option Bool := match op with
  | .lt => some (decide (x < y))
  | .le => some (!decide (y < x))
  | _ => Option.none

def inA (h : Hp) (x : AV) : AV → Option Bool
  | .tup xs => match dat h 8 x, mapO (dat h 8) xs with
    | some d, some ds => some (ds.any fun e => D.eqb e d)
    | _, _ => Option.none
  | .ref l => match h[l]? with
    | some (.list xs) => match dat h 8 x, mapO (dat h 8) xs with
      | some d, some ds => some (ds.any fun e => D.eqb e d)
      | _, _ => Option.none
    | _ => Option.none
  | _ => Option.none

def cmpA (op : COp) (a b : AV) (h : Hp) : Option Bool := match op with
  | .eq => eqA h a b
  | .ne => (eqA h a b).map (!·)
  | .isin => inA h a b
  | .notin => (inA h a b).map (!·)
  | op => match a, b with
    | .int x, .int y => ordI op x y
    | .str x, .str y => ordS op x y
    | _, _ => Option.none

def truth (h : Hp) : AV → Option Bool
  | .none => some false
  | .bool b => some b
  | .int i => some (decide (i ≠ 0))
  | .str s => some (!s.isEmpty)
  | .tup xs => some (!xs.isEmpty)
  | .ref l => match h[l]? with
    | some (.list xs) => some (!xs.isEmpty)
    | _ => Option.none
  | _ => Option.none

/-- a place that may be counted from behind -/
def place (n : Nat) (i : Int) : Option Nat :=
  if 0 ≤ i then (if i < n then some i.toNat else Option.none) else (if 0 ≤ i + n then some (i + n).toNat else Option.none)
def bound (n : Nat) (dflt : Nat) : AV → Option Nat
  | .none => some dflt
  | .int i => some (if 0 ≤ i then min i.toNat n else (i + n).toNat)
  | _ => Option.none
def cut {α : Type} (xs : List α) (a b : Nat) : List α := (xs.drop a).take (b - a)

def idxA (o i : AV) (h : Hp) : Option AV := match o, i with
  | .str s, .int i => (place s.length i).bind fun k => (s[k]?).map fun c => .str [c]
  | .tup xs, .int i => (place xs.length i).bind fun k => xs[k]?
  | .scr ns, .int i => (place ns.length i).bind fun k => (ns[k]?).map .int
  | .ref l, k => match h[l]? with
    | some (.list xs) => match k with
      | .int i => (place xs.length i).bind fun k => xs[k]?
      | _ => Option.none
    | _ => Option.none
  | _, _ => Option.none

def sliceA (o lo hi : AV) (h : Hp) : Out AV := match o with
  | .str s => match bound s.length 0 lo, bound s.length s.length hi with
    | some a, some b => .ok (.str (cut s a b)) h
    | _, _ => .fail
  | .scr ns => match bound ns.length 0 lo, bound ns.length ns.length hi with
    | some a, some b => newList ((cut ns a b).map .int) h
    | _, _ => .fail
  | .ref l => match h[l]? with
    | some (.list xs) => match bound xs.length 0 lo, bound xs.length xs.length hi with
      | some a, some b => newList (cut xs a b) h
      | _, _ => .fail
    | _ => .fail
  | _ => .fail

def intsA : List AV → Option (List Int) := mapO fun | .int i => some i | _ => Option.none
def textsA : List AV → Option (List (List Nat)) := mapO fun | .str s => some s | _ => Option.none
def boolsA : List AV → Option (List Bool) := mapO fun | .bool b => some b | _ => Option.none
def listAt (h : Hp) : AV → Option (List AV)
  | .ref l => match h[l]? with
    | some (.list xs) => some xs
    | _ => Option.none
  | _ => Option.none

def minL : Int → List Int → Int
  | a, [] => a
  | a, b :: r => minL (if b < a then b else a) r

def biA : Bi → List AV → Hp → Out AV
  | .len, [v], h => match v with
    | .str s => .ok (.int s.length) h
    | .tup xs => .ok (.int xs.length) h
    | .scr ns => .ok (.int ns.length) h
    | .ref l => match h[l]? with
      | some (.list xs) => .ok (.int xs.length) h
      | _ => .fail
    | _ => .fail
  | .ord, [.str [c]], h => .ok (.int c) h
  | .range, [.int b], h => if -lim ≤ b ∧ b ≤ lim then .ok (.rng 0 b) h else .fail
  | .range, [.int a, .int b], h => if -lim ≤ a ∧ a ≤ lim ∧ -lim ≤ b ∧ b ≤ lim then .ok (.rng a b) h else .fail
  | .min, [.int a, .int b], h => .ok (.int (if b < a then b else a)) h
  | .max, [.int a, .int b], h => .ok (.int (if b > a then b else a)) h
  | .min, [v], h => match (listAt h v).bind intsA with
    | some (a :: r) => .ok (.int (minL a r)) h
    | _ => .fail
  | _, _, _ => .fail

def bmA : Bm → AV → List AV → Hp → Out AV
  | .append, .ref l, [v], h => match h[l]? with
    | some (.list xs) => if xs.length < lim then .ok .none (h.set l (.list (xs ++ [v]))) else .fail
    | _ => .fail
  | .join, .str sep, [v], h => match (listAt h v).bind textsA with
    | some ts => if (joinT sep ts).length ≤ lim then .ok (.str (joinT sep ts)) h else .fail
    | _ => .fail
  | _, _, _, _ => .fail

def setItemA (o i v : AV) (h : Hp) : Option Hp := match o with
  | .ref l => match h[l]? with
    | some (.list xs) => match i with
      | .int i => (place xs.length i).map fun k => h.set l (.list (xs.set k v))
      | _ => Option.none
    | _ => Option.none
  | _ => Option.none

def instA (_P : Pr) (h : Hp) (v : AV) (k : Kd) : Option Bool := match k with
  | .cls _ => Option.none
  | .value => Option.none
  | k => match v with
    | .none => some false
    | .bool _ => some (k == .bool || k == .int)
    | .int _ => some (k == .int)
    | .str _ => some (k == .str)
    | .tup _ => some (k == .tup)
    | .ref l => match h[l]? with
      | some (.list _) => some (k == .list)
      | _ => Option.none
    | _ => Option.none

/-! ### loops -/
inductive It (σ ρ : Type) where
  | go (s : σ)
  | stop (r : ρ)

def iterL {σ ρ : Type} (f : AV → σ → It σ ρ) : List AV → σ → It σ ρ
  | [], s => .go s
  | v :: r, s => match f v s with
    | .go s' => iterL f r s'
    | .stop x => .stop x
def iterR {σ ρ : Type} (get : σ → Option (List AV)) (bad : ρ) (f : AV → σ → It σ ρ) : Nat → Nat → σ → It σ ρ
  | 0, _, _ => .stop bad
  | n + 1, i, s => match get s with
    | Option.none => .stop bad
    | some xs => match xs[i]? with
      | Option.none => .go s
      | some v => match f v s with
        | .go s' => iterR get bad f n (i + 1) s'
        | .stop x => .stop x

inductive Src where
  | fixed (xs : List AV)
  | list (l n : Nat)
  | dict (l ep n : Nat)

def ups (a : Int) (n : Nat) : List AV := match n with
  | 0 => []
  | n + 1 => .int a :: ups (a + 1) n
def srcA (h : Hp) : AV → Option Src
  | .str s => some (.fixed (s.map fun c => .str [c]))
  | .tup xs => some (.fixed xs)
  | .rng a b => some (.fixed (ups a (b - a).toNat))
  | .ref l => match h[l]? with
    | some (.list xs) => some (.list l xs.length)
    | _ => Option.none
  | _ => Option.none
def getL (l : Nat) (h : Hp) : Option (List AV) := match h[l]? with
  | some (.list xs) => some xs
  | _ => Option.none
def getD (l ep : Nat) (h : Hp) : Option (List AV) := match h[l]? with
  | some (.dict ep' es) => if ep' = ep then some (es.map (·.1)) else Option.none
  | _ => Option.none
def iter {τ ρ : Type} (src : Src) (bad : ρ) (f : AV → Hp × τ → It (Hp × τ) ρ) (s : Hp × τ) : It (Hp × τ) ρ := match src with
  | .fixed xs => iterL f xs s
  | .list l n => iterR (fun s => getL l s.1) bad f (n + 1) 0 s
  | .dict l ep n => iterR (fun s => getD l ep s.1) bad f (n + 1) 0 s

def whileN (t : Hp → Vs → Out Bool) (b : Hp → Vs → OutS) : Nat → Hp → Vs → OutS
  | 0, _, _ => .fail
  | n + 1, h, vs => match t h vs with
    | .ok false h => .next h vs
    | .ok true h => match b h vs with
      | .next h vs => whileN t b n h vs
      | o => o
    | .exc c h => .exc c h vs
    | .fail => .fail

def pairs : List AV → Option (List (AV × AV))
  | [] => some []
  | k :: v :: r => (pairs r).map fun l => (k, v) :: l
  | [_] => Option.none
/-- keys of one kind, all different -/
def distinct : List (AV × AV) → Bool
  | [] => true
  | (k, _) :: r => kfit r k && r.all (fun p => !AV.beq k p.1) && distinct r

/-! ### the interpreter -/
structure Cx where
  P : Pr
  hd : Bool
  call : Nat → List AV → Hp → Out AV

mutual
def ev (C : Cx) : ME → Hp → Vs → Out AV
  | .none, h, _ => .ok .none h
  | .bool b, h, _ => .ok (.bool b) h
  | .int i, h, _ => .ok (.int i) h
  | .str s, h, _ => .ok (.str s) h
  | .powc a b, h, _ => .ok (.int ((a ^ b : Nat) : Int)) h
  | .glob s, h, _ => .ok (.str s) h
  | .globI i, h, _ => .ok (.int i) h
  | .var x, h, vs => match vs[x]? with
    | some (some v) => .ok v h
    | _ => .fail
  | .bin op a b, h, vs => (ev C a h vs).bind fun x h => (ev C b h vs).bind fun y h => binA op x y h
  | .not e, h, vs => (ev C e h vs).bind fun x h => match truth h x with
    | some b => .ok (.bool (!b)) h
    | Option.none => .fail
  | .neg e, h, vs => (ev C e h vs).bind fun x h => match x with
    | .int i => .ok (.int (-i)) h
    | _ => .fail
  | .and es, h, vs => evAnd C es h vs
  | .or es, h, vs => evOr C es h vs
  | .cmp l ops rs, h, vs => (ev C l h vs).bind fun x h => evCmp C x ops rs h vs
  | .isNone e, h, vs => (ev C e h vs).bind fun x h => match x with
    | .none => .ok (.bool true) h
    | _ => .ok (.bool false) h
  | .isTrue e, h, vs => (ev C e h vs).bind fun x h => match x with
    | .bool true => .ok (.bool true) h
    | _ => .ok (.bool false) h
  | .tup es, h, vs => (evs C es h vs).bind fun xs h => .ok (.tup xs) h
  | .list es, h, vs => (evs C es h vs).bind fun xs h => newList xs h
  | .dict kvs, h, vs => (evs C kvs h vs).bind fun xs h => match pairs xs with
    | some kv => if distinct kv then .ok (.ref h.length) (h ++ [.dict kv.length kv]) else .fail
    | Option.none => .fail
  | .idx o i, h, vs => (ev C o h vs).bind fun x h => (ev C i h vs).bind fun y h => match idxA x y h with
    | some v => .ok v h
    | Option.none => .fail
  | .slice o lo hi, h, vs => (ev C o h vs).bind fun x h => (ev C lo h vs).bind fun a h => (ev C hi h vs).bind fun b h => sliceA x a b h
  | .attr o a, h, vs => (ev C o h vs).bind fun x h => match x with
    | .ref l => match h[l]? with
      | some (.inst _ fs) => match fs[a]? with
        | some (some v) => .ok v h
        | _ => .fail
      | _ => .fail
    | _ => .fail
  | .call f args, h, vs => (evs C args h vs).bind fun xs h => C.call f xs h
  | .new c args, h, vs => (evs C args h vs).bind fun xs h => match C.P.cls[c]? with
    | some cl => match cl.init with
      | some f => (C.call f (.ref h.length :: xs) (h ++ [.inst c (List.replicate cl.nattr Option.none)])).bind fun r h' => match r with
        | .none => .ok (.ref h.length) h'
        | _ => .fail
      | Option.none => .fail
    | Option.none => .fail
  | .meth o m args, h, vs => (ev C o h vs).bind fun x h => match x with
    | .ref l => match h[l]? with
      | some (.inst c _) => match (C.P.cls[c]?).bind fun cl => cl.meths.lookup m with
        | some f => (evs C args h vs).bind fun xs h => C.call f (.ref l :: xs) h
        | Option.none => .fail
      | _ => .fail
    | _ => .fail
  | .bi b args, h, vs => (evs C args h vs).bind fun xs h => biA b xs h
  | .bm m o args, h, vs => (ev C o h vs).bind fun x h => (evs C args h vs).bind fun xs h => bmA m x xs h
  | .inst e k, h, vs => (ev C e h vs).bind fun x h => match instA C.P h x k with
    | some b => .ok (.bool b) h
    | Option.none => .fail
  | .comp elt x src conds, h, vs => (ev C src h vs).bind fun s h => match srcA h s with
    | some src => match iter src Out.fail (fun v (st : Hp × List AV) =>
          match evConds C conds st.1 (vs.set x (some v)) with
          | .ok true h => match ev C elt h (vs.set x (some v)) with
            | .ok w h => .go (h, st.2 ++ [w])
            | .exc c h => .stop (Out.exc c h)
            | .fail => .stop .fail
          | .ok false h => .go (h, st.2)
          | .exc c h => .stop (.exc c h)
          | .fail => .stop .fail) (h, []) with
      | .go st => newList st.2 st.1
      | .stop o => o
    | Option.none => .fail

def evs (C : Cx) : List ME → Hp → Vs → Out (List AV)
  | [], h, _ => .ok [] h
  | e :: r, h, vs => (ev C e h vs).bind fun x h => (evs C r h vs).bind fun xs h => .ok (x :: xs) h

def evAnd (C : Cx) : List ME → Hp → Vs → Out AV
  | [], _, _ => .fail
  | [e], h, vs => ev C e h vs
  | e :: r, h, vs => (ev C e h vs).bind fun x h => match truth h x with
    | some false => .ok x h
    | some true => evAnd C r h vs
    | Option.none => .fail

def evOr (C : Cx) : List ME → Hp → Vs → Out AV
  | [], _, _ => .fail
  | [e], h, vs => ev C e h vs
  | e :: r, h, vs => (ev C e h vs).bind fun x h => match truth h x with
    | some true => .ok x h
    | some false => evOr C r h vs
    | Option.none => .fail

def evCmp (C : Cx) : AV → List COp → List ME → Hp → Vs → Out AV
  | x, [op], [e], h, vs => (ev C e h vs).bind fun y h => match cmpA op x y h with
    | some b => .ok (.bool b) h
    | Option.none => .fail
  | x, op :: ops, e :: es, h, vs => (ev C e h vs).bind fun y h => match cmpA op x y h with
    | some true => evCmp C y ops es h vs
    | some false => .ok (.bool false) h
    | Option.none => .fail
  | _, _, _, _, _ => .fail

def evConds (C : Cx) : List ME → Hp → Vs → Out Bool
  | [], h, _ => .ok true h
  | e :: r, h, vs => (ev C e h vs).bind fun x h => match truth h x with
    | some true => evConds C r h vs
    | some false => .ok false h
    | Option.none => .fail
end

def setAll : List Nat → List AV → Vs → Option Vs
  | [], [], vs => some vs
  | x :: xs, v :: r, vs => setAll xs r (vs.set x (some v))
  | _, _, _ => Option.none

mutual
def ex (C : Cx) : MS → Hp → Vs → OutS
  | .set x e, h, vs => match ev C e h vs with
    | .ok v h => .next h (vs.set x (some v))
    | .exc c h => .exc c h vs
    | .fail => .fail
  | .unpack xs e, h, vs => match ev C e h vs with
    | .ok (.tup ws) h => match setAll xs ws vs with
      | some vs => .next h vs
      | Option.none => .fail
    | .ok _ _ => .fail
    | .exc c h => .exc c h vs
    | .fail => .fail
  | .setAttr o a e, h, vs => match ev C e h vs with
    | .ok v h => match ev C o h vs with
      | .ok (.ref l) h => match h[l]? with
        | some (.inst c fs) => if a < fs.length then .next (h.set l (.inst c (fs.set a (some v)))) vs else .fail
        | _ => .fail
      | .ok _ _ => .fail
      | .exc c h => .exc c h vs
      | .fail => .fail
    | .exc c h => .exc c h vs
    | .fail => .fail
  | .setItem o i e, h, vs => match ev C e h vs with
    | .ok v h => match ev C o h vs with
      | .ok x h => match ev C i h vs with
        | .ok k h => match setItemA x k v h with
          | some h => .next h vs
          | Option.none => .fail
        | .exc c h => .exc c h vs
        | .fail => .fail
      | .exc c h => .exc c h vs
      | .fail => .fail
    | .exc c h => .exc c h vs
    | .fail => .fail
  | .expr e, h, vs => match ev C e h vs with
    | .ok _ h => .next h vs
    | .exc c h => .exc c h vs
    | .fail => .fail
  | .ifs t a b, h, vs => match ev C t h vs with
    | .ok v h => match truth h v with
      | some true => exs C a h vs
      | some false => exs C b h vs
      | Option.none => .fail
    | .exc c h => .exc c h vs
    | .fail => .fail
  | .loop x src body, h, vs => match ev C src h vs with
    | .ok s h => match srcA h s with
      | some src => match iter src OutS.fail (fun v (st : Hp × Vs) => match exs C body st.1 (st.2.set x (some v)) with
          | .next h vs => .go (h, vs)
          | o => .stop o) (h, vs) with
        | .go st => .next st.1 st.2
        | .stop o => o
      | Option.none => .fail
    | .exc c h => .exc c h vs
    | .fail => .fail
  | .whil t body, h, vs => whileN (fun h vs => (ev C t h vs).bind fun v h => match truth h v with
      | some b => .ok b h
      | Option.none => .fail) (fun h vs => exs C body h vs) lim h vs
  | .ret e, h, vs => match ev C e h vs with
    | .ok v h => .ret v h
    | .exc c h => .exc c h vs
    | .fail => .fail
  | .pass, h, vs => .next h vs
  | .raise c _, h, vs => if C.hd then .fail else .exc c h vs
  | .try_ body c x hb, h, vs => match exs C body h vs with
    | .exc d h vs => match (C.P.cls[d]?).map fun cl => cl.ups.contains c with
      | some true => if C.hd then .fail else match exs { C with hd := true } hb h (vs.set x (some (.exc d))) with
        | .next h vs => .next h (vs.set x Option.none)
        | .ret v h => .ret v h
        | .exc _ _ _ => .fail
        | .fail => .fail
      | _ => .fail
    | o => o

def exs (C : Cx) : List MS → Hp → Vs → OutS
  | [], h, vs => .next h vs
  | s :: r, h, vs => match ex C s h vs with
    | .next h vs => exs C r h vs
    | o => o
end

/-- a call: n calls deep at most -/
def callF (P : Pr) : Nat → Bool → Nat → List AV → Hp → Out AV
  | 0, _, _, _, _ => .fail
  | n + 1, hd, f, args, h => match P.fns[f]? with
    | some fn => if args.length = fn.np ∧ fn.body.isEmpty = false then
        match exs ⟨P, hd, callF P n hd⟩ fn.body h (args.map some ++ List.replicate (fn.names.length - fn.np) Option.none) with
        | .next h _ => .ok .none h
        | .ret v h => .ok v h
        | .exc c h _ => .exc c h
        | .fail => .fail
      else .fail
    | Option.none => .fail

end Mine

/-! Soundness of the abstract interpreter, part 1: the relation between abstract and model states (typed by hand). -/
set_option Elab.async false
namespace Mine
open PySem

/-- who owns an address: nobody (it is written by nobody but the frame that made it), an abstract place, or exceptions -/
inductive Ow where
  | free
  | loc (l : Nat)
  | exc
deriving DecidableEq

structure Tp where
  prog : Program
  w : World
  P : Pr
  base : Heap
  mg : Str → Option Value
  mb : Str → Option Value
  ca : Nat → Addr
  fa : Nat → Addr

abbrev Tp.M (T : Tp) : Model := model T.prog T.w

def tS (s : List Nat) : Str := ⟨s.toArray⟩
def okS (s : List Nat) : Prop := (∀ c ∈ s, c < 128) ∧ s.length ≤ lim

mutual
inductive VR (T : Tp) (own : Addr → Ow) (bt : List Addr) (h : Heap) : AV → Value → Prop
  | none : VR T own bt h .none .none
  | bool (b : Bool) : VR T own bt h (.bool b) (.bool b)
  | int (i : Int) (t : Tok) : VR T own bt h (.int i) (.int i t)
  | str {s : List Nat} (t : Tok) : okS s → VR T own bt h (.str s) (.str (tS s) t)
  | tup {xs : List AV} {a : Addr} {o : Obj} {vs : Array Value} {n : Nat} : h.get? a = some o → o.cls = .type "tuple" → o.data = .seq vs n → own a = .free → xs.length ≤ lim →
      VRs T own bt h xs vs.toList → VR T own bt h (.tup xs) (.ref a)
  | ref {l : Nat} {a : Addr} : bt[l]? = some a → VR T own bt h (.ref l) (.ref a)
  | exc {c : Nat} {a : Addr} {o : Obj} : h.get? a = some o → o.cls = .ref (T.ca c) → own a = .exc → VR T own bt h (.exc c) (.ref a)
  | scr {ns : List Int} {a : Addr} {o : Obj} {vs : Array Value} {n : Nat} : T.base.get? a = some o → o.cls = .type "list" → o.data = .seq vs n → ns.length ≤ lim →
      (∀ (i : Nat) (x : Int), ns[i]? = some x → ∃ t, vs[i]? = some (Value.int x t)) → vs.size = ns.length → VR T own bt h (.scr ns) (.ref a)
  | rng {x y : Int} {a : Addr} {t u v : Tok} : h.get? a = some { cls := .type "range", dict := none, data := .fields #[Value.int x t, Value.int y u, Value.int 1 v], slots := #[] } → own a = .free →
      -lim ≤ x → x ≤ lim → -lim ≤ y → y ≤ lim → VR T own bt h (.rng x y) (.ref a)
inductive VRs (T : Tp) (own : Addr → Ow) (bt : List Addr) (h : Heap) : List AV → List Value → Prop
  | nil : VRs T own bt h [] []
  | cons {x : AV} {v : Value} {xs : List AV} {vs : List Value} : VR T own bt h x v → VRs T own bt h xs vs → VRs T own bt h (x :: xs) (v :: vs)
end

/-- an object as it stands, or a frame whose slots alone are changed -/
def KO (o o' : Obj) : Prop := o' = o ∨ (o.cls = .type "frame" ∧ ∃ sl, o' = { o with slots := sl })
theorem KO.refl (o : Obj) : KO o o := .inl rfl
theorem KO.cls {o o' : Obj} (h : KO o o') : o'.cls = o.cls := by
  rcases h with rfl | ⟨_, sl, rfl⟩ <;> rfl
theorem KO.data {o o' : Obj} (h : KO o o') : o'.data = o.data := by
  rcases h with rfl | ⟨_, sl, rfl⟩ <;> rfl
theorem KO.same {o o' : Obj} (h : KO o o') (hc : o.cls ≠ .type "frame") : o' = o := by
  rcases h with rfl | ⟨q, _⟩
  · rfl
  · exact absurd q hc
theorem KO.trans {o₁ o₂ o₃ : Obj} (h : KO o₁ o₂) (k : KO o₂ o₃) : KO o₁ o₃ := by
  rcases h with rfl | ⟨q, sl, rfl⟩
  · exact k
  · rcases k with rfl | ⟨_, sl', rfl⟩
    · exact .inr ⟨q, sl, rfl⟩
    · exact .inr ⟨q, sl', rfl⟩

/-- from one state to a later one: what nobody owns stands (but for the addresses of X, the frame's own); owners stay -/
structure Ext (X : Addr → Prop) (own : Addr → Ow) (bt : List Addr) (h : Heap) (own' : Addr → Ow) (bt' : List Addr) (h' : Heap) : Prop where
  kp : ∀ a o, h.get? a = some o → own a = .free → ¬ X a → ∃ o', h'.get? a = some o' ∧ KO o o'
  ke : ∀ a o, h.get? a = some o → own a = .exc → ∃ o', h'.get? a = some o' ∧ o'.cls = o.cls
  oe : ∀ a o, h.get? a = some o → own a = .exc → own' a = .exc
  df : ∀ a o, h.get? a = some o → ¬ X a → ∃ o', h'.get? a = some o'
  ow : ∀ a o, h.get? a = some o → ¬ X a → own' a = own a
  bt : ∃ r, bt' = bt ++ r

theorem Ext.refl (X : Addr → Prop) (own : Addr → Ow) (bt : List Addr) (h : Heap) : Ext X own bt h own bt h :=
  ⟨fun _ o e _ _ => ⟨o, e, .refl o⟩, fun _ o e _ => ⟨o, e, rfl⟩, fun _ _ _ f => f, fun _ o e _ => ⟨o, e⟩, fun _ _ _ _ => rfl, [], (List.append_nil _).symm⟩

theorem Ext.trans {X : Addr → Prop} {o₁ o₂ o₃ : Addr → Ow} {b₁ b₂ b₃ : List Addr} {h₁ h₂ h₃ : Heap} (x : Ext X o₁ b₁ h₁ o₂ b₂ h₂) (y : Ext X o₂ b₂ h₂ o₃ b₃ h₃) : Ext X o₁ b₁ h₁ o₃ b₃ h₃ where
  kp := fun a o e f n => by
    obtain ⟨o', e', k⟩ := x.kp a o e f n
    obtain ⟨o'', e'', k'⟩ := y.kp a o' e' ((x.ow a o e n).trans f) n
    exact ⟨o'', e'', k.trans k'⟩
  ke := fun a o e f => by
    obtain ⟨o', e', k⟩ := x.ke a o e f
    obtain ⟨o'', e'', k'⟩ := y.ke a o' e' (x.oe a o e f)
    exact ⟨o'', e'', k'.trans k⟩
  oe := fun a o e f => by
    obtain ⟨o', e', _⟩ := x.ke a o e f
    exact y.oe a o' e' (x.oe a o e f)
  df := fun a o e n => by
    obtain ⟨o', e'⟩ := x.df a o e n
    exact y.df a o' e' n
  ow := fun a o e n => by
    obtain ⟨o', e'⟩ := x.df a o e n
    exact (y.ow a o' e' n).trans (x.ow a o e n)
  bt := by
    obtain ⟨r, e⟩ := x.bt
    obtain ⟨r', e'⟩ := y.bt
    exact ⟨r ++ r', by rw [e', e, List.append_assoc]⟩

theorem Ext.mono {X Y : Addr → Prop} {o₁ o₂ : Addr → Ow} {b₁ b₂ : List Addr} {h₁ h₂ : Heap} (x : Ext X o₁ b₁ h₁ o₂ b₂ h₂) (m : ∀ a, X a → Y a) : Ext Y o₁ b₁ h₁ o₂ b₂ h₂ :=
  ⟨fun a o e f n => x.kp a o e f fun q => n (m a q), x.ke, x.oe, fun a o e n => x.df a o e fun q => n (m a q), fun a o e n => x.ow a o e fun q => n (m a q), x.bt⟩

/-- the addresses of X are nobody's and hold no tuples and no ranges -/
def FrX (X : Addr → Prop) (own : Addr → Ow) (h : Heap) : Prop := ∀ a, X a → own a = .free ∧ ∀ o, h.get? a = some o → (∃ es n, o.data = .dict es n) ∨ (∃ v, o.data = .cell v) ∨ (o.cls ≠ .type "tuple" ∧ o.cls ≠ .type "range")
def noX : Addr → Prop := fun _ => False
theorem FrX.no {own : Addr → Ow} {h : Heap} : FrX noX own h := fun _ q => q.elim

section
variable {T : Tp} {X : Addr → Prop} {own own' : Addr → Ow} {bt bt' : List Addr} {h h' : Heap}

mutual
theorem VR.ext (x : Ext X own bt h own' bt' h') (fx : FrX X own h) : ∀ {av : AV} {v : Value}, VR T own bt h av v → VR T own' bt' h' av v
  | _, _, .none => .none
  | _, _, .bool b => .bool b
  | _, _, .int i t => .int i t
  | _, _, .str t q => .str t q
  | _, _, .tup e c d f l r => by
    have hx : ¬ X _ := fun q => by
      rcases (fx _ q).2 _ e with ⟨_, _, z⟩ | ⟨_, z⟩ | ⟨z, _⟩
      · rw [d] at z; cases z
      · rw [d] at z; cases z
      · exact z c
    obtain ⟨o', e', k⟩ := x.kp _ _ e f hx
    exact .tup e' (k.cls.trans c) (k.data.trans d) ((x.ow _ _ e hx).trans f) l (VRs.ext x fx r)
  | _, _, .ref e => by
    obtain ⟨r, q⟩ := x.bt
    refine .ref ?_
    rw [q, List.getElem?_append_left (List.getElem?_eq_some_iff.mp e).1]; exact e
  | _, _, .exc e c f => by
    obtain ⟨o', e', k⟩ := x.ke _ _ e f
    exact .exc e' (k.trans c) (x.oe _ _ e f)
  | _, _, .scr e c d l r z => .scr e c d l r z
  | _, _, .rng e f a b c d => by
    have hx : ¬ X _ := fun q => by
      rcases (fx _ q).2 _ e with ⟨_, _, z⟩ | ⟨_, z⟩ | ⟨_, z⟩
      · cases z
      · cases z
      · exact z rfl
    obtain ⟨o', e', k⟩ := x.kp _ _ e f hx
    have k' := k.same (by simp)
    subst k'
    exact .rng e' ((x.ow _ _ e hx).trans f) a b c d
theorem VRs.ext (x : Ext X own bt h own' bt' h') (fx : FrX X own h) : ∀ {xs : List AV} {vs : List Value}, VRs T own bt h xs vs → VRs T own' bt' h' xs vs
  | _, _, .nil => .nil
  | _, _, .cons a r => .cons (VR.ext x fx a) (VRs.ext x fx r)
end

theorem VRs.length : ∀ {xs : List AV} {vs : List Value}, VRs T own bt h xs vs → vs.length = xs.length
  | _, _, .nil => rfl
  | _, _, .cons _ r => by simp [r.length]
theorem VRs.get : ∀ {xs : List AV} {vs : List Value}, VRs T own bt h xs vs → ∀ {i : Nat} {x : AV}, xs[i]? = some x → ∃ v, vs[i]? = some v ∧ VR T own bt h x v
  | _, _, .cons a r, 0, _, e => by
    cases e; exact ⟨_, rfl, a⟩
  | _, _, .cons a r, i + 1, _, e => by
    obtain ⟨v, q, z⟩ := r.get (i := i) (by simpa using e)
    exact ⟨v, by simpa using q, z⟩
theorem VRs.append : ∀ {xs ys : List AV} {vs ws : List Value}, VRs T own bt h xs vs → VRs T own bt h ys ws → VRs T own bt h (xs ++ ys) (vs ++ ws)
  | _, _, _, _, .nil, k => k
  | _, _, _, _, .cons a r, k => .cons a (r.append k)
theorem VRs.drop : ∀ {xs : List AV} {vs : List Value} (n : Nat), VRs T own bt h xs vs → VRs T own bt h (xs.drop n) (vs.drop n)
  | _, _, 0, k => by simpa using k
  | _, _, n + 1, .nil => by simpa using VRs.nil
  | _, _, n + 1, .cons _ r => by simpa using r.drop n
theorem VRs.take : ∀ {xs : List AV} {vs : List Value} (n : Nat), VRs T own bt h xs vs → VRs T own bt h (xs.take n) (vs.take n)
  | _, _, 0, _ => by simpa using VRs.nil
  | _, _, n + 1, .nil => by simpa using VRs.nil
  | _, _, n + 1, .cons a r => by simpa using VRs.cons a (r.take n)
theorem VRs.set : ∀ {xs : List AV} {vs : List Value} (n : Nat) {x : AV} {v : Value}, VRs T own bt h xs vs → VR T own bt h x v → VRs T own bt h (xs.set n x) (vs.set n v)
  | _, _, _, _, _, .nil, _ => by simpa using VRs.nil
  | _, _, 0, _, _, .cons _ r, q => by simpa using VRs.cons q r
  | _, _, n + 1, _, _, .cons a r, q => by simpa using VRs.cons a (r.set n q)
end
end Mine

/-! Soundness, part 2: objects, states, what a tree must give back (typed by hand). -/
set_option Elab.async false
namespace Mine
open PySem PySem.SeqAt

/-! ### keys -/
def kIs : Str ⊕ Int → Value → Bool
  | .inl x, v => Value.isStrOf x v
  | .inr i, v => Value.isInt i v
theorem kIs_shape {k : Str ⊕ Int} {v : Value} (h : kIs k v = true) : (∃ x t, k = .inl x ∧ v = .str x t) ∨ ∃ i t, k = .inr i ∧ v = .int i t := by
  cases k with
  | inl x => obtain ⟨t, rfl⟩ := Value.isStrOf_shape h; exact .inl ⟨x, t, rfl, rfl⟩
  | inr i => obtain ⟨t, rfl⟩ := Value.isInt_shape h; exact .inr ⟨i, t, rfl, rfl⟩

def kKind (prog : Program) (w : World) : KeyKind prog w (Str ⊕ Int) where
  is := kIs
  hash := fun | .inl x => hashStr w x | .inr i => hashInt i
  inj := fun v a b ha hb => by
    rcases kIs_shape ha with ⟨x, t, rfl, rfl⟩ | ⟨i, t, rfl, rfl⟩ <;> rcases kIs_shape hb with ⟨y, u, rfl, q⟩ | ⟨j, u, rfl, q⟩ <;> cases q <;> rfl
  byValue := fun k v h => by rcases kIs_shape h with ⟨x, t, rfl, rfl⟩ | ⟨i, t, rfl, rfl⟩ <;> rfl
  pyHash := fun hv h => by
    rcases kIs_shape hv with ⟨x, t, rfl, rfl⟩ | ⟨i, t, rfl, rfl⟩
    · exact wpAny_pyHash_str h
    · exact wpAny_pyHash_int h
  eqBool := fun {A E s a b u v Q} hu hv h => by
    rcases kIs_shape hu with ⟨x, t, rfl, rfl⟩ | ⟨i, t, rfl, rfl⟩ <;> rcases kIs_shape hv with ⟨y, u, rfl, rfl⟩ | ⟨j, u, rfl, rfl⟩
    · exact wpAny_eqBool_str (by simpa using h)
    · exact (EqAt.str_int x t j u) prog w E Q (by simpa using h)
    · exact (EqAt.int_str i t y u) prog w E Q (by simpa using h)
    · exact wpAny_eqBool_int (by
        have e : (i == j) = decide ((Sum.inr i : Str ⊕ Int) = Sum.inr j) := by
          by_cases q : i = j <;> simp [q]
        rw [e]; exact h)
  «strs» := fun k x t v h => by
    rcases kIs_shape h with ⟨y, u, rfl, q⟩ | ⟨i, u, rfl, q⟩ <;> cases q
    cases v <;> rfl

/-- the hash of a key -/
def khash (T : Tp) : AV → Int
  | .int i => hashInt i
  | .str s => hashStr T.w (tS s)
  | .tup [.str s, .int i] => tupleKeyHash (kKind T.prog T.w) [.inl (tS s), .inr i]
  | _ => 0

def ERs (T : Tp) (own : Addr → Ow) (bt : List Addr) (h : Heap) : List (AV × AV) → List DictEntry → Prop
  | [], [] => True
  | (k, v) :: r, e :: es => VR T own bt h k e.key ∧ VR T own bt h v e.val ∧ e.hash = khash T k ∧ ERs T own bt h r es
  | _, _ => False

theorem ERs.ext {T : Tp} {X : Addr → Prop} {own own' : Addr → Ow} {bt bt' : List Addr} {h h' : Heap} (x : Ext X own bt h own' bt' h') (fx : FrX X own h) :
    ∀ {es : List (AV × AV)} {ds : List DictEntry}, ERs T own bt h es ds → ERs T own' bt' h' es ds
  | [], [], _ => trivial
  | (_, _) :: _, _ :: _, ⟨a, b, c, r⟩ => ⟨a.ext x fx, b.ext x fx, c, r.ext x fx⟩
theorem ERs.length {T : Tp} {own : Addr → Ow} {bt : List Addr} {h : Heap} : ∀ {es : List (AV × AV)} {ds : List DictEntry}, ERs T own bt h es ds → ds.length = es.length
  | [], [], _ => rfl
  | (_, _) :: _, _ :: _, ⟨_, _, _, r⟩ => by simp [r.length]

/-- what an instance's dict says under a name -/
def fnd (ents : List DictEntry) (nm : Str) : Option Value := (ents.find? fun e => e.key.isStr nm).map (·.val)
/-- the attributes of an instance -/
def IR (T : Tp) (own : Addr → Ow) (bt : List Addr) (h : Heap) (fs : List (Option AV)) (ents : List DictEntry) : Prop :=
  (∀ e ∈ ents, ∃ x t, e.key = .str x t ∧ e.hash = hashStr T.w x) ∧
  ∀ (i : Nat) (nm : Str), T.P.attrs[i]? = some nm → (∀ av, fs[i]? = some (some av) → ∃ v, fnd ents nm = some v ∧ VR T own bt h av v) ∧ ((∀ av, fs[i]? ≠ some (some av)) → fnd ents nm = none)
theorem IR.ext {T : Tp} {X : Addr → Prop} {own own' : Addr → Ow} {bt bt' : List Addr} {h h' : Heap} {fs : List (Option AV)} {ents : List DictEntry} (r : IR T own bt h fs ents) (x : Ext X own bt h own' bt' h') (fx : FrX X own h) :
    IR T own' bt' h' fs ents :=
  ⟨r.1, fun i nm e => ⟨fun av q => let ⟨v, e1, e2⟩ := (r.2 i nm e).1 av q; ⟨v, e1, e2.ext x fx⟩, (r.2 i nm e).2⟩⟩

/-- an object of the abstract heap as the model has it -/
def OR (T : Tp) (own : Addr → Ow) (bt : List Addr) (h : Heap) (l : Nat) (a : Addr) : AO → Prop
  | .list xs => ∃ vs n, h.get? a = some { cls := .type "list", data := .seq vs n } ∧ VRs T own bt h xs vs.toList ∧ xs.length ≤ lim
  | .dict ep es => ∃ ents, h.get? a = some { cls := .type "dict", data := .dict ents ep } ∧ ERs T own bt h es ents.toList ∧ distinct es = true ∧ es.length ≤ lim
  | .inst c fs => ∃ dx ents n, h.get? a = some { cls := .ref (T.ca c), dict := some dx, data := .plain } ∧ own dx = .loc l ∧ dx ≠ a ∧ h.get? dx = some { cls := .type "dict", data := .dict ents n } ∧
      IR T own bt h fs ents.toList

theorem OR.mono {T : Tp} {X : Addr → Prop} {own own' : Addr → Ow} {bt bt' : List Addr} {h h' : Heap} {l : Nat} {a : Addr} {o : AO} (r : OR T own bt h l a o) (x : Ext X own bt h own' bt' h') (fx : FrX X own h) (ha : own a = .loc l)
    (k : ∀ b q, own b = .loc l → h.get? b = some q → h'.get? b = some q) : OR T own' bt' h' l a o := by
  cases o with
  | list xs => obtain ⟨vs, n, h1, h2, h3⟩ := r; exact ⟨vs, n, k _ _ ha h1, h2.ext x fx, h3⟩
  | dict ep es => obtain ⟨ents, h1, h2, h3, h4⟩ := r; exact ⟨ents, k _ _ ha h1, h2.ext x fx, h3, h4⟩
  | inst c fs =>
    obtain ⟨dx, ents, n, h1, h2, h3, h4, h5⟩ := r
    exact ⟨dx, ents, n, k _ _ ha h1, (x.ow _ _ h4 fun q => by rw [(fx _ q).1] at h2; cases h2).trans h2, h3, k _ _ h2 h4, h5.ext x fx⟩

structure Wd where
  own : Addr → Ow
  bt : List Addr
  σ : Hp
  s : Shared

abbrev Wd.h (W : Wd) : Heap := W.s.heap
abbrev Wd.V (W : Wd) (T : Tp) : AV → Value → Prop := VR T W.own W.bt W.s.heap
abbrev Wd.Vs (W : Wd) (T : Tp) : List AV → List Value → Prop := VRs T W.own W.bt W.s.heap

structure Inv (T : Tp) (W : Wd) : Prop where
  len : W.bt.length = W.σ.length
  ownb : ∀ l a, W.bt[l]? = some a → W.own a = .loc l
  lt : ∀ a, W.own a ≠ .free → (∃ o, W.h.get? a = some o) ∧ T.base.get? a = none
  obj : ∀ l o a, W.σ[l]? = some o → W.bt[l]? = some a → OR T W.own W.bt W.h l a o
  base : T.base.StaysIn W.h

structure Le (X : Addr → Prop) (W W' : Wd) : Prop where
  ext : Ext X W.own W.bt W.h W'.own W'.bt W'.h
  gens : W'.s.gens = W.s.gens
  os : W'.s.os = W.s.os

theorem Le.refl (X : Addr → Prop) (W : Wd) : Le X W W := ⟨.refl _ _ _ _, rfl, rfl⟩
theorem Le.trans {X : Addr → Prop} {W₁ W₂ W₃ : Wd} (x : Le X W₁ W₂) (y : Le X W₂ W₃) : Le X W₁ W₃ :=
  ⟨x.ext.trans y.ext, y.gens.trans x.gens, y.os.trans x.os⟩
theorem Le.mono {X Y : Addr → Prop} {W W' : Wd} (x : Le X W W') (m : ∀ a, X a → Y a) : Le Y W W' := ⟨x.ext.mono m, x.gens, x.os⟩
theorem Le.ofNo {X : Addr → Prop} {W W' : Wd} (x : Le noX W W') : Le X W W' := x.mono fun _ q => q.elim

theorem VR.le {T : Tp} {W W' : Wd} {av : AV} {v : Value} (r : W.V T av v) (x : Le noX W W') : W'.V T av v := VR.ext x.ext .no r
theorem VRs.le {T : Tp} {W W' : Wd} {av : List AV} {v : List Value} (r : W.Vs T av v) (x : Le noX W W') : W'.Vs T av v := VRs.ext x.ext .no r

theorem Inv.listAt {T : Tp} {W : Wd} (I : Inv T W) {l : Nat} {xs : List AV} {v : Value} (e : W.σ[l]? = some (.list xs)) (r : W.V T (.ref l) v) :
    ∃ a vs n, v = .ref a ∧ W.bt[l]? = some a ∧ W.h.get? a = some { cls := .type "list", data := .seq vs n } ∧ W.Vs T xs vs.toList ∧ xs.length ≤ lim := by
  cases r with
  | ref q =>
    obtain ⟨vs, n, h1, h2, h3⟩ := I.obj _ _ _ e q
    exact ⟨_, vs, n, rfl, q, h1, h2, h3⟩
theorem Inv.dictAt {T : Tp} {W : Wd} (I : Inv T W) {l ep : Nat} {es : List (AV × AV)} {v : Value} (e : W.σ[l]? = some (.dict ep es)) (r : W.V T (.ref l) v) :
    ∃ a ents, v = .ref a ∧ W.bt[l]? = some a ∧ W.h.get? a = some { cls := .type "dict", data := .dict ents ep } ∧ ERs T W.own W.bt W.h es ents.toList ∧ distinct es = true ∧ es.length ≤ lim := by
  cases r with
  | ref q =>
    obtain ⟨ents, h1, h2, h3, h4⟩ := I.obj _ _ _ e q
    exact ⟨_, ents, rfl, q, h1, h2, h3, h4⟩

/-! ### steps -/
/-- the model's heap keeps all that it had -/
theorem Inv.grow {T : Tp} {W : Wd} (I : Inv T W) {s' : Shared} (hk : ∀ a o, W.h.get? a = some o → s'.heap.get? a = some o) (hg : s'.gens = W.s.gens) (ho : s'.os = W.s.os) :
    Inv T { W with s := s' } ∧ Le noX W { W with s := s' } := by
  have x : Ext noX W.own W.bt W.h W.own W.bt s'.heap := ⟨fun a o e _ _ => ⟨o, hk a o e, .refl o⟩, fun a o e _ => ⟨o, hk a o e, rfl⟩, fun _ _ _ f => f, fun a o e _ => ⟨o, hk a o e⟩, fun _ _ _ _ => rfl, [], (List.append_nil _).symm⟩
  refine ⟨⟨I.len, I.ownb, fun a q => ⟨let ⟨o, e⟩ := (I.lt a q).1; ⟨o, hk a o e⟩, (I.lt a q).2⟩, fun l o a e q => ?_, fun b o e => hk b o (I.base b o e)⟩, x, hg, ho⟩
  exact (I.obj l o a e q).mono x .no (I.ownb l a q) fun b q' _ e' => hk b q' e'

/-- a state with one object more -/
abbrev Wd.push (W : Wd) (o : AO) (s' : Shared) : Wd := { own := fun a => if a = W.h.objs.size then .loc W.σ.length else W.own a, bt := W.bt ++ [W.h.objs.size], σ := W.σ ++ [o], s := s' }

theorem Inv.push {T : Tp} {W : Wd} (I : Inv T W) {s' : Shared} {o : AO} {ob : Obj} (hs : s'.heap.get? W.h.objs.size = some ob) (hk : ∀ a q, W.h.get? a = some q → s'.heap.get? a = some q)
    (hg : s'.gens = W.s.gens) (ho : s'.os = W.s.os) (hr : Ext noX W.own W.bt W.h (W.push o s').own (W.push o s').bt s'.heap → OR T (W.push o s').own (W.push o s').bt s'.heap W.σ.length W.h.objs.size o) :
    Inv T (W.push o s') ∧ Le noX W (W.push o s') ∧ (W.push o s').V T (.ref W.σ.length) (.ref W.h.objs.size) := by
  have x : Ext noX W.own W.bt W.h (W.push o s').own (W.push o s').bt s'.heap := ⟨fun a o e _ _ => ⟨o, hk a o e, .refl o⟩, fun a o e _ => ⟨o, hk a o e, rfl⟩, fun a o e f => (if_neg (Nat.ne_of_lt (Heap.lt_size e))).trans f, fun a o e _ => ⟨o, hk a o e⟩,
    fun a o e _ => if_neg (Nat.ne_of_lt (Heap.lt_size e)), [W.h.objs.size], rfl⟩
  have hbt : ∀ l a, W.bt[l]? = some a → a < W.h.objs.size := fun l a e => let ⟨_, q⟩ := (I.lt a (by rw [I.ownb l a e]; simp)).1; Heap.lt_size q
  refine ⟨⟨by simp [I.len], fun l a e => ?_, fun a q => ?_, fun l o' a e q => ?_, fun b q e => hk _ _ (I.base b q e)⟩, ⟨x, hg, ho⟩, .ref (by simp [← I.len])⟩
  · simp only [Wd.push] at e ⊢
    rw [List.getElem?_append] at e
    split at e
    · rw [if_neg (Nat.ne_of_lt (hbt l a e))]; exact I.ownb l a e
    · rename_i hl
      have : l = W.bt.length := by
        rcases Nat.lt_or_ge l (W.bt.length + 1) with z | z
        · omega
        · rw [List.getElem?_eq_none (by simp; omega)] at e; cases e
      subst this
      simp at e
      rw [← e, if_pos rfl, I.len]
  · simp only [Wd.push] at q ⊢
    by_cases e : a = W.h.objs.size
    · exact ⟨⟨ob, by rw [e]; exact hs⟩, by
        rw [e]
        cases z : T.base.get? W.h.objs.size with
        | none => rfl
        | some o' => exact absurd (Heap.lt_size (I.base _ _ z)) (Nat.lt_irrefl _)⟩
    · rw [if_neg e] at q
      exact ⟨let ⟨o, e⟩ := (I.lt a q).1; ⟨o, hk a o e⟩, (I.lt a q).2⟩
  · simp only [Wd.push] at e q
    rw [List.getElem?_append] at e q
    split at e
    · rename_i hl
      rw [if_pos (by rw [I.len]; exact hl)] at q
      exact (I.obj l o' a e q).mono x .no (I.ownb l a q) fun b q' _ e' => hk b q' e'
    · rename_i hl
      rw [if_neg (by rw [I.len]; exact hl)] at q
      have : l = W.σ.length := by
        rcases Nat.lt_or_ge l (W.σ.length + 1) with z | z
        · omega
        · rw [List.getElem?_eq_none (by simp; omega)] at e; cases e
      subst this
      rw [I.len] at q
      simp at e q
      rw [← e, ← q]
      exact hr x

/-- a state with one object changed -/
abbrev Wd.upd (W : Wd) (l : Nat) (o : AO) (s' : Shared) : Wd := { W with σ := W.σ.set l o, s := s' }

theorem Inv.upd {T : Tp} {W : Wd} (I : Inv T W) {s' : Shared} {l : Nat} {o : AO} {a : Addr} (hl : W.bt[l]? = some a) (hs : ∀ b q, W.own b = .loc l → W.h.get? b = some q → ∃ q', s'.heap.get? b = some q') (hk : ∀ b, W.own b ≠ .loc l → s'.heap.get? b = W.h.get? b)
    (hg : s'.gens = W.s.gens) (ho : s'.os = W.s.os) (hr : Ext noX W.own W.bt W.h W.own W.bt s'.heap → OR T W.own W.bt s'.heap l a o) :
    Inv T (W.upd l o s') ∧ Le noX W (W.upd l o s') := by
  have x : Ext noX W.own W.bt W.h W.own W.bt s'.heap := ⟨fun a o e f _ => ⟨o, (hk a (by rw [f]; simp)).trans e, .refl o⟩, fun a o e f => ⟨o, (hk a (by rw [f]; simp)).trans e, rfl⟩,
    fun _ _ _ f => f, fun a o e _ => if f : W.own a = .loc l then hs a o f e else ⟨o, (hk a f).trans e⟩, fun _ _ _ _ => rfl, [], (List.append_nil _).symm⟩
  refine ⟨⟨by simp [I.len], I.ownb, fun a q => ⟨let ⟨o, e⟩ := (I.lt a q).1; x.df a o e id, (I.lt a q).2⟩, fun l' o' a' e q => ?_, fun b q e => ?_⟩, x, hg, ho⟩
  · simp only [Wd.upd] at e
    rw [List.getElem?_set] at e
    split at e
    · rename_i z
      subst z
      split at e
      · cases e
        rw [hl] at q; cases q
        exact hr x
      · cases e
    · rename_i z
      refine (I.obj l' o' a' e q).mono x .no (I.ownb l' a' q) fun b q' f e' => (hk b ?_).trans e'
      rw [f]; intro y; injection y with y; exact z y.symm
  · refine (hk b fun z => ?_).trans (I.base b q e)
    have := (I.lt b (by rw [z]; simp)).2
    rw [this] at e; cases e

theorem Inv.toks {T : Tp} {W : Wd} (I : Inv T W) (t : Nat) : Inv T { W with s := { W.s with toks := t } } ∧ Le noX W { W with s := { W.s with toks := t } } :=
  I.grow (fun _ _ e => e) rfl rfl

/-! ### what a tree gives back -/
/-- the tree ends as `r` says -/
def PostE {α β : Type} (T : Tp) (X : Addr → Prop) (W : Wd) (r : Out α) (R : Wd → α → β → Prop) (b : β) (s' : Shared) : Prop :=
  ∃ a W', W'.s = s' ∧ r = .ok a W'.σ ∧ Inv T W' ∧ Le X W W' ∧ R W' a b
/-- the tree raises as `r` says -/
def PostX {α : Type} (T : Tp) (X : Addr → Prop) (W : Wd) (r : Out α) (_e : Value) (_s' : Shared) : Prop := False ∧ T.base = W.h ∧ (∀ a, X a) ∧ r = .fail

/-- evaluation of a tree as the abstract one says -/
def Does {α β : Type} (T : Tp) (A : Around) (X : Addr → Prop) (W : Wd) (t : Sem β) (r : Out α) (R : Wd → α → β → Prop) : Prop :=
  wpAny T.M A t (PostE T X W r R) (PostX T X W r) W.s

section
variable {T : Tp} {A : Around} {X : Addr → Prop} {W : Wd} {α β γ δ : Type}

theorem Does.ok {t : Sem β} {a : α} {R : Wd → α → β → Prop} (h : wpAny T.M A t (fun b s' => ∃ W', W'.s = s' ∧ W'.σ = W.σ ∧ Inv T W' ∧ Le X W W' ∧ R W' a b) (fun _ _ => False) W.s) : Does T A X W t (.ok a W.σ) R :=
  wpAny_mono h (fun _ _ ⟨W', e, q, I, l, r⟩ => ⟨a, W', e, by rw [q], I, l, r⟩) fun _ _ q => q.elim

/-- the tree's end, for any rule of the library -/
theorem Does.cps {t : Sem β} {r : Out α} {R : Wd → α → β → Prop} {Q : β → Shared → Prop} {E : Value → Shared → Prop} (h : Does T A X W t r R)
    (hq : ∀ a W' b, r = .ok a W'.σ → Inv T W' → Le X W W' → R W' a b → Q b W'.s) (hx : ∀ e s', PostX T X W r e s' → E e s') : wpAny T.M A t Q E W.s :=
  wpAny_mono h (fun b _ ⟨a, W', e, q, I, l, r⟩ => e ▸ hq a W' b q I l r) hx

/-- seen from an earlier state -/
theorem Does.up {W₀ : Wd} {t : Sem β} {r r₀ : Out α} {R : Wd → α → β → Prop} (h : Does T A X W t r R) (l : Le X W₀ W) (e : r₀ = r) :
    wpAny T.M A t (PostE T X W₀ r₀ R) (PostX T X W₀ r₀) W.s := by
  subst e
  exact wpAny_mono h (fun b _ ⟨a, W', e, q, I, l', r⟩ => ⟨a, W', e, q, I, l.trans l', r⟩) fun _ _ q => q.1.elim

theorem PostX.bind {r : Out α} {f : α → Hp → Out γ} {e : Value} {s' : Shared} (h : PostX T X W r e s') : PostX T X W (r.bind f) e s' := h.1.elim
theorem PostX.up {W₀ : Wd} {r r₀ : Out α} {e : Value} {s' : Shared} (h : PostX T X W r e s') (_l : Le X W₀ W) (_q : r₀ = r) : PostX T X W₀ r₀ e s' := h.1.elim

theorem Does.bind {t : Sem β} {r : Out α} {R : Wd → α → β → Prop} {f : α → Hp → Out γ} {R' : Wd → γ → δ → Prop} {k : β → Sem δ}
    (h : Does T A X W t r R)
    (hk : ∀ a W' b, r = .ok a W'.σ → Inv T W' → Le X W W' → R W' a b → Does T A X W' (k b) (f a W'.σ) R') : Does T A X W (t >>= k) (r.bind f) R' :=
  wpAny_bind (h.cps (fun a W' b e I l rr => (hk a W' b e I l rr).up l (by rw [e]; rfl)) fun _ _ q => q.bind)

theorem Does.widen {Y : Addr → Prop} {t : Sem β} {r : Out α} {R : Wd → α → β → Prop} (h : Does T A X W t r R) (m : ∀ a, X a → Y a) : Does T A Y W t r R :=
  wpAny_mono h (fun _ _ ⟨a, W', e, q, I, l, r⟩ => ⟨a, W', e, q, I, l.mono m, r⟩) fun _ _ q => q.1.elim
theorem Does.mono {t : Sem β} {r : Out α} {R R' : Wd → α → β → Prop} (h : Does T A X W t r R) (m : ∀ W' a b, Inv T W' → Le X W W' → r = .ok a W'.σ → R W' a b → R' W' a b) : Does T A X W t r R' :=
  wpAny_mono h (fun _ _ ⟨a, W', e, q, I, l, r⟩ => ⟨a, W', e, q, I, l, m _ _ _ I l q r⟩) fun _ _ q => q
end

end Mine

/-! Soundness, part 3: frames, names, the plain expressions (typed by hand). -/
set_option Elab.async false
namespace Mine
open PySem PySem.SeqAt

/-- a name of the frame reads a value -/
def Rd (W : Wd) (env : Env) (x : Str) (v : Value) : Prop :=
  (env.kindOf x = some .local ∧ W.own env.locals = .free ∧ ∃ m, W.h.Ns env.locals m ∧ m x = some v) ∨
  (env.kindOf x = some .cell ∧ ∃ c, env.cells.lookup x = some c ∧ W.own c = .free ∧ W.h.IsCell c (some v))

theorem ns_ko {h h' : Heap} {a : Addr} {m : Str → Option Value} (n : h.Ns a m) (k : ∀ o, h.get? a = some o → ∃ o', h'.get? a = some o' ∧ KO o o') : h'.Ns a m := by
  obtain ⟨o, es, ep, ho, hd, r⟩ := n
  obtain ⟨o', ho', q⟩ := k o ho
  exact ⟨o', es, ep, ho', q.data.trans hd, r⟩
theorem cell_ko {h h' : Heap} {a : Addr} {v : Option Value} (n : h.IsCell a v) (k : ∀ o, h.get? a = some o → ∃ o', h'.get? a = some o' ∧ KO o o') : h'.IsCell a v := by
  obtain ⟨o, ho, hd⟩ := n
  obtain ⟨o', ho', q⟩ := k o ho
  exact ⟨o', ho', q.data.trans hd⟩
theorem ns_at {h : Heap} {a : Addr} {m : Str → Option Value} (n : h.Ns a m) : ∃ o, h.get? a = some o := let ⟨o, _, _, ho, _⟩ := n; ⟨o, ho⟩
theorem cell_at {h : Heap} {a : Addr} {m : Option Value} (n : h.IsCell a m) : ∃ o, h.get? a = some o := let ⟨o, ho, _⟩ := n; ⟨o, ho⟩

theorem Rd.le {W W' : Wd} {env : Env} {x : Str} {v : Value} (r : Rd W env x v) (l : Le noX W W') : Rd W' env x v := by
  rcases r with ⟨k, f, m, n, e⟩ | ⟨k, c, e, f, n⟩
  · exact .inl ⟨k, (let ⟨_, z⟩ := ns_at n; (l.ext.ow _ _ z id).trans f), m, ns_ko n fun o ho => l.ext.kp _ o ho f id, e⟩
  · exact .inr ⟨k, c, e, (let ⟨_, z⟩ := cell_at n; (l.ext.ow _ _ z id).trans f), cell_ko n fun o ho => l.ext.kp _ o ho f id⟩

/-- the frame as the abstract variables say -/
structure Fm (T : Tp) (W : Wd) (env : Env) (sl : List (Nat × Str)) (vs : Vs) : Prop where
  kind : env.scope.kind = .function
  glob : env.globals = mainGlobals
  bi : env.builtins = builtinsNs
  cells : ∀ x, env.scope.names.lookup x = some .cell → ∃ c, env.cells.lookup x = some c
  rd : ∀ i x, (i, x) ∈ sl → ∀ av, vs[i]? = some (some av) → ∃ v, W.V T av v ∧ Rd W env x v

theorem Fm.le {T : Tp} {W W' : Wd} {env : Env} {sl : List (Nat × Str)} {vs : Vs} (F : Fm T W env sl vs) (l : Le noX W W') : Fm T W' env sl vs :=
  ⟨F.kind, F.glob, F.bi, F.cells, fun i x hi av e => let ⟨v, r, d⟩ := F.rd i x hi av e; ⟨v, r.le l, d.le l⟩⟩

/-- what is known of the top -/
structure Tp.Ok (T : Tp) : Prop where
  g : T.base.Ns mainGlobals T.mg
  b : T.base.Ns builtinsNs T.mb
  nolimit : T.base.NoLimit
  bi : ∀ x : Str, x ≠ "__name__" → T.mb x = bootBuiltins x

section
variable {T : Tp} {A : Around} {W : Wd} {env : Env} {sl : List (Nat × Str)} {vs : Vs}

abbrev VW (T : Tp) : Wd → AV → Value → Prop := fun W av v => W.V T av v
abbrev VWs (T : Tp) : Wd → List AV → List Value → Prop := fun W av v => W.Vs T av v

theorem does_var (F : Fm T W env sl vs) (I : Inv T W) {i : Nat} {x : Str} {pos : Pos} {av : AV} (hi : (i, x) ∈ sl) (hv : vs[i]? = some (some av)) (hd : (x == ("__debug__" : Str)) = false) :
    Does T A noX W (eval (.Name x pos) env) (.ok av W.σ) (VW T) := by
  obtain ⟨v, r, d⟩ := F.rd i x hi av hv
  refine Does.ok (wpAny_Name ?_ hd)
  rcases d with ⟨k, f, m, n, e⟩ | ⟨k, c, e, f, n⟩
  · exact wpAny_loadName_local F.kind k n e ⟨W, rfl, rfl, I, .refl _ _, r⟩
  · exact wpAny_loadName_cell F.kind k e n ⟨W, rfl, rfl, I, .refl _ _, r⟩

theorem does_tok {β : Type} {t : Sem β} {a : AV} {R : Wd → AV → β → Prop} {b : β} (I : Inv T W) (k : Nat) (h : ∀ Q E, Q b { W.s with toks := k } → wpAny T.M A t Q E W.s) (r : R { W with s := { W.s with toks := k } } a b) :
    Does T A noX W t (.ok a W.σ) R := Does.ok (h _ _ ⟨{ W with s := { W.s with toks := k } }, rfl, rfl, (I.toks k).1, (I.toks k).2, r⟩)

theorem does_int (I : Inv T W) {i : Int} {k : Nat} {pos : Pos} : Does T A noX W (eval (.Constant (.int i) k pos) env) (.ok (.int i) W.σ) (VW T) :=
  does_tok I (W.s.toks + 1) (fun _ _ h => wpAny_Constant_int h) (.int _ _)
theorem does_str (I : Inv T W) {s : List Nat} {k : Nat} {pos : Pos} (ok : okS s) : Does T A noX W (eval (.Constant (.str (tS s)) k pos) env) (.ok (.str s) W.σ) (VW T) :=
  does_tok I (W.s.toks + 1) (fun _ _ h => wpAny_Constant_str h) (.str _ ok)
theorem does_bool (I : Inv T W) {b : Bool} {k : Nat} {pos : Pos} : Does T A noX W (eval (.Constant (.bool b) k pos) env) (.ok (.bool b) W.σ) (VW T) :=
  Does.ok (wpAny_Constant_bool ⟨W, rfl, rfl, I, .refl _ _, .bool b⟩)
theorem does_none (I : Inv T W) {k : Nat} {pos : Pos} : Does T A noX W (eval (.Constant .none k pos) env) (.ok .none W.σ) (VW T) :=
  Does.ok (wpAny_Constant_none ⟨W, rfl, rfl, I, .refl _ _, .none⟩)

/-- two in turn, then a third tree -/
theorem does_two {t u : Sem Value} {f : Value → Value → Sem Value} {x : Out AV} {y : Hp → Out AV} {z : AV → AV → Hp → Out AV} {Q : Value → Shared → Prop} {E : Value → Shared → Prop} (hl : Does T A noX W t x (VW T))
    (hr : ∀ a W', Inv T W' → Le noX W W' → x = .ok a W'.σ → Does T A noX W' u (y W'.σ) (VW T))
    (ho : ∀ a b va vb W', Inv T W' → Le noX W W' → (∃ σ, x = .ok a σ ∧ y σ = .ok b W'.σ) → W'.V T a va → W'.V T b vb → Does T A noX W' (f va vb) (z a b W'.σ) (VW T))
    (hQ : ∀ v s, PostE T noX W (x.bind fun a h => (y h).bind fun b h => z a b h) (VW T) v s → Q v s) (hE : ∀ v s, PostX T noX W (x.bind fun a h => (y h).bind fun b h => z a b h) v s → E v s) :
    wpAny T.M A t (fun a s₁ => wpAny T.M A u (fun b s₂ => wpAny T.M A (f a b) Q E s₂) E s₁) E W.s := by
  refine hl.cps (fun a W' va e I' l' ra => ?_) fun _ _ q => hE _ _ q.bind
  refine (hr a W' I' l' e).cps (fun b W'' vb e' I'' l'' rb => ?_) fun _ _ q => hE _ _ (q.bind.up l' (by rw [e]; rfl))
  exact wpAny_mono ((ho a b va vb W'' I'' (l'.trans l'') ⟨_, e, e'⟩ (ra.le l'') rb).up (l'.trans l'') (by rw [e]; show (y W'.σ).bind _ = _; rw [e']; rfl)) hQ hE

theorem does_bin {l r : Expr} {op : Operator} {pos : Pos} {x : Out AV} {y : Hp → Out AV} {z : AV → AV → Hp → Out AV} (hl : Does T A noX W (eval l env) x (VW T))
    (hr : ∀ a W', Inv T W' → Le noX W W' → x = .ok a W'.σ → Does T A noX W' (eval r env) (y W'.σ) (VW T))
    (ho : ∀ a b va vb W', Inv T W' → Le noX W W' → (∃ σ, x = .ok a σ ∧ y σ = .ok b W'.σ) → W'.V T a va → W'.V T b vb → Does T A noX W' (binaryOp op va vb) (z a b W'.σ) (VW T)) :
    Does T A noX W (eval (.BinOp l op r pos) env) (x.bind fun a h => (y h).bind fun b h => z a b h) (VW T) :=
  wpAny_BinOp (does_two hl hr ho (fun _ _ q => q) fun _ _ q => q)
end

end Mine

/-! Soundness, part 4: operators (typed by hand). -/
set_option Elab.async false
namespace Mine
open PySem PySem.SeqAt

theorem lim_eq : lim = sizeLine := by decide +kernel
theorem tS_length (s : List Nat) : (tS s).length = s.length := by simp [tS, Str.length]
theorem tS_append (a b : List Nat) : tS a ++ tS b = tS (a ++ b) := by
  show (⟨a.toArray ++ b.toArray⟩ : Str) = ⟨(a ++ b).toArray⟩
  simp
theorem okS.append {a b : List Nat} (ha : okS a) (hb : okS b) (h : a.length + b.length ≤ lim) : okS (a ++ b) :=
  ⟨fun c hc => (List.mem_append.mp hc).elim (ha.1 c) (hb.1 c), by simpa using h⟩
theorem okS.sub {a b : List Nat} (ha : okS a) (h : ∀ c ∈ b, c ∈ a) (hl : b.length ≤ a.length) : okS b := ⟨fun c hc => ha.1 c (h c hc), Nat.le_trans hl ha.2⟩

section
variable {T : Tp} {A : Around} {W : Wd}

theorem Does.keep {t : Sem Value} {a : AV} (I : Inv T W) (h : ∀ Q E, (∀ v k, W.V T a v → Q v { W.s with toks := k }) → wpAny T.M A t Q E W.s) : Does T A noX W t (.ok a W.σ) (VW T) :=
  Does.ok (h _ _ fun v k r => ⟨{ W with s := { W.s with toks := k } }, rfl, rfl, (I.toks k).1, (I.toks k).2, r.le (I.toks k).2⟩)

/-- a tree that makes a new list -/
theorem does_newList {t : Sem Value} {xs : List AV} {vs : List Value} (I : Inv T W) (r : W.Vs T xs vs)
    (h : xs.length ≤ lim → ∀ Q E, (∀ k, Q (.ref W.h.objs.size) { W.s with heap := W.h.push { cls := .type "list", data := .seq vs.toArray }, toks := k }) → wpAny T.M A t Q E W.s)
    (hn : newList xs W.σ ≠ .fail) : Does T A noX W t (newList xs W.σ) (VW T) := by
  unfold newList at hn ⊢
  split at hn
  · rename_i hl
    rw [if_pos hl]
    refine wpAny_mono (h hl (PostE T noX W _ (VW T)) (fun _ _ => False) fun k => ?_) (fun _ _ q => q) fun _ _ q => q.elim
    have := I.push (s' := { W.s with heap := W.h.push { cls := .type "list", data := .seq vs.toArray }, toks := k }) (o := .list xs) (Heap.get?_push_size _ rfl) (fun a q e => Heap.get?_push_of_some _ e) rfl rfl
      fun x => ⟨vs.toArray, 0, Heap.get?_push_size _ rfl, by simpa using r.ext x .no, hl⟩
    exact ⟨_, _, rfl, rfl, this.1, this.2.1, this.2.2⟩
  · exact absurd rfl hn

def opOk : BOp → Operator → Bool
  | .add, .Add => true
  | .sub, .Sub => true
  | .mul, .Mult => true
  | .mod, .Mod => true
  | .div, .FloorDiv => true
  | _, _ => false

theorem rep_eq (n : Nat) (s : List Nat) : ∀ acc : Array Nat, (List.replicate n s.toArray).foldl (· ++ ·) acc = acc ++ (rep n s).toArray := by
  induction n with
  | zero => intro acc; simp [rep]
  | succ n ih => intro acc; rw [List.replicate_succ, List.foldl_cons, ih]; simp [rep]
theorem rep_length (n : Nat) (s : List Nat) : (rep n s).length = s.length * n := by
  induction n with
  | zero => rfl
  | succ n ih => simp [rep, ih, Nat.mul_succ]; omega
theorem mem_rep {n : Nat} {s : List Nat} {c : Nat} (h : c ∈ rep n s) : c ∈ s := by
  induction n with
  | zero => simp [rep] at h
  | succ n ih => simp only [rep, List.mem_append] at h; exact h.elim id ih
theorem mul_eq (s : List Nat) (n : Int) : Txt.mul (tS s) n = tS (rep n.toNat s) := by
  unfold Txt.mul
  split
  · rename_i h
    rw [show n.toNat = 0 by omega]; rfl
  · split
    · rename_i h1 h2
      simp only [Bool.or_eq_true, beq_iff_eq] at h2
      rcases h2 with rfl | h2
      · simp [rep]
      · rw [tS_length] at h2
        have : s = [] := List.length_eq_zero_iff.mp h2
        subst this
        have : ∀ n, rep n [] = [] := fun n => by induction n with | zero => rfl | succ n ih => simp [rep, ih]
        rw [this]
    · show (⟨(List.replicate n.toNat s.toArray).foldl (· ++ ·) #[]⟩ : Str) = _
      rw [rep_eq]; simp [tS]

theorem log2_small {n : Nat} (h : n < 2 ^ 64) : n.log2 < 9000 := by
  by_cases e : n = 0
  · subst e; decide
  · exact Nat.lt_trans ((Nat.log2_lt e).mpr h) (by decide)
theorem bits_small {x : Int} (h : x.natAbs < 18446744073709551616) : Builtin.Int.intBits x ≤ 64 := by
  unfold Builtin.Int.intBits
  split
  · decide
  · rename_i q
    have : x.natAbs ≠ 0 := by simpa using q
    exact (Nat.log2_lt this).mpr h
theorem mulOk {s : List Nat} {n : Int} (h1 : -(lim : Int) ≤ n) (h2 : n ≤ lim) (h3 : s.length * n.toNat ≤ lim) : MulOk (tS s) n := by
  have hl : (lim : Int) = 16777216 := rfl
  refine ⟨?_, fun h _ q => ?_, fun _ _ => ?_⟩
  · simp only [Bool.or_eq_false_iff, decide_eq_false_iff_not]; omega
  · rw [tS_length] at q
    have h4 : (s.length : Int) * n ≤ 2 ^ 63 - 1 := by
      have : ((s.length * n.toNat : Nat) : Int) ≤ (lim : Int) := by exact_mod_cast h3
      rw [Int.natCast_mul, Int.toNat_of_nonneg (by omega)] at this
      omega
    have h5 := (Int.le_ediv_iff_mul_le (a := s.length) (b := 2 ^ 63 - 1) (c := n) (by omega)).mpr h4
    omega
  · unfold Builtin.Str.tooLong
    rw [tS_length, ← lim_eq]
    simp only [gt_iff_lt, decide_eq_false_iff_not]; omega

theorem does_binA (I : Inv T W) {op : BOp} {op' : Operator} {a b : AV} {va vb : Value} (ho : opOk op op' = true) (ra : W.V T a va) (rb : W.V T b vb) (hn : binA op a b W.σ ≠ .fail) :
    Does T A noX W (binaryOp op' va vb) (binA op a b W.σ) (VW T) := by
  cases op <;> cases op' <;> first | exact absurd ho (by decide) | skip
  all_goals (cases a <;> cases b <;> first | exact absurd rfl hn | skip)
  all_goals (try (cases ra; cases rb))
  · exact Does.keep I fun _ _ h => P.add_int (h _ _ (.int _ _))
  · rename_i x y t ox u oy
    simp only [binA] at hn ⊢
    split at hn
    · rename_i hl
      rw [if_pos hl]
      refine Does.keep I fun _ _ h => SB.add (fun t' k => h _ _ ?_) (by rw [tS_length, tS_length, ← lim_eq]; exact hl)
      rw [tS_append]; exact .str _ (ox.append oy hl)
    · exact absurd rfl hn
  · rename_i x y a hx b hy
    simp only [binA] at hn ⊢
    cases e1 : W.σ[x]? with
    | none => rw [e1] at hn; exact absurd rfl hn
    | some o1 =>
      cases e2 : W.σ[y]? with
      | none => rw [e1, e2] at hn; cases o1 <;> exact absurd rfl hn
      | some o2 =>
        rw [e1, e2] at hn
        cases o1 <;> cases o2 <;> first | exact absurd rfl hn | skip
        obtain ⟨_, vs, n, ea, _, h1, h2, _⟩ := I.listAt e1 (.ref hx)
        obtain ⟨_, ws, m, eb, _, k1, k2, _⟩ := I.listAt e2 (.ref hy)
        cases ea; cases eb
        refine does_newList I (h2.append k2) (fun hl Q E h => ?_) hn
        have hz : vs.size + ws.size ≤ sizeLine := by
          have e3 := h2.length; have e4 := k2.length
          rw [Array.length_toList] at e3 e4
          rw [← lim_eq, e3, e4, ← List.length_append]; exact hl
        refine P.add_list h1 k1 ?_ hz
        have := h W.s.toks
        rw [show (vs.toList ++ ws.toList).toArray = vs ++ ws from by rw [← Array.toList_append, Array.toArray_toList]] at this
        exact this
  · exact Does.keep I fun _ _ h => P.sub_int (h _ _ (.int _ _))
  · rename_i x y t u
    simp only [binA] at hn ⊢
    split at hn
    · rename_i hl
      rw [if_pos hl]
      refine Does.keep I fun _ _ h => P.mul_int (h _ _ (.int _ _)) ?_
      simp only [small, Bool.or_eq_true, decide_eq_true_eq] at hl
      exact hl.elim (fun q => .of_left (bits_small q)) fun q => .of_right (bits_small q)
    · exact absurd rfl hn
  · rename_i x y t ox u
    simp only [binA] at hn ⊢
    split at hn
    · rename_i hl
      rw [if_pos hl]
      refine Does.keep I fun _ _ h => SB.mul ?_ fun t' k => h _ _ ?_
      · exact mulOk hl.1 hl.2.1 hl.2.2
      · rw [mul_eq]
        exact .str _ ⟨fun c hc => ox.1 c (mem_rep hc), by rw [rep_length]; exact hl.2.2⟩
    · exact absurd rfl hn
  · rename_i x y t u
    simp only [binA] at hn ⊢
    split at hn
    · rename_i hl
      rw [if_pos hl]
      refine Does.keep I fun _ _ h => PyProof.Rows.mod_int (by omega) ?_
      rw [Int.fmod_eq_emod_of_nonneg _ (by omega)]
      exact h _ _ (.int _ _)
    · exact absurd rfl hn
  · rename_i x y t u
    simp only [binA] at hn ⊢
    split at hn
    · rename_i hl
      rw [if_pos hl]
      refine Does.keep I fun _ _ h => PyProof.Rows.floordiv_int (by omega) ?_ (.inl (PyProof.noPylong_of_log2 ?_))
      · rw [Int.fdiv_eq_ediv_of_nonneg _ (by omega)]
        exact h _ _ (.int _ _)
      · have : y.natAbs < 2 ^ 64 := by omega
        exact log2_small this
    · exact absurd rfl hn
end
end Mine

/-! Soundness, part 5: data, comparisons, truth (typed by hand). -/
set_option Elab.async false
namespace Mine
open PySem PySem.SeqAt PySem.Spec

mutual
def D.py : D → PyData
  | .none => .none
  | .bool b => .bool b
  | .int i => .int i
  | .str s => .str (tS s)
  | .list xs => .list (D.pys xs)
  | .tup xs => .tuple (D.pys xs)
def D.pys : List D → List PyData
  | [] => []
  | x :: xs => D.py x :: D.pys xs
end

theorem tS_beq (a b : List Nat) : (tS a == tS b) = (a == b) := by
  by_cases h : a = b
  · subst h; simp
  · have : tS a ≠ tS b := fun q => h (by
      have := congrArg (fun s : Str => s.cps.toList) q
      simpa [tS] using this)
    rw [beq_eq_false_iff_ne.mpr this, beq_eq_false_iff_ne.mpr h]

mutual
theorem eqv_py : ∀ x y : D, PyData.eqv x.py y.py = D.eqb x y
  | .none, y => by cases y <;> simp [D.py, PyData.eqv, D.eqb]
  | .bool a, y => by cases y <;> simp [D.py, PyData.eqv, D.eqb]
  | .int a, y => by cases y <;> simp [D.py, PyData.eqv, D.eqb]
  | .str a, y => by cases y <;> simp [D.py, PyData.eqv, D.eqb, tS_beq]
  | .list a, y => by
    cases y with
    | list b => simp only [D.py, PyData.eqv, D.eqb]; exact eqvAll_py a b
    | _ => simp [D.py, PyData.eqv, D.eqb]
  | .tup a, y => by
    cases y with
    | tup b => simp only [D.py, PyData.eqv, D.eqb]; exact eqvAll_py a b
    | _ => simp [D.py, PyData.eqv, D.eqb]
theorem eqvAll_py : ∀ x y : List D, PyData.eqvAll (D.pys x) (D.pys y) = D.eqbs x y
  | [], [] => by simp [D.pys, PyData.eqvAll, D.eqbs]
  | [], _ :: _ => by simp [D.pys, PyData.eqvAll, D.eqbs]
  | _ :: _, [] => by simp [D.pys, PyData.eqvAll, D.eqbs]
  | x :: xs, y :: ys => by simp only [D.pys, PyData.eqvAll, D.eqbs]; rw [eqv_py x y, eqvAll_py xs ys]
end

theorem strOk_of {s : List Nat} (h : okS s) : PyData.strOk (tS s) = true := by
  unfold PyData.strOk
  simp only [tS, Array.all_eq_true, decide_eq_true_eq]
  intro i hi
  have := h.1 _ (List.getElem_mem (l := s) (by simpa using hi))
  simp only [List.getElem_toArray]
  omega

section
variable {T : Tp} {A : Around} {W : Wd}

theorem readsAll_of {f : AV → Option D} {n : Nat} (hf : ∀ a d v, f a = some d → W.V T a v → ∃ as, Reads W.h v d.py as ∧ d.py.canLay0 = true ∧ d.py.depth ≤ n) :
    ∀ {xs : List AV} {ds : List D} {vs : List Value}, mapO f xs = some ds → W.Vs T xs vs → ∃ as, ReadsAll W.h vs (D.pys ds) as ∧ PyData.canLayAll0 (D.pys ds) = true ∧ PyData.depthAll (D.pys ds) ≤ n
  | [], ds, vs, e, r => by cases e; cases r; exact ⟨[], .nil, rfl, Nat.zero_le _⟩
  | x :: xs, ds, _, e, .cons a r => by
    simp only [mapO] at e
    split at e
    · rename_i d ds' e1 e2
      cases e
      obtain ⟨as, h1, h2, h3⟩ := hf _ _ _ e1 a
      obtain ⟨bs, k1, k2, k3⟩ := readsAll_of hf e2 r
      exact ⟨as ++ bs, .cons h1 k1, by simp [D.pys, PyData.canLayAll0, h2, k2], by simp only [D.pys, PyData.depthAll]; omega⟩
    · cases e

theorem reads_of (I : Inv T W) : ∀ (n : Nat) (a : AV) (d : D) (v : Value), dat W.σ n a = some d → W.V T a v → ∃ as, Reads W.h v d.py as ∧ d.py.canLay0 = true ∧ d.py.depth ≤ n := by
  intro n
  induction n with
  | zero =>
    intro a d v e r
    cases r <;> simp only [dat] at e <;> first | cases e | skip
    · exact ⟨_, .none, rfl, Nat.le_refl _⟩
    · exact ⟨_, .bool _, rfl, Nat.le_refl _⟩
    · exact ⟨_, .int _ _, rfl, Nat.le_refl _⟩
    · rename_i q; exact ⟨_, .str _ _, by simp only [D.py, PyData.canLay0]; exact strOk_of q, Nat.le_refl _⟩
  | succ n ih =>
    intro a d v e r
    cases r <;> simp only [dat] at e <;> first | cases e | skip
    · exact ⟨_, .none, rfl, Nat.zero_le _⟩
    · exact ⟨_, .bool _, rfl, Nat.zero_le _⟩
    · exact ⟨_, .int _ _, rfl, Nat.zero_le _⟩
    · rename_i q; exact ⟨_, .str _ _, by simp only [D.py, PyData.canLay0]; exact strOk_of q, Nat.zero_le _⟩
    · rename_i h1 h2 h3 h4 h5 h6
      obtain ⟨ds, e1, rfl⟩ := Option.map_eq_some_iff.mp e
      obtain ⟨as, k1, k2, k3⟩ := readsAll_of ih e1 h6
      exact ⟨as, .tuple h1 h2 h3 k1, by simpa [D.py, PyData.canLay0] using k2, by simp only [D.py, PyData.depth]; omega⟩
    · rename_i l a q
      split at e
      · rename_i xs hx
        obtain ⟨ds, e1, rfl⟩ := Option.map_eq_some_iff.mp e
        obtain ⟨_, vs, m, ea, _, h1, h2, _⟩ := I.listAt hx (.ref q)
        cases ea
        obtain ⟨as, k1, k2, k3⟩ := readsAll_of ih e1 h2
        exact ⟨_, .list h1 rfl rfl k1, by simpa [D.py, PyData.canLay0] using k2, by simp only [D.py, PyData.depth]; omega⟩
      · cases e

/-- room for calls: n calls deep -/
structure AOk (n : Nat) (A : Around) : Prop where
  depth : A.depth + n < recursionLimit
  units : A.units + 10 * n + 200 < cLine
  handled : A.handled = none

def cmpOk : COp → CmpOp → Bool
  | .eq, .Eq => true
  | .ne, .NotEq => true
  | .lt, .Lt => true
  | .le, .LtE => true
  | .gt, .Gt => true
  | .ge, .GtE => true
  | .isin, .In => true
  | .notin, .NotIn => true
  | _, _ => false

theorem shaped_of {d : D} {n : Nat} (h2 : d.py.canLay0 = true) (h3 : d.py.depth ≤ n) (hn : n ≤ 64) : shaped d.py = true := by
  unfold shaped; rw [h2, decide_eq_true (Nat.le_trans h3 hn)]; rfl

theorem does_eqA (I : Inv T W) {a b : AV} {va vb : Value} (ra : W.V T a va) (rb : W.V T b vb) (hu : A.units + 64 < cLine) {c : Bool} (e : eqA W.σ a b = some c) :
    (∀ Q E, Q (.bool c) W.s → wpAny T.M A (compareOp .Eq va vb) Q E W.s) ∧ ∀ Q E, Q (.bool (!c)) W.s → wpAny T.M A (compareOp .NotEq va vb) Q E W.s := by
  unfold eqA at e
  split at e
  · rename_i x y e1 e2
    cases e
    obtain ⟨as, h1, h2, h3⟩ := reads_of I _ _ _ _ e1 ra
    obtain ⟨bs, k1, k2, k3⟩ := reads_of I _ _ _ _ e2 rb
    have s1 := shaped_of h2 h3 (by decide)
    have s2 := shaped_of k2 k3 (by decide)
    exact ⟨fun Q E q => compareEq_shaped h1 k1 s1 s2 hu (by rw [eqv_py]; exact q), fun Q E q => compareNe_shaped h1 k1 s1 s2 hu (by rw [eqv_py]; exact q)⟩
  · cases e

theorem depth_min {xs : List PyData} {d : PyData} {n : Nat} {A : Around} (h : d.depth ≤ n) (hn : n ≤ 64) (hu : A.units + 65 < cLine) : A.units + 1 + min (PyData.depthAll xs) d.depth < cLine := by
  have : min (PyData.depthAll xs) d.depth ≤ d.depth := Nat.min_le_right _ _
  omega

theorem any_py (d : D) : ∀ ds : List D, ((D.pys ds).any fun y => PyData.eqv y d.py) = ds.any fun e => D.eqb e d
  | [] => rfl
  | x :: xs => by simp only [D.pys, List.any_cons]; rw [eqv_py, any_py d xs]

theorem does_inA (I : Inv T W) {a b : AV} {va vb : Value} (ra : W.V T a va) (rb : W.V T b vb) (hu : A.units + 65 < cLine) {c : Bool} (e : inA W.σ a b = some c) :
    (∀ Q E, (∀ k, Q (.bool c) { W.s with toks := k }) → wpAny T.M A (compareOp .In va vb) Q E W.s) ∧ ∀ Q E, (∀ k, Q (.bool (!c)) { W.s with toks := k }) → wpAny T.M A (compareOp .NotIn va vb) Q E W.s := by
  cases b <;> simp only [inA] at e <;> first | cases e | skip
  · split at e
    · rename_i xs _ _ d ds e1 e2
      cases e
      cases rb with
      | tup h1 h2 h3 h4 h5 h6 =>
        obtain ⟨as, k1, k2, k3⟩ := reads_of I _ _ _ _ e1 ra
        obtain ⟨bs, l1, l2, l3⟩ := readsAll_of (reads_of I 8) e2 h6
        have r : Reads W.h _ (.tuple (D.pys ds)) bs := .tuple h1 h2 h3 l1
        exact ⟨fun Q E q => in_tuple_reads r k1 l2 k2 (depth_min k3 (by decide) hu) (by rw [any_py]; exact q _), fun Q E q => notIn_tuple_reads r k1 l2 k2 (depth_min k3 (by decide) hu) (by rw [any_py]; exact q _)⟩
    · cases e
  · split at e
    · rename_i hx
      split at e
      · rename_i xs d ds e1 e2
        cases e
        obtain ⟨_, vs, m, ea, _, h1, h2, _⟩ := I.listAt hx rb
        cases ea
        obtain ⟨as, k1, k2, k3⟩ := reads_of I _ _ _ _ e1 ra
        obtain ⟨bs, l1, l2, l3⟩ := readsAll_of (reads_of I 8) e2 h2
        have r : Reads W.h _ (.list (D.pys ds)) _ := .list h1 rfl rfl l1
        exact ⟨fun Q E q => in_list_reads r k1 l2 k2 (depth_min k3 (by decide) hu) (by rw [any_py]; exact q _), fun Q E q => notIn_list_reads r k1 l2 k2 (depth_min k3 (by decide) hu) (by rw [any_py]; exact q _)⟩
      · cases e
    · cases e

theorem does_cmpA (I : Inv T W) {op : COp} {op' : CmpOp} {a b : AV} {va vb : Value} (ho : cmpOk op op' = true) (ra : W.V T a va) (rb : W.V T b vb) (hu : A.units + 65 < cLine) {c : Bool} (e : cmpA op a b W.σ = some c) :
    ∀ Q E, (∀ k, Q (.bool c) { W.s with toks := k }) → wpAny T.M A (compareOp op' va vb) Q E W.s := by
  cases op <;> cases op' <;> first | exact absurd ho (by decide) | skip
  · exact fun Q E q => (does_eqA I ra rb (by omega) e).1 Q E (q _)
  · simp only [cmpA] at e
    obtain ⟨c', e', rfl⟩ := Option.map_eq_some_iff.mp e
    exact fun Q E q => (does_eqA I ra rb (by omega) e').2 Q E (q _)
  · intro Q E q
    cases a <;> cases b <;> simp only [cmpA, ordI, ordS] at e <;> first | cases e | skip
    · cases ra; cases rb; exact P.lt_int (q _)
    · cases ra; cases rb; exact P.lt_str (q _)
  · intro Q E q
    cases a <;> cases b <;> simp only [cmpA, ordI, ordS] at e <;> first | cases e | skip
    · cases ra; cases rb; exact P.le_int (q _)
    · cases ra; cases rb; exact P.le_str (q _)
  · intro Q E q
    cases a <;> cases b <;> simp only [cmpA, ordI, ordS] at e <;> first | cases e | skip
    · cases ra; cases rb; exact P.gt_int (q _)
  · intro Q E q
    cases a <;> cases b <;> simp only [cmpA, ordI, ordS] at e <;> first | cases e | skip
    · cases ra; cases rb; exact P.ge_int (q _)
  · exact (does_inA I ra rb hu e).1
  · simp only [cmpA] at e
    obtain ⟨c', e', rfl⟩ := Option.map_eq_some_iff.mp e
    exact (does_inA I ra rb hu e').2

theorem does_truth (I : Inv T W) {a : AV} {v : Value} (r : W.V T a v) {c : Bool} (e : truth W.σ a = some c) :
    ∀ Q E, (∀ k, Q c { W.s with toks := k }) → wpAny T.M A (truthy v) Q E W.s := by
  intro Q E q
  cases r <;> simp only [truth] at e <;> first | cases e | skip
  · exact PyProof.Rows.truthy_none (q _)
  · exact wpAny_truthy_bool (q _)
  · rename_i i t
    refine P.truthy_int ?_
    rw [show (i != 0) = decide (i ≠ 0) by by_cases z : i = 0 <;> simp [z]]
    exact q _
  · rename_i s t ok
    refine P.truthy_str (by have := ok.2; rw [tS_length]; have : lim = 16777216 := rfl; omega) ?_
    rw [tS_length, show ((s.length : Int) != 0) = !s.isEmpty by cases s <;> simp <;> omega]
    exact q _
  · rename_i h1 h2 h3 h4 h5 h6
    have e3 := h6.length
    rename_i xs a o vs n
    refine PyProof.Rows.truthy_tuple ⟨o, h1, h2, n, h3⟩ (by rw [Array.length_toList] at e3; have : lim = 16777216 := rfl; omega) ?_
    rw [show vs.isEmpty = xs.isEmpty by
      rw [Array.length_toList] at e3
      cases xs <;> simp_all [Array.isEmpty]]
    exact q _
  · rename_i l a hl
    split at e
    · rename_i xs hx
      cases e
      obtain ⟨_, vs, m, ea, _, h1, h2, h3⟩ := I.listAt hx (.ref hl)
      cases ea
      have e3 := h2.length
      refine wpAny_truthy_list ⟨_, h1, rfl, m, rfl⟩ (by rw [Array.length_toList] at e3; have : lim = 16777216 := rfl; omega) ?_
      rw [show vs.isEmpty = xs.isEmpty by
        rw [Array.length_toList] at e3
        cases xs <;> simp_all [Array.isEmpty]]
      exact q _
    · cases e
end
end Mine

/-! Soundness, part 6: displays, subscripts, slices (typed by hand). -/
set_option Elab.async false
namespace Mine
open PySem PySem.SeqAt PySem.Spec

section
variable {T : Tp} {A : Around} {W : Wd} {env : Env}

/-! ### indexes -/
theorem seqIndex_place {n : Nat} {i : Int} {k : Nat} (h : place n i = some k) : seqIndex? i n = some k ∧ k < n ∧ (0 ≤ i → i = k) ∧ (i < 0 → i + n = k) := by
  unfold place at h
  split at h
  · split at h
    · cases h
      rename_i h1 h2
      refine ⟨?_, by omega, fun _ => by omega, fun _ => by omega⟩
      have e : (if i < 0 then i + (n : Int) else i) = i := if_neg (by omega)
      simp only [seqIndex?, e]
      rw [if_pos (by simp; omega)]
    · cases h
  · split at h
    · cases h
      rename_i h1 h2
      refine ⟨?_, by omega, fun _ => by omega, fun _ => by omega⟩
      have e : (if i < 0 then i + (n : Int) else i) = i + n := if_pos (by omega)
      simp only [seqIndex?, e]
      rw [if_pos (by simp; omega)]
    · cases h

def notSlice : Expr → Bool
  | .Slice .. => false
  | _ => true

theorem subscripted_plain {slice : Expr} (h : notSlice slice = true) (o i : Value) : subscripted slice false o i = operate [o, i] (getItem o i) := by
  cases slice <;> first | rfl | cases h

theorem lim_small {n : Nat} (h : n ≤ lim) : (n : Int) < 2 ^ 63 := by have : lim = 16777216 := rfl; omega

theorem vrs_at {xs : List AV} {vs : Array Value} (r : W.Vs T xs vs.toList) {k : Nat} {x : AV} (h : xs[k]? = some x) : ∃ v, vs[k]? = some v ∧ W.V T x v := by
  obtain ⟨v, e, q⟩ := r.get h
  exact ⟨v, by rw [← Array.getElem?_toList]; exact e, q⟩
theorem vrs_size {xs : List AV} {vs : Array Value} (r : W.Vs T xs vs.toList) : vs.size = xs.length := by
  have := r.length; rw [Array.length_toList] at this; exact this

theorem list_item (hl : W.h.IsList l vs) {xs : List AV} (hz : vs.size = xs.length) (hlim : xs.length ≤ lim) {i : Int} {t : Tok} {k : Nat} {v : Value} (hp : place xs.length i = some k) (hv : vs[k]? = some v) {Q : Value → Shared → Prop} {E : Value → Shared → Prop} (q : Q v W.s) :
    wpAny T.M A (getItem (.ref l) (.int i t)) Q E W.s := by
  obtain ⟨_, h2, h3, h4⟩ := seqIndex_place hp
  have h63 := lim_small hlim
  by_cases h0 : 0 ≤ i
  · exact wpAny_getItem_list hl h0 (by have := h3 h0; omega) (by rw [h3 h0]; exact hv) q
  · have := h4 (by omega)
    exact wpAny_getItem_list_neg hl (by omega) (by omega) (by omega) (by rw [hz, this]; exact hv) q

theorem does_idxA (I : Inv T W) {value slice : Expr} {o i r : AV} {vo vi : Value} (hs : notSlice slice = true) (ro : W.V T o vo) (ri : W.V T i vi) (e : idxA o i W.σ = some r) :
    Does T A noX W (PyProof.Rows.subscriptTail value slice vo vi) (.ok r W.σ) (VW T) := by
  refine Does.keep I fun Q E q => ?_
  unfold idxA at e
  split at e
  · rename_i s i
    obtain ⟨k, e1, e2⟩ := Option.bind_eq_some_iff.mp e
    obtain ⟨c, e3, rfl⟩ := Option.map_eq_some_iff.mp e2
    cases ro with
    | str t ok =>
      cases ri with
      | int _ u =>
        obtain ⟨h1, h2, h3, h4⟩ := seqIndex_place e1
        have h63 := lim_small ok.2
        refine PyProof.Rows.tail_any (T := "str") rfl PyProof.Rows.slot_str_getitem.lookup (P.getItem_str (c := c) ?_ ?_ (q _ _ ?_)) (subscripted_plain hs _ _)
        · simp only [Bool.or_eq_false_iff, decide_eq_false_iff_not]
          by_cases h0 : 0 ≤ i
          · have := h3 h0; omega
          · have := h4 (by omega); omega
        · rw [tS_length, h1]
          show (tS s).cps[k]? = some c
          simp [tS, e3]
        · refine .str _ ⟨fun d hd => ?_, by simp [lim]⟩
          simp at hd; subst hd
          exact ok.1 _ (List.mem_of_getElem? e3)
  · rename_i xs i
    obtain ⟨k, e1, e2⟩ := Option.bind_eq_some_iff.mp e
    cases ro with
    | tup h1 h2 h3 h4 h5 h6 =>
      cases ri with
      | int _ u =>
        obtain ⟨v, ev, rv⟩ := vrs_at h6 e2
        obtain ⟨g1, g2, g3, g4⟩ := seqIndex_place e1
        have h63 := lim_small h5
        rename_i a ob vs n
        refine PyProof.Rows.tail_any (T := "tuple") ⟨_, h1, h2⟩ PyProof.Rows.slot_tuple_getitem.lookup (PyProof.Rows.getItem_tuple (items := vs) (j := k) ⟨_, h1, h2, n, h3⟩ ?_ ?_ ?_ ev (q v W.s.toks rv)) (subscripted_plain hs _ _)
        · by_cases h0 : 0 ≤ i
          · have := g3 h0; omega
          · have := g4 (by omega); omega
        · by_cases h0 : 0 ≤ i
          · have := g3 h0; omega
          · have := g4 (by omega); omega
        · rw [vrs_size h6]; exact g1
  · rename_i ns i
    obtain ⟨k, e1, e2⟩ := Option.bind_eq_some_iff.mp e
    obtain ⟨c, e3, rfl⟩ := Option.map_eq_some_iff.mp e2
    cases ro with
    | scr h1 h2 h3 h4 h5 h6 =>
      cases ri with
      | int _ u =>
        obtain ⟨t, et⟩ := h5 k c e3
        rename_i a ob vs n
        have hl : W.h.IsList a vs := ⟨_, I.base _ _ h1, h2, n, h3⟩
        have hz : vs.size = (ns.map AV.int).length := by simp [h6]
        refine PyProof.Rows.tail_any (T := "list") ⟨_, I.base _ _ h1, h2⟩ slot_list_getitem.lookup (list_item hl hz (by simpa using h4) (by simpa using e1) et (q _ W.s.toks (.int _ _))) (subscripted_plain hs _ _)
  · split at e
    · rename_i l k _ xs hx
      split at e
      · rename_i i
        obtain ⟨k, e1, e2⟩ := Option.bind_eq_some_iff.mp e
        obtain ⟨a, vs, n, rfl, _, h1, h2, h3⟩ := I.listAt hx ro
        cases ri with
        | int _ u =>
          obtain ⟨v, ev, rv⟩ := vrs_at h2 e2
          exact PyProof.Rows.tail_any (T := "list") ⟨_, h1, rfl⟩ slot_list_getitem.lookup (list_item ⟨_, h1, rfl, n, rfl⟩ (vrs_size h2) h3 e1 ev (q v W.s.toks rv)) (subscripted_plain hs _ _)
      · cases e
    · cases e
  · cases e

/-! ### slices -/
theorem bound_part {n d a : Nat} {av : AV} {v : Value} (e : bound n d av = some a) (r : W.V T av v) : ∃ p, IsPart v p ∧ p.elim d (clipAt n) = a ∧ (a ≤ n ∨ a = d) := by
  cases r <;> simp only [bound] at e <;> first | cases e | skip
  · exact ⟨none, .none, rfl, .inr rfl⟩
  · rename_i i t
    refine ⟨some i, .int i t, ?_, ?_⟩
    · have := clipAt_cast n i
      simp only [Option.elim]
      split at this <;> split <;> omega
    · split <;> omega

theorem range_map_drop {α : Type} (xs : List α) (a : Nat) : ∀ k, ((List.range k).map fun i => a + i).filterMap (fun i => xs[i]?) = (xs.drop a).take k := by
  intro k
  induction k with
  | zero => simp
  | succ k ih =>
    rw [List.range_succ, List.map_append, List.filterMap_append, ih, List.take_add_one]
    congr 1
    simp only [List.map_cons, List.map_nil, List.filterMap_cons, List.filterMap_nil, List.getElem?_drop]
    cases xs[a + k]? <;> rfl

theorem strSlice_eq (lo hi : Option Int) (n : Nat) : Builtin.Str.strSliceIndices lo hi 1 n = (List.range (hi.elim n (clipAt n) - lo.elim 0 (clipAt n))).map fun i => lo.elim 0 (clipAt n) + i := by
  have h := sliceBounds_plain lo hi n
  have e : Builtin.Str.strSliceIndices lo hi 1 n = sliceRange (sliceBounds lo hi none n).1 (sliceBounds lo hi none n).2.1 1 := by
    cases lo <;> cases hi <;> rfl
  rw [e, h]
  exact sliceRange_one _ _

theorem slice_text {s : List Nat} (lo hi : Option Int) : Txt.slice (tS s) lo hi = tS (cut s (lo.elim 0 (clipAt s.length)) (hi.elim s.length (clipAt s.length))) := by
  unfold Txt.slice
  rw [tS_length, strSlice_eq]
  have e : (List.filterMap (fun x => (tS s).cps[x]?) ((List.range (hi.elim s.length (clipAt s.length) - lo.elim 0 (clipAt s.length))).map fun i => lo.elim 0 (clipAt s.length) + i)) = cut s (lo.elim 0 (clipAt s.length)) (hi.elim s.length (clipAt s.length)) := by
    have := range_map_drop s (lo.elim 0 (clipAt s.length)) (hi.elim s.length (clipAt s.length) - lo.elim 0 (clipAt s.length))
    rw [show (fun x => (tS s).cps[x]?) = fun i => s[i]? from funext fun i => by simp [tS]]
    exact this
  split
  · rename_i h
    simp only [List.length_map, List.length_range] at h
    have h' : hi.elim s.length (clipAt s.length) - lo.elim 0 (clipAt s.length) = s.length := by simpa using h
    have hh : hi.elim s.length (clipAt s.length) ≤ s.length := by
      cases hi with
      | none => exact Nat.le_refl _
      | some i => have := clipAt_cast s.length i; simp only [Option.elim]; omega
    unfold cut
    rw [h']
    rcases Nat.eq_zero_or_pos s.length with z | z
    · have : s = [] := List.length_eq_zero_iff.mp z
      subst this; simp
    · rw [show lo.elim 0 (clipAt s.length) = 0 by omega]; simp
  · rw [e]; rfl

theorem cut_ok {s : List Nat} {a b : Nat} (h : okS s) : okS (cut s a b) :=
  h.sub (fun _ hc => List.mem_of_mem_drop (List.mem_of_mem_take hc)) (by unfold cut; rw [List.length_take, List.length_drop]; omega)

theorem sliceTail {value : Expr} {lo hi : Option Expr} {p : Pos} {o i : Value} {Ty id : String} {Q : Value → Shared → Prop} {E : Value → Shared → Prop} {s : Shared} (hT : s.TypeIs o Ty)
    (hl : typeLookup (.type Ty) "__getitem__" = pure (some (.builtin id))) (hg : wpAny T.M A (getItem o i) Q E s) : wpAny T.M A (PyProof.Rows.subscriptTail value (.Slice lo hi none p) o i) Q E s :=
  PyProof.Rows.tail_any hT hl hg rfl

theorem part_tok {v : Value} {p : Option Int} (h : IsPart v p) : ∃ pt : Option (Int × Tok), v = partValue pt ∧ pt.map (·.1) = p := by
  cases h with
  | none => exact ⟨none, rfl, rfl⟩
  | int i t => exact ⟨some (i, t), rfl, rfl⟩

theorem slice_list (I : Inv T W) {value : Expr} {lo hi : Option Expr} {p : Pos} {x y : AV} {vx vy : Value} {a l : Addr} {vs : Array Value} {xs : List AV} {b c : Nat} (hl : W.h.IsList l vs) (h2 : W.Vs T xs vs.toList) (h3 : xs.length ≤ lim)
    (e1 : bound xs.length 0 x = some b) (e2 : bound xs.length xs.length y = some c) (rx : W.V T x vx) (ry : W.V T y vy) (ha : W.h.get? a = some { cls := .type "slice", data := .fields #[vx, vy, .none] })
    (hn : newList (cut xs b c) W.σ ≠ .fail) : Does T A noX W (PyProof.Rows.subscriptTail value (.Slice lo hi none p) (.ref l) (.ref a)) (newList (cut xs b c) W.σ) (VW T) := by
  obtain ⟨pl, i1, i2, _⟩ := bound_part e1 rx
  obtain ⟨pu, j1, j2, _⟩ := bound_part e2 ry
  have hz := vrs_size h2
  refine does_newList (vs := (vs.toList.drop b).take (c - b)) I ((h2.drop b).take (c - b)) (fun hl' Q E q => sliceTail (Ty := "list") ?_ slot_list_getitem.lookup ?_) hn
  · obtain ⟨o, h1, h2', _⟩ := hl; exact ⟨o, h1, h2'⟩
  · refine wpAny_getItem_list_slice hl ⟨_, ha, rfl, rfl⟩ i1 j1 .none (by simp) ?_ (by rw [hz, ← lim_eq]; exact h3)
    rw [slicePick_plain, hz, i2, j2]
    exact q W.s.toks

theorem scr_vs {ns : List Int} {vs : Array Value} (h5 : ∀ (i : Nat) (x : Int), ns[i]? = some x → ∃ t, vs[i]? = some (Value.int x t)) (h6 : vs.size = ns.length) : W.Vs T (ns.map AV.int) vs.toList := by
  obtain ⟨l⟩ := vs
  simp only [List.getElem?_toArray, List.size_toArray] at h5 h6
  induction ns generalizing l with
  | nil => cases l with
    | nil => exact .nil
    | cons => simp at h6
  | cons n ns ih => cases l with
    | nil => simp at h6
    | cons v l =>
      obtain ⟨t, e⟩ := h5 0 n rfl
      simp at e; subst e
      exact .cons (.int _ _) (ih l (fun i x e => by simpa using h5 (i + 1) x (by simpa using e)) (by simpa using h6))

theorem does_sliceA (I : Inv T W) {value : Expr} {lo hi : Option Expr} {p : Pos} {o x y : AV} {vo vx vy : Value} {a : Addr} (ro : W.V T o vo) (rx : W.V T x vx) (ry : W.V T y vy)
    (ha : W.h.get? a = some { cls := .type "slice", data := .fields #[vx, vy, .none] }) (hn : sliceA o x y W.σ ≠ .fail) :
    Does T A noX W (PyProof.Rows.subscriptTail value (.Slice lo hi none p) vo (.ref a)) (sliceA o x y W.σ) (VW T) := by
  unfold sliceA at hn ⊢
  cases ro <;> first | exact absurd rfl hn | skip
  · rename_i s t ok
    dsimp only at hn ⊢
    cases e1 : bound s.length 0 x with
    | none => rw [e1] at hn; exact absurd rfl hn
    | some b =>
      cases e2 : bound s.length s.length y with
      | none => rw [e1, e2] at hn; exact absurd rfl hn
      | some c =>
        dsimp only
        obtain ⟨pl, i1, i2, _⟩ := bound_part e1 rx
        obtain ⟨pu, j1, j2, _⟩ := bound_part e2 ry
        obtain ⟨ptl, rfl, rfl⟩ := part_tok i1
        obtain ⟨ptu, rfl, rfl⟩ := part_tok j1
        refine Does.keep I fun Q E q => sliceTail (Ty := "str") rfl PyProof.Rows.slot_str_getitem.lookup ?_
        refine wpAny_getItem_str_slice (l := ptl) (u := ptu) (st := none) ⟨_, ha, rfl, rfl⟩ rfl ?_
        have hh := slice_text (s := s) (ptl.map (·.1)) (ptu.map (·.1))
        rw [i2, j2] at hh
        unfold Txt.slice at hh
        unfold sliceMade slicePicked
        show Made.post (if ((1 : Int) == 1 && (Builtin.Str.strSliceIndices (ptl.map (·.1)) (ptu.map (·.1)) 1 (tS s).length).length == (tS s).length) = true then _ else _) _ _
        split at hh
        · rename_i z
          rw [if_pos z]
          rw [hh]
          exact q _ W.s.toks (.str _ (cut_ok ok))
        · rename_i z
          rw [if_neg z]
          refine ⟨?_, ?_⟩
          · exact Nat.le_trans (Nat.le_of_eq (congrArg Str.length hh)) (by rw [tS_length, ← lim_eq]; exact (cut_ok ok).2)
          · have q' := q _ (W.s.toks + 1) (.str W.s.toks (cut_ok (a := b) (b := c) ok))
            rw [← hh] at q'
            exact q'
  · rename_i l b hb
    dsimp only at hn ⊢
    cases hx : W.σ[l]? with
    | none => rw [hx] at hn; exact absurd rfl hn
    | some ob =>
      rw [hx] at hn
      cases ob <;> first | exact absurd rfl hn | skip
      rename_i xs
      dsimp only at hn ⊢
      obtain ⟨_, vs, n, ea, _, h1, h2, h3⟩ := I.listAt hx (.ref hb)
      cases ea
      cases e1 : bound xs.length 0 x with
      | none => rw [e1] at hn; exact absurd rfl hn
      | some b' =>
        cases e2 : bound xs.length xs.length y with
        | none => rw [e1, e2] at hn; exact absurd rfl hn
        | some c =>
          rw [e1, e2] at hn
          dsimp only at hn ⊢
          exact slice_list I ⟨_, h1, rfl, n, rfl⟩ h2 h3 e1 e2 rx ry ha hn
  · rename_i ns b ob vs n h1 h2 h3 h4 h5 h6
    dsimp only at hn ⊢
    cases e1 : bound ns.length 0 x with
    | none => rw [e1] at hn; exact absurd rfl hn
    | some b' =>
      cases e2 : bound ns.length ns.length y with
      | none => rw [e1, e2] at hn; exact absurd rfl hn
      | some c =>
        rw [e1, e2] at hn
        dsimp only at hn ⊢
        have e : cut (ns.map AV.int) b' c = (cut ns b' c).map AV.int := by unfold cut; rw [List.map_take, List.map_drop]
        rw [← e] at hn ⊢
        exact slice_list I ⟨_, I.base _ _ h1, h2, n, h3⟩ (scr_vs h5 h6) (by simpa using h4) (by simpa using e1) (by simpa using e2) rx ry ha hn
end
end Mine

/-! Soundness, part 7: calls (typed by hand). -/
set_option Elab.async false
namespace Mine
open PySem PySem.SeqAt PySem.Spec PySem.W PySem.Calls

section
variable {T : Tp} {A : Around} {W : Wd} {env : Env}

def notStar : Expr → Bool
  | .Starred .. => false
  | _ => true
theorem starEach_plain {e : Expr} {rest : List Expr} (h : notStar e = true) : starEach (e :: rest) env = (false, eval e env) :: starEach rest env := by
  cases e <;> first | rfl | cases h
def plainArgs (es : List Expr) : Bool := es.all notStar
theorem backTo_plain {pos : Pos} : ∀ {es : List Expr}, plainArgs es = true → (backTo pos (starEach es env)).any (·.1) = false
  | [], _ => rfl
  | e :: r, h => by
    have h' : notStar e = true ∧ plainArgs r = true := by simpa [plainArgs] using h
    rw [starEach_plain h'.1]
    show (false || (backTo pos (starEach r env)).any (·.1)) = false
    rw [backTo_plain h'.2]; rfl

theorem does_args_nil (I : Inv T W) {pos : Pos} : Does T A noX W (spliced (backTo pos (starEach [] env))) (.ok [] W.σ) (VWs T) :=
  Does.ok (spliced_nil ⟨W, rfl, rfl, I, .refl _ _, .nil⟩)
theorem does_args_cons {pos : Pos} {e : Expr} {rest : List Expr} {x : Out AV} {y : Hp → Out (List AV)} (he : notStar e = true) (h1 : Does T A noX W (eval e env) x (VW T))
    (h2 : ∀ a W', Inv T W' → Le noX W W' → x = .ok a W'.σ → Does T A noX W' (spliced (backTo pos (starEach rest env))) (y W'.σ) (VWs T)) :
    Does T A noX W (spliced (backTo pos (starEach (e :: rest) env))) (x.bind fun a h => (y h).bind fun b h => .ok (a :: b) h) (VWs T) := by
  rw [starEach_plain he]
  show wpAny T.M A (spliced ((false, eval e env) :: backTo pos (starEach rest env))) _ _ _
  refine spliced_cons (h1.cps (fun a W' va e I' l' ra => ?_) fun _ _ q => q.bind)
  refine (h2 a W' I' l' e).cps (fun b W'' vb e' I'' l'' rb => ?_) fun _ _ q => q.bind.up l' (by rw [e]; rfl)
  exact ⟨a :: b, W'', rfl, by rw [e]; show (y W'.σ).bind _ = _; rw [e']; rfl, I'', l'.trans l'', .cons (ra.le l'') rb⟩

/-- a value that may be called, in every later state -/
def Callee (T : Tp) (f : Value) : Prop := ∀ h, T.base.StaysIn h → ∃ k, (k = Keeper.frame ∨ k = Keeper.machine ∨ k = Keeper.boundFrame) ∧ Looks T.M h (keeperOf f) k
theorem callee_builtin (id : String) : Callee T (.builtin id) := fun _ _ => ⟨.machine, .inr (.inl rfl), Looks.of_pure rfl⟩
theorem callee_type (id : String) : Callee T (.type id) := fun _ _ => ⟨.machine, .inr (.inl rfl), Looks.of_pure rfl⟩
theorem callee_fn {a : Addr} {o : Obj} {fd : FuncData} (ho : T.base.get? a = some o) (hd : o.data = .func fd) : Callee T (.ref a) := fun h k =>
  ⟨.frame, .inl rfl, (Looks.ld (part := none) (k _ _ ho)).andThen (by rw [hd]; exact .now)⟩

theorem does_callWith0 {pos : Pos} {f : Value} {first : List Value} {g : Out AV} (I : Inv T W) (hk : Callee T f) (hc : Does T A noX W (call f (first ++ [])) g (VW T)) :
    Does T A noX W (callWith pos f first (backTo pos (starEach [] env)) []) g (VW T) :=
  callWith_of (P := fun h => T.base.StaysIn h) rfl hk (PyProof.Rows.evalArgs_nil3 ⟨I.base, hc⟩)

theorem does_callWith {pos : Pos} {f : Value} {first : List Value} {e : Expr} {r : List Expr} {xs : Out (List AV)} {g : List AV → Hp → Out AV} (hp : plainArgs (e :: r) = true) (hk : Callee T f)
    (ha : Does T A noX W (spliced (backTo pos (starEach (e :: r) env))) xs (VWs T))
    (hc : ∀ as vs W', Inv T W' → Le noX W W' → xs = .ok as W'.σ → W'.Vs T as vs → Does T A noX W' (call f (first ++ vs)) (g as W'.σ) (VW T)) :
    Does T A noX W (callWith pos f first (backTo pos (starEach (e :: r) env)) []) (xs.bind g) (VW T) := by
  refine callWith_of (P := fun h => T.base.StaysIn h) (by rw [backTo_plain hp]; rfl) hk ?_
  have h' : notStar e = true ∧ plainArgs r = true := by simpa [plainArgs] using hp
  rw [starEach_plain h'.1] at ha ⊢
  refine evalArgs_plain (ha.cps (fun as W' vs e I' l' r => ⟨I'.base, ?_⟩) fun _ _ q => q.bind)
  exact (hc as vs W' I' l' e r).up l' (by rw [e]; rfl)
end
end Mine

/-! Soundness, part 8: built-in functions (typed by hand). -/
set_option Elab.async false
namespace Mine
open PySem PySem.SeqAt PySem.Spec PySem.W PySem.Calls

section
variable {T : Tp} {A : Around} {W : Wd} {env : Env}

/-- a tree that makes nothing known, may push things -/
theorem Does.grown {t : Sem Value} {a : AV} (I : Inv T W) (h : ∀ Q E, (∀ v h' k, (∀ c o, W.h.get? c = some o → h'.get? c = some o) → VR T W.own W.bt h' a v → Q v { W.s with heap := h', toks := k }) → wpAny T.M A t Q E W.s) :
    Does T A noX W t (.ok a W.σ) (VW T) :=
  Does.ok (h _ _ fun v h' k hk r => by
    have := I.grow (s' := { W.s with heap := h', toks := k }) hk rfl rfl
    exact ⟨{ W with s := { W.s with heap := h', toks := k } }, rfl, rfl, this.1, this.2, r⟩)

def biV : Bi → Value
  | .len => .builtin "len"
  | .ord => .builtin "ord"
  | .range => .type "range"
  | .min => .builtin "min"
  | .max => .builtin "max"
  | .sum => .builtin "sum"
  | .all => .builtin "all"
  | .any => .builtin "any"
  | .sorted => .builtin "sorted"
  | .sortedSet => .builtin "sorted"
  | .list => .type "list"
  | .tuple => .type "tuple"
  | .str => .type "str"
  | .int => .type "int"
  | .dict => .type "dict"
theorem callee_bi (b : Bi) : Callee T (biV b) := by
  cases b <;> first | exact callee_builtin _ | exact callee_type _

theorem own_new (I : Inv T W) {a : Addr} (h : W.h.get? a = none) : W.own a = .free := by
  cases q : W.own a with
  | free => rfl
  | loc l => obtain ⟨o, e⟩ := (I.lt a (by rw [q]; simp)).1; rw [h] at e; cases e
  | exc => obtain ⟨o, e⟩ := (I.lt a (by rw [q]; simp)).1; rw [h] at e; cases e
theorem get_size (h : Heap) : h.get? h.objs.size = none := by
  cases q : h.get? h.objs.size with
  | none => rfl
  | some o => exact absurd (Heap.lt_size q) (Nat.lt_irrefl _)

theorem ints_vals : ∀ {xs : List AV} {ns : List Int} {vs : List Value}, intsA xs = some ns → W.Vs T xs vs → PyProof.Rows.IntsAre vs ns
  | [], _, _, e, .nil => by cases e; exact .nil
  | x :: xs, _, _, e, .cons a r => by
    simp only [intsA, mapO] at e
    split at e
    · rename_i n ns e1 e2
      cases e
      cases x <;> simp only at e1 <;> first | cases e1 | skip
      cases a
      exact .cons _ _ (ints_vals e2 r)
    · cases e

theorem minL_spec : ∀ (r : List Int) (a : Int), minL a r ∈ a :: r ∧ ∀ x ∈ a :: r, minL a r ≤ x
  | [], a => ⟨by simp [minL], by simp [minL]⟩
  | b :: r, a => by
    obtain ⟨h1, h2⟩ := minL_spec r (if b < a then b else a)
    simp only [minL]
    refine ⟨?_, fun x hx => ?_⟩
    · rcases List.mem_cons.mp h1 with q | q
      · rw [q]; split <;> simp
      · simp [q]
    · have h3 := h2 (if b < a then b else a) (by simp)
      rcases List.mem_cons.mp hx with rfl | hx
      · refine Int.le_trans h3 ?_; split <;> omega
      · rcases List.mem_cons.mp hx with rfl | hx
        · refine Int.le_trans h3 ?_; split <;> omega
        · exact h2 x (by simp [hx])

theorem min_ints_any {l : Addr} {vs : List Value} {ns : List Int} {Q : Value → Shared → Prop} {E : Value → Shared → Prop} {s : Shared} (hh : A.handled = none) (hl : s.heap.IsList l vs.toArray) (hi : PyProof.Rows.IntsAre vs ns) (hne : 0 < ns.length)
    (h : ∀ h' M (t : Tok) tk, (∀ c o, s.heap.get? c = some o → h'.get? c = some o) → M ∈ ns → (∀ a, a ∈ ns → M ≤ a) → Q (.int M t) { s with heap := h', toks := tk }) :
    wpAny T.M A (call (.builtin "min") [.ref l]) Q E s := by
  obtain ⟨xs, e⟩ := hi.allInts.items
  have hns : ns = xs.toList.map (·.1) := by
    rw [← hi.numsOf, ← nums_intItems, ← e]
  have hsz : 0 < xs.size := by
    have h3 := hne; rw [hns, List.length_map, Array.length_toList] at h3; exact h3
  rw [e] at hl
  refine min_intList hh hl hsz fun v h' tk hv hk => ?_
  obtain ⟨t, rfl⟩ := intItems_at hv
  obtain ⟨h1, h2⟩ := argBest_lt (numAt xs) (xs.size - 1)
  refine h _ _ t tk hk ?_ fun a ha => ?_
  · rw [hns, numAt_eq]; exact getD_mem (by rw [List.length_map, Array.length_toList]; omega)
  · rw [hns] at ha
    obtain ⟨j, hj, rfl⟩ := mem_getD ha
    rw [List.length_map, Array.length_toList] at hj
    rw [← numAt_eq]
    exact h2 j (by omega)

theorem does_biA (I : Inv T W) (hh : A.handled = none) {b : Bi} {as : List AV} {vals : List Value} (r : W.Vs T as vals) (hn : biA b as W.σ ≠ .fail) : Does T A noX W (call (biV b) vals) (biA b as W.σ) (VW T) := by
  unfold biA at hn ⊢
  split at hn
  · cases r with
    | cons ra rr =>
      cases rr
      rename_i v
      cases ra <;> dsimp only at hn ⊢ <;> first | exact absurd rfl hn | skip
      · rename_i t ok
        exact Does.keep I fun Q E q => P.len_str (by rw [tS_length]; have := lim_small ok.2; omega) (by rw [tS_length]; exact q _ _ (.int _ _))
      · rename_i h1 h2 h3 h4 h5 h6
        have e := vrs_size h6
        rename_i n
        exact Does.keep I fun Q E q => PyProof.Rows.len_tuple ⟨_, h1, h2, n, h3⟩ (by rw [e]; exact lim_small h5) (by rw [e]; exact q _ _ (.int _ _))
      · rename_i l a hl
        cases hx : W.σ[l]? with
        | none => rw [hx] at hn; exact absurd rfl hn
        | some o =>
          rw [hx] at hn
          cases o <;> first | exact absurd rfl hn | skip
          obtain ⟨_, vs, m, ea, _, h1, h2, h3⟩ := I.listAt hx (.ref hl)
          cases ea
          have e := vrs_size h2
          exact Does.keep I fun Q E q => PyProof.Rows.len_list ⟨_, h1, rfl, m, rfl⟩ (by rw [e]; exact lim_small h3) (by rw [e]; exact q _ _ (.int _ _))
      · rename_i h1 h2 h3 h4 h5 h6
        rename_i n
        exact Does.keep I fun Q E q => PyProof.Rows.len_list ⟨_, I.base _ _ h1, h2, n, h3⟩ (by rw [h6]; exact lim_small h4) (by rw [h6]; exact q _ _ (.int _ _))
  · cases r with
    | cons ra rr =>
      cases rr; cases ra
      exact Does.keep I fun Q E q => P.ord_of_char (q _ _ (.int _ _))
  · cases r with
    | cons ra rr =>
      cases rr; cases ra
      split at hn
      · rename_i h1
        rw [if_pos h1]
        refine Does.grown I fun Q E q => call_range_1 (q _ _ _ (fun c o e => Heap.get?_push_of_some _ e) (.rng (Heap.get?_push_size _ rfl) (own_new I (get_size _)) ?_ ?_ h1.1 h1.2))
        · have : (lim : Int) = 16777216 := rfl; omega
        · have : (lim : Int) = 16777216 := rfl; omega
      · exact absurd rfl hn
  · cases r with
    | cons ra rr =>
      cases rr with
      | cons rb rr =>
        cases rr; cases ra; cases rb
        split at hn
        · rename_i h1
          rw [if_pos h1]
          exact Does.grown I fun Q E q => call_range_2 (q _ _ _ (fun c o e => Heap.get?_push_of_some _ e) (.rng (Heap.get?_push_size _ rfl) (own_new I (get_size _)) h1.1 h1.2.1 h1.2.2.1 h1.2.2.2))
        · exact absurd rfl hn
  · cases r with
    | cons ra rr =>
      cases rr with
      | cons rb rr =>
        cases rr; cases ra; cases rb
        refine Does.grown I fun Q E q => min_two_ints hh fun h' tk hk => ?_
        split
        · rename_i z; rw [if_pos z] at q; exact q _ _ _ hk (.int _ _)
        · rename_i z; rw [if_neg z] at q; exact q _ _ _ hk (.int _ _)
  · cases r with
    | cons ra rr =>
      cases rr with
      | cons rb rr =>
        cases rr; cases ra; cases rb
        refine Does.grown I fun Q E q => max_two_ints hh fun h' tk hk => ?_
        split
        · rename_i z; rw [if_pos z] at q; exact q _ _ _ hk (.int _ _)
        · rename_i z; rw [if_neg z] at q; exact q _ _ _ hk (.int _ _)
  · rename_i v
    cases r with
    | cons ra rr =>
      cases rr
      cases v <;> simp only [listAt] at hn ⊢ <;> first | exact absurd rfl hn | skip
      rename_i l
      cases hx : W.σ[l]? with
      | none => rw [hx] at hn; exact absurd rfl hn
      | some o =>
        rw [hx] at hn
        cases o <;> first | exact absurd rfl hn | skip
        rename_i xs
        simp only [Option.bind_some] at hn ⊢
        cases hi : intsA xs with
        | none => rw [hi] at hn; exact absurd rfl hn
        | some ns =>
          rw [hi] at hn
          cases ns with
          | nil => exact absurd rfl hn
          | cons n ns =>
            obtain ⟨_, vs, m, ea, _, h1, h2, h3⟩ := I.listAt hx ra
            cases ea
            refine Does.grown I fun Q E q => min_ints_any hh (vs := vs.toList) ⟨_, h1, rfl, m, by simp⟩ (ints_vals hi h2) (by simp) fun h' M t tk hk hm hle => ?_
            have e : M = minL n ns := by
              obtain ⟨g1, g2⟩ := minL_spec ns n
              have := hle _ g1; have := g2 _ hm; omega
            rw [e]
            exact q _ _ _ hk (.int _ _)
  · exact absurd rfl hn
end
end Mine

/-! Soundness, part 9: isinstance, tests, operators in expressions (typed by hand). -/
set_option Elab.async false
namespace Mine
open PySem PySem.SeqAt PySem.Spec PySem.W PySem.Calls

section
variable {T : Tp} {A : Around} {W : Wd} {env : Env}

def kdT : Kd → String
  | .int => "int"
  | .str => "str"
  | .bool => "bool"
  | .tup => "tuple"
  | .list => "list"
  | _ => ""

theorem does_instA (I : Inv T W) {v : AV} {k : Kd} {b : Bool} {val : Value} (r : W.V T v val) (e : instA T.P W.σ v k = some b) : Does T A noX W (call (.builtin "isinstance") [val, .type (kdT k)]) (.ok (.bool b) W.σ) (VW T) := by
  refine Does.keep I fun Q E q => ?_
  have q0 : Q (.bool b) W.s := q _ W.s.toks (.bool _)
  have q1 : Q (.bool b) { W.s with toks := W.s.toks + 1 } := q _ _ (.bool _)
  cases k <;> simp only [instA] at e <;> first | cases e | skip
  all_goals (cases r <;> simp only at e <;> first | cases e | skip)
  all_goals try (first | exact IsiPair.int_int q0 | exact IsiPair.int_str q1 | exact IsiPair.int_bool q1 | exact IsiPair.int_tuple q1 | exact IsiPair.int_list q1 | exact IsiPair.str_int q1 | exact IsiPair.str_str q0 | exact IsiPair.str_bool q1 | exact IsiPair.str_tuple q1 | exact IsiPair.str_list q1 | exact IsiPair.bool_int q0 | exact IsiPair.bool_str q1 | exact IsiPair.bool_bool q0 | exact IsiPair.bool_tuple q1 | exact IsiPair.bool_list q1 | exact IsiPair.NoneType_int q1 | exact IsiPair.NoneType_str q1 | exact IsiPair.NoneType_bool q1 | exact IsiPair.NoneType_tuple q1 | exact IsiPair.NoneType_list q1)
  all_goals try (first | exact IsiPair.tuple_int (by assumption) (by assumption) q1 | exact IsiPair.tuple_str (by assumption) (by assumption) q1 | exact IsiPair.tuple_bool (by assumption) (by assumption) q1 | exact IsiPair.tuple_tuple (by assumption) (by assumption) q0 | exact IsiPair.tuple_list (by assumption) (by assumption) q1)
  all_goals (rename_i l a hl; split at e; rotate_left; (cases e); rename_i xs hx; cases e; obtain ⟨_, vs, m, ea, _, h1, h2, h3⟩ := I.listAt hx (.ref hl); cases ea)
  all_goals (first | exact IsiPair.list_int h1 rfl q1 | exact IsiPair.list_str h1 rfl q1 | exact IsiPair.list_bool h1 rfl q1 | exact IsiPair.list_tuple h1 rfl q1 | exact IsiPair.list_list h1 rfl q0)
end
end Mine

/-! Soundness, part 10: texts and abstract texts match; expressions (typed by hand). -/
set_option Elab.async false
namespace Mine
open PySem PySem.SeqAt PySem.Spec PySem.W PySem.Calls

/-- what the matching asks of the globals -/
structure Gl where
  gv : Str → Option (Option Value)
  fa : Nat → Addr

def isGlob (sc : Scope) (x : Str) : Bool := sc.names.lookup x == some .globalImplicit && !(x == ("__debug__" : Str))
def okSb (s : List Nat) : Bool := s.all (fun c => decide (c < 128)) && decide (s.length ≤ 100000)
theorem okS_of {s : List Nat} (h : okSb s = true) : okS s := by
  simp only [okSb, Bool.and_eq_true, List.all_eq_true, decide_eq_true_eq] at h
  exact ⟨h.1, Nat.le_trans h.2 (by decide)⟩
/-- a built-in's name that nobody has taken -/
def isBi (G : Gl) (sc : Scope) (x : Str) (v : Value) : Bool := isGlob sc x && (match G.gv x with | some none => true | _ => false) && bootBuiltins x == some v && !(x == ("__name__" : Str))

def isNoneC : Const → Bool
  | .none => true
  | _ => false
def isBoolC (b : Bool) : Const → Bool
  | .bool c => b == c
  | _ => false
def isIntC (i : Int) : Const → Bool
  | .int c => i == c
  | _ => false
def isStrC (s : List Nat) : Const → Bool
  | .str c => c == tS s && okSb s
  | _ => false
/-- the name of one of the text's defs -/
def callOk (G : Gl) (sc : Scope) (f : Nat) : Expr → Bool
  | .Name x _ => isGlob sc x && (match G.gv x with | some (some (.ref a)) => a == G.fa f | _ => false)
  | _ => false
def biName (G : Gl) (sc : Scope) (v : Value) : Expr → Bool
  | .Name x _ => isBi G sc x v
  | _ => false
def oneOp : List COp → List CmpOp → List ME → Bool
  | [op], [op'], [_] => cmpOk op op'
  | _, _, _ => false

def isSlice : Expr → Bool
  | .Slice _ _ none _ => true
  | _ => false
def sliceLo : Expr → Option Expr
  | .Slice lo _ _ _ => lo
  | _ => none
def sliceHi : Expr → Option Expr
  | .Slice _ hi _ _ => hi
  | _ => none
def biSecond (G : Gl) (sc : Scope) (v : Value) : List Expr → Bool
  | [_, y] => biName G sc v y
  | _ => false

def isNoM : ME → Bool
  | .none => true
  | _ => false
def mO (m : ME) (f : Expr → Bool) : Option Expr → Bool
  | none => isNoM m
  | some e => f e
mutual
def mtE (G : Gl) (sc : Scope) (sl : List (Nat × Str)) : ME → Expr → Bool
  | .none, .Constant c _ _ => isNoneC c
  | .bool b, .Constant c _ _ => isBoolC b c
  | .int i, .Constant c _ _ => isIntC i c
  | .str s, .Constant c _ _ => isStrC s c
  | .var i, .Name x _ => sl.contains (i, x) && !(x == ("__debug__" : Str))
  | .bin op l r, .BinOp l' op' r' _ => opOk op op' && mtE G sc sl l l' && mtE G sc sl r r'
  | .not e, .UnaryOp op e' _ => decide (op = .Not) && mtE G sc sl e e'
  | .neg e, .UnaryOp op e' _ => decide (op = .USub) && mtE G sc sl e e'
  | .and es, .BoolOp op es' _ => decide (op = .And) && mtEs G sc sl es es'
  | .or es, .BoolOp op es' _ => decide (op = .Or) && mtEs G sc sl es es'
  | .cmp l ops rs, .Compare l' ops' rs' _ => oneOp ops ops' rs && mtE G sc sl l l' && mtEs G sc sl rs rs'
  | .tup es, .Tuple es' _ _ => decide (es.length ≤ 1000) && mtEs G sc sl es es'
  | .list es, .List es' _ => mtEs G sc sl es es'
  | .idx o i, .Subscript o' i' _ => notSlice i' && mtE G sc sl o o' && mtE G sc sl i i'
  | .slice o lo hi, .Subscript o' s' _ => isSlice s' && mtE G sc sl o o' && mO lo (mtE G sc sl lo) (sliceLo s') && mO hi (mtE G sc sl hi) (sliceHi s')
  | .call f args, .Call fe args' kws _ => kws.isEmpty && callOk G sc f fe && mtEs G sc sl args args'
  | .bi b args, .Call fe args' kws _ => kws.isEmpty && biName G sc (biV b) fe && mtEs G sc sl args args'
  | .inst e k, .Call fe args' kws _ => kws.isEmpty && biName G sc (.builtin "isinstance") fe && biSecond G sc (.type (kdT k)) args' && mO e (mtE G sc sl e) args'.head?
  | _, _ => false
def mtEs (G : Gl) (sc : Scope) (sl : List (Nat × Str)) : List ME → List Expr → Bool
  | [], [] => true
  | m :: ms, e :: es => mtE G sc sl m e && mtEs G sc sl ms es
  | _, _ => false
end
abbrev mtO (G : Gl) (sc : Scope) (sl : List (Nat × Str)) (m : ME) (o : Option Expr) : Bool := mO m (mtE G sc sl m) o

theorem callOk_name {G : Gl} {sc : Scope} {f : Nat} {fe : Expr} (h : callOk G sc f fe = true) : ∃ x p, fe = .Name x p ∧ isGlob sc x = true ∧ G.gv x = some (some (.ref (G.fa f))) := by
  cases fe <;> simp only [callOk] at h <;> first | cases h | skip
  rename_i x p
  simp only [Bool.and_eq_true] at h
  refine ⟨x, p, rfl, h.1, ?_⟩
  have h2 := h.2
  split at h2
  · rename_i a e; rw [e, eq_of_beq h2]
  · cases h2
theorem biName_name {G : Gl} {sc : Scope} {v : Value} {fe : Expr} (h : biName G sc v fe = true) : ∃ x p, fe = .Name x p ∧ isBi G sc x v = true := by
  cases fe <;> simp only [biName] at h <;> first | cases h | skip
  exact ⟨_, _, rfl, h⟩

theorem mtE_plain {G : Gl} {sc : Scope} {sl : List (Nat × Str)} {m : ME} {e : Expr} (h : mtE G sc sl m e = true) : notStar e = true := by
  cases e <;> first | rfl | skip
  cases m <;> simp [mtE] at h
theorem mtEs_plain {G : Gl} {sc : Scope} {sl : List (Nat × Str)} : ∀ {ms : List ME} {es : List Expr}, mtEs G sc sl ms es = true → plainArgs es = true
  | [], [], _ => rfl
  | m :: ms, e :: es, h => by
    simp only [mtEs, Bool.and_eq_true] at h
    simp only [plainArgs, List.all_cons, Bool.and_eq_true]
    exact ⟨mtE_plain h.1, mtEs_plain h.2⟩
  | [], _ :: _, h => by simp [mtEs] at h
  | _ :: _, [], h => by simp [mtEs] at h
theorem mtE_marks {G : Gl} {sc : Scope} {sl : List (Nat × Str)} {m : ME} {e : Expr} (op : CmpOp) (h : mtE G sc sl m e = true) : behindInMarks op e = false := by
  cases e <;> first | rfl | skip
  cases m <;> simp [mtE] at h

structure GlOk (T : Tp) (G : Gl) : Prop where
  sm : ∀ x v, G.gv x = some (some v) → T.mg x = some v
  nn : ∀ x, G.gv x = some none → T.mg x = none
  fa : G.fa = T.fa
  callee : ∀ x f, G.gv x = some (some (.ref (G.fa f))) → Callee T (.ref (T.fa f))

/-- the calls of the text's defs -/
structure CallsOk (T : Tp) (n : Nat) (call : Nat → List AV → Hp → Out AV) : Prop where
  does : ∀ f as vals A W, AOk n A → Inv T W → W.Vs T as vals → call f as W.σ ≠ .fail → Does T A noX W (PySem.call (.ref (T.fa f)) vals) (call f as W.σ) (VW T)

theorem Out.bind_ok {α β : Type} {x : Out α} {f : α → Hp → Out β} (h : x.bind f ≠ .fail) : x ≠ .fail ∧ ∀ a k, x = .ok a k → f a k ≠ .fail := by
  cases x with
  | ok a k => exact ⟨by simp, fun a' k' e => by cases e; exact h⟩
  | exc c k => exact ⟨by simp, fun a' k' e => by cases e⟩
  | fail => exact absurd rfl h

section
variable {T : Tp} {A : Around} {W : Wd} {env : Env} {sl : List (Nat × Str)} {vs : Vs} {G : Gl}

theorem does_global (hT : T.Ok) (hG : GlOk T G) (I : Inv T W) (F : Fm T W env sl vs) {x : Str} {pos : Pos} {v : Value} (hx : isGlob env.scope x = true) (e : G.gv x = some (some v)) {Q : Value → Shared → Prop} {E : Value → Shared → Prop} (q : Q v W.s) :
    wpAny T.M A (eval (.Name x pos) env) Q E W.s := by
  simp only [isGlob, Bool.and_eq_true, beq_iff_eq, Bool.not_eq_true'] at hx
  exact Name_function_global F.kind hx.1 (loadGlobal_global (by rw [F.glob]; exact hT.g.keeps I.base) (hG.sm x v e) q) hx.2
theorem does_bi_name (hT : T.Ok) (hG : GlOk T G) (I : Inv T W) (F : Fm T W env sl vs) {x : Str} {pos : Pos} {v : Value} (hx : isBi G env.scope x v = true) {Q : Value → Shared → Prop} {E : Value → Shared → Prop} (q : Q v W.s) :
    wpAny T.M A (eval (.Name x pos) env) Q E W.s := by
  simp only [isBi, isGlob, Bool.and_eq_true, beq_iff_eq, Bool.not_eq_true', beq_eq_false_iff_ne] at hx
  obtain ⟨⟨⟨⟨h1, h2⟩, h3⟩, h4⟩, h5⟩ := hx
  have hm : T.mg x = none := by
    cases z : G.gv x with
    | none => rw [z] at h3; cases h3
    | some y => cases y with
      | none => exact hG.nn x z
      | some w => rw [z] at h3; cases h3
  exact Name_function_global F.kind h1 (loadGlobal_builtin (by rw [F.glob]; exact hT.g.keeps I.base) hm (by rw [F.bi]; exact hT.b.keeps I.base) ((hT.bi x h5).trans h4) q) (by simpa using h2)

/-- truth of a value, as a tree -/
theorem does_truthD (I : Inv T W) {a : AV} {v : Value} (r : W.V T a v) {α : Type} {g : Bool → Hp → Out α} (hn : (match truth W.σ a with | some b => g b W.σ | Option.none => .fail) ≠ .fail) {Q : Bool → Shared → Prop} {E : Value → Shared → Prop}
    (h : ∀ b W', Inv T W' → Le noX W W' → W'.σ = W.σ → truth W.σ a = some b → Q b W'.s) : wpAny T.M A (truthy v) Q E W.s := by
  cases e : truth W.σ a with
  | none => rw [e] at hn; exact absurd rfl hn
  | some b => exact does_truth I r e Q E fun k => h b { W with s := { W.s with toks := k } } (I.toks k).1 (I.toks k).2 rfl e
end
end Mine

/-! Soundness, part 11: expressions (typed by hand). -/
set_option Elab.async false
namespace Mine
open PySem PySem.SeqAt PySem.Spec PySem.W PySem.Calls

section
variable {T : Tp} {G : Gl} {n : Nat} {C : Cx}

theorem does_spliced_list {A : Around} {W : Wd} {env : Env} {es : List Expr} {pos : Pos} {x : Out (List AV)} (h : Does T A noX W (spliced (backTo pos (starEach es env))) x (VWs T)) (hn : x.bind (fun xs h => newList xs h) ≠ .fail) :
    Does T A noX W (eval (.List es pos) env) (x.bind fun xs h => newList xs h) (VW T) := by
  refine wpAny_List_spliced (h.cps (fun xs W' vals e I l r => ?_) fun _ _ q => q.bind)
  have hn' := (Out.bind_ok hn).2 xs W'.σ e
  unfold newList at hn'
  split at hn'
  · rename_i hl
    refine ⟨by rw [r.length, ← lim_eq]; exact hl, ?_⟩
    have := I.push (s' := { W'.s with heap := W'.h.push { cls := .type "list", data := .seq vals.toArray } }) (o := .list xs) (Heap.get?_push_size _ rfl) (fun a q e => Heap.get?_push_of_some _ e) rfl rfl
      fun x => ⟨vals.toArray, 0, Heap.get?_push_size _ rfl, by simpa using r.ext x .no, hl⟩
    refine ⟨.ref W'.σ.length, _, rfl, ?_, this.1, l.trans this.2.1, this.2.2⟩
    rw [e]; show newList xs W'.σ = _; unfold newList; rw [if_pos hl]
  · exact absurd rfl hn'

theorem does_spliced_tup {A : Around} {W : Wd} {env : Env} {es : List Expr} {k : Nat} {pos : Pos} {x : Out (List AV)} (h : Does T A noX W (spliced (backTo pos (starEach es env))) x (VWs T)) (hl : ∀ xs h, x = .ok xs h → xs.length ≤ lim) :
    Does T A noX W (eval (.Tuple es k pos) env) (x.bind fun xs h => .ok (.tup xs) h) (VW T) := by
  refine wpAny_Tuple_spliced (h.cps (fun xs W' vals e I l r => ?_) fun _ _ q => q.bind)
  have hl' := hl xs W'.σ e
  refine ⟨by rw [r.length, ← lim_eq]; exact hl', ?_⟩
  have := I.grow (s' := { W'.s with heap := W'.h.push { cls := .type "tuple", data := .seq vals.toArray } }) (fun a q e => Heap.get?_push_of_some _ e) rfl rfl
  refine ⟨.tup xs, _, rfl, by rw [e]; rfl, this.1, l.trans this.2, .tup (Heap.get?_push_size _ rfl) rfl rfl (own_new I (get_size _)) hl' ?_⟩
  exact VRs.le (W := W') (by simpa using r) this.2

theorem evs_length : ∀ (ms : List ME) (h : Hp) (vs : Vs) (xs : List AV) (h' : Hp), evs C ms h vs = .ok xs h' → xs.length = ms.length
  | [], h, vs, xs, h', e => by simp only [evs] at e; cases e; rfl
  | m :: ms, h, vs, xs, h', e => by
    simp only [evs] at e
    cases e1 : ev C m h vs with
    | ok a k =>
      rw [e1] at e
      simp only [Out.bind] at e
      cases e2 : evs C ms k vs with
      | ok ys k' => rw [e2] at e; simp only at e; cases e; simp [evs_length ms k vs ys _ e2]
      | exc c k' => rw [e2] at e; cases e
      | fail => rw [e2] at e; cases e
    | exc c k => rw [e1] at e; cases e
    | fail => rw [e1] at e; cases e

/-- the tree of `and` | `or` -/
theorem boolOp_cons {pos : Pos} {op : BoolOp} {x y : Sem Value} {r : List (Sem Value)} : boolOp pos op (x :: y :: r) = (do
    let v ← x
    standAt pos
    let t ← holding [v] (truthy v)
    match op, t with
    | .And, false | .Or, true => pure v
    | _, _ => boolOp pos op (y :: r)) := rfl

variable (hT : T.Ok) (hG : GlOk T G) (hP : C.P = T.P) (hC : CallsOk T n C.call)

/-- what is shown of an expression -/
def SE (T : Tp) (G : Gl) (n : Nat) (C : Cx) (m : ME) : Prop :=
  ∀ (e : Expr) (sl : List (Nat × Str)) (A : Around) (W : Wd) (env : Env) (vs : Vs), mtE G env.scope sl m e = true → AOk n A → Fm T W env sl vs → Inv T W → ev C m W.σ vs ≠ .fail →
    Does T A noX W (eval e env) (ev C m W.σ vs) (VW T)

theorem does_evs : ∀ (ms : List ME), (∀ m ∈ ms, SE T G n C m) → ∀ (es : List Expr) (sl : List (Nat × Str)) (A : Around) (W : Wd) (env : Env) (vs : Vs) (pos : Pos), mtEs G env.scope sl ms es = true → AOk n A → Fm T W env sl vs → Inv T W → evs C ms W.σ vs ≠ .fail →
    Does T A noX W (spliced (backTo pos (starEach es env))) (evs C ms W.σ vs) (VWs T)
  | [], _, [], _, _, _, _, _, _, _, _, _, I, _ => by simp only [evs]; exact does_args_nil I
  | [], _, _ :: _, _, _, _, _, _, _, h, _, _, _, _ => by simp [mtEs] at h
  | _ :: _, _, [], _, _, _, _, _, _, h, _, _, _, _ => by simp [mtEs] at h
  | m :: ms, ih, e :: es, sl, A, W, env, vs, pos, h, a, F, I, hn => by
    simp only [mtEs, Bool.and_eq_true] at h
    simp only [evs] at hn ⊢
    obtain ⟨n1, n2⟩ := Out.bind_ok hn
    refine does_args_cons (mtE_plain h.1) (ih m (by simp) e sl A W env vs h.1 a F I n1) fun x W' I' l' e' => ?_
    exact does_evs ms (fun m' hm => ih m' (by simp [hm])) es sl A W' env vs pos h.2 a (F.le l') I' (Out.bind_ok (n2 x W'.σ e')).1

theorem does_and (op : BoolOp) : ∀ (ms : List ME), (∀ m ∈ ms, SE T G n C m) → ∀ (es : List Expr) (sl : List (Nat × Str)) (A : Around) (W : Wd) (env : Env) (vs : Vs) (pos : Pos), mtEs G env.scope sl ms es = true → AOk n A → Fm T W env sl vs → Inv T W →
    (match op with | .And => evAnd C ms W.σ vs | .Or => evOr C ms W.σ vs) ≠ .fail → Does T A noX W (boolOp pos op (evalEach es env)) (match op with | .And => evAnd C ms W.σ vs | .Or => evOr C ms W.σ vs) (VW T)
  | [], _, [], _, _, _, _, _, _, _, _, _, I, hn => by cases op <;> simp [evAnd, evOr] at hn
  | [], _, _ :: _, _, _, _, _, _, _, h, _, _, _, _ => by simp [mtEs] at h
  | _ :: _, _, [], _, _, _, _, _, _, h, _, _, _, _ => by simp [mtEs] at h
  | [m], ih, [e], sl, A, W, env, vs, pos, h, a, F, I, hn => by
    simp only [mtEs, Bool.and_eq_true] at h
    have := ih m (by simp) e sl A W env vs h.1 a F I
    cases op <;> simp only [evAnd, evOr] at hn ⊢ <;> exact this hn
  | [m], _, _ :: _ :: _, _, _, _, _, _, _, h, _, _, _, _ => by simp [mtEs] at h
  | m :: m' :: ms, _, [_], _, _, _, _, _, _, h, _, _, _, _ => by simp [mtEs] at h
  | m :: m' :: ms, ih, e :: e' :: es, sl, A, W, env, vs, pos, h, a, F, I, hn => by
    have h' : mtE G env.scope sl m e = true ∧ mtEs G env.scope sl (m' :: ms) (e' :: es) = true := by simpa only [mtEs, Bool.and_eq_true] using h
    have ih' := does_and op (m' :: ms) (fun q hq => ih q (by simp [hq])) (e' :: es) sl A
    show Does T A noX W (boolOp pos op (eval e env :: eval e' env :: evalEach es env)) _ _
    rw [boolOp_cons]
    cases op with
    | And =>
      simp only [evAnd] at hn ⊢
      obtain ⟨n1, n2⟩ := Out.bind_ok hn
      refine Does.bind (ih m (by simp) e sl A W env vs h'.1 a F I n1) fun x W' v e1 I' l' r => ?_
      have n3 := n2 x W'.σ e1
      refine wpAny_bind (wpAny_standAt (wpAny_bind (wpAny_holding (does_truthD (α := AV) (g := fun b h => match b with | false => .ok x h | true => evAnd C (m' :: ms) h vs) I' r (by
        cases q : truth W'.σ x with
        | none => rw [q] at n3; exact absurd rfl n3
        | some b => rw [q] at n3; cases b <;> exact n3) fun b W'' I'' l'' es'' q => ?_))))
      rw [q] at n3 ⊢
      cases b with
      | false => exact wpAny_pure ⟨x, W'', rfl, by rw [es''], I'', l'', r.le l''⟩
      | true =>
        have := ih' W'' env vs pos h'.2 a (F.le (l'.trans l'')) I'' (by rw [es'']; exact n3)
        rw [es''] at this
        exact this.up l'' rfl
    | Or =>
      simp only [evOr] at hn ⊢
      obtain ⟨n1, n2⟩ := Out.bind_ok hn
      refine Does.bind (ih m (by simp) e sl A W env vs h'.1 a F I n1) fun x W' v e1 I' l' r => ?_
      have n3 := n2 x W'.σ e1
      refine wpAny_bind (wpAny_standAt (wpAny_bind (wpAny_holding (does_truthD (α := AV) (g := fun b h => match b with | true => .ok x h | false => evOr C (m' :: ms) h vs) I' r (by
        cases q : truth W'.σ x with
        | none => rw [q] at n3; exact absurd rfl n3
        | some b => rw [q] at n3; cases b <;> exact n3) fun b W'' I'' l'' es'' q => ?_))))
      rw [q] at n3 ⊢
      cases b with
      | true => exact wpAny_pure ⟨x, W'', rfl, by rw [es''], I'', l'', r.le l''⟩
      | false =>
        have := ih' W'' env vs pos h'.2 a (F.le (l'.trans l'')) I'' (by rw [es'']; exact n3)
        rw [es''] at this
        exact this.up l'' rfl
end
end Mine

/-! Soundness, part 12: all expressions (typed by hand). -/
set_option Elab.async false
namespace Mine
open PySem PySem.SeqAt PySem.Spec PySem.W PySem.Calls

section
variable {T : Tp} {G : Gl} {n : Nat} {C : Cx}

theorem beq_str {a : Str} {s : List Nat} (h : (a == tS s) = true) : a = tS s := eq_of_beq h

theorem does_part {m : ME} (ih : SE T G n C m) {e : Option Expr} {sl : List (Nat × Str)} {A : Around} {W : Wd} {env : Env} {vs : Vs} (hm : mtO G env.scope sl m e = true) (a : AOk n A) (F : Fm T W env sl vs) (I : Inv T W) (hn : ev C m W.σ vs ≠ .fail) :
    Does T A noX W (evalPart e env) (ev C m W.σ vs) (VW T) := by
  cases e with
  | some e =>
    have hm' : mtE G env.scope sl m e = true := by cases m <;> simpa [mtO, mO] using hm
    exact wpAny_evalPart_some (ih e sl A W env vs hm' a F I hn)
  | none =>
    cases m <;> simp [mtO, mO, isNoM] at hm
    simp only [ev]
    exact Does.ok (wpAny_evalPart_none ⟨W, rfl, rfl, I, .refl _ _, .none⟩)

theorem sound_e_aux (hT : T.Ok) (hG : GlOk T G) (hP : C.P = T.P) (hC : CallsOk T n C.call) (k : Nat) (ih : ∀ m : ME, sizeOf m < k → SE T G n C m) (m : ME) (hk : sizeOf m < k + 1) : SE T G n C m := by
  intro e sl A W env vs hm a F I hn
  have hu : A.units + 65 < cLine := by have := a.units; omega
  match m with
  | .none =>
    cases e <;> simp [mtE] at hm
    rename_i c k p
    cases c <;> simp [isNoneC] at hm
    simp only [ev]; exact does_none I
  | .bool b =>
    cases e <;> simp [mtE] at hm
    rename_i c k p
    cases c <;> simp [isBoolC] at hm
    subst hm
    simp only [ev]; exact does_bool I
  | .int i =>
    cases e <;> simp [mtE] at hm
    rename_i c k p
    cases c <;> simp [isIntC] at hm
    subst hm
    simp only [ev]; exact does_int I
  | .str s =>
    cases e <;> simp [mtE] at hm
    rename_i c k p
    cases c <;> simp [isStrC] at hm
    obtain ⟨rfl, h2⟩ := hm
    simp only [ev]; exact does_str I (okS_of h2)
  | .var i =>
    cases e <;> simp [mtE] at hm
    simp only [ev] at hn ⊢
    split at hn
    · rename_i v hv
      exact does_var F I hm.1 hv (by simpa using hm.2)
    · exact absurd rfl hn
  | .bin op l r =>
    cases e <;> simp [mtE] at hm
    simp only [ev] at hn ⊢
    obtain ⟨n1, n2⟩ := Out.bind_ok hn
    refine does_bin (y := fun h => ev C r h vs) (z := fun a b h => binA op a b h) (ih l (by simp at hk; omega) _ sl A W env vs hm.1.2 a F I n1) (fun x W' I' l' e' => ih r (by simp at hk; omega) _ sl A W' env vs hm.2 a (F.le l') I' (Out.bind_ok (n2 x W'.σ e')).1) fun x y vx vy W' I' l' ee rx ry => ?_
    obtain ⟨σ, e1, e2⟩ := ee
    exact does_binA I' hm.1.1 rx ry ((Out.bind_ok (n2 x σ e1)).2 y W'.σ e2)
  | .not e0 =>
    cases e <;> simp [mtE] at hm
    obtain ⟨rfl, hm⟩ := hm
    simp only [ev] at hn ⊢
    obtain ⟨n1, n2⟩ := Out.bind_ok hn
    refine wpAny_UnaryOp ((ih e0 (by simp at hk; omega) _ sl A W env vs hm a F I n1).cps (fun x W' v e1 I' l' r => ?_) fun _ _ q => q.bind)
    have n3 := n2 x W'.σ e1
    refine PyProof.Rows.not_of (does_truthD (α := AV) (g := fun b h => .ok (.bool (!b)) h) I' r n3 fun b W'' I'' l'' es q => ?_)
    exact ⟨.bool (!b), W'', rfl, by rw [e1]; simp only [Out.bind, q, es], I'', l'.trans l'', .bool _⟩
  | .neg e0 =>
    cases e <;> simp [mtE] at hm
    obtain ⟨rfl, hm⟩ := hm
    simp only [ev] at hn ⊢
    obtain ⟨n1, n2⟩ := Out.bind_ok hn
    refine wpAny_UnaryOp ((ih e0 (by simp at hk; omega) _ sl A W env vs hm a F I n1).cps (fun x W' v e1 I' l' r => ?_) fun _ _ q => q.bind)
    have n3 := n2 x W'.σ e1
    cases r <;> simp only at n3 <;> first | exact absurd rfl n3 | skip
    rename_i i t
    refine P.neg_int ⟨.int (-i), { W' with s := { W'.s with toks := W'.s.toks + 1 } }, rfl, by rw [e1]; rfl, (I'.toks _).1, l'.trans (I'.toks _).2, .int _ _⟩
  | .and es =>
    cases e <;> simp [mtE] at hm
    obtain ⟨rfl, hm⟩ := hm
    simp only [ev] at hn ⊢
    exact does_and .And es (fun m' hm' => ih m' (by have := List.sizeOf_lt_of_mem hm'; simp at hk; omega)) _ sl A W env vs _ hm a F I hn
  | .or es =>
    cases e <;> simp [mtE] at hm
    obtain ⟨rfl, hm⟩ := hm
    simp only [ev] at hn ⊢
    exact does_and .Or es (fun m' hm' => ih m' (by have := List.sizeOf_lt_of_mem hm'; simp at hk; omega)) _ sl A W env vs _ hm a F I hn
  | .cmp l ops rs =>
    cases e <;> simp [mtE] at hm
    rename_i l' ops' rs' pos
    obtain ⟨⟨h1, h2⟩, h3⟩ := hm
    match ops, ops', rs, rs', h1, h3, hk with
    | [op], [op'], [r], [r'], h1, h3, hk =>
      simp only [mtEs, Bool.and_eq_true] at h3
      simp only [ev] at hn ⊢
      obtain ⟨n1, n2⟩ := Out.bind_ok hn
      refine wpAny_Compare1 (does_two (y := fun h => ev C r h vs) (z := fun x y h => match cmpA op x y h with | some b => .ok (.bool b) h | Option.none => .fail) (ih l (by simp at hk; omega) _ sl A W env vs h2 a F I n1)
        (fun x W' I' l' e' => ih r (by simp at hk; omega) _ sl A W' env vs h3.1 a (F.le l') I' (Out.bind_ok (by have := n2 x W'.σ e'; simp only [evCmp] at this; exact this)).1) (fun x y vx vy W' I' l' ee rx ry => ?_) (fun _ _ q => by simp only [evCmp]; exact q) fun _ _ q => by simp only [evCmp]; exact q) (mtE_marks op' h3.1)
      obtain ⟨σ, e1, e2⟩ := ee
      have n3 := n2 x σ e1
      simp only [evCmp] at n3
      have n4 := (Out.bind_ok n3).2 y W'.σ e2
      cases q : cmpA op x y W'.σ with
      | none => rw [q] at n4; exact absurd rfl n4
      | some b => exact Does.keep I' fun Q E qq => does_cmpA I' h1 rx ry hu q Q E fun k => qq _ _ (.bool _)
    | [op], [op'], [_], [], _, h3, _ => simp [mtEs] at h3
    | [op], [op'], [_], _ :: _ :: _, _, h3, _ => simp [mtEs] at h3
    | [op], [op'], [], _, h1, _, _ => simp [oneOp] at h1
    | [op], [op'], _ :: _ :: _, _, h1, _, _ => simp [oneOp] at h1
    | [], _, _, _, h1, _, _ => simp [oneOp] at h1
    | _ :: _ :: _, _, _, _, h1, _, _ => simp [oneOp] at h1
    | [_], [], _, _, h1, _, _ => simp [oneOp] at h1
    | [_], _ :: _ :: _, _, _, h1, _, _ => simp [oneOp] at h1
  | .tup es =>
    cases e <;> simp [mtE] at hm
    simp only [ev] at hn ⊢
    obtain ⟨n1, n2⟩ := Out.bind_ok hn
    refine does_spliced_tup (does_evs es (fun m' hm' => ih m' (by have := List.sizeOf_lt_of_mem hm'; simp at hk; omega)) _ sl A W env vs _ hm.2 a F I n1) fun xs h e => ?_
    rw [evs_length es W.σ vs xs h e]
    exact Nat.le_trans hm.1 (by decide)
  | .list es =>
    cases e <;> simp [mtE] at hm
    simp only [ev] at hn ⊢
    obtain ⟨n1, n2⟩ := Out.bind_ok hn
    exact does_spliced_list (does_evs es (fun m' hm' => ih m' (by have := List.sizeOf_lt_of_mem hm'; simp at hk; omega)) _ sl A W env vs _ hm a F I n1) hn
  | .idx o i =>
    cases e <;> simp [mtE] at hm
    simp only [ev] at hn ⊢
    obtain ⟨n1, n2⟩ := Out.bind_ok hn
    refine PyProof.Rows.Subscript_ (does_two (y := fun h => ev C i h vs) (z := fun x y h => match idxA x y h with | some v => .ok v h | Option.none => .fail) (ih o (by simp at hk; omega) _ sl A W env vs hm.1.2 a F I n1)
        (fun x W' I' l' e' => ih i (by simp at hk; omega) _ sl A W' env vs hm.2 a (F.le l') I' (Out.bind_ok (n2 x W'.σ e')).1) (fun x y vx vy W' I' l' ee rx ry => ?_) (fun _ _ q => q) fun _ _ q => q)
    obtain ⟨σ, e1, e2⟩ := ee
    have n4 := (Out.bind_ok (n2 x σ e1)).2 y W'.σ e2
    cases q : idxA x y W'.σ with
    | none => rw [q] at n4; exact absurd rfl n4
    | some b => exact does_idxA I' hm.1.1 rx ry q
  | .slice o lo hi =>
    cases e <;> simp [mtE] at hm
    rename_i o' s' pos
    obtain ⟨⟨⟨h0, h1⟩, h2⟩, h3⟩ := hm
    cases s' <;> simp [isSlice] at h0
    · rename_i lo' hi' st p
      cases st <;> simp at h0
      simp only [sliceLo, sliceHi] at h2 h3
      simp only [ev] at hn ⊢
      obtain ⟨n1, n2⟩ := Out.bind_ok hn
      refine PyProof.Rows.Subscript_ ((ih o (by simp at hk; omega) _ sl A W env vs h1 a F I n1).cps (fun x W1 vx e1 I1 l1 rx => ?_) fun _ _ q => q.bind)
      obtain ⟨m1, m2⟩ := Out.bind_ok (n2 x W1.σ e1)
      refine wpAny_Slice ((does_part (ih lo (by simp at hk; omega)) h2 a (F.le l1) I1 m1).cps (fun y W2 vy e2 I2 l2 ry => ?_) fun _ _ q => q.bind.up l1 (by rw [e1]; rfl))
      obtain ⟨k1, k2⟩ := Out.bind_ok (m2 y W2.σ e2)
      refine (does_part (ih hi (by simp at hk; omega)) h3 a (F.le (l1.trans l2)) I2 k1).cps (fun z W3 vz e3 I3 l3 rz => ?_) fun _ _ q => q.bind.up (l1.trans l2) (by rw [e1]; show (ev C lo W1.σ vs).bind _ = _; rw [e2]; rfl)
      refine wpAny_evalPart_none ?_
      have g := I3.grow (s' := { W3.s with heap := W3.h.push { cls := .type "slice", data := .fields #[vy, vz, .none] } }) (fun a q e => Heap.get?_push_of_some _ e) rfl rfl
      refine (does_sliceA g.1 ((rx.le (l2.trans l3)).le g.2) ((ry.le l3).le g.2) (rz.le g.2) (Heap.get?_push_size _ rfl) (k2 z W3.σ e3)).up (((l1.trans l2).trans l3).trans g.2) ?_
      rw [e1]; show (ev C lo W1.σ vs).bind _ = _; rw [e2]; show (ev C hi W2.σ vs).bind _ = _; rw [e3]; rfl
  | .call f args =>
    cases e <;> simp [mtE] at hm
    rename_i fe args' kws pos
    obtain ⟨⟨rfl, h1⟩, h2⟩ := hm
    obtain ⟨x, p, rfl, h3, h4⟩ := callOk_name h1
    simp only [ev] at hn ⊢
    obtain ⟨n1, n2⟩ := Out.bind_ok hn
    refine wpAny_Call_NameR (does_global hT hG I F h3 h4 ?_)
    have hke := hG.callee x f h4
    rw [hG.fa]
    cases args' with
    | nil =>
      cases args with
      | nil =>
        simp only [evs, Out.bind] at hn ⊢
        exact does_callWith0 I hke (hC.does f [] [] A W a I .nil hn)
      | cons => simp [mtEs] at h2
    | cons e' r' =>
      exact does_callWith (mtEs_plain h2) hke (does_evs args (fun m' hm' => ih m' (by have := List.sizeOf_lt_of_mem hm'; simp at hk; omega)) (e' :: r') sl A W env vs pos h2 a F I n1) fun as' vals W' I' l' e1 r => hC.does f as' vals A W' a I' r (n2 as' W'.σ e1)
  | .bi b args =>
    cases e <;> simp [mtE] at hm
    rename_i fe args' kws pos
    obtain ⟨⟨rfl, h1⟩, h2⟩ := hm
    obtain ⟨x, p, rfl, h3⟩ := biName_name h1
    simp only [ev] at hn ⊢
    obtain ⟨n1, n2⟩ := Out.bind_ok hn
    refine wpAny_Call_NameR (does_bi_name hT hG I F h3 ?_)
    cases args' with
    | nil =>
      cases args with
      | nil =>
        simp only [evs, Out.bind] at hn ⊢
        exact does_callWith0 I (callee_bi b) (does_biA I a.handled .nil hn)
      | cons => simp [mtEs] at h2
    | cons e' r' =>
      exact does_callWith (mtEs_plain h2) (callee_bi b) (does_evs args (fun m' hm' => ih m' (by have := List.sizeOf_lt_of_mem hm'; simp at hk; omega)) (e' :: r') sl A W env vs pos h2 a F I n1) fun as' vals W' I' l' e1 r => does_biA I' a.handled r (n2 as' W'.σ e1)
  | .inst e0 k =>
    cases e <;> simp [mtE] at hm
    rename_i fe args' kws pos
    obtain ⟨⟨⟨rfl, h1⟩, h5⟩, h6⟩ := hm
    obtain ⟨x, p, rfl, h3⟩ := biName_name h1
    match args', h5, h6 with
    | [e', y], h5, h6 =>
      obtain ⟨z, pz, rfl, h4⟩ := biName_name h5
      have h2 : mtE G env.scope sl e0 e' = true := by cases e0 <;> simpa [mtO, mO] using h6
      simp only [ev] at hn ⊢
      obtain ⟨n1, n2⟩ := Out.bind_ok hn
      refine wpAny_Call_NameR (does_bi_name hT hG I F h3 ?_)
      have hs := mtE_plain h2
      refine callWith_of (P := fun h => T.base.StaysIn h) (by rw [starEach_plain hs]; rfl) (callee_builtin _) ?_
      rw [starEach_plain hs]
      refine evalArgs_plain (spliced_cons ((ih e0 (by simp at hk; omega) _ sl A W env vs h2 a F I n1).cps (fun x W' v e1 I' l' r => ?_) fun _ _ q => q.bind))
      refine spliced_cons (does_bi_name hT hG I' (F.le l') h4 (spliced_nil ⟨I'.base, ?_⟩))
      have n3 := n2 x W'.σ e1
      cases q : instA C.P W'.σ x k with
      | none => rw [q] at n3; exact absurd rfl n3
      | some b => exact (does_instA I' r (by rw [← hP]; exact q)).up l' (by rw [e1]; simp only [Out.bind, q])
    | [], h5, _ => simp [biSecond] at h5
    | [_], h5, _ => simp [biSecond] at h5
    | _ :: _ :: _ :: _, h5, _ => simp [biSecond] at h5
  | .powc _ _ => cases e <;> simp [mtE] at hm
  | .glob _ => cases e <;> simp [mtE] at hm
  | .globI _ => cases e <;> simp [mtE] at hm
  | .isNone _ => cases e <;> simp [mtE] at hm
  | .isTrue _ => cases e <;> simp [mtE] at hm
  | .dict _ => cases e <;> simp [mtE] at hm
  | .attr _ _ => cases e <;> simp [mtE] at hm
  | .new _ _ => cases e <;> simp [mtE] at hm
  | .meth _ _ _ => cases e <;> simp [mtE] at hm
  | .bm _ _ _ => cases e <;> simp [mtE] at hm
  | .comp _ _ _ _ => cases e <;> simp [mtE] at hm

theorem sound_e (hT : T.Ok) (hG : GlOk T G) (hP : C.P = T.P) (hC : CallsOk T n C.call) (m : ME) : SE T G n C m := by
  have h : ∀ k, ∀ m : ME, sizeOf m < k → SE T G n C m := fun k => by
    induction k with
    | zero => intro m h; omega
    | succ k ih => exact fun m hk => sound_e_aux hT hG hP hC k ih m hk
  exact h _ m (Nat.lt_succ_self _)
end
end Mine

/-! Soundness, part 13: frames that are written (typed by hand). -/
set_option Elab.async false
namespace Mine
open PySem PySem.SeqAt PySem.Spec PySem.W PySem.Calls

/-- the addresses that a frame writes -/
def frX (env : Env) : Addr → Prop := fun a => a = env.locals ∨ ∃ x, env.cells.lookup x = some a

structure Fs (T : Tp) (W : Wd) (env : Env) (sl : List (Nat × Str)) (vs : Vs) : Prop where
  fm : Fm T W env sl vs
  ns : ∃ m, W.h.Ns env.locals m
  ownL : W.own env.locals = .free
  baseL : T.base.get? env.locals = none
  kinds : ∀ i x, (i, x) ∈ sl → env.kindOf x = some .local ∨ env.kindOf x = some .cell
  cell : ∀ x c, env.cells.lookup x = some c → W.own c = .free ∧ T.base.get? c = none ∧ c ≠ env.locals ∧ ∃ v, W.h.IsCell c v
  cinj : ∀ x y c, env.cells.lookup x = some c → env.cells.lookup y = some c → x = y
  inj : ∀ i j x, (i, x) ∈ sl → (j, x) ∈ sl → i = j
  inj2 : ∀ i x y, (i, x) ∈ sl → (i, y) ∈ sl → x = y
  len : ∀ i x, (i, x) ∈ sl → i < vs.length

section
variable {T : Tp} {A : Around} {W W' : Wd} {env : Env} {sl : List (Nat × Str)} {vs : Vs}

theorem Fs.le (F : Fs T W env sl vs) (l : Le noX W W') : Fs T W' env sl vs where
  fm := F.fm.le l
  ns := let ⟨m, n⟩ := F.ns; ⟨m, ns_ko n fun o ho => l.ext.kp _ o ho F.ownL id⟩
  ownL := let ⟨_, n⟩ := F.ns; let ⟨_, z⟩ := ns_at n; (l.ext.ow _ _ z id).trans F.ownL
  baseL := F.baseL
  kinds := F.kinds
  cell := fun x c e => let ⟨h1, h2, h3, v, h4⟩ := F.cell x c e; let ⟨_, z⟩ := cell_at h4; ⟨(l.ext.ow _ _ z id).trans h1, h2, h3, v, cell_ko h4 fun o ho => l.ext.kp _ o ho h1 id⟩
  cinj := F.cinj
  inj := F.inj
  inj2 := F.inj2
  len := F.len

theorem Fs.frX (F : Fs T W env sl vs) : FrX (frX env) W.own W.h := by
  intro a q
  rcases q with rfl | ⟨x, q⟩
  · refine ⟨F.ownL, fun o e => ?_⟩
    obtain ⟨m, o', es, ep, ho, hd, _⟩ := F.ns
    rw [e] at ho; cases ho
    exact .inl ⟨es, ep, hd⟩
  · refine ⟨(F.cell x a q).1, fun o e => ?_⟩
    obtain ⟨_, _, _, v, o', ho, hd⟩ := F.cell x a q
    rw [e] at ho; cases ho
    exact .inr (.inl ⟨v, hd⟩)

/-- one address of the frame's own is written -/
theorem Inv.touch {X : Addr → Prop} (I : Inv T W) {a : Addr} {s' : Shared} (ha : W.own a = .free) (hb : T.base.get? a = none) (hx : X a) (fx : FrX X W.own W.h) (hs : ∀ b o, b ≠ a → W.h.get? b = some o → s'.heap.get? b = some o)
    (hg : s'.gens = W.s.gens) (hos : s'.os = W.s.os) : Inv T { W with s := s' } ∧ Le X W { W with s := s' } := by
  have x : Ext X W.own W.bt W.h W.own W.bt s'.heap := ⟨fun b o e f n => ⟨o, hs b o (fun q => n (q ▸ hx)) e, .refl o⟩, fun b o e f => ⟨o, hs b o (fun q => by rw [q, ha] at f; cases f) e, rfl⟩, fun _ _ _ f => f,
    fun b o e n => ⟨o, hs b o (fun q => n (q ▸ hx)) e⟩, fun _ _ _ _ => rfl, [], (List.append_nil _).symm⟩
  refine ⟨⟨I.len, I.ownb, fun b q => ⟨let ⟨o, e⟩ := (I.lt b q).1; ⟨o, hs b o (fun z => q (z ▸ ha)) e⟩, (I.lt b q).2⟩, fun l o b e q => ?_, fun b o e => hs b o (fun q => by rw [q, hb] at e; cases e) (I.base b o e)⟩, x, hg, hos⟩
  exact (I.obj l o b e q).mono x fx (I.ownb l b q) fun c r f e' => hs c r (fun z => by rw [z, ha] at f; cases f) e'

theorem VR.leX {X : Addr → Prop} {av : AV} {v : Value} (r : W.V T av v) (x : Le X W W') (fx : FrX X W.own W.h) : W'.V T av v := VR.ext x.ext fx r

theorem getElem?_set_ne' {vs : Vs} {i j : Nat} (h : i ≠ j) (v : Option AV) : (vs.set i v)[j]? = vs[j]? := by simp [List.getElem?_set, h]

theorem does_store (F : Fs T W env sl vs) (I : Inv T W) {i : Nat} {x : Str} {av : AV} {v : Value} (hi : (i, x) ∈ sl) (r : W.V T av v) {Q : Unit → Shared → Prop} {E : Value → Shared → Prop}
    (h : ∀ W', Inv T W' → Le (frX env) W W' → W'.σ = W.σ → Fs T W' env sl (vs.set i (some av)) → Q () W'.s) : wpAny T.M A (storeName env x v) Q E W.s := by
  have fx := F.frX
  rcases F.kinds i x hi with hk | hk
  · obtain ⟨m, hm⟩ := F.ns
    refine wpAny_storeName_local hk hm (fun h' hn hs => ?_) (by rw [F.fm.kind]; rfl)
    obtain ⟨o', z⟩ := ns_at hn
    obtain ⟨I', l'⟩ := I.touch (X := Mine.frX env) (s' := { W.s with heap := h', toks := W.s.toks + 1 }) F.ownL F.baseL (.inl rfl) fx (fun b o n e => (hs.2 b n).trans e) rfl rfl
    refine h { W with s := { W.s with heap := h', toks := W.s.toks + 1 } } I' l' rfl ⟨⟨F.fm.kind, F.fm.glob, F.fm.bi, F.fm.cells, fun j y hj aw e => ?_⟩, ⟨_, hn⟩, F.ownL, F.baseL, F.kinds, fun y c e => ?_, F.cinj, F.inj, F.inj2, fun j y hj => by simpa using F.len j y hj⟩
    · by_cases q : i = j
      · subst q
        have := F.inj2 i x y hi hj
        subst this
        rw [List.getElem?_set_self (F.len i x hi)] at e
        cases e
        exact ⟨v, r.leX l' fx, .inl ⟨hk, F.ownL, _, hn, by simp⟩⟩
      · rw [getElem?_set_ne' q] at e
        obtain ⟨w, rw', d⟩ := F.fm.rd j y hj aw e
        refine ⟨w, rw'.leX l' fx, ?_⟩
        rcases d with ⟨k, f, m', n', e'⟩ | ⟨k, c, e', f, n'⟩
        · refine .inl ⟨k, f, _, hn, ?_⟩
          have hxy : y ≠ x := fun z => q (F.inj i j x hi (z ▸ hj))
          simp only [if_neg hxy]
          rw [← e']
          obtain ⟨o1, es1, ep1, g1, g2, g3, g4⟩ := hm
          obtain ⟨o2, es2, ep2, k1, k2, k3, k4⟩ := n'
          rw [g1] at k1; cases k1
          rw [g2] at k2; cases k2
          rw [← g4, ← k4]
        · obtain ⟨_, _, g3, _⟩ := F.cell y c e'
          exact .inr ⟨k, c, e', f, cell_ko n' fun o ho => ⟨o, (hs.2 c g3).trans ho, .refl o⟩⟩
    · obtain ⟨g1, g2, g3, w, g4⟩ := F.cell y c e
      exact ⟨g1, g2, g3, w, cell_ko g4 fun o ho => ⟨o, (hs.2 c g3).trans ho, .refl o⟩⟩
  · obtain ⟨c, hc⟩ := F.fm.cells x hk
    obtain ⟨g1, g2, g3, w, g4⟩ := F.cell x c hc
    refine wpAny_storeName_cell F.fm.kind hk hc g4 (fun h' hn hs => ?_)
    obtain ⟨o', z⟩ := cell_at hn
    obtain ⟨I', l'⟩ := I.touch (X := Mine.frX env) (s' := { W.s with heap := h' }) g1 g2 (.inr ⟨x, hc⟩) fx (fun b o n e => (hs.2 b n).trans e) rfl rfl
    have hL : ∀ {m : Str → Option Value}, W.h.Ns env.locals m → h'.Ns env.locals m := fun n => ns_ko n fun o ho => ⟨o, (hs.2 _ g3.symm).trans ho, .refl o⟩
    refine h { W with s := { W.s with heap := h' } } I' l' rfl ⟨⟨F.fm.kind, F.fm.glob, F.fm.bi, F.fm.cells, fun j y hj aw e => ?_⟩, let ⟨m, n⟩ := F.ns; ⟨m, hL n⟩, F.ownL, F.baseL, F.kinds, fun y d e => ?_, F.cinj, F.inj, F.inj2, fun j y hj => by simpa using F.len j y hj⟩
    · by_cases q : i = j
      · subst q
        have := F.inj2 i x y hi hj
        subst this
        rw [List.getElem?_set_self (F.len i x hi)] at e
        cases e
        exact ⟨v, r.leX l' fx, .inr ⟨hk, c, hc, g1, hn⟩⟩
      · rw [getElem?_set_ne' q] at e
        obtain ⟨w, rw', d⟩ := F.fm.rd j y hj aw e
        refine ⟨w, rw'.leX l' fx, ?_⟩
        rcases d with ⟨k, f, m', n', e'⟩ | ⟨k, d, e', f, n'⟩
        · exact .inl ⟨k, f, m', hL n', e'⟩
        · have hxy : y ≠ x := fun z => q (F.inj i j x hi (z ▸ hj))
          have hdc : d ≠ c := fun z => hxy (F.cinj y x c (z ▸ e') hc)
          exact .inr ⟨k, d, e', f, cell_ko n' fun o ho => ⟨o, (hs.2 d hdc).trans ho, .refl o⟩⟩
    · obtain ⟨k1, k2, k3, w', k4⟩ := F.cell y d e
      by_cases z : d = c
      · subst z; exact ⟨k1, k2, k3, _, hn⟩
      · exact ⟨k1, k2, k3, w', cell_ko k4 fun o ho => ⟨o, (hs.2 d z).trans ho, .refl o⟩⟩
end
end Mine

/-! Soundness, part 14: tests (typed by hand). -/
set_option Elab.async false
namespace Mine
open PySem PySem.SeqAt PySem.Spec PySem.W PySem.Calls

/-- the truth of what an expression gives -/
def evT (C : Cx) (m : ME) (h : Hp) (vs : Vs) : Out Bool := (ev C m h vs).bind fun v h => match truth h v with
  | some b => .ok b h
  | Option.none => .fail

abbrev BW : Wd → Bool → Bool → Prop := fun _ a b => a = b

section
variable {T : Tp} {G : Gl} {n : Nat} {C : Cx}

def ST (T : Tp) (G : Gl) (n : Nat) (C : Cx) (m : ME) : Prop :=
  ∀ (e : Expr) (sl : List (Nat × Str)) (A : Around) (W : Wd) (env : Env) (vs : Vs), mtE G env.scope sl m e = true → AOk n A → Fm T W env sl vs → Inv T W → evT C m W.σ vs ≠ .fail →
    Does T A noX W (isTrue e env (eval e env)) (evT C m W.σ vs) BW

theorem does_value_test {A : Around} {W : Wd} {env : Env} {e : Expr} {x : Out AV} (h : Does T A noX W (eval e env) x (VW T)) (hn : (x.bind fun v h => match truth h v with | some b => .ok b h | Option.none => .fail : Out Bool) ≠ .fail)
    (he : isTrue e env (eval e env) = (do let v ← eval e env; standAt e.pos; holding [v] (truthy v))) :
    Does T A noX W (isTrue e env (eval e env)) (x.bind fun v h => match truth h v with | some b => .ok b h | Option.none => .fail) BW := by
  obtain ⟨n1, n2⟩ := Out.bind_ok hn
  refine wpAny_isTrue_value (h.cps (fun v W' val e1 I' l' r => ?_) fun _ _ q => q.bind) he
  have n3 := n2 v W'.σ e1
  refine does_truthD (α := Bool) (g := fun b h => .ok b h) I' r n3 fun b W'' I'' l'' es q => ?_
  exact ⟨b, W'', rfl, by rw [e1]; simp only [Out.bind, q, es], I'', l'.trans l'', rfl⟩

theorem evAnd_truth (e : ME) (m : ME) (ms : List ME) (h : Hp) (vs : Vs) : ((evAnd C (e :: m :: ms) h vs).bind fun v h => match truth h v with | some b => .ok b h | Option.none => .fail : Out Bool) =
    (evT C e h vs).bind fun b h => match b with | false => .ok false h | true => ((evAnd C (m :: ms) h vs).bind fun v h => match truth h v with | some b => .ok b h | Option.none => .fail) := by
  simp only [evAnd, evT]
  cases ev C e h vs with
  | ok v k =>
    simp only [Out.bind]
    cases q : truth k v with
    | none => rfl
    | some b => cases b <;> simp [q]
  | exc c k => rfl
  | fail => rfl
theorem evOr_truth (e : ME) (m : ME) (ms : List ME) (h : Hp) (vs : Vs) : ((evOr C (e :: m :: ms) h vs).bind fun v h => match truth h v with | some b => .ok b h | Option.none => .fail : Out Bool) =
    (evT C e h vs).bind fun b h => match b with | true => .ok true h | false => ((evOr C (m :: ms) h vs).bind fun v h => match truth h v with | some b => .ok b h | Option.none => .fail) := by
  simp only [evOr, evT]
  cases ev C e h vs with
  | ok v k =>
    simp only [Out.bind]
    cases q : truth k v with
    | none => rfl
    | some b => cases b <;> simp [q]
  | exc c k => rfl
  | fail => rfl

def evB (C : Cx) (op : BoolOp) (ms : List ME) (h : Hp) (vs : Vs) : Out AV := match op with
  | .And => evAnd C ms h vs
  | .Or => evOr C ms h vs
def evBT (C : Cx) (op : BoolOp) (ms : List ME) (h : Hp) (vs : Vs) : Out Bool := (evB C op ms h vs).bind fun v h => match truth h v with
  | some b => .ok b h
  | Option.none => .fail

theorem does_all (op : BoolOp) : ∀ (ms : List ME), (∀ m ∈ ms, ST T G n C m) → ∀ (es : List Expr) (sl : List (Nat × Str)) (A : Around) (W : Wd) (env : Env) (vs : Vs), mtEs G env.scope sl ms es = true → AOk n A → Fm T W env sl vs → Inv T W →
    evBT C op ms W.σ vs ≠ .fail → Does T A noX W (allTrue op es env) (evBT C op ms W.σ vs) BW
  | [], _, [], _, _, _, _, _, _, _, _, I, hn => by cases op <;> exact absurd rfl hn
  | [], _, _ :: _, _, _, _, _, _, h, _, _, _, _ => by simp [mtEs] at h
  | _ :: _, _, [], _, _, _, _, _, h, _, _, _, _ => by simp [mtEs] at h
  | [m], _, _ :: _ :: _, _, _, _, _, _, h, _, _, _, _ => by simp [mtEs] at h
  | m :: m' :: ms, _, [_], _, _, _, _, _, h, _, _, _, _ => by simp [mtEs] at h
  | [m], ih, [e], sl, A, W, env, vs, h, a, F, I, hn => by
    simp only [mtEs, Bool.and_eq_true] at h
    cases op with
    | And =>
      have hn' : evT C m W.σ vs ≠ .fail := by have q := hn; simp only [evBT, evB, evAnd] at q; exact q
      refine wpAny_allTrue_And_cons ((ih m (by simp) e sl A W env vs h.1 a F I hn').cps (fun b W' b' e1 I' l' r => ?_) fun _ _ q => q)
      cases r
      cases b with
      | true => exact wpAny_allTrue_And_nil ⟨true, W', rfl, e1, I', l', rfl⟩
      | false => exact ⟨false, W', rfl, e1, I', l', rfl⟩
    | Or =>
      have hn' : evT C m W.σ vs ≠ .fail := by have q := hn; simp only [evBT, evB, evOr] at q; exact q
      refine wpAny_allTrue_Or_cons ((ih m (by simp) e sl A W env vs h.1 a F I hn').cps (fun b W' b' e1 I' l' r => ?_) fun _ _ q => q)
      cases r
      cases b with
      | false => exact wpAny_allTrue_Or_nil ⟨false, W', rfl, e1, I', l', rfl⟩
      | true => exact ⟨true, W', rfl, e1, I', l', rfl⟩
  | m :: m' :: ms, ih, e :: e' :: es, sl, A, W, env, vs, h, a, F, I, hn => by
    have h' : mtE G env.scope sl m e = true ∧ mtEs G env.scope sl (m' :: ms) (e' :: es) = true := by simpa only [mtEs, Bool.and_eq_true] using h
    have ih' := does_all op (m' :: ms) (fun q hq => ih q (by simp [hq])) (e' :: es) sl A
    cases op with
    | And =>
      have eq := evAnd_truth (C := C) m m' ms W.σ vs
      have eq' : evBT C .And (m :: m' :: ms) W.σ vs = (evT C m W.σ vs).bind fun b h => match b with | false => .ok false h | true => evBT C .And (m' :: ms) h vs := eq
      rw [eq'] at hn ⊢
      obtain ⟨n1, n2⟩ := Out.bind_ok hn
      refine wpAny_allTrue_And_cons ((ih m (by simp) e sl A W env vs h'.1 a F I n1).cps (fun b W' b' e1 I' l' r => ?_) fun _ _ q => q.bind)
      cases r
      cases b with
      | true => exact (ih' W' env vs h'.2 a (F.le l') I' (n2 true W'.σ e1)).up l' (by rw [e1]; rfl)
      | false => exact ⟨false, W', rfl, by rw [e1]; rfl, I', l', rfl⟩
    | Or =>
      have eq := evOr_truth (C := C) m m' ms W.σ vs
      have eq' : evBT C .Or (m :: m' :: ms) W.σ vs = (evT C m W.σ vs).bind fun b h => match b with | true => .ok true h | false => evBT C .Or (m' :: ms) h vs := eq
      rw [eq'] at hn ⊢
      obtain ⟨n1, n2⟩ := Out.bind_ok hn
      refine wpAny_allTrue_Or_cons ((ih m (by simp) e sl A W env vs h'.1 a F I n1).cps (fun b W' b' e1 I' l' r => ?_) fun _ _ q => q.bind)
      cases r
      cases b with
      | false => exact (ih' W' env vs h'.2 a (F.le l') I' (n2 false W'.σ e1)).up l' (by rw [e1]; rfl)
      | true => exact ⟨true, W', rfl, by rw [e1]; rfl, I', l', rfl⟩

theorem sound_t_aux (hT : T.Ok) (hG : GlOk T G) (hP : C.P = T.P) (hC : CallsOk T n C.call) (k : Nat) (ih : ∀ m : ME, sizeOf m < k → ST T G n C m) (m : ME) (hk : sizeOf m < k + 1) : ST T G n C m := by
  intro e sl A W env vs hm a F I hn
  have hu : A.units + 65 < cLine := by have := a.units; omega
  by_cases hnot : ∃ e0, m = .not e0
  · obtain ⟨e0, rfl⟩ := hnot
    cases e <;> simp [mtE] at hm
    obtain ⟨rfl, hm⟩ := hm
    have eq : evT C (.not e0) W.σ vs = (evT C e0 W.σ vs).bind fun b h => .ok (!b) h := by
      simp only [evT, ev]
      cases ev C e0 W.σ vs with
      | ok v k => simp only [Out.bind]; cases q : truth k v <;> simp [truth]
      | exc c k => rfl
      | fail => rfl
    rw [eq] at hn ⊢
    obtain ⟨n1, n2⟩ := Out.bind_ok hn
    refine wpAny_isTrue_Not ((ih e0 (by simp at hk; omega) _ sl A W env vs hm a F I n1).cps (fun b W' b' e1 I' l' r => ?_) fun _ _ q => q.bind)
    cases r
    exact ⟨!b, W', rfl, by rw [e1]; rfl, I', l', rfl⟩
  by_cases hand : ∃ es, m = .and es
  · obtain ⟨es, rfl⟩ := hand
    cases e <;> simp [mtE] at hm
    obtain ⟨rfl, hm⟩ := hm
    have eq : evT C (.and es) W.σ vs = evBT C .And es W.σ vs := by simp only [evT, ev, evBT, evB]
    rw [eq] at hn ⊢
    exact wpAny_isTrue_BoolOp (does_all .And es (fun m' hm' => ih m' (by have := List.sizeOf_lt_of_mem hm'; simp at hk; omega)) _ sl A W env vs hm a F I hn)
  by_cases hor : ∃ es, m = .or es
  · obtain ⟨es, rfl⟩ := hor
    cases e <;> simp [mtE] at hm
    obtain ⟨rfl, hm⟩ := hm
    have eq : evT C (.or es) W.σ vs = evBT C .Or es W.σ vs := by simp only [evT, ev, evBT, evB]
    rw [eq] at hn ⊢
    exact wpAny_isTrue_BoolOp (does_all .Or es (fun m' hm' => ih m' (by have := List.sizeOf_lt_of_mem hm'; simp at hk; omega)) _ sl A W env vs hm a F I hn)
  by_cases hcmp : ∃ l ops rs, m = .cmp l ops rs
  · obtain ⟨l, ops, rs, rfl⟩ := hcmp
    cases e <;> simp [mtE] at hm
    rename_i l' ops' rs' pos
    obtain ⟨⟨h1, h2⟩, h3⟩ := hm
    match ops, ops', rs, rs', h1, h3 with
    | [op], [op'], [r], [r'], h1, h3 =>
      simp only [mtEs, Bool.and_eq_true] at h3
      have eq : evT C (.cmp l [op] [r]) W.σ vs = (ev C l W.σ vs).bind fun x h => (ev C r h vs).bind fun y h => match cmpA op x y h with | some b => .ok b h | Option.none => .fail := by
        simp only [evT, ev, evCmp]
        cases ev C l W.σ vs with
        | ok v k =>
          simp only [Out.bind]
          cases ev C r k vs with
          | ok w k' => simp only; cases q : cmpA op v w k' <;> simp [truth]
          | exc c k' => rfl
          | fail => rfl
        | exc c k => rfl
        | fail => rfl
      rw [eq] at hn ⊢
      obtain ⟨n1, n2⟩ := Out.bind_ok hn
      refine wpAny_isTrue_Compare1 ((sound_e hT hG hP hC l _ sl A W env vs h2 a F I n1).cps (fun x W' vx e1 I' l' rx => ?_) fun _ _ q => q.bind) (mtE_marks op' h3.1)
      obtain ⟨m1, m2⟩ := Out.bind_ok (n2 x W'.σ e1)
      refine (sound_e hT hG hP hC r _ sl A W' env vs h3.1 a (F.le l') I' m1).cps (fun y W'' vy e2 I'' l'' ry => ?_) fun _ _ q => q.bind.up l' (by rw [e1]; rfl)
      have n4 := m2 y W''.σ e2
      cases q : cmpA op x y W''.σ with
      | none => rw [q] at n4; exact absurd rfl n4
      | some b =>
        refine does_cmpA I'' h1 (rx.le l'') ry hu q _ _ fun k => wpAny_truthy_bool ?_
        have g := I''.toks k
        exact ⟨b, { W'' with s := { W''.s with toks := k } }, rfl, by rw [e1]; show (ev C r W'.σ vs).bind _ = _; rw [e2]; simp only [Out.bind, q], g.1, (l'.trans l'').trans g.2, rfl⟩
    | [op], [op'], [_], [], _, h3 => simp [mtEs] at h3
    | [op], [op'], [_], _ :: _ :: _, _, h3 => simp [mtEs] at h3
    | [op], [op'], [], _, h1, _ => simp [oneOp] at h1
    | [op], [op'], _ :: _ :: _, _, h1, _ => simp [oneOp] at h1
    | [], _, _, _, h1, _ => simp [oneOp] at h1
    | _ :: _ :: _, _, _, _, h1, _ => simp [oneOp] at h1
    | [_], [], _, _, h1, _ => simp [oneOp] at h1
    | [_], _ :: _ :: _, _, _, h1, _ => simp [oneOp] at h1
  · refine does_value_test (sound_e hT hG hP hC m e sl A W env vs hm a F I (Out.bind_ok hn).1) hn ?_
    cases e <;> first | rfl | skip
    · cases m <;> simp [mtE] at hm
      · exact absurd ⟨_, rfl⟩ hand
      · exact absurd ⟨_, rfl⟩ hor
    · rename_i op x pos
      cases op <;> first | rfl | skip
      cases m <;> simp [mtE] at hm
      exact absurd ⟨_, rfl⟩ hnot
    · cases m <;> simp [mtE] at hm
    · cases m <;> simp [mtE] at hm
      exact absurd ⟨_, _, _, rfl⟩ hcmp

theorem sound_t (hT : T.Ok) (hG : GlOk T G) (hP : C.P = T.P) (hC : CallsOk T n C.call) (m : ME) : ST T G n C m := by
  have h : ∀ k, ∀ m : ME, sizeOf m < k → ST T G n C m := fun k => by
    induction k with
    | zero => intro m h; omega
    | succ k ih => exact fun m hk => sound_t_aux hT hG hP hC k ih m hk
  exact h _ m (Nat.lt_succ_self _)
end
end Mine

/-! Soundness, part 15: iterators (typed by hand). -/
set_option Elab.async false
namespace Mine
open PySem PySem.SeqAt PySem.Spec PySem.W PySem.Calls

def srcGet : Src → Hp → Option (List AV)
  | .fixed xs, _ => some xs
  | .list l _, h => getL l h
  | .dict l ep _, h => getD l ep h
def srcN : Src → Nat
  | .fixed xs => xs.length
  | .list _ n => n
  | .dict _ _ n => n

theorem iterL_eq {σ ρ : Type} (bad : ρ) (f : AV → σ → It σ ρ) (xs : List AV) : ∀ (k i : Nat) (s : σ), i + k = xs.length → iterL f (xs.drop i) s = iterR (fun _ => some xs) bad f (k + 1) i s := by
  intro k
  induction k with
  | zero =>
    intro i s h
    have : xs.length ≤ i := by omega
    rw [List.drop_eq_nil_of_le this]
    simp only [iterL, iterR]
    rw [List.getElem?_eq_none this]
  | succ k ih =>
    intro i s h
    have hi : i < xs.length := by omega
    rw [List.drop_eq_getElem_cons hi]
    rw [iterR]
    simp only [iterL, List.getElem?_eq_getElem hi]
    cases f xs[i] s with
    | go s' => simp only; exact ih (i + 1) s' (by omega)
    | stop x => rfl

theorem iter_eq {τ ρ : Type} (src : Src) (bad : ρ) (f : AV → Hp × τ → It (Hp × τ) ρ) (s : Hp × τ) : iter src bad f s = iterR (fun st => srcGet src st.1) bad f (srcN src + 1) 0 s := by
  cases src with
  | fixed xs => simp only [iter, srcN]; exact iterL_eq bad f xs xs.length 0 s (by omega)
  | list l n => rfl
  | dict l ep n => rfl

section
variable {T : Tp} {A : Around} {W W' : Wd}

/-- an iterator over a source, at a place -/
inductive ItAt (T : Tp) (W : Wd) (J : Addr) : Src → Nat → Prop
  | str {s : List Nat} {t : Tok} {i : Nat} : W.h.IsStrIter J "str_ascii_iterator" (tS s) t i → okS s → ItAt T W J (.fixed (s.map fun c => .str [c])) i
  | tup {xs : List AV} {a : Addr} {i : Nat} {v : Value} : W.h.IsTupleIter J a i → W.V T (.tup xs) (.ref a) → ItAt T W J (.fixed xs) i
  | rng {a : Int} {k i : Nat} : IsRangeIter W.h J (a + i) (k - i) 1 → ItAt T W J (.fixed (ups a k)) i
  | list {l k i : Nat} {a : Addr} : W.h.IsListIter J a i → W.bt[l]? = some a → ItAt T W J (.list l k) i

structure ItOk (T : Tp) (W : Wd) (J : Addr) (src : Src) (i : Nat) : Prop where
  own : W.own J = .free
  base : T.base.get? J = none
  it : ItAt T W J src i

theorem ItAt.there {J : Addr} {src : Src} {i : Nat} (h : ItAt T W J src i) : ∃ o, W.h.get? J = some o ∧ o.cls ≠ .type "tuple" ∧ o.cls ≠ .type "range" := by
  cases h with
  | str h _ => obtain ⟨o, h1, h2, _⟩ := h; exact ⟨o, h1, by rw [h2]; simp, by rw [h2]; simp⟩
  | tup h _ => obtain ⟨o, h1, h2, _⟩ := h; exact ⟨o, h1, by rw [h2]; simp, by rw [h2]; simp⟩
  | rng h => exact ⟨_, h, by simp, by simp⟩
  | list h _ => obtain ⟨o, h1, h2, _⟩ := h; exact ⟨o, h1, by rw [h2]; simp, by rw [h2]; simp⟩

theorem ItOk.frX {J : Addr} {src : Src} {i : Nat} (h : ItOk T W J src i) : FrX (fun a => a = J) W.own W.h := fun a q => ⟨q ▸ h.own, fun o e => by
  subst q
  obtain ⟨o', h1, h2⟩ := h.it.there
  rw [e] at h1; cases h1
  exact .inr (.inr h2)⟩

theorem ItOk.leX {X : Addr → Prop} {J : Addr} {src : Src} {i : Nat} (h : ItOk T W J src i) (x : Le X W W') (fx : FrX X W.own W.h) (hJ : ¬ X J) : ItOk T W' J src i := by
  obtain ⟨o, ho, hc⟩ := h.it.there
  have hk : ∀ o, W.h.get? J = some o → W'.h.get? J = some o := fun o e => by
    obtain ⟨o', e', k⟩ := x.ext.kp J o e h.own hJ
    by_cases z : o.cls = .type "frame"
    · exfalso
      cases h.it with
      | str h _ => obtain ⟨o', h1, h2, _⟩ := h; rw [e] at h1; cases h1; rw [z] at h2; simp at h2
      | tup h _ => obtain ⟨o', h1, h2, _⟩ := h; rw [e] at h1; cases h1; rw [z] at h2; simp at h2
      | rng h => have h' : W.h.get? J = _ := h; rw [e] at h'; cases h'; simp at z
      | list h _ => obtain ⟨o', h1, h2, _⟩ := h; rw [e] at h1; cases h1; rw [z] at h2; simp at h2
    · rw [k.same z] at e'; exact e'
  refine ⟨(x.ext.ow _ _ ho hJ).trans h.own, h.base, ?_⟩
  cases h.it with
  | str q ok => obtain ⟨o', h1, h2⟩ := q; exact .str ⟨o', hk _ h1, h2⟩ ok
  | tup q r => obtain ⟨o', h1, h2⟩ := q; exact .tup (v := .none) ⟨o', hk _ h1, h2⟩ (r.leX x fx)
  | rng q => exact .rng (hk _ q)
  | list q e =>
    obtain ⟨o', h1, h2⟩ := q
    obtain ⟨r, er⟩ := x.ext.bt
    exact .list ⟨o', hk _ h1, h2⟩ (by rw [er, List.getElem?_append_left (List.getElem?_eq_some_iff.mp e).1]; exact e)

theorem ups_get (a : Int) : ∀ (k i : Nat), (ups a k)[i]? = if i < k then some (.int (a + i)) else none
  | 0, i => by simp [ups]
  | k + 1, 0 => by simp [ups]
  | k + 1, i + 1 => by
    rw [ups, List.getElem?_cons_succ, ups_get (a + 1) k i]
    by_cases h : i < k
    · rw [if_pos h, if_pos (by omega)]; congr 2; omega
    · rw [if_neg h, if_neg (by omega)]
theorem ups_length (a : Int) : ∀ k : Nat, (ups a k).length = k
  | 0 => rfl
  | k + 1 => by simp [ups, ups_length (a + 1) k]

/-- one address is touched, from the view of the iterator -/
theorem touch_it (I : Inv T W) {J : Addr} {src : Src} {i : Nat} (h : ItOk T W J src i) {h' : Heap} {k : Nat} (hs : ∀ b o, b ≠ J → W.h.get? b = some o → h'.get? b = some o) :
    Inv T { W with s := { W.s with heap := h', toks := k } } ∧ Le (fun a => a = J) W { W with s := { W.s with heap := h', toks := k } } :=
  I.touch (s' := { W.s with heap := h', toks := k }) h.own h.base rfl h.frX hs rfl rfl

theorem does_next_item (I : Inv T W) {J : Addr} {src : Src} {i : Nat} (h : ItOk T W J src i) {xs : List AV} {av : AV} (hx : srcGet src W.σ = some xs) (hi : xs[i]? = some av) {Q : Option Value → Shared → Prop} {E : Value → Shared → Prop}
    (q : ∀ v W', Inv T W' → Le (fun a => a = J) W W' → W'.σ = W.σ → ItOk T W' J src (i + 1) → W'.V T av v → Q (some v) W'.s) : wpAny T.M A (pyNext (.ref J)) Q E W.s := by
  have key : ∀ {h' : Heap} {k : Nat} {v : Value}, Heap.SameBut J W.h h' → ItAt T { W with s := { W.s with heap := h', toks := k } } J src (i + 1) → W.V T av v → Q (some v) { W.s with heap := h', toks := k } := fun hs hit r => by
    obtain ⟨I', l'⟩ := touch_it I h fun b o n e => (hs.2 b n).trans e
    exact q _ _ I' l' rfl ⟨h.own, h.base, hit⟩ (r.leX l' h.frX)
  cases h.it with
  | str hit ok =>
    rename_i s t
    simp only [srcGet, Option.some.injEq] at hx
    subst hx
    rw [List.getElem?_map] at hi
    obtain ⟨c, e1, rfl⟩ := Option.map_eq_some_iff.mp hi
    refine wpAny_pyNext_ascii_item hit (c := c) (by simp [tS, e1]) fun h' hit' hs => ?_
    exact key hs (.str hit' ok) (.str (s := [c]) _ ⟨fun d hd => by simp at hd; subst hd; exact ok.1 _ (List.mem_of_getElem? e1), by simp [lim]⟩)
  | tup hit r =>
    simp only [srcGet, Option.some.injEq] at hx
    subst hx
    have r0 := r
    cases r with
    | tup h1 h2 h3 h4 h5 h6 =>
      obtain ⟨v, ev, rv⟩ := vrs_at h6 hi
      rename_i n
      refine wpAny_pyNext_tuple_item hit ⟨_, h1, h2, n, h3⟩ ev fun h' hit' hs => ?_
      have hJ := touch_it (k := W.s.toks) I h fun b o n e => (hs.2 b n).trans e
      exact key hs (.tup (v := .none) hit' (r0.leX hJ.2 h.frX)) rv
  | rng hit =>
    rename_i a k
    simp only [srcGet, Option.some.injEq] at hx
    subst hx
    rw [ups_get] at hi
    split at hi
    · cases hi
      rename_i hik
      refine wpAny_pyNext_range_item hit (by omega) fun h' hit' hs => ?_
      refine key hs (.rng ?_) (.int _ _)
      have e1 : a + ((i + 1 : Nat) : Int) = a + i + 1 := by omega
      have e2 : (k : Int) - ((i + 1 : Nat) : Int) = k - i - 1 := by omega
      rw [e1, e2]; exact hit'
    · cases hi
  | list hit e =>
    rename_i l k a
    simp only [srcGet, getL] at hx
    cases hσ : W.σ[l]? with
    | none => rw [hσ] at hx; cases hx
    | some o =>
      rw [hσ] at hx
      cases o <;> simp only at hx <;> first | cases hx | skip
      obtain ⟨_, vs, m, ea, _, h1, h2, h3⟩ := I.listAt hσ (.ref e)
      cases ea
      obtain ⟨v, ev, rv⟩ := vrs_at h2 hi
      refine wpAny_pyNext_list_item hit ⟨_, h1, rfl, m, rfl⟩ ev fun h' hit' hs => ?_
      exact key hs (.list hit' e) rv

theorem does_next_end (I : Inv T W) (hh : A.handled = none) {J : Addr} {src : Src} {i : Nat} (h : ItOk T W J src i) {xs : List AV} (hx : srcGet src W.σ = some xs) (hi : xs[i]? = none) {Q : Option Value → Shared → Prop} {E : Value → Shared → Prop}
    (q : ∀ W', Inv T W' → Le (fun a => a = J) W W' → W'.σ = W.σ → Q none W'.s) : wpAny T.M A (pyNext (.ref J)) Q E W.s := by
  have key : ∀ {h' : Heap}, Heap.ExtBut J W.h h' → Q none { W.s with heap := h' } := fun hs => by
    obtain ⟨I', l'⟩ := touch_it (k := W.s.toks) I h fun b o n e => hs b o n e
    exact q _ I' l' rfl
  cases h.it with
  | str hit ok =>
    rename_i s t
    simp only [srcGet, Option.some.injEq] at hx
    subst hx
    rw [List.getElem?_map] at hi
    exact wpAny_pyNext_ascii_end hh hit (by simpa [tS] using hi) fun h' hs => key hs
  | tup hit r =>
    simp only [srcGet, Option.some.injEq] at hx
    subst hx
    cases r with
    | tup h1 h2 h3 h4 h5 h6 =>
      rename_i vs n
      refine wpAny_pyNext_tuple_end hh hit (items := vs) ⟨_, h1, h2, n, h3⟩ ?_ fun h' hs => key hs
      rw [List.getElem?_eq_none_iff] at hi
      exact Array.getElem?_eq_none (by rw [vrs_size h6]; exact hi)
  | rng hit =>
    rename_i a k
    simp only [srcGet, Option.some.injEq] at hx
    subst hx
    rw [ups_get] at hi
    split at hi
    · cases hi
    · exact wpAny_pyNext_range_end hh hit (by omega) fun h' hs => key hs
  | list hit e =>
    rename_i l k a
    simp only [srcGet, getL] at hx
    cases hσ : W.σ[l]? with
    | none => rw [hσ] at hx; cases hx
    | some o =>
      rw [hσ] at hx
      cases o <;> simp only at hx <;> first | cases hx | skip
      obtain ⟨_, vs, m, ea, _, h1, h2, h3⟩ := I.listAt hσ (.ref e)
      cases ea
      refine wpAny_pyNext_list_end hh hit (items := vs) ⟨_, h1, rfl, m, rfl⟩ ?_ fun h' hs => key hs
      rw [List.getElem?_eq_none_iff] at hi
      exact Array.getElem?_eq_none (by rw [vrs_size h2]; exact hi)

theorem does_iter (I : Inv T W) {av : AV} {v : Value} {src : Src} (r : W.V T av v) (e : srcA W.σ av = some src) {Q : Value → Shared → Prop} {E : Value → Shared → Prop}
    (q : ∀ J W', Inv T W' → Le noX W W' → W'.σ = W.σ → W.h.get? J = none → ItOk T W' J src 0 → Q (.ref J) W'.s) : wpAny T.M A (pyIter v) Q E W.s := by
  have key : ∀ ob : Obj, ob.isFreed = false → ItAt T { W with s := { W.s with heap := W.h.push ob } } W.h.objs.size src 0 → Q (.ref W.h.objs.size) { W.s with heap := W.h.push ob } := fun ob hf hit => by
    have g := I.grow (s' := { W.s with heap := W.h.push ob }) (fun a q e => Heap.get?_push_of_some _ e) rfl rfl
    refine q _ _ g.1 g.2 rfl (get_size _) ⟨own_new I (get_size _), ?_, hit⟩
    cases z : T.base.get? W.h.objs.size with
    | none => rfl
    | some o => exact absurd (Heap.lt_size (I.base _ _ z)) (Nat.lt_irrefl _)
  have r0 := r
  cases r <;> simp only [srcA] at e <;> first | cases e | skip
  · rename_i s t ok
    refine wpAny_pyIter_ascii (by simp only [tS, Array.all_eq_true, decide_eq_true_eq]; intro j hj; have := ok.1 _ (List.getElem_mem (l := s) (by simpa using hj)); simpa using this) ?_
    exact key _ rfl (.str ⟨_, Heap.get?_push_size _ rfl, rfl, rfl⟩ ok)
  · rename_i h1 h2 h3 h4 h5 h6
    rename_i n
    refine wpAny_pyIter_tuple ⟨_, h1, h2, n, h3⟩ (key _ rfl (.tup (v := .none) ⟨_, Heap.get?_push_size _ rfl, rfl, rfl⟩ ?_))
    exact r0.le (I.grow (s' := { W.s with heap := W.h.push _ }) (fun a q e => Heap.get?_push_of_some _ e) rfl rfl).2
  · rename_i l a hl
    split at e
    · rename_i xs hx
      cases e
      obtain ⟨_, vs, m, ea, _, h1, h2, h3⟩ := I.listAt hx (.ref hl)
      cases ea
      exact wpAny_pyIter_list ⟨_, h1, rfl, m, rfl⟩ (key _ rfl (.list ⟨_, Heap.get?_push_size _ rfl, rfl, rfl⟩ hl))
    · cases e
  · rename_i x y a t u v' h1 h2 h3 h4 h5 h6
    have hl : (lim : Int) = 16777216 := rfl
    refine wpAny_pyIter_range h1 (small_one (by omega) (by omega) (by omega) (by omega)) (key _ rfl (.rng ?_))
    have e1 : Builtin.Range.rangeSize x y 1 = (((y - x).toNat : Nat) : Int) := by rw [rangeSize_one]; split <;> omega
    rw [e1]
    have := Heap.get?_push_size W.h (o := { cls := .type "range_iterator", data := .fields #[rawInt x, rawInt (((y - x).toNat : Nat) : Int), rawInt 1] }) rfl
    simpa using this
end
end Mine

/-! Soundness, part 16: statements (typed by hand). -/
set_option Elab.async false
namespace Mine
open PySem PySem.SeqAt PySem.Spec PySem.W PySem.Calls

/-- the name of a slot -/
def slotName (sl : List (Nat × Str)) (i : Nat) : Expr → Bool
  | .Name x _ => sl.contains (i, x)
  | _ => false
def oneTarget (sl : List (Nat × Str)) (i : Nat) : List Expr → Bool
  | [e] => slotName sl i e
  | _ => false
def notComp : Expr → Bool
  | .ListComp .. => false
  | .SetComp .. => false
  | .DictComp .. => false
  | _ => true
def notSet : Expr → Bool
  | .Set .. => false
  | _ => true

mutual
def mtS (G : Gl) (sc : Scope) (sl : List (Nat × Str)) : MS → Stmt → Bool
  | .set x e, .Assign ts v _ => oneTarget sl x ts && notComp v && mtE G sc sl e v
  | .expr e, .Expr v _ => notComp v && mtE G sc sl e v
  | .ifs t a b, .If t' a' b' _ => mtE G sc sl t t' && mtSs G sc sl a a' && mtSs G sc sl b b'
  | .loop x src body, .For tgt it b' orelse _ => slotName sl x tgt && notSet it && mtE G sc sl src it && orelse.isEmpty && mtSs G sc sl body b'
  | .ret e, .Return v _ => mtO G sc sl e v
  | .pass, .Pass _ => true
  | _, _ => false
def mtSs (G : Gl) (sc : Scope) (sl : List (Nat × Str)) : List MS → List Stmt → Bool
  | [], [] => true
  | m :: ms, s :: ss => mtS G sc sl m s && mtSs G sc sl ms ss
  | _, _ => false
end

theorem slotName_name {sl : List (Nat × Str)} {i : Nat} {e : Expr} (h : slotName sl i e = true) : ∃ x p, e = .Name x p ∧ (i, x) ∈ sl := by
  cases e <;> simp only [slotName] at h <;> first | cases h | skip
  exact ⟨_, _, rfl, by simpa using h⟩

section
variable {T : Tp} {G : Gl} {n : Nat} {C : Cx}

def PostS (T : Tp) (env : Env) (sl : List (Nat × Str)) (W : Wd) (r : OutS) (f : Flow) (s' : Shared) : Prop :=
  ∃ W', W'.s = s' ∧ Inv T W' ∧ Le (frX env) W W' ∧ ((∃ vs', r = .next W'.σ vs' ∧ f = .next ∧ Fs T W' env sl vs') ∨ ∃ av v, r = .ret av W'.σ ∧ f = .ret v ∧ W'.V T av v)
def PostSX (_T : Tp) (_env : Env) (_sl : List (Nat × Str)) (_W : Wd) (_r : OutS) (_e : Value) (_s' : Shared) : Prop := False

def DoesS (T : Tp) (A : Around) (env : Env) (sl : List (Nat × Str)) (W : Wd) (t : Sem Flow) (r : OutS) : Prop := wpAny T.M A t (PostS T env sl W r) (PostSX T env sl W r) W.s

theorem DoesS.up {A : Around} {env : Env} {sl : List (Nat × Str)} {W₀ W : Wd} {t : Sem Flow} {r r₀ : OutS} (h : DoesS T A env sl W t r) (l : Le (frX env) W₀ W) (e : r₀ = r) : wpAny T.M A t (PostS T env sl W₀ r₀) (PostSX T env sl W₀ r₀) W.s := by
  subst e
  exact wpAny_mono h (fun f _ ⟨W', e, I, l', r⟩ => ⟨W', e, I, l.trans l', r⟩) fun _ _ q => q

def SS (T : Tp) (G : Gl) (n : Nat) (C : Cx) (m : MS) : Prop :=
  ∀ (st : Stmt) (sl : List (Nat × Str)) (A : Around) (W : Wd) (env : Env) (vs : Vs), mtS G env.scope sl m st = true → AOk n A → Fs T W env sl vs → Inv T W → ex C m W.σ vs ≠ .fail → DoesS T A env sl W (exec st env) (ex C m W.σ vs)

theorem does_exs : ∀ (ms : List MS), (∀ m ∈ ms, SS T G n C m) → ∀ (ss : List Stmt) (sl : List (Nat × Str)) (A : Around) (W : Wd) (env : Env) (vs : Vs), mtSs G env.scope sl ms ss = true → AOk n A → Fs T W env sl vs → Inv T W → exs C ms W.σ vs ≠ .fail →
    DoesS T A env sl W (execs ss env) (exs C ms W.σ vs)
  | [], _, [], _, _, W, _, vs, _, _, F, I, _ => by
    simp only [exs]
    exact wpAny_execs_nil ⟨W, rfl, I, .refl _ _, .inl ⟨vs, rfl, rfl, F⟩⟩
  | [], _, _ :: _, _, _, _, _, _, h, _, _, _, _ => by simp [mtSs] at h
  | _ :: _, _, [], _, _, _, _, _, h, _, _, _, _ => by simp [mtSs] at h
  | m :: ms, ih, s :: ss, sl, A, W, env, vs, h, a, F, I, hn => by
    simp only [mtSs, Bool.and_eq_true] at h
    simp only [exs] at hn ⊢
    have n1 : ex C m W.σ vs ≠ .fail := fun q => by rw [q] at hn; exact hn rfl
    refine wpAny_execs_cons (wpAny_mono (ih m (by simp) s sl A W env vs h.1 a F I n1) (fun f _ ⟨W', e, I', l', d⟩ => ?_) fun _ _ q => q)
    subst e
    rcases d with ⟨vs', e1, rfl, F'⟩ | ⟨av, v, e1, rfl, r⟩
    · rw [e1] at hn ⊢
      simp only at hn ⊢
      exact (does_exs ms (fun m' hm => ih m' (by simp [hm])) ss sl A W' env vs' h.2 a F' I' hn).up l' rfl
    · rw [e1]
      exact ⟨W', rfl, I', l', .inr ⟨av, v, rfl, rfl, r⟩⟩

theorem swaps_no {v : Expr} (h : notComp v = true) (t : Option Expr) (k : Nat) (env : Env) : swapsWith v t k env = pure false := by
  cases v <;> first | rfl | cases h
theorem folded_no {v : Expr} (h : notSet v = true) (env : Env) (x : Value) : foldedSetIterable v env x = pure x := by
  cases v <;> first | rfl | cases h

theorem Rd.leD {X : Addr → Prop} {W W' : Wd} {env : Env} {x : Str} {v : Value} (r : Rd W env x v) (l : Le X W W') (hd : ∀ a, frX env a → ¬ X a) : Rd W' env x v := by
  rcases r with ⟨k, f, m, nn, e⟩ | ⟨k, c, e, f, nn⟩
  · have hx := hd _ (.inl rfl)
    exact .inl ⟨k, (let ⟨_, z⟩ := ns_at nn; (l.ext.ow _ _ z hx).trans f), m, ns_ko nn fun o ho => l.ext.kp _ o ho f hx, e⟩
  · have hx := hd c (.inr ⟨x, e⟩)
    exact .inr ⟨k, c, e, (let ⟨_, z⟩ := cell_at nn; (l.ext.ow _ _ z hx).trans f), cell_ko nn fun o ho => l.ext.kp _ o ho f hx⟩

theorem Fs.leD {X : Addr → Prop} {W W' : Wd} {env : Env} {sl : List (Nat × Str)} {vs : Vs} (F : Fs T W env sl vs) (l : Le X W W') (fx : FrX X W.own W.h) (hd : ∀ a, Mine.frX env a → ¬ X a) : Fs T W' env sl vs where
  fm := ⟨F.fm.kind, F.fm.glob, F.fm.bi, F.fm.cells, fun i x hi av e => let ⟨v, r, d⟩ := F.fm.rd i x hi av e; ⟨v, r.leX l fx, d.leD l hd⟩⟩
  ns := let ⟨m, nn⟩ := F.ns; ⟨m, ns_ko nn fun o ho => l.ext.kp _ o ho F.ownL (hd _ (.inl rfl))⟩
  ownL := let ⟨_, nn⟩ := F.ns; let ⟨_, z⟩ := ns_at nn; (l.ext.ow _ _ z (hd _ (.inl rfl))).trans F.ownL
  baseL := F.baseL
  kinds := F.kinds
  cell := fun x c e => let ⟨h1, h2, h3, v, h4⟩ := F.cell x c e; let ⟨_, z⟩ := cell_at h4; ⟨(l.ext.ow _ _ z (hd _ (.inr ⟨x, e⟩))).trans h1, h2, h3, v, cell_ko h4 fun o ho => l.ext.kp _ o ho h1 (hd _ (.inr ⟨x, e⟩))⟩
  cinj := F.cinj
  inj := F.inj
  inj2 := F.inj2
  len := F.len

/-- the loop, from any turn on -/
theorem does_loop {A : Around} {W₁ : Wd} {env : Env} {sl : List (Nat × Str)} {x : Nat} {nm : Str} {p : Pos} {body : List MS} {body' : List Stmt} {src : Src} {J : Addr} (a : AOk n A) (hx : (x, nm) ∈ sl)
    (hb : ∀ (W : Wd) (vs : Vs), Fs T W env sl vs → Inv T W → exs C body W.σ vs ≠ .fail → DoesS T A env sl W (execs body' env) (exs C body W.σ vs)) {r0 : OutS} (hr : r0 ≠ .fail) (hJ : ¬ frX env J)
    (f : AV → Hp × Vs → It (Hp × Vs) OutS) (hf : f = fun v (st : Hp × Vs) => match exs C body st.1 (st.2.set x (some v)) with | .next h vs => .go (h, vs) | o => .stop o)
    {R : Result → Shared → Prop} (hR : ∀ W' fl, Inv T W' → Le (fun b => frX env b ∨ b = J) W₁ W' → ((∃ vs', r0 = .next W'.σ vs' ∧ fl = .next ∧ Fs T W' env sl vs') ∨ ∃ av v, r0 = .ret av W'.σ ∧ fl = .ret v ∧ W'.V T av v) → R (.ok fl) W'.s)
    {W : Wd} {vs : Vs} {i m : Nat} (I : Inv T W) (l : Le (fun b => frX env b ∨ b = J) W₁ W) (F : Fs T W env sl vs) (it : ItOk T W J src i)
    (e : (match iterR (fun st => srcGet src st.1) OutS.fail f m i (W.σ, vs) with | .go st => OutS.next st.1 st.2 | .stop o => o) = r0) :
    codeAny T.M A (.forLoop (.Name nm p) (.ref J) body' [] env) R W.s := by
  refine codeAny_forLoop (fun m s => ∃ W vs i, W.s = s ∧ Inv T W ∧ Le (fun b => frX env b ∨ b = J) W₁ W ∧ Fs T W env sl vs ∧ ItOk T W J src i ∧
    (match iterR (fun st => srcGet src st.1) OutS.fail f m i (W.σ, vs) with | .go st => OutS.next st.1 st.2 | .stop o => o) = r0) (fun m s ⟨W, vs, i, es, I, l, F, it, e⟩ => ?_) m ⟨W, vs, i, rfl, I, l, F, it, e⟩
  subst es
  cases m with
  | zero => simp only [iterR] at e; exact absurd e.symm hr
  | succ m =>
    simp only [iterR] at e
    cases hg : srcGet src W.σ with
    | none => rw [hg] at e; exact absurd e.symm hr
    | some xs =>
      rw [hg] at e
      simp only at e
      cases hi : xs[i]? with
      | none =>
        rw [hi] at e
        refine does_next_end I a.handled it hg hi fun W' I' l' es => wpAny_execs_nil ?_
        have l2 : Le (fun b => frX env b ∨ b = J) W W' := l'.mono fun _ q => .inr q
        exact hR W' .next I' (l.trans l2) (.inl ⟨vs, by rw [← e, es], rfl, F.leD l' it.frX fun b hb q => hJ (q ▸ hb)⟩)
      | some av =>
        rw [hi] at e
        simp only at e
        refine does_next_item I it hg hi fun v W' I' l' es it' r => ?_
        have F' : Fs T W' env sl vs := F.leD l' it.frX fun b hb q => hJ (q ▸ hb)
        refine wpAny_assign_Name (does_store F' I' hx r fun W'' I'' l'' es' F'' => ?_)
        have it'' : ItOk T W'' J src (i + 1) := it'.leX l'' F'.frX hJ
        have hf' : f av (W.σ, vs) = match exs C body W.σ (vs.set x (some av)) with | .next h vs => .go (h, vs) | o => .stop o := by rw [hf]
        have hσ : W''.σ = W.σ := es'.trans es
        have n1 : exs C body W''.σ (vs.set x (some av)) ≠ .fail := fun q => by
          rw [hσ] at q
          rw [hf', q] at e
          exact hr e.symm
        refine wpAny_mono (hb W'' _ F'' I'' n1) (fun fl _ ⟨W3, e3, I3, l3, d⟩ => ?_) fun _ _ q => q.elim
        subst e3
        have lall : Le (fun b => frX env b ∨ b = J) W W3 := ((l'.mono fun _ q => .inr q).trans (l''.mono fun _ q => .inl q)).trans (l3.mono fun _ q => .inl q)
        rw [hσ] at d
        rcases d with ⟨vs', e1, rfl, F3⟩ | ⟨av', v', e1, rfl, r3⟩
        · refine ⟨m, Nat.lt_succ_self _, W3, vs', i + 1, rfl, I3, l.trans lall, F3, it''.leX l3 F''.frX hJ, ?_⟩
          rw [← e, hf', e1]
        · refine hR W3 (.ret v') I3 (l.trans lall) (.inr ⟨av', v', ?_, rfl, r3⟩)
          rw [← e, hf', e1]

/-- what was made on the way is forgotten -/
theorem Le.forget {X : Addr → Prop} {W₀ W₁ W₂ : Wd} {J : Addr} (l : Le noX W₀ W₁) (l' : Le (fun b => X b ∨ b = J) W₁ W₂) (h : W₀.h.get? J = none) : Le X W₀ W₂ := by
  have hJ : ∀ b o, W₀.h.get? b = some o → b ≠ J := fun b o e q => by rw [q, h] at e; cases e
  refine ⟨⟨fun b o e f nx => ?_, fun b o e f => ?_, fun b o e f => ?_, fun b o e nx => ?_, fun b o e nx => ?_, ?_⟩, l'.gens.trans l.gens, l'.os.trans l.os⟩
  · obtain ⟨o', e', k⟩ := l.ext.kp b o e f id
    obtain ⟨o'', e'', k'⟩ := l'.ext.kp b o' e' ((l.ext.ow b o e id).trans f) fun q => q.elim nx (hJ b o e)
    exact ⟨o'', e'', k.trans k'⟩
  · obtain ⟨o', e', k⟩ := l.ext.ke b o e f
    obtain ⟨o'', e'', k'⟩ := l'.ext.ke b o' e' (l.ext.oe b o e f)
    exact ⟨o'', e'', k'.trans k⟩
  · obtain ⟨o', e', k⟩ := l.ext.ke b o e f
    exact l'.ext.oe b o' e' (l.ext.oe b o e f)
  · obtain ⟨o', e'⟩ := l.ext.df b o e id
    exact l'.ext.df b o' e' fun q => q.elim nx (hJ b o e)
  · obtain ⟨o', e'⟩ := l.ext.df b o e id
    exact (l'.ext.ow b o' e' fun q => q.elim nx (hJ b o e)).trans (l.ext.ow b o e id)
  · obtain ⟨r, e⟩ := l.ext.bt
    obtain ⟨r', e'⟩ := l'.ext.bt
    exact ⟨r ++ r', by rw [e', e, List.append_assoc]⟩

theorem sound_s_aux (hT : T.Ok) (hG : GlOk T G) (hP : C.P = T.P) (hC : CallsOk T n C.call) (k : Nat) (ih : ∀ m : MS, sizeOf m < k → SS T G n C m) (m : MS) (hk : sizeOf m < k + 1) : SS T G n C m := by
  intro st sl A W env vs hm a F I hn
  match m with
  | .set x e =>
    cases st <;> simp [mtS] at hm
    rename_i ts v pos
    obtain ⟨⟨h1, h2⟩, h3⟩ := hm
    match ts, h1 with
    | [t], h1 =>
      obtain ⟨nm, p, rfl, hx⟩ := slotName_name h1
      simp only [ex] at hn ⊢
      have n1 : ev C e W.σ vs ≠ .fail := fun q => by rw [q] at hn; exact hn rfl
      refine wpAny_Assign_Name ((sound_e hT hG hP hC e v sl A W env vs h3 a F.fm I n1).cps (fun av W' val e1 I' l' r => ?_) fun _ _ q => q.1.elim) (swaps_no h2 _ _ _)
      refine does_store (F.le l') I' hx r fun W'' I'' l'' es F'' => ?_
      rw [e1]
      exact ⟨W'', rfl, I'', l'.ofNo.trans l'', .inl ⟨_, by rw [es], rfl, F''⟩⟩
    | [], h1 => simp [oneTarget] at h1
    | _ :: _ :: _, h1 => simp [oneTarget] at h1
  | .expr e =>
    cases st <;> simp [mtS] at hm
    rename_i v pos
    simp only [ex] at hn ⊢
    have n1 : ev C e W.σ vs ≠ .fail := fun q => by rw [q] at hn; exact hn rfl
    refine wpAny_Expr_any ((sound_e hT hG hP hC e v sl A W env vs hm.2 a F.fm I n1).cps (fun av W' val e1 I' l' r => ?_) fun _ _ q => q.1.elim) (by unfold interactive; rw [F.fm.kind]; rfl) (swaps_no hm.1 _ _ _)
    rw [e1]
    exact ⟨W', rfl, I', l'.ofNo, .inl ⟨vs, rfl, rfl, F.le l'⟩⟩
  | .ifs t b c =>
    cases st <;> simp [mtS] at hm
    rename_i t' b' c' pos
    obtain ⟨⟨h1, h2⟩, h3⟩ := hm
    simp only [ex] at hn ⊢
    have n1 : evT C t W.σ vs ≠ .fail := fun q => by
      unfold evT at q
      cases z : ev C t W.σ vs with
      | ok v h =>
        rw [z] at q hn
        simp only [Out.bind] at q hn
        cases y : truth h v with
        | none => rw [y] at hn; exact hn rfl
        | some b => rw [y] at q; cases q
      | exc cc h => rw [z] at q; cases q
      | fail => rw [z] at hn; exact hn rfl
    refine wpAny_If ((sound_t hT hG hP hC t t' sl A W env vs h1 a F.fm I n1).cps (fun bb W' b2 e1 I' l' r => ?_) fun _ _ q => q.1.elim)
    cases r
    unfold evT at e1
    cases z : ev C t W.σ vs with
    | exc cc h => rw [z] at e1; cases e1
    | fail => rw [z] at e1; cases e1
    | ok v h =>
      rw [z] at e1 hn
      simp only [Out.bind] at e1 hn
      cases y : truth h v with
      | none => rw [y] at e1; cases e1
      | some b3 =>
        rw [y] at e1 hn
        simp only [Out.ok.injEq] at e1
        obtain ⟨rfl, rfl⟩ := e1
        cases b3 with
        | true =>
          simp only [y] at hn ⊢
          exact (does_exs b (fun m' hm' => ih m' (by have := List.sizeOf_lt_of_mem hm'; simp at hk; omega)) b' sl A W' env vs h2 a (F.le l') I' hn).up l'.ofNo rfl
        | false =>
          simp only [y] at hn ⊢
          exact (does_exs c (fun m' hm' => ih m' (by have := List.sizeOf_lt_of_mem hm'; simp at hk; omega)) c' sl A W' env vs h3 a (F.le l') I' hn).up l'.ofNo rfl
  | .loop x src body =>
    cases st <;> simp [mtS] at hm
    rename_i tgt it b' orelse pos
    obtain ⟨⟨⟨⟨h1, h2⟩, h3⟩, rfl⟩, h4⟩ := hm
    obtain ⟨nm, p, rfl, hx⟩ := slotName_name h1
    simp only [ex] at hn ⊢
    have n1 : ev C src W.σ vs ≠ .fail := fun q => by rw [q] at hn; exact hn rfl
    refine wpAny_For ((sound_e hT hG hP hC src it sl A W env vs h3 a F.fm I n1).cps (fun av W' val e1 I' l' r => ?_) fun _ _ q => q.1.elim) (folded_no h2 _)
    rw [e1] at hn
    simp only at hn
    cases hs : srcA W'.σ av with
    | none => rw [hs] at hn; exact absurd rfl hn
    | some sr =>
      rw [hs] at hn
      simp only [iter_eq] at hn
      refine does_iter I' r hs fun J W'' I'' l'' es hJ it'' => ?_
      have F'' := (F.le l').le l''
      have hJ' : ¬ frX env J := fun q => by
        have F1 := F.le l'
        rcases q with q | ⟨y, q⟩
        · obtain ⟨m', n'⟩ := F1.ns
          obtain ⟨o, z⟩ := ns_at n'
          rw [← q, hJ] at z; cases z
        · obtain ⟨_, _, _, w, n'⟩ := F1.cell y J q
          obtain ⟨o, z⟩ := cell_at n'
          rw [hJ] at z; cases z
      refine does_loop (src := sr) (vs := vs) (i := 0) (m := srcN sr + 1) a hx (fun W3 vs3 F3 I3 n3 => does_exs body (fun m' hm' => ih m' (by have := List.sizeOf_lt_of_mem hm'; simp at hk; omega)) b' sl A W3 env vs3 h4 a F3 I3 n3) hn hJ' _ rfl
        (fun W3 fl I3 l3 d => ?_) I'' (.refl _ W'') F'' it'' (by rw [es]; try rfl)
      refine ⟨W3, rfl, I3, l'.ofNo.trans (Le.forget l'' l3 hJ), ?_⟩
      rw [e1]
      simp only [hs, iter_eq]
      exact d
  | .ret e =>
    cases st <;> simp [mtS] at hm
    rename_i v pos
    simp only [ex] at hn ⊢
    have n1 : ev C e W.σ vs ≠ .fail := fun q => by rw [q] at hn; exact hn rfl
    cases v with
    | some v =>
      have hm' : mtE G env.scope sl e v = true := by cases e <;> simpa [mtO, mO] using hm
      refine wpAny_Return_some ((sound_e hT hG hP hC e v sl A W env vs hm' a F.fm I n1).cps (fun av W' val e1 I' l' r => ?_) fun _ _ q => q.1.elim)
      rw [e1]
      exact ⟨W', rfl, I', l'.ofNo, .inr ⟨av, val, rfl, rfl, r⟩⟩
    | none =>
      cases e <;> simp [mtO, mO, isNoM] at hm
      simp only [ev]
      exact wpAny_Return_none ⟨W, rfl, I, .refl _ _, .inr ⟨.none, .none, rfl, rfl, .none⟩⟩
  | .pass =>
    cases st <;> simp [mtS] at hm
    simp only [ex]
    exact wpAny_Pass ⟨W, rfl, I, .refl _ _, .inl ⟨vs, rfl, rfl, F⟩⟩
  | .unpack _ _ => cases st <;> simp [mtS] at hm
  | .setAttr _ _ _ => cases st <;> simp [mtS] at hm
  | .setItem _ _ _ => cases st <;> simp [mtS] at hm
  | .whil _ _ => cases st <;> simp [mtS] at hm
  | .raise _ _ => cases st <;> simp [mtS] at hm
  | .try_ _ _ _ _ => cases st <;> simp [mtS] at hm

theorem sound_s (hT : T.Ok) (hG : GlOk T G) (hP : C.P = T.P) (hC : CallsOk T n C.call) (m : MS) : SS T G n C m := by
  have h : ∀ k, ∀ m : MS, sizeOf m < k → SS T G n C m := fun k => by
    induction k with
    | zero => intro m h; omega
    | succ k ih => exact fun m hk => sound_s_aux hT hG hP hC k ih m hk
  exact h _ m (Nat.lt_succ_self _)
end
end Mine

set_option Elab.async false
namespace Mine
open PySem
theorem zip_lookup : ∀ {names : List Str} {vals : List Value}, names.Nodup → vals.length = names.length → (names.filterMap fun n => ((names.zip vals).lookup n).map (n, ·)) = names.zip vals
  | [], [], _, _ => rfl
  | n :: ns, v :: vs, hd, hl => by
    have hd' := List.nodup_cons.mp hd
    have ih := zip_lookup hd'.2 (by simpa using hl : vs.length = ns.length)
    simp only [List.zip_cons_cons, List.filterMap_cons, List.lookup_cons, BEq.rfl, Option.map_some]
    congr 1
    refine Eq.trans ?_ ih
    have key : ∀ l : List Str, (∀ x ∈ l, x ≠ n) → (l.filterMap fun x => (match x == n with | true => some v | false => List.lookup x (ns.zip vs)).map (x, ·)) = l.filterMap fun x => (List.lookup x (ns.zip vs)).map (x, ·) := by
      intro l
      induction l with
      | nil => intro _; rfl
      | cons y l ihl =>
        intro hy
        have h1 : (y == n) = false := by simpa using hy y (by simp)
        rw [List.filterMap_cons, List.filterMap_cons, ihl fun x hx => hy x (by simp [hx])]
        simp only [h1]
    exact key ns fun x hx e => hd'.1 (e ▸ hx)
  | [], _ :: _, _, h => by simp at h
  | _ :: _, [], _, h => by simp at h
theorem zip_found {names : List Str} {vals : List Value} (hl : vals.length = names.length) : names.filter (fun n => ((names.zip vals).lookup n).isNone) = [] := by
  rw [List.filter_eq_nil_iff]
  intro n hn
  simp only [Option.isNone_iff_eq_none]
  intro h
  rw [List.lookup_eq_none_iff] at h
  obtain ⟨i, hi, rfl⟩ := List.getElem_of_mem hn
  have hv : i < vals.length := by omega
  have : (names[i], vals[i]) ∈ names.zip vals := by
    rw [List.mem_iff_getElem]
    exact ⟨i, by simp; omega, by simp⟩
  have := h _ this
  simp at this

theorem bind_simple {fd : FuncData} {as : List Arg} {ds : List Expr} {kd : List (Option Expr)} {vals : List Value} (hp : fd.params = ⟨[], as, none, [], kd, none, ds⟩) (hd : fd.defaults = .none) (hn : (as.map (·.arg)).Nodup)
    (hl : vals.length = as.length) : bindArgs fd ⟨vals, []⟩ = pure ((as.map (·.arg)).zip vals) := by
  have hl' : vals.length = (as.map (·.arg)).length := by simpa using hl
  unfold bindArgs
  rw [hp, hd]
  have hs : seqItems? Value.none = (pure none : Sem (Option (Array Value))) := rfl
  simp only [List.map_nil, List.nil_append, List.append_nil, hs, pure_bind]
  generalize hg : as.map (·.arg) = names at hn hl' ⊢
  simp [hl', zip_found hl', zip_lookup hn hl']
end Mine

/-! Soundness, part 17: calls of the text's defs (typed by hand). -/
set_option Elab.async false
namespace Mine
open PySem PySem.SeqAt PySem.Spec PySem.W PySem.Calls

def slots (fn : Fn) : List (Nat × Str) := (fn.names.take fn.nl).zipIdx.map fun p => (p.2, p.1)
theorem mem_slots {fn : Fn} {i : Nat} {x : Str} : (i, x) ∈ slots fn ↔ (fn.names.take fn.nl)[i]? = some x := by
  unfold slots
  simp only [List.mem_map, Prod.mk.injEq, Prod.exists]
  constructor
  · rintro ⟨a, b, h, rfl, rfl⟩
    exact List.mem_zipIdx_iff_getElem?.mp h
  · intro h
    exact ⟨x, i, List.mem_zipIdx_iff_getElem?.mpr h, rfl, rfl⟩

/-- a def of the text as the abstract one says -/
structure FnOk (T : Tp) (G : Gl) (f : Nat) (fn : Fn) : Prop where
  obj : ∃ o fd body as kd ds, T.base.get? (T.fa f) = some o ∧ o.data = .func fd ∧ T.base.CodeRec fd.code fd.qualname ∧ fd.body = .stmts body ∧ fd.params = ⟨[], as, none, [], kd, none, ds⟩ ∧ fd.defaults = .none ∧ fd.closure = [] ∧
    fd.globals = mainGlobals ∧ fd.builtins = builtinsNs ∧ fd.scope.kind = .function ∧ fd.scope.isCoroutine = false ∧ fd.scope.isGenerator = false ∧ as.map (·.arg) = fn.names.take fn.np ∧ mtSs G fd.scope (slots fn) fn.body body = true ∧
    (∀ x ∈ fn.names.take fn.nl, fd.scope.names.lookup x = some .local ∨ fd.scope.names.lookup x = some .cell)
  np : fn.np ≤ fn.nl
  nl : fn.nl ≤ fn.names.length
  nodup : (fn.names.take fn.nl).Nodup

theorem Le.forgetAll {Y : Addr → Prop} {W₀ W₁ W₂ : Wd} (l : Le noX W₀ W₁) (l' : Le Y W₁ W₂) (h : ∀ b, Y b → W₀.h.get? b = none) : Le noX W₀ W₂ := by
  have hJ : ∀ b o, W₀.h.get? b = some o → ¬ Y b := fun b o e q => by rw [h b q] at e; cases e
  refine ⟨⟨fun b o e f nx => ?_, fun b o e f => ?_, fun b o e f => ?_, fun b o e nx => ?_, fun b o e nx => ?_, ?_⟩, l'.gens.trans l.gens, l'.os.trans l.os⟩
  · obtain ⟨o', e', k⟩ := l.ext.kp b o e f id
    obtain ⟨o'', e'', k'⟩ := l'.ext.kp b o' e' ((l.ext.ow b o e id).trans f) (hJ b o e)
    exact ⟨o'', e'', k.trans k'⟩
  · obtain ⟨o', e', k⟩ := l.ext.ke b o e f
    obtain ⟨o'', e'', k'⟩ := l'.ext.ke b o' e' (l.ext.oe b o e f)
    exact ⟨o'', e'', k'.trans k⟩
  · obtain ⟨o', e', k⟩ := l.ext.ke b o e f
    exact l'.ext.oe b o' e' (l.ext.oe b o e f)
  · obtain ⟨o', e'⟩ := l.ext.df b o e id
    exact l'.ext.df b o' e' (hJ b o e)
  · obtain ⟨o', e'⟩ := l.ext.df b o e id
    exact (l'.ext.ow b o' e' (hJ b o e)).trans (l.ext.ow b o e id)
  · obtain ⟨r, e⟩ := l.ext.bt
    obtain ⟨r', e'⟩ := l'.ext.bt
    exact ⟨r ++ r', by rw [e', e, List.append_assoc]⟩

theorem bindL_skip {k : Str → Option NameKind} {x : Str} : ∀ {binds : List (Str × Value)} {m : Str → Option Value}, (∀ p ∈ binds, p.1 ≠ x) → bindL k binds m x = m x
  | [], _, _ => rfl
  | (y, v) :: r, m, h => by
    rw [bindL, bindL_skip fun p hp => h p (by simp [hp])]
    have : x ≠ y := fun e => h (y, v) (by simp) e.symm
    split
    · simp [this]
    · rfl
theorem bindC_skip {k : Str → Option NameKind} {x : Str} : ∀ {binds : List (Str × Value)} {m : Str → Option Value}, (∀ p ∈ binds, p.1 ≠ x) → bindC k binds m x = m x
  | [], _, _ => rfl
  | (y, v) :: r, m, h => by
    rw [bindC, bindC_skip fun p hp => h p (by simp [hp])]
    have : x ≠ y := fun e => h (y, v) (by simp) e.symm
    split
    · rfl
    · simp [this]
theorem bindL_at {k : Str → Option NameKind} {x : Str} {v : Value} (hk : k x = some .local) : ∀ {names : List Str} {vals : List Value} {m : Str → Option Value} {i : Nat}, names.Nodup → names[i]? = some x → vals[i]? = some v → bindL k (names.zip vals) m x = some v
  | n :: ns, w :: vs, m, 0, hd, e1, e2 => by
    simp at e1 e2; subst e1 e2
    rw [List.zip_cons_cons, bindL, bindL_skip]
    · rw [if_pos hk]; simp
    · intro p hp e
      exact (List.nodup_cons.mp hd).1 (e ▸ (List.of_mem_zip hp).1)
  | n :: ns, w :: vs, m, i + 1, hd, e1, e2 => by
    rw [List.zip_cons_cons, bindL]
    exact bindL_at hk (List.nodup_cons.mp hd).2 (by simpa using e1) (by simpa using e2)
  | [], _, _, _, _, e1, _ => by simp at e1
  | _ :: _, [], _, _, _, _, e2 => by simp at e2
theorem bindC_at {k : Str → Option NameKind} {x : Str} {v : Value} (hk : k x ≠ some .local) : ∀ {names : List Str} {vals : List Value} {m : Str → Option Value} {i : Nat}, names.Nodup → names[i]? = some x → vals[i]? = some v → bindC k (names.zip vals) m x = some v
  | n :: ns, w :: vs, m, 0, hd, e1, e2 => by
    simp at e1 e2; subst e1 e2
    rw [List.zip_cons_cons, bindC, bindC_skip]
    · rw [if_neg hk]; simp
    · intro p hp e
      exact (List.nodup_cons.mp hd).1 (e ▸ (List.of_mem_zip hp).1)
  | n :: ns, w :: vs, m, i + 1, hd, e1, e2 => by
    rw [List.zip_cons_cons, bindC]
    exact bindC_at hk (List.nodup_cons.mp hd).2 (by simpa using e1) (by simpa using e2)
  | [], _, _, _, _, e1, _ => by simp at e1
  | _ :: _, [], _, _, _, _, e2 => by simp at e2

theorem pairwise_inj {l : List (Str × Addr)} (h : l.Pairwise fun x y => x.2 ≠ y.2) {x y : Str} {c : Addr} (h1 : l.lookup x = some c) (h2 : l.lookup y = some c) : x = y := by
  have m1 : (x, c) ∈ l := by
    obtain ⟨l1, l2, e, _⟩ := List.lookup_eq_some_iff.mp h1
    rw [e]; simp
  have m2 : (y, c) ∈ l := by
    obtain ⟨l1, l2, e, _⟩ := List.lookup_eq_some_iff.mp h2
    rw [e]; simp
  obtain ⟨i, hi, e1⟩ := List.getElem_of_mem m1
  obtain ⟨j, hj, e2⟩ := List.getElem_of_mem m2
  rw [List.pairwise_iff_getElem] at h
  rcases Nat.lt_trichotomy i j with q | q | q
  · exact absurd (by rw [e1, e2]) (h i j hi hj q)
  · subst q; rw [e1] at e2; cases e2; rfl
  · exact absurd (by rw [e1, e2]) (h j i hj hi q)

section
variable {T : Tp} {G : Gl}

theorem calls_step (hT : T.Ok) (hG : GlOk T G) {n : Nat} {hd : Bool} (hC : CallsOk T n (callF T.P n hd)) (hF : ∀ f fn, T.P.fns[f]? = some fn → fn.body ≠ [] → FnOk T G f fn) (f : Nat) (as : List AV) (vals : List Value) (A : Around) (W : Wd) (a : AOk (n + 1) A)
    (I : Inv T W) (r : W.Vs T as vals) (hn : callF T.P (n + 1) hd f as W.σ ≠ .fail) : Does T A noX W (PySem.call (.ref (T.fa f)) vals) (callF T.P (n + 1) hd f as W.σ) (VW T) := by
  simp only [callF] at hn ⊢
  cases hf : T.P.fns[f]? with
  | none => rw [hf] at hn; exact absurd rfl hn
  | some fn =>
    rw [hf] at hn
    simp only at hn ⊢
    by_cases hc : as.length = fn.np ∧ fn.body.isEmpty = false
    · rw [if_pos hc] at hn ⊢
      have hnp := hc.1
      have ok := hF f fn hf (fun q => by rw [q] at hc; exact absurd hc.2 (by simp))
      obtain ⟨o, fd, body, ps, kd, ds, h1, h2, h3, h4, h5, h6, h7, h8, h9, h10, h11, h12, h13, h14, h15⟩ := ok.obj
      have hlv : vals.length = ps.length := by
        have e1 := r.length
        have e2 : (ps.map (·.arg)).length = (fn.names.take fn.np).length := by rw [h13]
        simp only [List.length_map, List.length_take] at e2
        have := ok.np; have := ok.nl
        omega
      have hnd : (fn.names.take fn.np).Nodup := by
        have e : fn.names.take fn.np = (fn.names.take fn.nl).take fn.np := by rw [List.take_take, Nat.min_eq_left ok.np]
        rw [e]; exact ok.nodup.sublist (List.take_sublist _ _)
      have hbind := bind_simple (fd := fd) (vals := vals) h5 h6 (by rw [h13]; exact hnd) hlv
      rw [h13] at hbind
      refine wpAny_call (codeAny_call_cells (binds := (fn.names.take fn.np).zip vals) (body := body) (by have := a.depth; omega) (I.base _ _ h1) h2 (hT.nolimit.keeps I.base) ?_ h4 hbind h7 (fun p hp => ?_) (fun s₁ x => ?_) h11 h12 h10)
      · obtain ⟨c, o', vs', t, e1, e2, e3⟩ := h3
        exact ⟨c, o', vs', t, e1, I.base _ _ e2, e3⟩
      · have hm := (List.of_mem_zip hp).1
        have hm' : p.1 ∈ fn.names.take fn.nl := by
          have e : fn.names.take fn.np = (fn.names.take fn.nl).take fn.np := by rw [List.take_take, Nat.min_eq_left ok.np]
          rw [e] at hm; exact List.mem_of_mem_take hm
        rcases h15 p.1 hm' with q | q
        · exact .inl q
        · exact .inr ⟨q, cellsFrom_some _ _ _ (.inl q)⟩
      · obtain ⟨h', tk, es⟩ := x.toInCall.same
        have g := I.grow (s' := s₁) x.toInCall.keep (by rw [es]) (by rw [es])
        have hL : (callEnvC fd W.s.heap.objs.size (T.fa f)).locals = W.s.heap.objs.size := rfl
        have hnone : ∀ b, W.s.heap.objs.size ≤ b → W.s.heap.get? b = none := fun b hb' => by
          cases q : W.s.heap.get? b with
          | none => rfl
          | some o' => exact absurd (Heap.lt_size q) (Nat.not_lt.mpr hb')
        have hbase : ∀ b, W.s.heap.objs.size ≤ b → T.base.get? b = none := fun b hb' => by
          cases q : T.base.get? b with
          | none => rfl
          | some o' => have := I.base b o' q; rw [hnone b hb'] at this; cases this
        have habove : ∀ y c, (callEnvC fd W.s.heap.objs.size (T.fa f)).cells.lookup y = some c → W.s.heap.objs.size < c := fun y c e => by
          have m1 : (y, c) ∈ (callEnvC fd W.s.heap.objs.size (T.fa f)).cells := by
            obtain ⟨l1, l2, e', _⟩ := List.lookup_eq_some_iff.mp e
            rw [e']; simp
          exact x.above y c m1
        have hle : Le noX W { W with s := s₁ } := g.2
        have F : Fs T { W with s := s₁ } (callEnvC fd W.s.heap.objs.size (T.fa f)) (slots fn) (as.map some ++ List.replicate (fn.names.length - fn.np) none) := {
          fm := ⟨h10, h8, h9, fun y q => by
              have := cellsFrom_some (x := y) fd.scope.names (W.s.heap.objs.size + 1) [] (.inl q)
              obtain ⟨c, e⟩ := Option.isSome_iff_exists.mp this
              exact ⟨c, e⟩, fun i y hy av e => by
              have hy' := mem_slots.mp hy
              have hi : i < as.length := by
                rcases Nat.lt_or_ge i as.length with q | q
                · exact q
                · rw [List.getElem?_append_right (by simpa using q)] at e
                  have := List.mem_of_getElem? e
                  simp at this
              rw [List.getElem?_append_left (by simpa using hi), List.getElem?_map] at e
              obtain ⟨av', e1, e2⟩ := Option.map_eq_some_iff.mp e
              cases e2
              obtain ⟨v, ev, rv⟩ := r.get e1
              have hyn : (fn.names.take fn.np)[i]? = some y := by
                rw [List.getElem?_take] at hy' ⊢
                split at hy'
                · rw [if_pos (by omega)]; exact hy'
                · cases hy'
              refine ⟨v, rv.le hle, ?_⟩
              rcases h15 y (List.mem_of_getElem? hy') with q | q
              · exact .inl ⟨q, own_new I (hnone _ (Nat.le_refl _)), _, x.toInCall.ns, bindL_at q hnd hyn ev⟩
              · have := cellsFrom_some (x := y) fd.scope.names (W.s.heap.objs.size + 1) [] (.inl q)
                obtain ⟨c, ec⟩ := Option.isSome_iff_exists.mp this
                have hc := x.cell y c ec
                rw [bindC_at (by show fd.scope.names.lookup y ≠ _; rw [q]; simp) hnd hyn ev] at hc
                exact .inr ⟨q, c, ec, own_new I (hnone _ (Nat.le_of_lt (habove y c ec))), hc⟩⟩
          ns := ⟨_, x.toInCall.ns⟩
          ownL := own_new I (hnone _ (Nat.le_refl _))
          baseL := hbase _ (Nat.le_refl _)
          kinds := fun i y hy => h15 y (List.mem_of_getElem? (mem_slots.mp hy))
          cell := fun y c e => ⟨own_new I (hnone _ (Nat.le_of_lt (habove y c e))), hbase _ (Nat.le_of_lt (habove y c e)), Nat.ne_of_gt (habove y c e), _, x.cell y c e⟩
          cinj := fun y z c e1 e2 => pairwise_inj x.apart e1 e2
          inj := fun i j y hi hj => by
            have h1 := mem_slots.mp hi; have h2 := mem_slots.mp hj
            exact (List.getElem?_inj (List.getElem?_eq_some_iff.mp h1).1 ok.nodup).mp (h1.trans h2.symm)
          inj2 := fun i y z hi hj => by
            have h1 := mem_slots.mp hi; have h2 := mem_slots.mp hj
            rw [h1] at h2; cases h2; rfl
          len := fun i y hi => by
            have h1 := (List.getElem?_eq_some_iff.mp (mem_slots.mp hi)).1
            simp only [List.length_take] at h1
            simp only [List.length_append, List.length_map, List.length_replicate]
            have := ok.np; have := ok.nl
            omega }
        have a' : AOk n (A.deeper (callEnvC fd W.s.heap.objs.size (T.fa f))) := ⟨by have := a.depth; show A.depth + 1 + n < _; omega, by have := a.units; show A.units + 3 + _ + _ < _; omega, a.handled⟩
        have n1 : exs ⟨T.P, hd, callF T.P n hd⟩ fn.body W.σ (as.map some ++ List.replicate (fn.names.length - fn.np) none) ≠ .fail := fun q => by rw [q] at hn; exact hn rfl
        have hd' := does_exs (C := ⟨T.P, hd, callF T.P n hd⟩) fn.body (fun m _ => sound_s hT hG rfl hC m) body (slots fn) _ { W with s := s₁ } _ _ h14 a' F g.1 n1
        have hfg : ∀ b, frX (callEnvC fd W.s.heap.objs.size (T.fa f)) b → W.h.get? b = none := fun b q => by
          rcases q with rfl | ⟨y, q⟩
          · exact hnone _ (Nat.le_refl _)
          · exact hnone _ (Nat.le_of_lt (habove y b q))
        refine wpAny_mono hd' (fun fl _ ⟨W', e, I', l', d⟩ => ?_) fun _ _ q => q.elim
        subst e
        have lf := Le.forgetAll hle l' hfg
        rcases d with ⟨vs', e1, rfl, _⟩ | ⟨av, v, e1, rfl, rv⟩
        · have e1' : exs ⟨T.P, hd, callF T.P n hd⟩ fn.body W.σ (as.map some ++ List.replicate (fn.names.length - fn.np) none) = .next W'.σ vs' := e1
          exact ⟨.none, W', rfl, by simp only [e1'], I', lf, .none⟩
        · have e1' : exs ⟨T.P, hd, callF T.P n hd⟩ fn.body W.σ (as.map some ++ List.replicate (fn.names.length - fn.np) none) = .ret av W'.σ := e1
          exact ⟨av, W', rfl, by simp only [e1'], I', lf, rv⟩
    · rw [if_neg hc] at hn; exact absurd rfl hn

theorem calls_ok (hT : T.Ok) (hG : GlOk T G) {hd : Bool} (hF : ∀ f fn, T.P.fns[f]? = some fn → fn.body ≠ [] → FnOk T G f fn) : ∀ n, CallsOk T n (callF T.P n hd)
  | 0 => ⟨fun f as vals A W _ _ _ hn => absurd rfl hn⟩
  | n + 1 => ⟨fun f as vals A W a I r hn => calls_step hT hG (calls_ok hT hG hF n) hF f as vals A W a I r hn⟩
end
end Mine

/-! Soundness, part 18: the head's written part answers for the text's defs (typed by hand). -/
set_option Elab.async false
namespace Mine
open PySem PySem.SeqAt PySem.Spec PySem.W PySem.Calls PyProof.Rows

def isFn (K : Frag) (a : Addr) : Bool := match K.lookup a with
  | some ⟨_, _, .func _, _⟩ => true
  | _ => false
/-- a name of the text: a def, or nobody's -/
def gvOf (K : Frag) (x : Str) : Option (Option Value) := match nsIn K mainGlobals x with
  | some (some (.ref a)) => if isFn K a then some (some (.ref a)) else none
  | some (some _) => none
  | some none => some none
  | none => none
def faOf (K : Frag) (P : Pr) (f : Nat) : Addr := match P.fns[f]? with
  | some fn => (match nsIn K mainGlobals fn.name with
    | some (some (.ref a)) => a
    | _ => 0)
  | none => 0
abbrev glOf (K : Frag) (P : Pr) : Gl := ⟨gvOf K, faOf K P⟩

def plainPs (names : List Str) (p : Arguments) : Bool := p.posonlyargs.isEmpty && p.vararg.isNone && p.kwonlyargs.isEmpty && p.kwarg.isNone && p.args.map (·.arg) == names
def isNoneV : Value → Bool
  | .none => true
  | _ => false
def bodyOk (G : Gl) (sc : Scope) (fn : Fn) : FuncBody → Bool
  | .stmts body => mtSs G sc (slots fn) fn.body body
  | _ => false
def nodupS : List Str → Bool
  | [] => true
  | x :: r => !r.contains x && nodupS r
theorem nodupS_of : ∀ {l : List Str}, nodupS l = true → l.Nodup
  | [], _ => .nil
  | x :: r, h => by
    simp only [nodupS, Bool.and_eq_true, Bool.not_eq_true'] at h
    refine List.nodup_cons.mpr ⟨fun q => ?_, nodupS_of h.2⟩
    have h1 := h.1
    rw [List.contains_iff_mem.mpr q] at h1
    exact Bool.noConfusion h1
def isFunK : ScopeKind → Bool
  | .function => true
  | _ => false
def isLC : Option NameKind → Bool
  | some .local => true
  | some .cell => true
  | _ => false
def fdOk (K : Frag) (P : Pr) (fn : Fn) (fd : FuncData) : Bool :=
  codeIn K fd.code fd.qualname && bodyOk (glOf K P) fd.scope fn fd.body && plainPs (fn.names.take fn.np) fd.params && isNoneV fd.defaults && fd.closure.isEmpty && (fd.globals == mainGlobals) && (fd.builtins == builtinsNs) &&
    isFunK fd.scope.kind && !fd.scope.isCoroutine && !fd.scope.isGenerator && (fn.names.take fn.nl).all (fun x => isLC (fd.scope.names.lookup x)) && decide (fn.np ≤ fn.nl) && decide (fn.nl ≤ fn.names.length) && nodupS (fn.names.take fn.nl)
def fnOk (K : Frag) (P : Pr) (f : Nat) (fn : Fn) : Bool := match K.lookup (faOf K P f) with
  | some ⟨_, _, .func fd, _⟩ => fdOk K P fn fd
  | _ => false
def fnsOk (K : Frag) (P : Pr) : Nat → List Fn → Bool
  | _, [] => true
  | i, fn :: r => (fn.body.isEmpty || fnOk K P i fn) && fnsOk K P (i + 1) r

theorem fnsOk_get {K : Frag} {P : Pr} : ∀ {l : List Fn} {i : Nat}, fnsOk K P i l = true → ∀ j fn, l[j]? = some fn → fn.body ≠ [] → fnOk K P (i + j) fn = true
  | fn :: r, i, h, 0, f, e, hb => by
    cases e
    simp only [fnsOk, Bool.and_eq_true, Bool.or_eq_true, List.isEmpty_iff] at h
    rcases h.1 with q | q
    · exact absurd q hb
    · exact q
  | fn :: r, i, h, j + 1, f, e, hb => by
    simp only [fnsOk, Bool.and_eq_true] at h
    have := fnsOk_get h.2 j f (by simpa using e) hb
    rw [show i + (j + 1) = i + 1 + j by omega]; exact this

theorem fn_of {T : Tp} {K : Frag} (X : K.In T.base) (hfa : T.fa = faOf K T.P) {f : Nat} {fn : Fn} (h : fnOk K T.P f fn = true) : FnOk T (glOf K T.P) f fn := by
  unfold fnOk at h
  split at h
  · rename_i c d fd sl ho
    simp only [fdOk, Bool.and_eq_true, decide_eq_true_eq, Bool.not_eq_true', beq_iff_eq, List.isEmpty_iff, List.all_eq_true] at h
    obtain ⟨⟨⟨⟨⟨⟨⟨⟨⟨⟨⟨⟨⟨h1, h2⟩, h3⟩, h4⟩, h5⟩, h6⟩, h7⟩, h8⟩, h9⟩, h10⟩, h11⟩, h12⟩, h13⟩, h14⟩ := h
    refine ⟨?_, h12, h13, nodupS_of h14⟩
    have hb : ∃ body, fd.body = .stmts body ∧ mtSs (glOf K T.P) fd.scope (slots fn) fn.body body = true := by
      cases q : fd.body with
      | stmts body => rw [q] at h2; exact ⟨body, rfl, h2⟩
      | _ => rw [q] at h2; cases h2
    obtain ⟨body, hb1, hb2⟩ := hb
    have hp : ∃ as kd ds, fd.params = ⟨[], as, none, [], kd, none, ds⟩ ∧ as.map (·.arg) = fn.names.take fn.np := by
      cases q : fd.params with
      | mk po as va ko kd kw ds =>
        rw [q] at h3
        simp only [plainPs, Bool.and_eq_true, List.isEmpty_iff, Option.isNone_iff_eq_none, beq_iff_eq] at h3
        obtain ⟨⟨⟨⟨rfl, rfl⟩, rfl⟩, rfl⟩, e⟩ := h3
        exact ⟨as, kd, ds, rfl, e⟩
    obtain ⟨as, kd, ds, hp1, hp2⟩ := hp
    have hdn : fd.defaults = .none := by
      cases q : fd.defaults <;> rw [q] at h4 <;> first | rfl | cases h4
    have hk : fd.scope.kind = .function := by
      cases q : fd.scope.kind <;> rw [q] at h8 <;> first | rfl | cases h8
    refine ⟨⟨c, d, .func fd, sl⟩, fd, body, as, kd, ds, ?_, rfl, codeRec_of X h1, hb1, hp1, hdn, h5, h6, h7, hk, h9, h10, hp2, hb2, fun x hx => ?_⟩
    · rw [hfa]; exact X _ _ ho
    · have := h11 x hx
      cases q : fd.scope.names.lookup x with
      | none => rw [q] at this; cases this
      | some k => rw [q] at this; cases k <;> first | exact .inl rfl | exact .inr rfl | cases this
  · cases h

theorem gl_of {T : Tp} {K : Frag} (X : K.In T.base) (hT : T.Ok) (hfa : T.fa = faOf K T.P) : GlOk T (glOf K T.P) where
  sm := fun x v e => by
    simp only [gvOf] at e
    split at e
    · rename_i a q
      split at e
      · cases e; exact mg_of X hT.g q
      · cases e
    · cases e
    · cases e
    · cases e
  nn := fun x e => by
    simp only [gvOf] at e
    split at e
    · split at e <;> cases e
    · cases e
    · rename_i q; exact ns_none_of X hT.g q
    · cases e
  fa := hfa.symm
  callee := fun x f e => by
    simp only [gvOf] at e
    split at e
    · rename_i a q
      split at e
      · rename_i hi
        injection e with e; injection e with e; injection e with e
        unfold isFn at hi
        split at hi
        · rename_i c d fd sl ho
          rw [hfa, ← e]
          exact callee_fn (X _ _ ho) rfl
        · cases hi
      · cases e
    · cases e
    · cases e
    · cases e

/-- the whole law's call -/
theorem law_call {prog : Program} {w : World} {P : Pr} {s₁ : Shared} {mg mb : Str → Option Value} {K : Frag} {loose : List Str} {pv : Program} {fa l : Addr} {lw n : Nat} {x : Str} {ns : List Int} {vs : List Value} {hp : Hp} {Q : Value → Shared → Prop} {E : Value → Shared → Prop}
    (X : K.In s₁.heap) (TR : TopRead pv loose mg mb s₁.heap) (hf : fnsOk K P 0 P.fns = true) (hx : mg x = some (.ref fa)) (hl : nsIn K mainGlobals x = some (some (.ref (faOf K P lw))))
    (hL : s₁.heap.IsList l vs.toArray) (hI : IntsAre vs ns) (hn : ns.length ≤ lim) (hA : n ≤ 20) (hc : callF P n false lw [.scr ns] [] = .ok (.bool true) hp)
    (hR : ∀ s', (∀ b o, s₁.heap.get? b = some o → s'.heap.get? b = some o) → s'.os = s₁.os → s'.gens = s₁.gens → Q (.bool true) s') :
    wpAny (model prog w) callerA (PySem.call (.ref fa) [.ref l]) Q E s₁ := by
  let T : Tp := { prog, w, P, base := s₁.heap, mg, mb, ca := fun _ => 0, fa := faOf K P }
  have hT : T.Ok := ⟨TR.g, TR.b, TR.nolimit, TR.builtins⟩
  have hG := gl_of (T := T) X hT rfl
  have hfa : fa = faOf K P lw := by
    have := mg_of X TR.g hl
    rw [hx] at this
    injection this with this; injection this
  let W : Wd := { own := fun _ => .free, bt := [], σ := [], s := s₁ }
  have I : Inv T W := ⟨rfl, fun l a e => by simp [W] at e, fun a e => absurd rfl e, fun l o a e => by simp [W] at e, fun _ _ e => e⟩
  have C := calls_ok hT hG (hd := false) (fun f fn e hb => fn_of (T := T) X rfl (by simpa using fnsOk_get hf f fn e hb)) n
  obtain ⟨ob, ho, hcl, n', hda⟩ := hL
  have rv : W.Vs T [.scr ns] [.ref l] := .cons (.scr ho hcl hda hn (fun i x e => by
      obtain ⟨t, e'⟩ := hI.get i x e
      exact ⟨t, by simpa using e'⟩) (by simpa using hI.length)) .nil
  have a : AOk n callerA := by
    have e1 : callerA.depth = 301 := by decide
    have e2 : callerA.units = 4 := rfl
    have e3 : recursionLimit = 1000 := rfl
    exact ⟨by omega, by have : 1000 ≤ cLine := by decide
                        omega, rfl⟩
  have D := C.does lw [.scr ns] [.ref l] callerA W a I rv (by show callF P n false lw [.scr ns] [] ≠ _; rw [hc]; simp)
  rw [hfa]
  refine wpAny_mono D ?_ fun e s' q => q.1.elim
  rintro v s' ⟨av, W', rfl, q, I', l', r⟩
  have q' : callF P n false lw [.scr ns] [] = .ok av W'.σ := q
  rw [hc] at q'
  cases q'
  cases r
  exact hR W'.s I'.base l'.os l'.gens
end Mine

namespace Mine
/-- weight -/
def fn_weight : Fn := { name := "weight", np := 1, nl := 3, names := ["signs", "found", "sign"], body := [.set 1 (.int 7),
  .loop 2 (.var 0) [.set 1 (.bin .mod (.bin .add (.bin .mul (.var 1) (.int 131)) (.bi .ord [.var 2])) (.int 65521))],
  .ret (.var 1)] }

/-- _law_cell_at -/
def fn_l_cell_at : Fn := { name := "_law_cell_at", np := 2, nl := 2, names := ["_law_script", "_law_k"], body := [.ifs (.cmp (.var 1) [.lt] [.bi .len [.var 0]]) [.ret (.idx (.var 0) (.var 1))] [],
  .ret (.int 0)] }

/-- _law_whole -/
def fn_l_whole : Fn := { name := "_law_whole", np := 1, nl := 1, names := ["_law_got"], body := [.ret (.and [.inst (.var 0) .int, .not (.inst (.var 0) .bool)])] }

/-- _law_sign_by -/
def fn_l_sign_by : Fn := { name := "_law_sign_by", np := 1, nl := 2, names := ["_law_cell", "_law_some"], body := [.set 1 (.str [32, 33, 34, 35, 36, 38, 39, 40, 41, 42, 43, 44, 45, 46, 47, 48, 49, 50, 51, 52, 53, 54, 55, 56, 57, 58, 59, 60, 61, 62, 63, 64, 65, 66, 67, 68, 69, 70, 71, 72, 73, 74, 75, 76, 77, 78, 79, 80, 81, 82, 83, 84, 85, 86, 87, 88, 89, 90, 91, 92, 93, 94, 95, 96]),
  .set 1 (.bin .add (.var 1) (.str [97, 98, 99, 100, 101, 102, 103, 104, 105, 106, 107, 108, 109, 110, 111, 112, 113, 114, 115, 116, 117, 118, 119, 120, 121, 122, 123, 124, 125, 126, 10])),
  .ret (.idx (.var 1) (.bin .mod (.var 0) (.int 95)))] }

/-- _law_text_by -/
def fn_l_text_by : Fn := { name := "_law_text_by", np := 2, nl := 7, names := ["_law_cell", "_law_size", "_law_signs", "_law_block", "_law_got", "_law_number", "_law_k"], body := [.set 2 (.idx (.list [.int 2, .int 95, .int 95, .int 1]) (.bin .mod (.var 0) (.int 4))),
  .set 3 (.var 1),
  .ifs (.cmp (.bin .mod (.var 0) (.int 4)) [.eq] [.int 2]) [.set 3 (.bi .min [.var 1, .bin .add (.int 1) (.bin .mod (.bin .div (.var 0) (.int 4)) (.int 50))])] [],
  .ifs (.cmp (.var 3) [.eq] [.int 0]) [.ret (.str [])] [],
  .set 4 (.str []),
  .set 5 (.var 0),
  .loop 6 (.bi .range [.var 3]) [.set 5 (.bin .mod (.bin .add (.bin .mul (.var 5) (.int 48271)) (.int 11)) (.int 2147483647)),
  .set 4 (.bin .add (.var 4) (.call 3 [.bin .add (.int 65) (.bin .mod (.bin .div (.var 5) (.int 7)) (.var 2))]))],
  .ret (.slice (.bin .mul (.var 4) (.bin .add (.bin .div (.var 1) (.var 3)) (.int 1))) .none (.var 1))] }

/-- _law_size_by -/
def fn_l_size_by : Fn := { name := "_law_size_by", np := 1, nl := 1, names := ["_law_cell"], body := [.ifs (.cmp (.bin .mod (.var 0) (.int 8)) [.eq] [.int 7]) [.ret (.bin .mod (.bin .div (.var 0) (.int 8)) (.int 300))] [],
  .ret (.bin .mod (.bin .div (.var 0) (.int 8)) (.int 60))] }

/-- law -/
def fn_law : Fn := { name := "law", np := 1, nl := 6, names := ["_law_script", "_law_text", "_law_power", "_law_total", "_law_k", "_law_got"], body := [.set 1 (.call 4 [.call 1 [.var 0, .int 0], .call 5 [.call 1 [.var 0, .int 1]]]),
  .set 2 (.int 1),
  .set 3 (.int 0),
  .loop 4 (.bi .range [.bi .len [.var 1]]) [.set 3 (.bin .mod (.bin .add (.var 3) (.bin .mul (.bi .ord [.idx (.var 1) (.bin .sub (.bin .sub (.bi .len [.var 1]) (.int 1)) (.var 4))]) (.var 2))) (.int 65521)),
  .set 2 (.bin .mod (.bin .mul (.var 2) (.int 131)) (.int 65521))],
  .set 5 (.call 0 [.var 1]),
  .ret (.and [.call 2 [.var 5], .cmp (.var 5) [.eq] [.bin .mod (.bin .add (.var 3) (.bin .mul (.int 7) (.var 2))) (.int 65521)]])] }

def fn_absent : Fn := { name := "", np := 0, nl := 0, names := [], body := [] }

def prog : Pr := {
  fns := [fn_weight, fn_l_cell_at, fn_l_whole, fn_l_sign_by, fn_l_text_by, fn_l_size_by, fn_law],
  cls := [],
  attrs := ["kept", "many", "known", "greatest", "width", "reach", "stock", "rows", "last"],
  methNames := ["need", "has", "free", "count", "piece", "numbers", "need_name", "need_version", "look", "many_versions", "put", "keep", "drop", "change", "joined", "text", "row", "versions", "names", "pieces", "needed", "signs", "altered"] }

/-- the law 01 -/
abbrev law01 : Nat := 6
end Mine

/-! Plain lemmas on the abstract interpreter: equations that simp can run (typed by hand). -/
set_option Elab.async false
namespace Mine.PL

def fin : OutS → Out AV
  | .next h _ => .ok .none h
  | .ret v h => .ok v h
  | .exc c h _ => .exc c h
  | .fail => .fail
def bindS (o : Out AV) (vs : Vs) (k : AV → Hp → OutS) : OutS := match o with
  | .ok v h => k v h
  | .exc c h => .exc c h vs
  | .fail => .fail
def seqS (o : OutS) (k : Hp → Vs → OutS) : OutS := match o with
  | .next h vs => k h vs
  | .ret v h => .ret v h
  | .exc c h vs => .exc c h vs
  | .fail => .fail
def pickS (t : Option Bool) (a b : Unit → OutS) : OutS := match t with
  | some true => a ()
  | some false => b ()
  | none => .fail
def pickO {α : Type} (t : Option Bool) (a b : Unit → Out α) : Out α := match t with
  | some true => a ()
  | some false => b ()
  | none => .fail
def look (o : Option (Option AV)) (h : Hp) : Out AV := match o with
  | some (some v) => .ok v h
  | _ => .fail
def giveO (o : Option AV) (h : Hp) : Out AV := match o with
  | some v => .ok v h
  | none => .fail
def boolO (o : Option Bool) (h : Hp) : Out AV := match o with
  | some b => .ok (.bool b) h
  | none => .fail
/-- one turn of a loop -/
def turn (C : Cx) (x : Nat) (body : List MS) (v : AV) (st : Hp × Vs) : It (Hp × Vs) OutS := match exs C body st.1 (st.2.set x (some v)) with
  | .next h vs => .go (h, vs)
  | o => .stop o
def ended : It (Hp × Vs) OutS → OutS
  | .go st => .next st.1 st.2
  | .stop o => o
def loopS (src : Option Src) (f : AV → Hp × Vs → It (Hp × Vs) OutS) (st : Hp × Vs) : OutS := match src with
  | some src => ended (iter src OutS.fail f st)
  | none => .fail


@[simp] theorem bind_ok {α β : Type} (a : α) (h : Hp) (f : α → Hp → Out β) : (Out.ok a h).bind f = f a h := rfl
@[simp] theorem bind_exc {α β : Type} (c : Nat) (h : Hp) (f : α → Hp → Out β) : (Out.exc c h).bind f = .exc c h := rfl
@[simp] theorem bindS_ok (v : AV) (h : Hp) (vs : Vs) (k : AV → Hp → OutS) : bindS (.ok v h) vs k = k v h := rfl
@[simp] theorem bindS_exc (c : Nat) (h : Hp) (vs : Vs) (k : AV → Hp → OutS) : bindS (.exc c h) vs k = .exc c h vs := rfl
@[simp] theorem seqS_next (h : Hp) (vs : Vs) (k : Hp → Vs → OutS) : seqS (.next h vs) k = k h vs := rfl
@[simp] theorem seqS_ret (h : Hp) (v : AV) (k : Hp → Vs → OutS) : seqS (.ret v h) k = .ret v h := rfl
@[simp] theorem seqS_exc (c : Nat) (h : Hp) (vs : Vs) (k : Hp → Vs → OutS) : seqS (.exc c h vs) k = .exc c h vs := rfl
@[simp] theorem pickS_true (a b : Unit → OutS) : pickS (some true) a b = a () := rfl
@[simp] theorem pickS_false (a b : Unit → OutS) : pickS (some false) a b = b () := rfl
@[simp] theorem pickO_true {α : Type} (a b : Unit → Out α) : pickO (some true) a b = a () := rfl
@[simp] theorem pickO_false {α : Type} (a b : Unit → Out α) : pickO (some false) a b = b () := rfl
@[simp] theorem look_some (v : AV) (h : Hp) : look (some (some v)) h = .ok v h := rfl
@[simp] theorem giveO_some (v : AV) (h : Hp) : giveO (some v) h = .ok v h := rfl
@[simp] theorem boolO_some (b : Bool) (h : Hp) : boolO (some b) h = .ok (.bool b) h := rfl
@[simp] theorem fin_ret (v : AV) (h : Hp) : fin (.ret v h) = .ok v h := rfl
@[simp] theorem fin_next (vs : Vs) (h : Hp) : fin (.next h vs) = .ok .none h := rfl
@[simp] theorem fin_exc (c : Nat) (vs : Vs) (h : Hp) : fin (.exc c h vs) = .exc c h := rfl

theorem callF_def {P : Pr} {n : Nat} {hd : Bool} {f : Nat} {args : List AV} {h : Hp} {fn : Fn} (e : P.fns[f]? = some fn) (l : args.length = fn.np) (b : fn.body.isEmpty = false) :
    callF P (n + 1) hd f args h = fin (exs ⟨P, hd, callF P n hd⟩ fn.body h (args.map some ++ List.replicate (fn.names.length - fn.np) none)) := by
  simp only [callF, e, l, b, and_self, if_true]
  cases exs ⟨P, hd, callF P n hd⟩ fn.body h (args.map some ++ List.replicate (fn.names.length - fn.np) none) <;> rfl

section
variable {C : Cx} {h : Hp} {vs : Vs}
@[simp] theorem ev_none : ev C .none h vs = .ok .none h := rfl
@[simp] theorem ev_bool (b : Bool) : ev C (.bool b) h vs = .ok (.bool b) h := rfl
@[simp] theorem ev_int (i : Int) : ev C (.int i) h vs = .ok (.int i) h := rfl
@[simp] theorem ev_str (s : List Nat) : ev C (.str s) h vs = .ok (.str s) h := rfl
@[simp] theorem ev_var (x : Nat) : ev C (.var x) h vs = look (vs[x]?) h := by
  simp only [ev]; rcases vs[x]? with _ | _ | v <;> rfl
@[simp] theorem ev_bin (op : BOp) (a b : ME) : ev C (.bin op a b) h vs = (ev C a h vs).bind fun x h => (ev C b h vs).bind fun y h => binA op x y h := rfl
@[simp] theorem ev_not (e : ME) : ev C (.not e) h vs = (ev C e h vs).bind fun x h => boolO ((truth h x).map (!·)) h := by
  simp only [ev]; first | done | rfl | (congr 1; funext x h; cases truth h x <;> rfl)
@[simp] theorem ev_and (es : List ME) : ev C (.and es) h vs = evAnd C es h vs := rfl
@[simp] theorem ev_or (es : List ME) : ev C (.or es) h vs = evOr C es h vs := rfl
@[simp] theorem evAnd_one (e : ME) : evAnd C [e] h vs = ev C e h vs := rfl
@[simp] theorem evAnd_cons (e e' : ME) (r : List ME) : evAnd C (e :: e' :: r) h vs = (ev C e h vs).bind fun x h => pickO (truth h x) (fun _ => evAnd C (e' :: r) h vs) (fun _ => .ok x h) := by
  simp only [evAnd]; first | done | rfl | (congr 1; funext x h; rcases truth h x with _ | _ | _ <;> rfl)
@[simp] theorem evOr_one (e : ME) : evOr C [e] h vs = ev C e h vs := rfl
@[simp] theorem evOr_cons (e e' : ME) (r : List ME) : evOr C (e :: e' :: r) h vs = (ev C e h vs).bind fun x h => pickO (truth h x) (fun _ => .ok x h) (fun _ => evOr C (e' :: r) h vs) := by
  simp only [evOr]; first | done | rfl | (congr 1; funext x h; rcases truth h x with _ | _ | _ <;> rfl)
@[simp] theorem ev_cmp1 (l : ME) (op : COp) (r : ME) : ev C (.cmp l [op] [r]) h vs = (ev C l h vs).bind fun x h => (ev C r h vs).bind fun y h => boolO (cmpA op x y h) h := by
  simp only [ev, evCmp]; first | done | rfl | (congr 1; funext x h; congr 1; funext y h; cases cmpA op x y h <;> rfl)
@[simp] theorem ev_tup (es : List ME) : ev C (.tup es) h vs = (evs C es h vs).bind fun xs h => .ok (.tup xs) h := rfl
@[simp] theorem ev_list (es : List ME) : ev C (.list es) h vs = (evs C es h vs).bind fun xs h => newList xs h := rfl
@[simp] theorem evs_nil : evs C [] h vs = .ok [] h := rfl
@[simp] theorem evs_cons (e : ME) (r : List ME) : evs C (e :: r) h vs = (ev C e h vs).bind fun x h => (evs C r h vs).bind fun xs h => .ok (x :: xs) h := rfl
@[simp] theorem ev_idx (o i : ME) : ev C (.idx o i) h vs = (ev C o h vs).bind fun x h => (ev C i h vs).bind fun y h => giveO (idxA x y h) h := by
  simp only [ev]; first | done | rfl | (congr 1; funext x h; congr 1; funext y h; cases idxA x y h <;> rfl)
@[simp] theorem ev_slice (o lo hi : ME) : ev C (.slice o lo hi) h vs = (ev C o h vs).bind fun x h => (ev C lo h vs).bind fun a h => (ev C hi h vs).bind fun b h => sliceA x a b h := rfl
@[simp] theorem ev_call (f : Nat) (args : List ME) : ev C (.call f args) h vs = (evs C args h vs).bind fun xs h => C.call f xs h := rfl
@[simp] theorem ev_bi (b : Bi) (args : List ME) : ev C (.bi b args) h vs = (evs C args h vs).bind fun xs h => biA b xs h := rfl
@[simp] theorem ev_bm (m : Bm) (o : ME) (args : List ME) : ev C (.bm m o args) h vs = (ev C o h vs).bind fun x h => (evs C args h vs).bind fun xs h => bmA m x xs h := rfl
@[simp] theorem ev_inst (e : ME) (k : Kd) : ev C (.inst e k) h vs = (ev C e h vs).bind fun x h => boolO (instA C.P h x k) h := by
  simp only [ev]; first | done | rfl | (congr 1; funext x h; cases instA C.P h x k <;> rfl)

@[simp] theorem exs_nil : exs C [] h vs = .next h vs := rfl
@[simp] theorem exs_cons (s : MS) (r : List MS) : exs C (s :: r) h vs = seqS (ex C s h vs) fun h vs => exs C r h vs := by
  simp only [exs]; cases ex C s h vs <;> rfl
theorem exs_append (a b : List MS) : ∀ {h : Hp} {vs : Vs}, exs C (a ++ b) h vs = seqS (exs C a h vs) fun h vs => exs C b h vs := by
  induction a with
  | nil => intro h vs; rfl
  | cons s r ih =>
    intro h vs
    rw [List.cons_append, exs_cons, exs_cons]
    cases ex C s h vs <;> simp only [seqS]
    exact ih
theorem exs_split (k : Nat) (l : List MS) : exs C l h vs = seqS (exs C (l.take k) h vs) fun h vs => exs C (l.drop k) h vs := by
  rw [← exs_append, List.take_append_drop]
@[simp] theorem ex_set (x : Nat) (e : ME) : ex C (.set x e) h vs = bindS (ev C e h vs) vs fun v h => .next h (vs.set x (some v)) := by
  simp only [ex]; cases ev C e h vs <;> rfl
@[simp] theorem ex_expr (e : ME) : ex C (.expr e) h vs = bindS (ev C e h vs) vs fun _ h => .next h vs := by
  simp only [ex]; cases ev C e h vs <;> rfl
@[simp] theorem ex_ret (e : ME) : ex C (.ret e) h vs = bindS (ev C e h vs) vs fun v h => .ret v h := by
  simp only [ex]; cases ev C e h vs <;> rfl
@[simp] theorem ex_ifs (t : ME) (a b : List MS) : ex C (.ifs t a b) h vs = bindS (ev C t h vs) vs fun v h => pickS (truth h v) (fun _ => exs C a h vs) (fun _ => exs C b h vs) := by
  simp only [ex]
  cases ev C t h vs with
  | ok v h => simp only [bindS]; rcases truth h v with _ | _ | _ <;> rfl
  | _ => rfl
@[simp] theorem ex_loop (x : Nat) (src : ME) (body : List MS) : ex C (.loop x src body) h vs = bindS (ev C src h vs) vs fun s h => loopS (srcA h s) (turn C x body) (h, vs) := by
  simp only [ex]
  cases ev C src h vs with
  | ok v h' =>
    simp only [bindS]
    cases srcA h' v with
    | none => rfl
    | some src =>
      show (match iter src OutS.fail (turn C x body) (h', vs) with | It.go st => OutS.next st.fst st.snd | It.stop o => o) = ended (iter src OutS.fail (turn C x body) (h', vs))
      cases iter src OutS.fail (turn C x body) (h', vs) <;> rfl
  | _ => rfl
@[simp] theorem ex_pass : ex C .pass h vs = .next h vs := rfl

theorem turn_next {x : Nat} {body : List MS} {v : AV} {h' : Hp} {vs' : Vs} (e : exs C body h (vs.set x (some v)) = .next h' vs') : turn C x body v (h, vs) = .go (h', vs') := by
  simp only [turn, e]
theorem loopS_go {l : List AV} {f : AV → Hp × Vs → It (Hp × Vs) OutS} {st : Hp × Vs} (e : iterL f l (h, vs) = .go st) : loopS (some (.fixed l)) f (h, vs) = .next st.1 st.2 := by
  simp only [loopS, iter, e]; rfl
end

section
variable (h : Hp)
@[simp] theorem add_int (a b : Int) : binA .add (.int a) (.int b) h = .ok (.int (a + b)) h := rfl
@[simp] theorem sub_int (a b : Int) : binA .sub (.int a) (.int b) h = .ok (.int (a - b)) h := rfl
@[simp] theorem mul_small (a b : Int) (q : b.natAbs < 18446744073709551616 ∨ a.natAbs < 18446744073709551616) : binA .mul (.int a) (.int b) h = .ok (.int (a * b)) h := by
  have : (small a || small b) = true := by unfold small; rcases q with q | q <;> simp [q]
  simp only [binA, this, if_true]
@[simp] theorem mod_int (a b : Int) (q : 0 < b) : binA .mod (.int a) (.int b) h = .ok (.int (a % b)) h := by simp [binA, q]
@[simp] theorem div_int (a b : Int) (q : 0 < b) (q' : b < 18446744073709551616) : binA .div (.int a) (.int b) h = .ok (.int (a / b)) h := by simp [binA, q, q']
@[simp] theorem add_str (a b : List Nat) (q : a.length + b.length ≤ lim) : binA .add (.str a) (.str b) h = .ok (.str (a ++ b)) h := by simp [binA, q]
@[simp] theorem mul_str (a : List Nat) (b : Int) (q : -lim ≤ b) (q1 : b ≤ lim) (q2 : a.length * b.toNat ≤ lim) : binA .mul (.str a) (.int b) h = .ok (.str (rep b.toNat a)) h := by simp [binA, q, q1, q2]
@[simp] theorem eq_int (a b : Int) : cmpA .eq (.int a) (.int b) h = some (decide (a = b)) := rfl
@[simp] theorem ne_int (a b : Int) : cmpA .ne (.int a) (.int b) h = some (!decide (a = b)) := rfl
@[simp] theorem lt_int (a b : Int) : cmpA .lt (.int a) (.int b) h = some (decide (a < b)) := rfl
@[simp] theorem le_int (a b : Int) : cmpA .le (.int a) (.int b) h = some (decide (a ≤ b)) := rfl
@[simp] theorem gt_int (a b : Int) : cmpA .gt (.int a) (.int b) h = some (decide (a > b)) := rfl
@[simp] theorem ge_int (a b : Int) : cmpA .ge (.int a) (.int b) h = some (decide (a ≥ b)) := rfl
@[simp] theorem eq_str (a b : List Nat) : cmpA .eq (.str a) (.str b) h = some (decide (a = b)) := by
  show some (a == b) = _; by_cases q : a = b <;> simp [q]
@[simp] theorem truth_bool (b : Bool) : truth h (.bool b) = some b := rfl
@[simp] theorem truth_int (i : Int) : truth h (.int i) = some (decide (i ≠ 0)) := rfl
@[simp] theorem truth_str (s : List Nat) : truth h (.str s) = some (!s.isEmpty) := rfl
@[simp] theorem newList_eq (xs : List AV) (q : xs.length ≤ lim) : newList xs h = .ok (.ref h.length) (h ++ [.list xs]) := by simp [newList, q]
@[simp] theorem len_str (s : List Nat) : biA .len [.str s] h = .ok (.int s.length) h := rfl
@[simp] theorem len_scr (s : List Int) : biA .len [.scr s] h = .ok (.int s.length) h := rfl
@[simp] theorem ord_str (c : Nat) : biA .ord [.str [c]] h = .ok (.int c) h := rfl
@[simp] theorem range1 (b : Int) (q : -lim ≤ b) (q1 : b ≤ lim) : biA .range [.int b] h = .ok (.rng 0 b) h := by simp [biA, q, q1]
@[simp] theorem min2 (a b : Int) : biA .min [.int a, .int b] h = .ok (.int (if b < a then b else a)) h := rfl
@[simp] theorem inst_int (P : Pr) (i : Int) : instA P h (.int i) .int = some true := rfl
@[simp] theorem inst_int_bool (P : Pr) (i : Int) : instA P h (.int i) .bool = some false := rfl
@[simp] theorem src_rng (a b : Int) : srcA h (.rng a b) = some (.fixed (ups a (b - a).toNat)) := rfl
@[simp] theorem src_str (s : List Nat) : srcA h (.str s) = some (.fixed (s.map fun c => .str [c])) := rfl
theorem place_at {n k : Nat} (q : k < n) : place n (k : Int) = some k := by simp [place, q]
theorem idx_str {s : List Nat} {i : Int} {k c : Nat} (e : place s.length i = some k) (q : s[k]? = some c) : idxA (.str s) (.int i) h = some (.str [c]) := by simp [idxA, e, q]
theorem idx_scr {s : List Int} {i : Int} {k : Nat} {c : Int} (e : place s.length i = some k) (q : s[k]? = some c) : idxA (.scr s) (.int i) h = some (.int c) := by simp [idxA, e, q]
theorem idx_list {l : Nat} {xs : List AV} {i : Int} {k : Nat} {c : AV} (e : h[l]? = some (.list xs)) (e1 : place xs.length i = some k) (q : xs[k]? = some c) : idxA (.ref l) (.int i) h = some c := by simp [idxA, e, e1, q]
end

/-- a loop over a fixed list keeps what every turn keeps -/
theorem iterL_inv {σ ρ : Type} {f : AV → σ → It σ ρ} (J : List AV → σ → Prop) (step : ∀ v r s, J (v :: r) s → ∃ s', f v s = .go s' ∧ J r s') : ∀ (l : List AV) (s : σ), J l s → ∃ s', iterL f l s = .go s' ∧ J [] s'
  | [], s, j => ⟨s, rfl, j⟩
  | v :: r, s, j => by
    obtain ⟨s', e, j'⟩ := step v r s j
    obtain ⟨s'', e', j''⟩ := iterL_inv J step r s' j'
    exact ⟨s'', by rw [iterL, e]; exact e', j''⟩
/-- a loop over a range -/
theorem ups_inv {σ ρ : Type} {f : AV → σ → It σ ρ} (J : Nat → σ → Prop) (a : Int) (n : Nat) (step : ∀ (i : Nat) s, i < n → J i s → ∃ s', f (.int (a + i)) s = .go s' ∧ J (i + 1) s') : ∀ (m k : Nat) (s : σ), k + m = n → J k s → ∃ s', iterL f (ups (a + k) m) s = .go s' ∧ J n s'
  | 0, k, s, e, j => ⟨s, rfl, by rw [← e]; exact j⟩
  | m + 1, k, s, e, j => by
    obtain ⟨s', q, j'⟩ := step k s (by omega) j
    obtain ⟨s'', q', j''⟩ := ups_inv J a n step m (k + 1) s' (by omega) j'
    refine ⟨s'', ?_, j''⟩
    rw [ups, iterL, q]
    have : a + (k : Int) + 1 = a + ((k + 1 : Nat) : Int) := by omega
    rw [this]; exact q'
theorem range_inv {σ ρ : Type} {f : AV → σ → It σ ρ} (J : Nat → σ → Prop) (n : Nat) {s : σ} (j : J 0 s) (step : ∀ (i : Nat) s, i < n → J i s → ∃ s', f (.int i) s = .go s' ∧ J (i + 1) s') : ∃ s', iterL f (ups 0 n) s = .go s' ∧ J n s' := by
  have := ups_inv J 0 n (fun i s hi hj => by rw [Int.zero_add]; exact step i s hi hj) n 0 s (by omega) j
  simpa using this
end Mine.PL

set_option Elab.async false
namespace Mine.PL

def cellAt (ns : List Int) (k : Nat) : Int := (ns[k]?).getD 0
theorem cell_at {P : Pr} {n : Nat} {hd : Bool} {h : Hp} (e : P.fns[1]? = some fn_l_cell_at) (ns : List Int) (k : Nat) : callF P (n + 1) hd 1 [.scr ns, .int k] h = .ok (.int (cellAt ns k)) h := by
  rw [callF_def e rfl rfl]
  by_cases q : k < ns.length
  · have h1 : ns[k]? = some (cellAt ns k) := by simp [cellAt, q]
    simp [fn_l_cell_at, q, idx_scr h (place_at q) h1]
  · have : cellAt ns k = 0 := by simp [cellAt, List.getElem?_eq_none (Nat.le_of_not_lt q)]
    simp [fn_l_cell_at, q, this]

def sizeBy (c : Int) : Int := if c % 8 = 7 then c / 8 % 300 else c / 8 % 60
theorem size_by {P : Pr} {n : Nat} {hd : Bool} {h : Hp} (e : P.fns[5]? = some fn_l_size_by) (c : Int) : callF P (n + 1) hd 5 [.int c] h = .ok (.int (sizeBy c)) h := by
  rw [callF_def e rfl rfl]
  by_cases q : c % 8 = 7
  · simp [fn_l_size_by, q, sizeBy]
  · simp [fn_l_size_by, q, sizeBy]
theorem sizeBy_lt (c : Int) : 0 ≤ sizeBy c ∧ sizeBy c < 300 := by
  unfold sizeBy; split <;> omega

def signs : List Nat := [32, 33, 34, 35, 36, 38, 39, 40, 41, 42, 43, 44, 45, 46, 47, 48, 49, 50, 51, 52, 53, 54, 55, 56, 57, 58, 59, 60, 61, 62, 63, 64, 65, 66, 67, 68, 69, 70, 71, 72, 73, 74, 75, 76, 77, 78, 79, 80, 81, 82, 83, 84, 85, 86, 87, 88, 89, 90, 91, 92, 93, 94, 95, 96, 97, 98, 99, 100, 101, 102, 103, 104, 105, 106, 107, 108, 109, 110, 111, 112, 113, 114, 115, 116, 117, 118, 119, 120, 121, 122, 123, 124, 125, 126, 10]
def signBy (c : Int) : Nat := (signs[(c % 95).toNat]?).getD 0
theorem sign_by {P : Pr} {n : Nat} {hd : Bool} {h : Hp} (e : P.fns[3]? = some fn_l_sign_by) (c : Int) : callF P (n + 1) hd 3 [.int c] h = .ok (.str [signBy c]) h := by
  rw [callF_def e rfl rfl]
  have hs : signs.length = 95 := rfl
  have h1 : 0 ≤ c % 95 := by omega
  have h2 : c % 95 < 95 := by omega
  have h3 : (c % 95).toNat < signs.length := by omega
  have h4 : signs[(c % 95).toNat]? = some (signBy c) := by
    unfold signBy; rw [List.getElem?_eq_getElem h3]; rfl
  have h5 : place signs.length (c % 95) = some (c % 95).toNat := by
    unfold place; rw [if_pos h1, if_pos (by omega)]
  have hl : 64 + 31 ≤ lim := by decide
  have key := idx_str h h5 h4
  have hl' : ([32, 33, 34, 35, 36, 38, 39, 40, 41, 42, 43, 44, 45, 46, 47, 48, 49, 50, 51, 52, 53, 54, 55, 56, 57, 58, 59, 60, 61, 62, 63, 64, 65, 66, 67, 68, 69, 70, 71, 72, 73, 74, 75, 76, 77, 78, 79, 80, 81, 82, 83, 84, 85, 86, 87, 88, 89, 90, 91, 92, 93, 94, 95, 96] : List Nat).length + ([97, 98, 99, 100, 101, 102, 103, 104, 105, 106, 107, 108, 109, 110, 111, 112, 113, 114, 115, 116, 117, 118, 119, 120, 121, 122, 123, 124, 125, 126, 10] : List Nat).length ≤ lim := by decide
  have hd : binA .add (.str [32, 33, 34, 35, 36, 38, 39, 40, 41, 42, 43, 44, 45, 46, 47, 48, 49, 50, 51, 52, 53, 54, 55, 56, 57, 58, 59, 60, 61, 62, 63, 64, 65, 66, 67, 68, 69, 70, 71, 72, 73, 74, 75, 76, 77, 78, 79, 80, 81, 82, 83, 84, 85, 86, 87, 88, 89, 90, 91, 92, 93, 94, 95, 96]) (.str [97, 98, 99, 100, 101, 102, 103, 104, 105, 106, 107, 108, 109, 110, 111, 112, 113, 114, 115, 116, 117, 118, 119, 120, 121, 122, 123, 124, 125, 126, 10]) h = .ok (.str signs) h := add_str h _ _ hl'
  simp [fn_l_sign_by, hd, key, -add_str]

theorem signBy_lt (c : Int) : signBy c < 128 := by
  have : ∀ k < 95, (signs[k]?).getD 0 < 128 := by decide
  exact this _ (by omega)

def weigh (f : Int) : List Nat → Int
  | [] => f
  | c :: r => weigh ((f * 131 + c) % 65521) r
theorem weight_is {P : Pr} {n : Nat} {hd : Bool} {h : Hp} (e : P.fns[0]? = some fn_weight) (s : List Nat) : callF P (n + 1) hd 0 [.str s] h = .ok (.int (weigh 7 s)) h := by
  rw [callF_def e rfl rfl]
  have key : ∀ (t : List Nat) (f : Int) (x : Option AV), ∃ y, iterL (turn ⟨P, hd, callF P n hd⟩ 2 [.set 1 (.bin .mod (.bin .add (.bin .mul (.var 1) (.int 131)) (.bi .ord [.var 2])) (.int 65521))]) (t.map fun c => .str [c]) (h, [some (.str s), some (.int f), x]) =
      .go (h, [some (.str s), some (.int (weigh f t)), y]) := by
    intro t
    induction t with
    | nil => intro f x; exact ⟨x, rfl⟩
    | cons c r ih =>
      intro f x
      obtain ⟨y, q⟩ := ih ((f * 131 + c) % 65521) (some (.str [c]))
      refine ⟨y, ?_⟩
      rw [List.map_cons, iterL, turn_next (h' := h) (vs' := [some (.str s), some (.int ((f * 131 + c) % 65521)), some (.str [c])]) (by simp)]
      exact q
  obtain ⟨y, q⟩ := key s 7 none
  simp [fn_weight, loopS_go q]

theorem whole_is {P : Pr} {n : Nat} {hd : Bool} {h : Hp} (e : P.fns[2]? = some fn_l_whole) (i : Int) : callF P (n + 1) hd 2 [.int i] h = .ok (.bool true) h := by
  rw [callF_def e rfl rfl]
  simp [fn_l_whole]

/-! ### the text -/
theorem rep_length (n : Nat) (s : List Nat) : (rep n s).length = n * s.length := by
  induction n with
  | zero => simp [rep]
  | succ n ih => simp [rep, ih, Nat.succ_mul]; omega
theorem rep_mem {n : Nat} {s : List Nat} {c : Nat} (h : c ∈ rep n s) : c ∈ s := by
  induction n with
  | zero => simp [rep] at h
  | succ n ih => simp only [rep, List.mem_append] at h; exact h.elim id ih

theorem text_tail {P : Pr} {n : Nat} {hd : Bool} {h : Hp} (e3 : P.fns[3]? = some fn_l_sign_by) (c z g b : Int) (z1 : z < 300) (b0 : 0 < b) (b1 : b ≤ z) (g0 : 0 < g) (g1 : g ≤ 95) :
    ∃ s, exs ⟨P, hd, callF P (n + 1) hd⟩ (fn_l_text_by.body.drop 4) h [some (.int c), some (.int z), some (.int g), some (.int b), none, none, none] = .ret (.str s) h ∧ (∀ x ∈ s, x < 128) ∧ s.length = z.toNat := by
  have hl : (300 : Int) * 300 ≤ lim := by decide
  obtain ⟨k, rfl⟩ : ∃ k : Nat, b = k := ⟨b.toNat, by omega⟩
  obtain ⟨st, q, got, num, y, rfl, j1, j2⟩ := range_inv (f := turn ⟨P, hd, callF P (n + 1) hd⟩ 6 [.set 5 (.bin .mod (.bin .add (.bin .mul (.var 5) (.int 48271)) (.int 11)) (.int 2147483647)),
      .set 4 (.bin .add (.var 4) (.call 3 [.bin .add (.int 65) (.bin .mod (.bin .div (.var 5) (.int 7)) (.var 2))]))])
    (fun i st => ∃ (got : List Nat) (num : Int) (y : Option AV), st = (h, [some (.int c), some (.int z), some (.int g), some (.int (k : Int)), some (.str got), some (.int num), y]) ∧ (∀ x ∈ got, x < 128) ∧ got.length = i) k
    (s := (h, [some (.int c), some (.int z), some (.int g), some (.int (k : Int)), some (.str []), some (.int c), none]))
    ⟨[], c, none, rfl, by simp, rfl⟩ (by
      rintro i _ hi ⟨got, num, y, rfl, j1, j2⟩
      refine ⟨_, turn_next (h' := h) (vs' := [some (.int c), some (.int z), some (.int g), some (.int (k : Int)), some (.str (got ++ [signBy (65 + (num * 48271 + 11) % 2147483647 / 7 % g)])), some (.int ((num * 48271 + 11) % 2147483647)), some (.int i)]) ?_, _, _, _, rfl, ?_, ?_⟩
      · have hq : got.length + 1 ≤ lim := by omega
        simp [g0, sign_by e3, hq]
      · intro x hx
        rcases List.mem_append.mp hx with q | q
        · exact j1 x q
        · rw [List.mem_singleton.mp q]; exact signBy_lt _
      · simp [j2])
  have d0 : 0 ≤ z / (k : Int) := Int.ediv_nonneg (by omega) (by omega)
  have d1 : z / (k : Int) ≤ z := Int.ediv_le_self _ (by omega)
  have d2 : z < (k : Int) * (z / (k : Int) + 1) := by
    have := Int.lt_mul_ediv_self_add (x := z) (k := (k : Int)) (by omega)
    rw [Int.mul_add]; omega
  have d4 : got.length * (z / (k : Int) + 1).toNat ≤ lim := by
    have : got.length * (z / (k : Int) + 1).toNat ≤ 300 * 300 := Nat.mul_le_mul (by omega) (by omega)
    have : 300 * 300 ≤ lim := by decide
    omega
  have d5 : z.toNat ≤ (rep (z / (k : Int) + 1).toNat got).length := by
    rw [rep_length, j2]
    have : (((z / (k : Int) + 1).toNat * k : Nat) : Int) = (k : Int) * (z / (k : Int) + 1) := by
      rw [Int.natCast_mul, Int.toNat_of_nonneg (by omega), Int.mul_comm]
    omega
  have hm := mul_str h got (z / (k : Int) + 1) (by omega) (by omega) d4
  refine ⟨(rep (z / (k : Int) + 1).toNat got).take z.toNat, ?_, fun x hx => j1 x (rep_mem (List.mem_of_mem_take hx)), by rw [List.length_take]; omega⟩
  have hsl : sliceA (.str (rep (z / (k : Int) + 1).toNat got)) .none (.int z) h = .ok (.str ((rep (z / (k : Int) + 1).toNat got).take z.toNat)) h := by
    simp only [sliceA, bound, cut]
    rw [if_pos (by omega), Nat.min_eq_left d5]; simp
  have r1 : -(lim : Int) ≤ (k : Int) := by omega
  have r2 : (k : Int) ≤ lim := by omega
  have r3 : 0 < (k : Int) := by omega
  have r4 : (k : Int) < 18446744073709551616 := by omega
  have hdv := div_int h z k r3 r4
  simp [fn_l_text_by, loopS_go q, hm, hsl, r1, r2, hdv, -mul_str, -div_int]

theorem text_by {P : Pr} {n : Nat} {hd : Bool} {h : Hp} (e3 : P.fns[3]? = some fn_l_sign_by) (e4 : P.fns[4]? = some fn_l_text_by) (c z : Int) (z0 : 0 ≤ z) (z1 : z < 300) :
    ∃ s, callF P (n + 2) hd 4 [.int c, .int z] h = .ok (.str s) (h ++ [.list [.int 2, .int 95, .int 95, .int 1]]) ∧ (∀ x ∈ s, x < 128) ∧ s.length = z.toNat := by
  rw [callF_def e4 rfl rfl]
  obtain ⟨g, hg0, hg1, hg⟩ : ∃ g : Int, 0 < g ∧ g ≤ 95 ∧ idxA (.ref h.length) (.int (c % 4)) (h ++ [.list [.int 2, .int 95, .int 95, .int 1]]) = some (.int g) := by
    have q : c % 4 = ((c % 4).toNat : Int) := by omega
    have q1 : (c % 4).toNat < 4 := by omega
    rw [q]
    generalize (c % 4).toNat = k at q1
    have : ∀ j : Nat, j < 4 → ∃ g : Int, 0 < g ∧ g ≤ 95 ∧ ([.int 2, .int 95, .int 95, .int 1] : List AV)[j]? = some (.int g) := by
      intro j hj
      match j, hj with
      | 0, _ => exact ⟨2, by decide, by decide, rfl⟩
      | 1, _ => exact ⟨95, by decide, by decide, rfl⟩
      | 2, _ => exact ⟨95, by decide, by decide, rfl⟩
      | 3, _ => exact ⟨1, by decide, by decide, rfl⟩
    obtain ⟨g, g0, g1, e⟩ := this k q1
    exact ⟨g, g0, g1, idx_list (xs := [.int 2, .int 95, .int 95, .int 1]) _ (by simp) (place_at (n := 4) q1) e⟩
  have hl : 4 ≤ lim := by decide
  rw [exs_split 3]
  obtain ⟨b, b0, b1, b2, hb⟩ : ∃ b : Int, 0 ≤ b ∧ b ≤ z ∧ (b = 0 → z = 0) ∧ exs ⟨P, hd, callF P (n + 1) hd⟩ (fn_l_text_by.body.take 3) h ([AV.int c, AV.int z].map some ++ List.replicate (fn_l_text_by.names.length - fn_l_text_by.np) none) =
      .next (h ++ [.list [.int 2, .int 95, .int 95, .int 1]]) [some (.int c), some (.int z), some (.int g), some (.int b), none, none, none] := by
    by_cases q : c % 4 = 2
    · refine ⟨if 1 + c / 4 % 50 < z then 1 + c / 4 % 50 else z, by split <;> omega, by split <;> omega, by split <;> omega, ?_⟩
      rw [q] at hg
      simp [fn_l_text_by, hg, q, hl]
    · refine ⟨z, z0, by omega, fun e => e, ?_⟩
      simp [fn_l_text_by, hg, q, hl]
  rw [hb, seqS_next]
  by_cases q : b = 0
  · refine ⟨[], ?_, by simp, by rw [b2 q]; rfl⟩
    simp [fn_l_text_by, q]
  · obtain ⟨s, e, h1, h2⟩ := text_tail (n := n) (hd := hd) (h := h ++ [.list [.int 2, .int 95, .int 95, .int 1]]) e3 c z g b z1 (by omega) b1 hg0 hg1
    refine ⟨s, ?_, h1, h2⟩
    have : fn_l_text_by.body.drop 3 = (.ifs (.cmp (.var 3) [.eq] [.int 0]) [.ret (.str [])] []) :: fn_l_text_by.body.drop 4 := rfl
    rw [this, exs_cons]
    have : ex ⟨P, hd, callF P (n + 1) hd⟩ (.ifs (.cmp (.var 3) [.eq] [.int 0]) [.ret (.str [])] []) (h ++ [.list [.int 2, .int 95, .int 95, .int 1]]) [some (.int c), some (.int z), some (.int g), some (.int b), none, none, none] =
      .next (h ++ [.list [.int 2, .int 95, .int 95, .int 1]]) [some (.int c), some (.int z), some (.int g), some (.int b), none, none, none] := by simp [q]
    rw [this, seqS_next, e, fin_ret]

/-! ### the law -/
def powMod (n : Nat) : Int := match n with
  | 0 => 1
  | n + 1 => powMod n * 131 % 65521
/-- what the loop from behind adds up -/
def total (s : List Nat) (i : Nat) : Int := match i with
  | 0 => 0
  | i + 1 => (total s i + ((s[s.length - 1 - i]?).getD 0 : Nat) * powMod i) % 65521
theorem mod_in (t x p : Int) : (t + x % 65521 * p) % 65521 = (t + x * p) % 65521 := by
  rw [Int.emod_def x 65521]
  have : t + (x - 65521 * (x / 65521)) * p = t + x * p + 65521 * (-(x / 65521) * p) := by grind
  rw [this, Int.add_mul_emod_self_left]
theorem total_cons (c : Nat) (r : List Nat) : ∀ i, i ≤ r.length → total (c :: r) i = total r i
  | 0, _ => rfl
  | i + 1, h => by
    rw [total, total, total_cons c r i (by omega)]
    have : (c :: r).length - 1 - i = (r.length - 1 - i) + 1 := by simp only [List.length_cons]; omega
    rw [this, List.getElem?_cons_succ]
theorem weigh_is (f : Int) (s : List Nat) : weigh f s % 65521 = (total s s.length + f * powMod s.length) % 65521 := by
  induction s generalizing f with
  | nil => simp [weigh, total, powMod]
  | cons c r ih =>
    rw [weigh, ih, mod_in, List.length_cons, total, powMod, total_cons c r _ (Nat.le_refl _)]
    have : (c :: r).length - 1 - r.length = 0 := by simp
    rw [this]
    simp only [List.getElem?_cons_zero, Option.getD_some]
    rw [Int.emod_add_emod, show f * (powMod r.length * 131 % 65521) = powMod r.length * 131 % 65521 * f from Int.mul_comm _ _, mod_in]
    congr 1
    grind
theorem weigh_range {f : Int} (h : 0 ≤ f ∧ f < 65521) (s : List Nat) : 0 ≤ weigh f s ∧ weigh f s < 65521 := by
  induction s generalizing f with
  | nil => exact h
  | cons c r ih => exact ih ⟨Int.emod_nonneg _ (by decide), Int.emod_lt_of_pos _ (by decide)⟩
theorem powMod_range (n : Nat) : 0 ≤ powMod n ∧ powMod n < 65521 := by
  cases n with
  | zero => exact ⟨by decide, by decide⟩
  | succ n => exact ⟨Int.emod_nonneg _ (by decide), Int.emod_lt_of_pos _ (by decide)⟩

theorem plain01 (ns : List Int) : ∃ hp, callF prog 3 false law01 [.scr ns] [] = .ok (.bool true) hp := by
  have z := sizeBy_lt (cellAt ns 1)
  obtain ⟨s, es, _, hs⟩ := text_by (P := prog) (n := 0) (hd := false) (h := []) rfl rfl (cellAt ns 0) (sizeBy (cellAt ns 1)) z.1 z.2
  have hsl : s.length < 300 := by omega
  refine ⟨[.list [.int 2, .int 95, .int 95, .int 1]], ?_⟩
  rw [callF_def (fn := fn_law) rfl rfl rfl]
  obtain ⟨st, q, y, rfl⟩ := range_inv (f := turn ⟨prog, false, callF prog 2 false⟩ 4 [.set 3 (.bin .mod (.bin .add (.var 3) (.bin .mul (.bi .ord [.idx (.var 1) (.bin .sub (.bin .sub (.bi .len [.var 1]) (.int 1)) (.var 4))]) (.var 2))) (.int 65521)),
      .set 2 (.bin .mod (.bin .mul (.var 2) (.int 131)) (.int 65521))])
    (fun i st => ∃ (y : Option AV), st = ([.list [.int 2, .int 95, .int 95, .int 1]], [some (.scr ns), some (.str s), some (.int (powMod i)), some (.int (total s i)), y, none])) s.length
    (s := ([.list [.int 2, .int 95, .int 95, .int 1]], [some (.scr ns), some (.str s), some (.int 1), some (.int 0), none, none])) ⟨none, rfl⟩ (by
      rintro i _ hi ⟨y, rfl⟩
      refine ⟨_, turn_next (h' := [.list [.int 2, .int 95, .int 95, .int 1]]) (vs' := [some (.scr ns), some (.str s), some (.int (powMod (i + 1))), some (.int (total s (i + 1))), some (.int i), none]) ?_, _, rfl⟩
      have h1 : place s.length ((s.length : Int) - 1 - (i : Int)) = some (s.length - 1 - i) := by
        have : (s.length : Int) - 1 - (i : Int) = ((s.length - 1 - i : Nat) : Int) := by omega
        rw [this]; exact place_at (by omega)
      have h2 : s[s.length - 1 - i]? = some ((s[s.length - 1 - i]?).getD 0) := by
        rw [List.getElem?_eq_getElem (by omega)]; rfl
      have h3 := fun h => idx_str h h1 h2
      have h4 := fun h => mul_small h (((s[s.length - 1 - i]?).getD 0 : Nat) : Int) (powMod i) (.inl (by have := powMod_range i; omega))
      simp [h3, h4, -mul_small, mul_small _ (powMod i) 131 (.inl (by decide)), powMod, total])
  have c0 := cell_at (P := prog) (n := 1) (hd := false) (h := []) rfl ns 0
  have c1 := cell_at (P := prog) (n := 1) (hd := false) (h := []) rfl ns 1
  have sz := size_by (P := prog) (n := 1) (hd := false) (h := []) rfl (cellAt ns 1)
  have w := weight_is (P := prog) (n := 1) (hd := false) (h := [.list [.int 2, .int 95, .int 95, .int 1]]) rfl s
  have wh := whole_is (P := prog) (n := 1) (hd := false) (h := [.list [.int 2, .int 95, .int 95, .int 1]]) rfl (weigh 7 s)
  have fin : weigh 7 s = (total s s.length + 7 * powMod s.length) % 65521 := by
    have h1 := weigh_is 7 s
    have h2 := weigh_range (f := 7) (by decide) s
    rw [← h1]; omega
  have hl : 300 ≤ lim := by decide
  have r1 : -(lim : Int) ≤ (s.length : Int) := by omega
  have r2 : s.length ≤ lim := by omega
  simp only [Nat.reduceAdd, Int.cast_ofNat_Int] at c0 c1 sz w wh es
  simp [fn_law, c0, c1, sz, es, w, wh, loopS_go q, r1, r2, fin.symm]
end Mine.PL

open PySem PySem.W PyProof.Rows
set_option Elab.async false
set_option maxRecDepth 100000
set_option maxHeartbeats 8000000
open_top Mine.hd01 for PySem.Challenge.rw_uf020013_01
theorem PySem.Challenge.cw_uf020013_01_holds : PySem.Challenge.rw_uf020013_01.Holds :=
  Mine.hd01 (by
  k_fill
  intro w s₀ s₁ mg mb G Y fa o pm cd doc dV kV ho hd hcd hD hmg hg args vals as hpre hlay hrd hwl hlo
  have KX := kIn_of Y
  refine Ground.open G ?_
  intro T B D TE TW
  wrow_args hpre hlay hrd hwl hlo
  rename_i hL hra hw1 hr0 hI hra2 hc1 hc2
  obtain ⟨hp, hc⟩ := Mine.PL.plain01 _
  refine Mine.law_call (P := Mine.prog) (lw := Mine.law01) (n := 3) (hp := hp) KX (topRead_of T) ?hf hmg ?hl hL hI ?hn (by decide) hc ?hR
  case hf => kernel_rfl
  case hl => kernel_rfl
  case hn => show _ ≤ 16777216; omega
  case hR =>
    intro s' hk hos hgs
    refine' GoodW.toG ⟨.inl ⟨_, _, _, rfl, raisesW_false (by wrow_none_raised), .bool true, postW_of ?hsh ?hva ?hen, unshared_nil⟩, hk, hos, hgs.trans hg⟩
    case hsh => o_shape
    case hva => wtm_val
    case hen => w_fin)
