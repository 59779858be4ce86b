import PyProof.Rows.All
import Wide.All
import OpenK.AllK
import Wide.FinOn
import PyProof.P3Statements
import PyProof.StrBlock
import PyProof.CompFree
import PyProof.DefCall
import PyProof.StationsW
import PyProof.Rows.News
import OpenK.Peek
import PyProof.EqKinds
import PyProof.DictKinds
import PyProof.TupleKey
import PyProof.DictRoadsH
import KE.KIsNot
import OpenK.KOwn
import OpenK.KLine
import PyProof.Rules3
import PyProof.Cells
import PyProof.PureInt
import PyProof.ListOps
import PyProof.StrBlock2
import PyProof.NoPylong
import PyProof.Rows.RuleB_floordiv
import PyProof.Rows.IntRules
import PyProof.DictCalls
import PyProof.DictIter
import PyProof.DictTable
import PyProof.MeetsDictList
import PyProof.DictStraight
import PyProof.DictTruth
import PyProof.EqLayable
import PyProof.P3In
import PyProof.FString5
import PyProof.Truth
import PyProof.ListTruth
import PyProof.Rows.Nodes
import PyProof.Rows.TupMore
import PyProof.Rows.Lst
import PyProof.Rows.StrInSeq3
import PyProof.SliceMore
import PyProof.SliceStr2
import PyProof.SliceSyntax
import PyProof.LetGo
import PyProof.ListIndexNeg
import PyProof.TupleIter
import PyProof.Rows.TupSub
import PyProof.Rows.StrTemp
import PyProof.Rows.FactsTup
import PyProof.Rows.FactsSeq_str
import PyProof.FactsIdx
import PyProof.StrBlockI
import PyProof.SeqI
import OpenK.KWalk
import PyProof.Rows.SortStr
import KE.KDictSum
import PyProof.Rows.SetFrom
import PyProof.Rows.StrInSeq
import PyProof.CollectWalk
import KE.LcSums
import PyProof.TupleOfSeq
import PyProof.Conv_int_bool
import PyProof.IsRules
import PyProof.Rows.Chain
import PyProof.PlainList
import PyProof.CompMap
import PyProof.WalksMore
import PyProof.StrWalks
import PyProof.AssignAttr
import PyProof.RulesAs
import PyProof.CompUse
import Open.Boot
import Open.Tree
import PyProof.TableCode
import PySem.Challenge.RW_uf020013_07
/-! An abstract interpreter for the part of Python that the laws use (typed by hand; not of the kit). -/
set_option Elab.async false
set_option genInjectivity false
set_option genSizeOf false
set_option bootstrap.genMatcherCode false
namespace Mine

set_option genInjectivity true in
/-- a value: textsA are lists of codes, tuples are values, lists, dicts and instances are places in an abstract heap -/
inductive AV where
  | none
  | bool (b : Bool)
  | int (i : Int)
  | str (s : List Nat)
  | tup (xs : List AV)
  | ref (l : Nat)
  | scr (ns : List Int)
  | rng (a b : Int)

set_option genInjectivity true in
/-- an object -/
inductive AO where
  | list (xs : List AV)
  | dict (ep : Option Nat) (es : List (AV × AV))
  | inst (c : Nat) (fs : List (Option AV))

noncomputable abbrev Hp := List AO
noncomputable abbrev Vs := List (Option AV)

set_option genInjectivity true in
inductive Out (α : Type) where
  | ok (a : α) (h : Hp)
  | fail

noncomputable def Out.bind {α β : Type} (x : Out α) (f : α → Hp → Out β) : Out β :=
  match x with
  | .ok a h => f a h
  | .fail => .fail

set_option genInjectivity true in
inductive OutS where
  | next (h : Hp) (vs : Vs)
  | ret (v : AV) (h : Hp)
  | fail

inductive BOp where | add | sub | mul | mod | div
deriving DecidableEq
inductive COp where | eq | ne | lt | le | gt | ge | isin | notin
deriving DecidableEq
inductive Kd where | int | str | bool | tup | list
deriving DecidableEq
/-- built-in functions -/
inductive Bi where | len | ord | range | min | sum | all | sorted | list | tuple | int
deriving DecidableEq
/-- methods of built-in types -/
inductive Bm where | append | join | get | setdefault
deriving DecidableEq

set_option genSizeOf true in
inductive ME where
  | none
  | bool (b : Bool)
  | int (i : Int)
  | str (s : List Nat)
  | var (x : Nat)
  /-- a constant of the text -/
  | gl (g : Nat)
  | bin (op : BOp) (l r : ME)
  | not (e : ME)
  | and (es : List ME)
  | or (es : List ME)
  | cmp (l : ME) (op : COp) (r : ME)
  /-- l op m op' r -/
  | chain (l : ME) (op : COp) (m : ME) (op' : COp) (r : ME)
  | isNone (e : ME)
  | isTrue (e : ME)
  | tup (es : List ME)
  | list (es : List ME)
  /-- keys and values in turn -/
  | dict (kvs : List ME)
  | idx (o i : ME)
  /-- an end that is not written: none, with its flag false -/
  | slice (o lo hi : ME) (bl bh : Bool)
  | attr (o : ME) (a : Nat)
  | call (f : Nat) (args : List ME)
  | new (c : Nat) (args : List ME)
  | meth (o : ME) (m : Nat) (args : List ME)
  | bi (b : Bi) (args : List ME)
  | bm (m : Bm) (o : ME) (args : List ME)
  | inst (e : ME) (k : Kd)
  | comp (elt : ME) (x : Nat) (src : ME) (conds : List ME) (sc : PySem.Scope)
  /-- sorted(set(e)) -/
  | sset (e : ME)
  /-- l op m op' r op'' q -/
  | chain3 (l : ME) (op : COp) (m : ME) (op' : COp) (r : ME) (op'' : COp) (q : ME)

set_option genSizeOf true in
inductive MS where
  | set (x : Nat) (e : ME)
  | setAttr (o : ME) (a : Nat) (e : ME)
  | setItem (o i : ME) (e : ME)
  | expr (e : ME)
  | ifs (t : ME) (a b : List MS)
  | loop (x : Nat) (src : ME) (body : List MS)
  | ret (e : ME)
  | pass
  | raise (c : PySem.Str) (msg : List Nat)

structure Fn where
  name : PySem.Str
  /-- the places in the text, in one number -/
  ps : Nat
  np : Nat
  /-- how many slots are the def's own names; the rest are comprehensions' -/
  nl : Nat
  names : List PySem.Str
  body : List MS

structure Cl where
  name : PySem.Str
  init : Option Nat
  meths : List (Nat × Nat)

structure Pr where
  fns : List Fn
  cls : List Cl
  /-- the text's constants -/
  consts : List (PySem.Str × AV)
  attrs : List PySem.Str
  methNames : List PySem.Str

noncomputable def lim : Nat := 16777216

/-! ### data behind values -/
noncomputable def tS (s : List Nat) : PySem.Str := ⟨s.toArray⟩
noncomputable def mapO {α β : Type} (f : α → Option β) : List α → Option (List β)
  | [] => some []
  | x :: xs => match f x with
    | some y => (match mapO f xs with
      | some ys => some (y :: ys)
      | Option.none => Option.none)
    | Option.none => Option.none

noncomputable def lst (o : Option AO) : Option (List AV) := match o with
  | some (.list xs) => some xs
  | _ => Option.none
noncomputable def dct (o : Option AO) : Option (Option Nat × List (AV × AV)) := match o with
  | some (.dict ep es) => some (ep, es)
  | _ => Option.none
noncomputable def ins (o : Option AO) : Option (Nat × List (Option AV)) := match o with
  | some (.inst c fs) => some (c, fs)
  | _ => Option.none
noncomputable def listAt (h : Hp) (v : AV) : Option (List AV) := match v with
  | .ref l => lst h[l]?
  | _ => Option.none
noncomputable def dictAt (h : Hp) (v : AV) : Option (Option Nat × List (AV × AV)) := match v with
  | .ref l => dct h[l]?
  | _ => Option.none
noncomputable def instAt (h : Hp) (v : AV) : Option (Nat × List (Option AV)) := match v with
  | .ref l => ins h[l]?
  | _ => Option.none

noncomputable def datF : AV → Option PySem.PyData
  | .int i => some (.int i)
  | .str s => some (.str (tS s))
  | _ => Option.none
noncomputable def dat (h : Hp) (v : AV) : Option PySem.PyData := match v with
  | .ref l => (match lst h[l]? with
    | some xs => (mapO datF xs).map .list
    | Option.none => Option.none)
  | v => datF v
noncomputable def eqA (h : Hp) (a b : AV) : Option Bool := match dat h a with
  | some x => (match dat h b with
    | some y => some (PySem.PyData.eqv x y)
    | Option.none => Option.none)
  | Option.none => Option.none

/-! ### keys: ints and texts -/
noncomputable def keyOf : AV → Option (PySem.Str ⊕ Int)
  | .int i => some (.inr i)
  | .str s => some (.inl (tS s))
  | _ => Option.none
noncomputable def isKey (k : AV) : Bool := (keyOf k).isSome
noncomputable def keq (a b : AV) : Bool := match a with
  | .int x => (match b with
    | .int y => x == y
    | _ => false)
  | .str x => (match b with
    | .str y => x == y
    | _ => false)
  | _ => false
noncomputable def dget (es : List (AV × AV)) (k : AV) : Option AV := match es with
  | [] => Option.none
  | p :: r => if keq p.1 k then some p.2 else dget r k
noncomputable def dput (es : List (AV × AV)) (k v : AV) : List (AV × AV) := match es with
  | [] => [(k, v)]
  | p :: r => if keq p.1 k then (p.1, v) :: r else p :: dput r k v
/-! ### textsA -/
noncomputable def rep (n : Nat) (s : List Nat) : List Nat := match n with
  | 0 => []
  | n + 1 => s ++ rep n s
noncomputable def joinT (sep : List Nat) : List (List Nat) → List Nat
  | [] => []
  | [x] => x
  | x :: y :: r => x ++ sep ++ joinT sep (y :: r)
noncomputable def asInt : AV → Option Int
  | .int i => some i
  | _ => Option.none
noncomputable def asStr : AV → Option (List Nat)
  | .str s => some s
  | _ => Option.none
/-! ### operations -/
noncomputable def small (a : Int) : Bool := decide (a.natAbs < 18446744073709551616)
noncomputable def newList (xs : List AV) (h : Hp) : Out AV := if xs.length ≤ lim then .ok (.ref h.length) (h ++ [.list xs]) else .fail

noncomputable def addA (a b : AV) (h : Hp) : Out AV := match a with
  | .int x => (match b with
    | .int y => .ok (.int (x + y)) h
    | _ => .fail)
  | .str x => (match b with
    | .str y => if x.length + y.length ≤ lim then .ok (.str (x ++ y)) h else .fail
    | _ => .fail)
  | .ref x => (match b with
    | .ref y => (match lst h[x]? with
      | some xs => (match lst h[y]? with
        | some ys => newList (xs ++ ys) h
        | Option.none => .fail)
      | Option.none => .fail)
    | _ => .fail)
  | _ => .fail
noncomputable def arithA (f : Int → Int → Out AV) (a b : AV) : Out AV := match a with
  | .int x => (match b with
    | .int y => f x y
    | _ => .fail)
  | _ => .fail
noncomputable def mulA (a b : AV) (h : Hp) : Out AV := match a with
  | .str x => (match b with
    | .int y => if -lim ≤ y ∧ y ≤ lim ∧ x.length * y.toNat ≤ lim then .ok (.str (rep y.toNat x)) h else .fail
    | _ => .fail)
  | a => arithA (fun x y => if small x || small y then .ok (.int (x * y)) h else .fail) a b
noncomputable def binA (op : BOp) (a b : AV) (h : Hp) : Out AV := match op with
  | .add => addA a b h
  | .sub => arithA (fun x y => .ok (.int (x - y)) h) a b
  | .mul => mulA a b h
  | .mod => arithA (fun x y => if 0 < y then .ok (.int (x % y)) h else .fail) a b
  | .div => arithA (fun x y => if 0 < y ∧ y < 18446744073709551616 then .ok (.int (x / y)) h else .fail) a b

noncomputable def ordA (f : Int → Int → Bool) (a b : AV) : Option Bool := match a with
  | .int x => (match b with
    | .int y => some (f x y)
    | _ => Option.none)
  | _ => Option.none
noncomputable def inT (h : Hp) (x : List Nat) (v : AV) : Option Bool := match v with
  | .str s => some (PySem.Txt.contains (tS s) (tS x))
  | v => (match (listAt h v).bind (mapO asStr) with
    | some ts => some (ts.contains x)
    | Option.none => Option.none)
noncomputable def inA (h : Hp) (x v : AV) : Option Bool := match dictAt h v with
  | some p => if isKey x then some (dget p.2 x).isSome else Option.none
  | Option.none => (match x with
    | .str x => inT h x v
    | _ => Option.none)

noncomputable def cmpA (op : COp) (a b : AV) (h : Hp) : Option Bool := match op with
  | .eq => eqA h a b
  | .ne => (eqA h a b).map (!·)
  | .isin => inA h a b
  | .notin => (inA h a b).map (!·)
  | .lt => ordA (fun x y => decide (x < y)) a b
  | .le => (match a with
    | .str x => (match b with
      | .str y => some (!decide (y < x))
      | _ => Option.none)
    | a => ordA (fun x y => decide (x ≤ y)) a b)
  | .gt => ordA (fun x y => decide (x > y)) a b
  | .ge => ordA (fun x y => decide (x ≥ y)) a b

noncomputable def truth (h : Hp) (v : AV) : Option Bool := match v with
  | .none => some false
  | .bool b => some b
  | .int i => some (decide (i ≠ 0))
  | .str s => some (!s.isEmpty)
  | _ => Option.none

/-- a place that may be counted from behind -/
noncomputable def place (n : Nat) (i : Int) : Option Nat :=
  if 0 ≤ i then (if i < n then some i.toNat else Option.none) else (if 0 ≤ i + n then some (i + n).toNat else Option.none)
noncomputable def bound (n : Nat) (dflt : Nat) : AV → Option Nat
  | .none => some dflt
  | .int i => some (if 0 ≤ i then min i.toNat n else (i + n).toNat)
  | _ => Option.none
noncomputable def cut {α : Type} (xs : List α) (a b : Nat) : List α := (xs.drop a).take (b - a)

noncomputable def idxI (o : AV) (i : Int) (h : Hp) : Option AV := match o with
  | .str s => (place s.length i).bind fun k => (s[k]?).map fun c => .str [c]
  | .scr ns => (place ns.length i).bind fun k => (ns[k]?).map .int
  | .tup xs => (place xs.length i).bind fun k => xs[k]?
  | .ref l => (match lst h[l]? with
    | some xs => (place xs.length i).bind fun k => xs[k]?
    | Option.none => Option.none)
  | _ => Option.none
noncomputable def idxA (o i : AV) (h : Hp) : Option AV := match dictAt h o with
  | some p => if isKey i then dget p.2 i else Option.none
  | Option.none => (match i with
    | .int i => idxI o i h
    | _ => Option.none)

noncomputable def sliceA (o lo hi : AV) (h : Hp) : Out AV := match o with
  | .str s => (match bound s.length 0 lo with
    | some a => (match bound s.length s.length hi with
      | some b => .ok (.str (cut s a b)) h
      | Option.none => .fail)
    | Option.none => .fail)
  | v => (match listAt h v with
    | some xs => (match bound xs.length 0 lo with
      | some a => (match bound xs.length xs.length hi with
        | some b => newList (cut xs a b) h
        | Option.none => .fail)
      | Option.none => .fail)
    | Option.none => .fail)

noncomputable def intsA (xs : List AV) : Option (List Int) := mapO asInt xs
noncomputable def textsA (xs : List AV) : Option (List (List Nat)) := mapO asStr xs
noncomputable def lenA (v : AV) (h : Hp) : Out AV := match v with
  | .str s => .ok (.int s.length) h
  | .scr ns => .ok (.int ns.length) h
  | .tup xs => .ok (.int xs.length) h
  | v => (match listAt h v with
    | some xs => .ok (.int xs.length) h
    | Option.none => (match dictAt h v with
      | some p => .ok (.int p.2.length) h
      | Option.none => .fail))
noncomputable def ordCA (v : AV) (h : Hp) : Out AV := match v with
  | .str s => (match s with
    | [c] => .ok (.int c) h
    | _ => .fail)
  | _ => .fail
/-- the items of a list, the keys of a dict -/
noncomputable def keysAt (h : Hp) (v : AV) : Option (List AV) := match listAt h v with
  | some xs => some xs
  | Option.none => (match dictAt h v with
    | some p => some (p.2.map (·.1))
    | Option.none => Option.none)
/-- ints in rising order -/
noncomputable def ascI : List Int → Bool
  | [] => true
  | a :: r => (match r with
    | [] => true
    | b :: _ => decide (a < b) && ascI r)
noncomputable def insT (x : List Nat) : List (List Nat) → List (List Nat)
  | [] => [x]
  | y :: r => if y < x then y :: insT x r else x :: y :: r
noncomputable def sortT : List (List Nat) → List (List Nat)
  | [] => []
  | x :: r => insT x (sortT r)
noncomputable def sortX (xs : List AV) : Option (List AV) := match mapO asInt xs with
  | some ns => if ns.length < 64 ∧ ascI ns = true then some xs else Option.none
  | Option.none => Option.none
noncomputable def minL : Int → List Int → Int
  | a, [] => a
  | a, b :: r => minL (if b < a then b else a) r
noncomputable def minA (v : AV) (h : Hp) : Out AV := match (listAt h v).bind intsA with
  | some ns => (match ns with
    | a :: r => .ok (.int (minL a r)) h
    | [] => .fail)
  | Option.none => .fail
noncomputable def asBoolV : AV → Option Bool
  | .bool b => some b
  | _ => Option.none
noncomputable def rngA (a b : Int) (h : Hp) : Out AV := if -lim ≤ a ∧ a ≤ lim ∧ -lim ≤ b ∧ b ≤ lim then .ok (.rng a b) h else .fail
noncomputable def sortedA (v : AV) (h : Hp) : Out AV := match (keysAt h v).bind sortX with
  | some xs => newList xs h
  | Option.none => .fail
/-- texts, each once -/
noncomputable def addU (us : List (List Nat)) (x : List Nat) : List (List Nat) := if us.contains x then us else us ++ [x]
noncomputable def onceT (ts : List (List Nat)) : List (List Nat) := ts.foldl addU []
noncomputable def ssetA (v : AV) (h : Hp) : Out AV := match (listAt h v).bind textsA with
  | some ts => if ts.length < 4000 ∧ (onceT ts).length < 64 then newList ((sortT (onceT ts)).map .str) h else .fail
  | Option.none => .fail
noncomputable def sumA (v : AV) (h : Hp) : Out AV := match (listAt h v).bind intsA with
  | some ns => .ok (.int ns.sum) h
  | Option.none => .fail
noncomputable def allA (v : AV) (h : Hp) : Out AV := match (listAt h v).bind (mapO asBoolV) with
  | some bs => .ok (.bool (bs.all id)) h
  | Option.none => .fail
noncomputable def bi1 (b : Bi) (v : AV) (h : Hp) : Out AV := match b with
  | .len => lenA v h
  | .range => (match v with
    | .int b => rngA 0 b h
    | _ => .fail)
  | .sorted => sortedA v h
  | .list => (match keysAt h v with
    | some xs => newList xs h
    | Option.none => .fail)
  | .int => (match v with
    | .bool b => .ok (.int (if b then 1 else 0)) h
    | _ => .fail)
  | .ord => ordCA v h
  | .min => minA v h
  | .sum => sumA v h
  | .all => allA v h
  | .tuple => (match listAt h v with
    | some xs => if xs.length ≤ lim then .ok (.tup xs) h else .fail
    | Option.none => .fail)
noncomputable def bi2 (b : Bi) (v w : AV) (h : Hp) : Out AV := match b with
  | .min => arithA (fun x y => .ok (.int (if y < x then y else x)) h) v w
  | .range => arithA (fun x y => rngA x y h) v w
  | _ => .fail
noncomputable def biA (b : Bi) (as : List AV) (h : Hp) : Out AV := match as with
  | [v] => bi1 b v h
  | [v, w] => bi2 b v w h
  | _ => .fail

noncomputable def appA (x v : AV) (h : Hp) : Out AV := match x with
  | .ref l => (match lst h[l]? with
    | some xs => if xs.length < lim then .ok .none (h.set l (.list (xs ++ [v]))) else .fail
    | Option.none => .fail)
  | _ => .fail
noncomputable def joinA (x v : AV) (h : Hp) : Out AV := match x with
  | .str sep => (match (listAt h v).bind textsA with
    | some ts => if (ts.map (·.length)).sum + ts.length * sep.length ≤ lim then .ok (.str (joinT sep ts)) h else .fail
    | Option.none => .fail)
  | _ => .fail
noncomputable def getA (x k d : AV) (h : Hp) : Out AV := match dictAt h x with
  | some p => if isKey k then .ok ((dget p.2 k).getD d) h else .fail
  | Option.none => .fail
noncomputable def setdA (x k d : AV) (h : Hp) : Out AV := match x with
  | .ref l => (match dct h[l]? with
    | some p => if isKey k && decide (p.2.length < lim) then (match dget p.2 k with
      | some v => .ok v h
      | Option.none => .ok d (h.set l (.dict (p.1.map (· + 1)) (dput p.2 k d)))) else .fail
    | Option.none => .fail)
  | _ => .fail
noncomputable def bm1 (m : Bm) (x v : AV) (h : Hp) : Out AV := match m with
  | .append => appA x v h
  | .join => joinA x v h
  | _ => .fail
noncomputable def bm2 (m : Bm) (x v w : AV) (h : Hp) : Out AV := match m with
  | .get => getA x v w h
  | .setdefault => setdA x v w h
  | _ => .fail
noncomputable def bmA (m : Bm) (x : AV) (as : List AV) (h : Hp) : Out AV := match as with
  | [v] => bm1 m x v h
  | [v, w] => bm2 m x v w h
  | _ => .fail

/-- has the value this method -/
noncomputable def bmKd (m : Bm) (x : AV) (h : Hp) : Bool := match m with
  | .append => (listAt h x).isSome
  | .join => (match x with
    | .str _ => true
    | _ => false)
  | .get => (dictAt h x).isSome
  | .setdefault => (dictAt h x).isSome

noncomputable def setItemA (o i v : AV) (h : Hp) : Option Hp := match o with
  | .ref l => (match dct h[l]? with
    | some p => if isKey i && decide (p.2.length < lim) then some (h.set l (.dict (if (dget p.2 i).isSome then p.1 else p.1.map (· + 1)) (dput p.2 i v))) else Option.none
    | Option.none => Option.none)
  | _ => Option.none

noncomputable def instA (h : Hp) (v : AV) (k : Kd) : Option Bool := match v with
  | .none => some false
  | .bool _ => some (k == .bool || k == .int)
  | .int _ => some (k == .int)
  | .str _ => some (k == .str)
  | .tup _ => some (k == .tup)
  | v => (match listAt h v with
    | some _ => some (k == .list)
    | Option.none => Option.none)
/-! ### loops -/
set_option genInjectivity true in
inductive It (σ ρ : Type) where
  | go (s : σ)
  | stop (r : ρ)

noncomputable def iterL {σ ρ : Type} (f : AV → σ → It σ ρ) : List AV → σ → It σ ρ
  | [], s => .go s
  | v :: r, s => match f v s with
    | .go s' => iterL f r s'
    | .stop x => .stop x
noncomputable def iterR {σ ρ : Type} (get : σ → Option (List AV)) (bad : ρ) (f : AV → σ → It σ ρ) : Nat → Nat → σ → It σ ρ
  | 0, _, _ => .stop bad
  | n + 1, i, s => match get s with
    | Option.none => .stop bad
    | some xs => match xs[i]? with
      | Option.none => .go s
      | some v => match f v s with
        | .go s' => iterR get bad f n (i + 1) s'
        | .stop x => .stop x

inductive Src where
  | fixed (xs : List AV)
  | list (l n : Nat)
  | dict (l ep n : Nat)

noncomputable def ups (a : Int) (n : Nat) : List AV := match n with
  | 0 => []
  | n + 1 => .int a :: ups (a + 1) n
noncomputable def srcA (h : Hp) (v : AV) : Option Src := match v with
  | .rng a b => some (.fixed (ups a (b - a).toNat))
  | .str s => some (.fixed (s.map fun c => .str [c]))
  | .tup xs => some (.fixed xs)
  | .ref l => (match lst h[l]? with
    | some xs => some (.list l xs.length)
    | Option.none => (match dct h[l]? with
      | some p => p.1.map fun ep => .dict l ep p.2.length
      | Option.none => Option.none))
  | _ => Option.none
noncomputable def getL (l : Nat) (h : Hp) : Option (List AV) := lst h[l]?
noncomputable def getD (l ep n : Nat) (h : Hp) : Option (List AV) := match dct h[l]? with
  | some p => if p.1 = some ep ∧ p.2.length = n then some (p.2.map (·.1)) else Option.none
  | Option.none => Option.none
noncomputable def iter {τ ρ : Type} (src : Src) (bad : ρ) (f : AV → Hp × τ → It (Hp × τ) ρ) (s : Hp × τ) : It (Hp × τ) ρ := match src with
  | .fixed xs => iterL f xs s
  | .list l n => iterR (fun s => getL l s.1) bad f (n + 1) 0 s
  | .dict l ep n => iterR (fun s => getD l ep n s.1) bad f (n + 1) 0 s

noncomputable def pairs : List AV → Option (List (AV × AV))
  | [] => some []
  | k :: r => (match r with
    | v :: r => (pairs r).map fun l => (k, v) :: l
    | [] => Option.none)
/-- keys, all different -/
noncomputable def distinct : List (AV × AV) → Bool
  | [] => true
  | p :: r => isKey p.1 && r.all (fun q => !keq p.1 q.1) && distinct r
noncomputable def emptyAt (l : Nat) (h : Hp) : Bool := match dct h[l]? with
  | some p => p.2.isEmpty
  | Option.none => false
noncomputable def putDict (l : Nat) (kv : List (AV × AV)) (h : Hp) : Out AV := if distinct kv && decide (kv.length ≤ 15) && emptyAt l h then .ok (.ref l) (if kv.isEmpty then h else h.set l (.dict Option.none kv)) else .fail

/-- one turn of a comprehension -/
noncomputable def compF (cs : Hp → Vs → Out Bool) (el : Hp → Vs → Out AV) (x : Nat) (vs : Vs) (v : AV) (st : Hp × List AV) : It (Hp × List AV) (Out AV) :=
  match cs st.1 (vs.set x (some v)) with
  | .ok true h => match el h (vs.set x (some v)) with
    | .ok w h => if st.2.length < lim then .go (h, st.2 ++ [w]) else .stop .fail
    | _ => .stop .fail
  | .ok false h => .go (h, st.2)
  | _ => .stop .fail

/-! ### the interpreter -/
structure Cx where
  P : Pr
  call : Nat → List AV → Hp → Out AV

/-- a new instance, then its __init__ -/
noncomputable def initAt (P : Pr) (c : Nat) : Option Nat := match P.cls[c]? with
  | some cl => if 1000 < P.attrs.length then Option.none else cl.init
  | Option.none => Option.none
noncomputable def newA (C : Cx) (c : Nat) (xs : List AV) (h : Hp) : Out AV := match initAt C.P c with
  | some f => (C.call f (.ref h.length :: xs) (h ++ [.inst c (List.replicate C.P.attrs.length Option.none)])).bind fun r h' => match r with
    | .none => .ok (.ref h.length) h'
    | _ => .fail
  | Option.none => .fail
noncomputable def methF (P : Pr) (h : Hp) (x : AV) (m : Nat) : Option Nat := (instAt h x).bind fun p => (P.cls[p.1]?).bind fun cl => cl.meths.lookup m
noncomputable def attrA (h : Hp) (x : AV) (a : Nat) : Option AV := (instAt h x).bind fun p => (p.2[a]?).bind id
noncomputable def setAttrA (x : AV) (a : Nat) (v : AV) (h : Hp) : Option Hp := match x with
  | .ref l => (match ins h[l]? with
    | some p => if a < p.2.length then some (h.set l (.inst p.1 (p.2.set a (some v)))) else Option.none
    | Option.none => Option.none)
  | _ => Option.none
noncomputable def tupA (xs : List AV) (h : Hp) : Out AV := if xs.length ≤ lim then .ok (.tup xs) h else .fail
noncomputable def someA (v : Option AV) (h : Hp) : Out AV := match v with
  | some v => .ok v h
  | Option.none => .fail

mutual
noncomputable def ev (C : Cx) : ME → Hp → Vs → Out AV
  | .none, h, _ => .ok .none h
  | .bool b, h, _ => .ok (.bool b) h
  | .int i, h, _ => .ok (.int i) h
  | .str s, h, _ => .ok (.str s) h
  | .gl g, h, _ => match C.P.consts[g]? with
    | some p => .ok p.2 h
    | Option.none => .fail
  | .var x, h, vs => match vs[x]? with
    | some (some v) => .ok v h
    | _ => .fail
  | .bin op a b, h, vs => (ev C a h vs).bind fun x h => (ev C b h vs).bind fun y h => binA op x y h
  | .not e, h, vs => (ev C e h vs).bind fun x h => match truth h x with
    | some b => .ok (.bool (!b)) h
    | Option.none => .fail
  | .and es, h, vs => evAnd C es h vs
  | .or es, h, vs => evOr C es h vs
  | .cmp l op r, h, vs => (ev C l h vs).bind fun x h => (ev C r h vs).bind fun y h => match cmpA op x y h with
    | some b => .ok (.bool b) h
    | Option.none => .fail
  | .chain l op m op' r, h, vs => (ev C l h vs).bind fun x h => (ev C m h vs).bind fun y h => match cmpA op x y h with
    | some b => if b then (ev C r h vs).bind fun z h => (match cmpA op' y z h with
      | some b => .ok (.bool b) h
      | Option.none => .fail) else .ok (.bool false) h
    | Option.none => .fail
  | .isNone e, h, vs => (ev C e h vs).bind fun x h => match x with
    | .none => .ok (.bool true) h
    | _ => .ok (.bool false) h
  | .isTrue e, h, vs => (ev C e h vs).bind fun x h => match x with
    | .bool true => .ok (.bool true) h
    | _ => .ok (.bool false) h
  | .tup es, h, vs => (evs C es h vs).bind fun xs h => tupA xs h
  | .list es, h, vs => (evs C es h vs).bind fun xs h => newList xs h
  | .dict kvs, h, vs => (evs C kvs (h ++ [.dict (some 0) []]) vs).bind fun xs h' => match pairs xs with
    | some kv => putDict h.length kv h'
    | Option.none => .fail
  | .idx o i, h, vs => (ev C o h vs).bind fun x h => (ev C i h vs).bind fun y h => someA (idxA x y h) h
  | .slice o lo hi _ _, h, vs => (ev C o h vs).bind fun x h => (ev C lo h vs).bind fun a h => (ev C hi h vs).bind fun b h => sliceA x a b h
  | .attr o a, h, vs => (ev C o h vs).bind fun x h => someA (attrA h x a) h
  | .call f args, h, vs => (evs C args h vs).bind fun xs h => C.call f xs h
  | .new c args, h, vs => if (initAt C.P c).isSome then (evs C args h vs).bind fun xs h => newA C c xs h else .fail
  | .meth o m args, h, vs => (ev C o h vs).bind fun x h => match methF C.P h x m with
    | some f => (evs C args h vs).bind fun xs h => C.call f (x :: xs) h
    | Option.none => .fail
  | .bi b args, h, vs => (evs C args h vs).bind fun xs h => biA b xs h
  | .bm m o args, h, vs => (ev C o h vs).bind fun x h => if bmKd m x h then (evs C args h vs).bind fun xs h => bmA m x xs h else .fail
  | .inst e k, h, vs => (ev C e h vs).bind fun x h => match instA h x k with
    | some b => .ok (.bool b) h
    | Option.none => .fail
  | .comp elt x src conds _, h, vs => (ev C src h vs).bind fun s h => match srcA h s with
    | some src => match iter src Out.fail (compF (fun h vs => evConds C conds h vs) (fun h vs => ev C elt h vs) x vs) (h, []) with
      | .go st => newList st.2 st.1
      | .stop o => o
    | Option.none => .fail
  | .sset e, h, vs => (ev C e h vs).bind fun x h => ssetA x h
  | .chain3 l op m op' r op'' q, h, vs => (ev C l h vs).bind fun x h => (ev C m h vs).bind fun y h => match cmpA op x y h with
    | some b => if b then (ev C r h vs).bind fun z h => (match cmpA op' y z h with
      | some b => if b then (ev C q h vs).bind fun u h => (match cmpA op'' z u h with
        | some b => .ok (.bool b) h
        | Option.none => .fail) else .ok (.bool false) h
      | Option.none => .fail) else .ok (.bool false) h
    | Option.none => .fail

noncomputable def evs (C : Cx) : List ME → Hp → Vs → Out (List AV)
  | [], h, _ => .ok [] h
  | e :: r, h, vs => (ev C e h vs).bind fun x h => (evs C r h vs).bind fun xs h => .ok (x :: xs) h

noncomputable def evAnd (C : Cx) : List ME → Hp → Vs → Out AV
  | [], _, _ => .fail
  | [e], h, vs => ev C e h vs
  | e :: r, h, vs => (ev C e h vs).bind fun x h => match truth h x with
    | some false => .ok x h
    | some true => evAnd C r h vs
    | Option.none => .fail

noncomputable def evOr (C : Cx) : List ME → Hp → Vs → Out AV
  | [], _, _ => .fail
  | [e], h, vs => ev C e h vs
  | e :: r, h, vs => (ev C e h vs).bind fun x h => match truth h x with
    | some true => .ok x h
    | some false => evOr C r h vs
    | Option.none => .fail

noncomputable def evConds (C : Cx) : List ME → Hp → Vs → Out Bool
  | [], h, _ => .ok true h
  | e :: r, h, vs => (ev C e h vs).bind fun x h => match truth h x with
    | some true => evConds C r h vs
    | some false => .ok false h
    | Option.none => .fail
end

noncomputable def doneO (h : Option Hp) : Out Unit := match h with
  | some h => .ok () h
  | Option.none => .fail
noncomputable def nextO (vs : Vs) (r : Out Unit) : OutS := match r with
  | .ok _ h => .next h vs
  | .fail => .fail
mutual
noncomputable def ex (C : Cx) : MS → Hp → Vs → OutS
  | .set x e, h, vs => match ev C e h vs with
    | .ok v h => .next h (vs.set x (some v))
    | .fail => .fail
  | .setAttr o a e, h, vs => nextO vs ((ev C e h vs).bind fun v h => (ev C o h vs).bind fun x h => doneO (setAttrA x a v h))
  | .setItem o i e, h, vs => nextO vs ((ev C e h vs).bind fun v h => (ev C o h vs).bind fun x h => (ev C i h vs).bind fun k h => doneO (setItemA x k v h))
  | .expr e, h, vs => match ev C e h vs with
    | .ok _ h => .next h vs
    | .fail => .fail
  | .ifs t a b, h, vs => match ev C t h vs with
    | .ok v h => match truth h v with
      | some true => exs C a h vs
      | some false => exs C b h vs
      | Option.none => .fail
    | .fail => .fail
  | .loop x src body, h, vs => match ev C src h vs with
    | .ok s h => match srcA h s with
      | some src => match iter src OutS.fail (fun v (st : Hp × Vs) => match exs C body st.1 (st.2.set x (some v)) with
          | .next h vs => .go (h, vs)
          | .ret v h => .stop (.ret v h)
          | _ => .stop .fail) (h, vs) with
        | .go st => .next st.1 st.2
        | .stop o => o
      | Option.none => .fail
    | .fail => .fail
  | .ret e, h, vs => match ev C e h vs with
    | .ok v h => .ret v h
    | .fail => .fail
  | .pass, h, vs => .next h vs
  | .raise _ _, _, _ => .fail

noncomputable def exs (C : Cx) : List MS → Hp → Vs → OutS
  | [], h, vs => .next h vs
  | s :: r, h, vs => match ex C s h vs with
    | .next h vs => exs C r h vs
    | o => o
end

/-- a call: n calls deep at most -/
noncomputable def callF (P : Pr) : Nat → Nat → List AV → Hp → Out AV
  | 0, _, _, _ => .fail
  | n + 1, f, args, h => match P.fns[f]? with
    | some fn => if args.length = fn.np ∧ fn.body.isEmpty = false then
        match exs ⟨P, callF P n⟩ fn.body h (args.map some ++ List.replicate (fn.names.length - fn.np) Option.none) with
        | .next h _ => .ok .none h
        | .ret v h => .ok v h
        | .fail => .fail
      else .fail
    | Option.none => .fail

end Mine

set_option Elab.async false
namespace Mine
section
set_option autoImplicit true
set_option relaxedAutoImplicit true
set_option linter.unusedVariables false
theorem mapO_cons {α β : Type} (f : α → Option β) (x : α) (xs : List α) : mapO f (x :: xs) = (match f x with
    | some y => (match mapO f xs with
      | some ys => some (y :: ys)
      | Option.none => Option.none)
    | Option.none => Option.none) := rfl
theorem ev_q1 : ev C .none h vs = (.ok .none h) := rfl
theorem ev_q2 : ev C (.bool b) h vs = (.ok (.bool b) h) := rfl
theorem ev_q3 : ev C (.int i) h vs = (.ok (.int i) h) := rfl
theorem ev_q4 : ev C (.str s) h vs = (.ok (.str s) h) := rfl
theorem ev_q5 : ev C (.gl g) h vs = (match C.P.consts[g]? with
    | some p => .ok p.2 h
    | Option.none => .fail) := rfl
theorem ev_q6 : ev C (.var x) h vs = (match vs[x]? with
    | some (some v) => .ok v h
    | _ => .fail) := rfl
theorem ev_q7 : ev C (.bin op a b) h vs = ((ev C a h vs).bind fun x h => (ev C b h vs).bind fun y h => binA op x y h) := rfl
theorem ev_q8 : ev C (.not e) h vs = ((ev C e h vs).bind fun x h => match truth h x with
    | some b => .ok (.bool (!b)) h
    | Option.none => .fail) := rfl
theorem ev_q9 : ev C (.and es) h vs = (evAnd C es h vs) := rfl
theorem ev_q10 : ev C (.or es) h vs = (evOr C es h vs) := rfl
theorem ev_q11 : ev C (.cmp l op r) h vs = ((ev C l h vs).bind fun x h => (ev C r h vs).bind fun y h => match cmpA op x y h with
    | some b => .ok (.bool b) h
    | Option.none => .fail) := rfl
theorem ev_q12 : ev C (.chain l op m op' r) h vs = ((ev C l h vs).bind fun x h => (ev C m h vs).bind fun y h => match cmpA op x y h with
    | some b => if b then (ev C r h vs).bind fun z h => (match cmpA op' y z h with
      | some b => .ok (.bool b) h
      | Option.none => .fail) else .ok (.bool false) h
    | Option.none => .fail) := rfl
theorem ev_q15 : ev C (.tup es) h vs = ((evs C es h vs).bind fun xs h => tupA xs h) := rfl
theorem ev_q16 : ev C (.list es) h vs = ((evs C es h vs).bind fun xs h => newList xs h) := rfl
theorem ev_q17 : ev C (.dict kvs) h vs = ((evs C kvs (h ++ [.dict (some 0) []]) vs).bind fun xs h' => match pairs xs with
    | some kv => putDict h.length kv h'
    | Option.none => .fail) := rfl
theorem ev_q18 : ev C (.idx o i) h vs = ((ev C o h vs).bind fun x h => (ev C i h vs).bind fun y h => someA (idxA x y h) h) := rfl
theorem ev_q19 : ev C (.slice o lo hi u1 u2) h vs = ((ev C o h vs).bind fun x h => (ev C lo h vs).bind fun a h => (ev C hi h vs).bind fun b h => sliceA x a b h) := rfl
theorem ev_q20 : ev C (.attr o a) h vs = ((ev C o h vs).bind fun x h => someA (attrA h x a) h) := rfl
theorem ev_q21 : ev C (.call f args) h vs = ((evs C args h vs).bind fun xs h => C.call f xs h) := rfl
theorem ev_q22 : ev C (.new c args) h vs = (if (initAt C.P c).isSome then (evs C args h vs).bind fun xs h => newA C c xs h else .fail) := rfl
theorem ev_q23 : ev C (.meth o m args) h vs = ((ev C o h vs).bind fun x h => match methF C.P h x m with
    | some f => (evs C args h vs).bind fun xs h => C.call f (x :: xs) h
    | Option.none => .fail) := rfl
theorem ev_q24 : ev C (.bi b args) h vs = ((evs C args h vs).bind fun xs h => biA b xs h) := rfl
theorem ev_q25 : ev C (.bm m o args) h vs = ((ev C o h vs).bind fun x h => if bmKd m x h then (evs C args h vs).bind fun xs h => bmA m x xs h else .fail) := rfl
theorem ev_q26 : ev C (.inst e k) h vs = ((ev C e h vs).bind fun x h => match instA h x k with
    | some b => .ok (.bool b) h
    | Option.none => .fail) := rfl
theorem ev_q27 : ev C (.comp elt x src conds u1) h vs = ((ev C src h vs).bind fun s h => match srcA h s with
    | some src => match iter src Out.fail (compF (fun h vs => evConds C conds h vs) (fun h vs => ev C elt h vs) x vs) (h, []) with
      | .go st => newList st.2 st.1
      | .stop o => o
    | Option.none => .fail) := rfl
theorem ev_q28 : ev C (.sset e) h vs = ((ev C e h vs).bind fun x h => ssetA x h) := rfl
theorem ev_q29 : ev C (.chain3 l op m op' r op'' q) h vs = ((ev C l h vs).bind fun x h => (ev C m h vs).bind fun y h => match cmpA op x y h with
    | some b => if b then (ev C r h vs).bind fun z h => (match cmpA op' y z h with
      | some b => if b then (ev C q h vs).bind fun u h => (match cmpA op'' z u h with
        | some b => .ok (.bool b) h
        | Option.none => .fail) else .ok (.bool false) h
      | Option.none => .fail) else .ok (.bool false) h
    | Option.none => .fail) := rfl
theorem evs_q1 : evs C [] h vs = (.ok [] h) := rfl
theorem evs_q2 : evs C (e :: r) h vs = ((ev C e h vs).bind fun x h => (evs C r h vs).bind fun xs h => .ok (x :: xs) h) := rfl
theorem evAnd_q1 : evAnd C [] h vs = (.fail) := rfl
theorem evAnd_q2 : evAnd C [e] h vs = (ev C e h vs) := rfl
theorem evAnd_q3 : evAnd C (e :: e' :: r) h vs = ((ev C e h vs).bind fun x h => match truth h x with
    | some false => .ok x h
    | some true => evAnd C (e' :: r) h vs
    | Option.none => .fail) := rfl
theorem evOr_q1 : evOr C [] h vs = (.fail) := rfl
theorem evOr_q2 : evOr C [e] h vs = (ev C e h vs) := rfl
theorem evOr_q3 : evOr C (e :: e' :: r) h vs = ((ev C e h vs).bind fun x h => match truth h x with
    | some true => .ok x h
    | some false => evOr C (e' :: r) h vs
    | Option.none => .fail) := rfl
theorem evConds_q1 : evConds C [] h vs = (.ok true h) := rfl
theorem evConds_q2 : evConds C (e :: r) h vs = ((ev C e h vs).bind fun x h => match truth h x with
    | some true => evConds C r h vs
    | some false => .ok false h
    | Option.none => .fail) := rfl
theorem ex_q1 : ex C (.set x e) h vs = (match ev C e h vs with
    | .ok v h => .next h (vs.set x (some v))
    | .fail => .fail) := rfl
theorem ex_q2 : ex C (.setAttr o a e) h vs = (nextO vs ((ev C e h vs).bind fun v h => (ev C o h vs).bind fun x h => doneO (setAttrA x a v h))) := rfl
theorem ex_q3 : ex C (.setItem o i e) h vs = (nextO vs ((ev C e h vs).bind fun v h => (ev C o h vs).bind fun x h => (ev C i h vs).bind fun k h => doneO (setItemA x k v h))) := rfl
theorem ex_q4 : ex C (.expr e) h vs = (match ev C e h vs with
    | .ok _ h => .next h vs
    | .fail => .fail) := rfl
theorem ex_q5 : ex C (.ifs t a b) h vs = (match ev C t h vs with
    | .ok v h => match truth h v with
      | some true => exs C a h vs
      | some false => exs C b h vs
      | Option.none => .fail
    | .fail => .fail) := rfl
theorem ex_q6 : ex C (.loop x src body) h vs = (match ev C src h vs with
    | .ok s h => match srcA h s with
      | some src => match iter src OutS.fail (fun v (st : Hp × Vs) => match exs C body st.1 (st.2.set x (some v)) with
          | .next h vs => .go (h, vs)
          | .ret v h => .stop (.ret v h)
          | _ => .stop .fail) (h, vs) with
        | .go st => .next st.1 st.2
        | .stop o => o
      | Option.none => .fail
    | .fail => .fail) := rfl
theorem ex_q7 : ex C (.ret e) h vs = (match ev C e h vs with
    | .ok v h => .ret v h
    | .fail => .fail) := rfl
theorem ex_q8 : ex C .pass h vs = (.next h vs) := rfl
theorem ex_q9 : ex C (.raise u1 u2) h vs = (.fail) := rfl
theorem exs_q1 : exs C [] h vs = (.next h vs) := rfl
theorem exs_q2 : exs C (s :: r) h vs = (match ex C s h vs with
    | .next h vs => exs C r h vs
    | o => o) := rfl
theorem callF_q2 : callF P (n + 1) f args h = (match P.fns[f]? with
    | some fn => if args.length = fn.np ∧ fn.body.isEmpty = false then
        match exs ⟨P, callF P n⟩ fn.body h (args.map some ++ List.replicate (fn.names.length - fn.np) Option.none) with
        | .next h _ => .ok .none h
        | .ret v h => .ok v h
        | .fail => .fail
      else .fail
    | Option.none => .fail) := rfl
end
end Mine

/-! Soundness of the abstract interpreter, part 1: the relation between abstract and model states (typed by hand). -/
set_option Elab.async false
set_option genInjectivity false
set_option genSizeOf false
set_option bootstrap.genMatcherCode false
namespace Mine
open PySem

/-- who owns an address: nobody (it is written by nobody but the frame that made it), or an abstract place -/
inductive Ow where
  | free
  | loc (l : Nat)

structure Tp where
  prog : Program
  w : World
  P : Pr
  base : Heap
  mg : Str → Option Value
  mb : Str → Option Value
  fa : Nat → Addr
  ca : Nat → Addr
  K : PySem.W.Frag

noncomputable abbrev Tp.M (T : Tp) : Model := model T.prog T.w

noncomputable def okS (s : List Nat) : Prop := (∀ c ∈ s, c < 128) ∧ s.length ≤ lim

inductive VR (T : Tp) (own : Addr → Ow) (bt : List Addr) (h : Heap) : AV → Value → Prop
  | none : VR T own bt h .none .none
  | bool (b : Bool) : VR T own bt h (.bool b) (.bool b)
  | int (i : Int) (t : Tok) : VR T own bt h (.int i) (.int i t)
  | str {s : List Nat} (t : Tok) : okS s → VR T own bt h (.str s) (.str (tS s) t)
  | tup {xs : List AV} {a : Addr} {o : Obj} {vs : Array Value} {n : Nat} : h.get? a = some o → o.cls = .type "tuple" → o.data = .seq vs n → own a = .free → xs.length ≤ lim → vs.size = xs.length →
      (∀ (i : Nat) (x : AV) (v : Value), xs[i]? = some x → vs[i]? = some v → VR T own bt h x v) → VR T own bt h (.tup xs) (.ref a)
  | ref {l : Nat} {a : Addr} : bt[l]? = some a → VR T own bt h (.ref l) (.ref a)
  | scr {ns : List Int} {a : Addr} {o : Obj} {vs : Array Value} {n : Nat} : T.base.get? a = some o → o.cls = .type "list" → o.data = .seq vs n → ns.length ≤ lim →
      (∀ (i : Nat) (x : Int), ns[i]? = some x → ∃ t, vs[i]? = some (Value.int x t)) → vs.size = ns.length → VR T own bt h (.scr ns) (.ref a)
  | rng {x y : Int} {a : Addr} {t u v : Tok} : h.get? a = some { cls := .type "range", dict := none, data := .fields #[Value.int x t, Value.int y u, Value.int 1 v], slots := #[] } → own a = .free →
      -lim ≤ x → x ≤ lim → -lim ≤ y → y ≤ lim → VR T own bt h (.rng x y) (.ref a)
inductive VRs (T : Tp) (own : Addr → Ow) (bt : List Addr) (h : Heap) : List AV → List Value → Prop
  | nil : VRs T own bt h [] []
  | cons {x : AV} {v : Value} {xs : List AV} {vs : List Value} : VR T own bt h x v → VRs T own bt h xs vs → VRs T own bt h (x :: xs) (v :: vs)

/-- from one state to a later one: what nobody owns stands (but for the addresses of X, the frame's own); owners stay -/
structure Ext (X : Addr → Prop) (own : Addr → Ow) (bt : List Addr) (h : Heap) (own' : Addr → Ow) (bt' : List Addr) (h' : Heap) : Prop where
  kp : ∀ a o, h.get? a = some o → own a = .free → ¬ X a → h'.get? a = some o
  df : ∀ a o, h.get? a = some o → ¬ X a → ∃ o', h'.get? a = some o'
  ow : ∀ a o, h.get? a = some o → ¬ X a → own' a = own a
  bt : ∃ r, bt' = bt ++ r

theorem Ext.refl (X : Addr → Prop) (own : Addr → Ow) (bt : List Addr) (h : Heap) : Ext X own bt h own bt h :=
  ⟨fun _ _ e _ _ => e, fun _ o e _ => ⟨o, e⟩, fun _ _ _ _ => rfl, [], (List.append_nil _).symm⟩

theorem Ext.trans {X : Addr → Prop} {o₁ o₂ o₃ : Addr → Ow} {b₁ b₂ b₃ : List Addr} {h₁ h₂ h₃ : Heap} (x : Ext X o₁ b₁ h₁ o₂ b₂ h₂) (y : Ext X o₂ b₂ h₂ o₃ b₃ h₃) : Ext X o₁ b₁ h₁ o₃ b₃ h₃ where
  kp := fun a o e f n => y.kp a o (x.kp a o e f n) ((x.ow a o e n).trans f) n
  df := fun a o e n => let ⟨o', e'⟩ := x.df a o e n; y.df a o' e' n
  ow := fun a o e n => let ⟨o', e'⟩ := x.df a o e n; (y.ow a o' e' n).trans (x.ow a o e n)
  bt := let ⟨r, e⟩ := x.bt; let ⟨r', e'⟩ := y.bt; ⟨r ++ r', by rw [e', e, List.append_assoc]⟩

theorem Ext.mono {X Y : Addr → Prop} {o₁ o₂ : Addr → Ow} {b₁ b₂ : List Addr} {h₁ h₂ : Heap} (x : Ext X o₁ b₁ h₁ o₂ b₂ h₂) (m : ∀ a, X a → Y a) : Ext Y o₁ b₁ h₁ o₂ b₂ h₂ :=
  ⟨fun a o e f n => x.kp a o e f fun q => n (m a q), fun a o e n => x.df a o e fun q => n (m a q), fun a o e n => x.ow a o e fun q => n (m a q), x.bt⟩

/-- the addresses of X are nobody's and hold no tuples and no ranges -/
noncomputable def FrX (X : Addr → Prop) (own : Addr → Ow) (h : Heap) : Prop := ∀ a, X a → own a = .free ∧ ∀ o, h.get? a = some o → (∃ es n, o.data = .dict es n) ∨ (∃ v, o.data = .cell v) ∨ (o.cls ≠ .type "tuple" ∧ o.cls ≠ .type "range")
noncomputable def noX : Addr → Prop := fun _ => False
theorem FrX.no {own : Addr → Ow} {h : Heap} : FrX noX own h := fun _ q => q.elim

section
variable {T : Tp} {X : Addr → Prop} {own own' : Addr → Ow} {bt bt' : List Addr} {h h' : Heap}

theorem VR.ext (x : Ext X own bt h own' bt' h') (fx : FrX X own h) {av : AV} {v : Value} (r : VR T own bt h av v) : VR T own' bt' h' av v := by
  induction r with
  | none => exact .none
  | bool b => exact .bool b
  | int i t => exact .int i t
  | str t q => exact .str t q
  | ref e =>
    obtain ⟨r, q⟩ := x.bt
    refine .ref ?_
    rw [q, List.getElem?_append_left (List.getElem?_eq_some_iff.mp e).1]; exact e
  | tup e c d f l z _ ih =>
    have hx : ¬ X _ := fun q => by
      rcases (fx _ q).2 _ e with ⟨_, _, z⟩ | ⟨_, z⟩ | ⟨z, _⟩
      · rw [d] at z; cases z
      · rw [d] at z; cases z
      · exact z c
    exact .tup (x.kp _ _ e f hx) c d ((x.ow _ _ e hx).trans f) l z ih
  | scr e c d l r z => exact .scr e c d l r z
  | rng e f a b c d =>
    have hx : ¬ X _ := fun q => by
      rcases (fx _ q).2 _ e with ⟨_, _, z⟩ | ⟨_, z⟩ | ⟨_, z⟩
      · cases z
      · cases z
      · exact z rfl
    exact .rng (x.kp _ _ e f hx) ((x.ow _ _ e hx).trans f) a b c d
theorem VRs.ext (x : Ext X own bt h own' bt' h') (fx : FrX X own h) {xs : List AV} {vs : List Value} (r : VRs T own bt h xs vs) : VRs T own' bt' h' xs vs := by
  induction r with
  | nil => exact .nil
  | cons a _ ih => exact .cons (VR.ext x fx a) ih

theorem VRs.length {xs : List AV} {vs : List Value} (r : VRs T own bt h xs vs) : vs.length = xs.length := by
  induction r with
  | nil => rfl
  | cons _ _ ih => rw [List.length_cons, List.length_cons, ih]
theorem VRs.get {xs : List AV} {vs : List Value} (r : VRs T own bt h xs vs) : ∀ {i : Nat} {x : AV}, xs[i]? = some x → ∃ v, vs[i]? = some v ∧ VR T own bt h x v := by
  induction r with
  | nil => intro i x e; cases e
  | cons a _ ih =>
    intro i x e
    cases i with
    | zero => cases e; exact ⟨_, rfl, a⟩
    | succ i => exact ih e
theorem VRs.of : ∀ {xs : List AV} {vs : List Value}, vs.length = xs.length → (∀ (i : Nat) (x : AV) (v : Value), xs[i]? = some x → vs[i]? = some v → VR T own bt h x v) → VRs T own bt h xs vs := by
  intro xs
  induction xs with
  | nil =>
    intro vs e _
    cases vs with
    | nil => exact .nil
    | cons v vs => cases e
  | cons x xs ih =>
    intro vs e r
    cases vs with
    | nil => cases e
    | cons v vs => exact .cons (r 0 x v rfl rfl) (ih (Nat.succ.inj e) fun i y w hy hw => r (i + 1) y w hy hw)
theorem VRs.append {xs ys : List AV} {vs ws : List Value} (r : VRs T own bt h xs vs) (k : VRs T own bt h ys ws) : VRs T own bt h (xs ++ ys) (vs ++ ws) := by
  induction r with
  | nil => exact k
  | cons a _ ih => exact .cons a ih
theorem VRs.drop {xs : List AV} {vs : List Value} (n : Nat) (r : VRs T own bt h xs vs) : VRs T own bt h (xs.drop n) (vs.drop n) := by
  induction r generalizing n with
  | nil => rw [List.drop_nil, List.drop_nil]; exact .nil
  | cons a r ih =>
    cases n with
    | zero => exact .cons a r
    | succ n => exact ih n
theorem VRs.take {xs : List AV} {vs : List Value} (n : Nat) (r : VRs T own bt h xs vs) : VRs T own bt h (xs.take n) (vs.take n) := by
  induction r generalizing n with
  | nil => rw [List.take_nil, List.take_nil]; exact .nil
  | cons a r ih =>
    cases n with
    | zero => exact .nil
    | succ n => exact .cons a (ih n)
end
end Mine

/-! Soundness, part 2: objects, states, what a tree must give back (typed by hand). -/
set_option Elab.async false
set_option genInjectivity false
set_option genSizeOf false
set_option bootstrap.genMatcherCode false
namespace Mine
open PySem PySem.SeqAt

/-! ### keys -/
noncomputable def kIs : Str ⊕ Int → Value → Bool
  | .inl x, v => Value.isStrOf x v
  | .inr i, v => Value.isInt i v
theorem kIs_shape {k : Str ⊕ Int} {v : Value} (h : kIs k v = true) : (∃ x t, k = .inl x ∧ v = .str x t) ∨ ∃ i t, k = .inr i ∧ v = .int i t := by
  cases k with
  | inl x => obtain ⟨t, rfl⟩ := Value.isStrOf_shape h; exact .inl ⟨x, t, rfl, rfl⟩
  | inr i => obtain ⟨t, rfl⟩ := Value.isInt_shape h; exact .inr ⟨i, t, rfl, rfl⟩

noncomputable def kKind (prog : Program) (w : World) : KeyKind prog w (Str ⊕ Int) where
  is := kIs
  hash := fun | .inl x => hashStr w x | .inr i => hashInt i
  inj := fun v a b ha hb => by
    rcases kIs_shape ha with ⟨x, t, rfl, rfl⟩ | ⟨i, t, rfl, rfl⟩ <;> rcases kIs_shape hb with ⟨y, u, rfl, q⟩ | ⟨j, u, rfl, q⟩ <;> cases q <;> rfl
  byValue := fun k v h => by rcases kIs_shape h with ⟨x, t, rfl, rfl⟩ | ⟨i, t, rfl, rfl⟩ <;> rfl
  pyHash := fun hv h => by
    rcases kIs_shape hv with ⟨x, t, rfl, rfl⟩ | ⟨i, t, rfl, rfl⟩
    · exact wpAny_pyHash_str h
    · exact wpAny_pyHash_int h
  eqBool := fun {A E s a b u v Q} hu hv h => by
    rcases kIs_shape hu with ⟨x, t, rfl, rfl⟩ | ⟨i, t, rfl, rfl⟩ <;> rcases kIs_shape hv with ⟨y, u, rfl, rfl⟩ | ⟨j, u, rfl, rfl⟩
    · exact wpAny_eqBool_str (by simpa using h)
    · exact (EqAt.str_int x t j u) prog w E Q (by simpa using h)
    · exact (EqAt.int_str i t y u) prog w E Q (by simpa using h)
    · exact wpAny_eqBool_int (by
        have e : (i == j) = decide ((Sum.inr i : Str ⊕ Int) = Sum.inr j) := by
          by_cases q : i = j <;> simp [q]
        rw [e]; exact h)
  «strs» := fun k x t v h => by
    rcases kIs_shape h with ⟨y, u, rfl, q⟩ | ⟨i, u, rfl, q⟩ <;> cases q
    cases v <;> rfl

noncomputable def keyOk (k : AV) : Prop := match k with
  | .int _ => True
  | .str s => okS s
  | _ => False
noncomputable def kOf (k : AV) : Str ⊕ Int := match k with
  | .int i => .inr i
  | .str s => .inl (tS s)
  | _ => .inr 0
/-- a dict's entries as the model has them -/
inductive KV (T : Tp) (own : Addr → Ow) (bt : List Addr) (h : Heap) : List (AV × AV) → List ((Str ⊕ Int) × Value) → Prop
  | nil : KV T own bt h [] []
  | cons {p : AV × AV} {w : Value} {es : List (AV × AV)} {kvs : List ((Str ⊕ Int) × Value)} : keyOk p.1 → VR T own bt h p.2 w → KV T own bt h es kvs → KV T own bt h (p :: es) ((kOf p.1, w) :: kvs)
theorem KV.ext {T : Tp} {X : Addr → Prop} {own own' : Addr → Ow} {bt bt' : List Addr} {h h' : Heap} (x : Ext X own bt h own' bt' h') (fx : FrX X own h) {es : List (AV × AV)} {kvs : List ((Str ⊕ Int) × Value)} (r : KV T own bt h es kvs) : KV T own' bt' h' es kvs := by
  induction r with
  | nil => exact .nil
  | cons a b _ ih => exact .cons a (b.ext x fx) ih
theorem dictAt_at {prog : Program} {w : World} {K : Type} [DecidableEq K] {knd : KeyKind prog w K} {h h' : Heap} {a : Addr} {kvs : List (K × Value)} {n : Nat} (d : h.DictAt knd a kvs n) (e : ∀ q, h.get? a = some q → h'.get? a = some q) : h'.DictAt knd a kvs n :=
  let ⟨o, es, ho, r⟩ := d; ⟨o, es, e o ho, r⟩

/-- what an instance's dict says under a name -/
noncomputable def fnd (ents : List DictEntry) (nm : Str) : Option Value := (ents.find? fun e => e.key.isStr nm).map (·.val)
/-- the attributes of an instance -/
structure IR (T : Tp) (own : Addr → Ow) (bt : List Addr) (h : Heap) (fs : List (Option AV)) (ents : List DictEntry) : Prop where
  keys : ∀ e ∈ ents, ∃ x t, e.key = .str x t ∧ x ∈ T.P.attrs
  few : ents.length ≤ fs.countP (·.isSome) ∧ fs.length ≤ 1000
  said : ∀ (i : Nat) (nm : Str), T.P.attrs[i]? = some nm → (∀ av, fs[i]? = some (some av) → ∃ v, fnd ents nm = some v ∧ VR T own bt h av v) ∧ ((∀ av, fs[i]? ≠ some (some av)) → fnd ents nm = none)
theorem IR.ext {T : Tp} {X : Addr → Prop} {own own' : Addr → Ow} {bt bt' : List Addr} {h h' : Heap} {fs : List (Option AV)} {ents : List DictEntry} (r : IR T own bt h fs ents) (x : Ext X own bt h own' bt' h') (fx : FrX X own h) :
    IR T own' bt' h' fs ents :=
  ⟨r.keys, r.few, fun i nm e => ⟨fun av q => let ⟨v, e1, e2⟩ := (r.said i nm e).1 av q; ⟨v, e1, e2.ext x fx⟩, (r.said i nm e).2⟩⟩

/-- an object of the abstract heap as the model has it -/
inductive OR (T : Tp) (own : Addr → Ow) (bt : List Addr) (h : Heap) (l : Nat) (a : Addr) : AO → Prop
  | list {xs : List AV} (vs : Array Value) (n : Nat) : h.get? a = some { cls := .type "list", data := .seq vs n } → VRs T own bt h xs vs.toList → xs.length ≤ lim → OR T own bt h l a (.list xs)
  | dict {ep : Option Nat} {es : List (AV × AV)} (kvs : List ((Str ⊕ Int) × Value)) (n : Nat) : h.DictAt (kKind T.prog T.w) a kvs n → (∀ e, ep = some e → n = e) → KV T own bt h es kvs → es.length ≤ lim → OR T own bt h l a (.dict ep es)
  | inst {c : Nat} {fs : List (Option AV)} (cl : Cl) (dx : Addr) (ents : Array DictEntry) (n : Nat) : T.P.cls[c]? = some cl → h.get? a = some { cls := .ref (T.ca c), dict := some dx, data := .plain } → own dx = .loc l → dx ≠ a → h.get? dx = some { cls := .type "dict", data := .dict ents n } →
      IR T own bt h fs ents.toList → OR T own bt h l a (.inst c fs)

theorem OR.mono {T : Tp} {X : Addr → Prop} {own own' : Addr → Ow} {bt bt' : List Addr} {h h' : Heap} {l : Nat} {a : Addr} {o : AO} (r : OR T own bt h l a o) (x : Ext X own bt h own' bt' h') (fx : FrX X own h) (ha : own a = .loc l)
    (k : ∀ b q, own b = .loc l → h.get? b = some q → h'.get? b = some q) : OR T own' bt' h' l a o := by
  cases r with
  | list vs n h1 h2 h3 => exact .list vs n (k _ _ ha h1) (h2.ext x fx) h3
  | dict kvs n h1 h2 h3 h4 => exact .dict kvs n (dictAt_at h1 fun q e => k _ _ ha e) h2 (h3.ext x fx) h4
  | inst cl dx ents n h0 h1 h2 h3 h4 h5 =>
    exact .inst cl dx ents n h0 (k _ _ ha h1) ((x.ow _ _ h4 (fun q => by rw [(fx _ q).1] at h2; cases h2)).trans h2) h3 (k _ _ h2 h4) (h5.ext x fx)

structure Wd where
  own : Addr → Ow
  bt : List Addr
  σ : Hp
  s : Shared

noncomputable abbrev Wd.h (W : Wd) : Heap := W.s.heap
noncomputable abbrev Wd.V (W : Wd) (T : Tp) : AV → Value → Prop := VR T W.own W.bt W.s.heap
noncomputable abbrev Wd.Vs (W : Wd) (T : Tp) : List AV → List Value → Prop := VRs T W.own W.bt W.s.heap

structure Inv (T : Tp) (W : Wd) : Prop where
  len : W.bt.length = W.σ.length
  ownb : ∀ l a, W.bt[l]? = some a → W.own a = .loc l
  lt : ∀ a, W.own a ≠ .free → (∃ o, W.h.get? a = some o) ∧ T.base.get? a = none
  obj : ∀ l o a, W.σ[l]? = some o → W.bt[l]? = some a → OR T W.own W.bt W.h l a o
  base : T.base.StaysIn W.h
  st : ∃ o, T.base.get? cStatics = some o
  hi : ∀ (l : Nat) (a : Addr), W.bt[l]? = some a → cStatics < a

structure Le (X : Addr → Prop) (W W' : Wd) : Prop where
  ext : Ext X W.own W.bt W.h W'.own W'.bt W'.h
  gens : W'.s.gens = W.s.gens
  os : W'.s.os = W.s.os

theorem Le.refl (X : Addr → Prop) (W : Wd) : Le X W W := ⟨.refl _ _ _ _, rfl, rfl⟩
theorem Le.trans {X : Addr → Prop} {W₁ W₂ W₃ : Wd} (x : Le X W₁ W₂) (y : Le X W₂ W₃) : Le X W₁ W₃ :=
  ⟨x.ext.trans y.ext, y.gens.trans x.gens, y.os.trans x.os⟩
theorem Le.mono {X Y : Addr → Prop} {W W' : Wd} (x : Le X W W') (m : ∀ a, X a → Y a) : Le Y W W' := ⟨x.ext.mono m, x.gens, x.os⟩
theorem Le.ofNo {X : Addr → Prop} {W W' : Wd} (x : Le noX W W') : Le X W W' := x.mono fun _ q => q.elim

theorem VR.le {T : Tp} {W W' : Wd} {av : AV} {v : Value} (r : W.V T av v) (x : Le noX W W') : W'.V T av v := VR.ext x.ext .no r
theorem VRs.le {T : Tp} {W W' : Wd} {av : List AV} {v : List Value} (r : W.Vs T av v) (x : Le noX W W') : W'.Vs T av v := VRs.ext x.ext .no r

theorem lst_ok {o : Option AO} {xs : List AV} (e : lst o = some xs) : o = some (.list xs) := by
  cases o with
  | none => cases e
  | some o => cases o <;> cases e; rfl
theorem dct_ok {o : Option AO} {p : Option Nat × List (AV × AV)} (e : dct o = some p) : o = some (.dict p.1 p.2) := by
  cases o with
  | none => cases e
  | some o => cases o <;> cases e; rfl
theorem ins_ok {o : Option AO} {p : Nat × List (Option AV)} (e : ins o = some p) : o = some (.inst p.1 p.2) := by
  cases o with
  | none => cases e
  | some o => cases o <;> cases e; rfl
inductive LAt (T : Tp) (W : Wd) (l : Nat) (xs : List AV) : Value → Prop
  | mk (a : Addr) (vs : Array Value) (n : Nat) : W.bt[l]? = some a → W.h.get? a = some { cls := .type "list", data := .seq vs n } → W.Vs T xs vs.toList → xs.length ≤ lim → LAt T W l xs (.ref a)
theorem Inv.listAt {T : Tp} {W : Wd} (I : Inv T W) {l : Nat} {xs : List AV} {v : Value} (e : W.σ[l]? = some (.list xs)) (r : W.V T (.ref l) v) : LAt T W l xs v := by
  cases r with
  | ref q =>
    cases I.obj _ _ _ e q with
    | list vs n h1 h2 h3 => exact .mk _ vs n q h1 h2 h3
theorem Inv.notSys {T : Tp} {W : Wd} (I : Inv T W) {l : Nat} {a : Addr} (q : W.bt[l]? = some a) : (a == sysModules) = false := beq_eq_false_iff_ne.mpr (Nat.ne_of_gt (Nat.lt_trans (by decide) (I.hi _ _ q)))
inductive DAt (T : Tp) (W : Wd) (l : Nat) (ep : Option Nat) (es : List (AV × AV)) : Value → Prop
  | mk (a : Addr) (kvs : List ((Str ⊕ Int) × Value)) (n : Nat) : W.bt[l]? = some a → W.h.DictAt (kKind T.prog T.w) a kvs n → (∀ e, ep = some e → n = e) → KV T W.own W.bt W.h es kvs → es.length ≤ lim → (a == sysModules) = false → DAt T W l ep es (.ref a)
theorem Inv.dict {T : Tp} {W : Wd} (I : Inv T W) {l : Nat} {ep : Option Nat} {es : List (AV × AV)} {v : Value} (e : W.σ[l]? = some (.dict ep es)) (r : W.V T (.ref l) v) : DAt T W l ep es v := by
  cases r with
  | ref q =>
    cases I.obj _ _ _ e q with
    | dict kvs n h1 h2 h3 h4 => exact .mk _ kvs n q h1 h2 h3 h4 (I.notSys q)
/-! ### steps -/
/-- the model's heap keeps all that it had -/
theorem Inv.grow {T : Tp} {W : Wd} (I : Inv T W) {s' : Shared} (hk : ∀ a o, W.h.get? a = some o → s'.heap.get? a = some o) (hg : s'.gens = W.s.gens) (ho : s'.os = W.s.os) :
    Inv T { W with s := s' } ∧ Le noX W { W with s := s' } := by
  have x : Ext noX W.own W.bt W.h W.own W.bt s'.heap := ⟨fun a o e _ _ => hk a o e, fun a o e _ => ⟨o, hk a o e⟩, fun _ _ _ _ => rfl, [], (List.append_nil _).symm⟩
  refine ⟨⟨I.len, I.ownb, fun a q => ⟨let ⟨o, e⟩ := (I.lt a q).1; ⟨o, hk a o e⟩, (I.lt a q).2⟩, fun l o a e q => ?_, fun b o e => hk b o (I.base b o e), I.st, I.hi⟩, x, hg, ho⟩
  exact (I.obj l o a e q).mono x .no (I.ownb l a q) fun b q' _ e' => hk b q' e'

/-- a state with one object more -/
noncomputable abbrev Wd.push (W : Wd) (o : AO) (s' : Shared) : Wd := { own := fun a => if a = W.h.objs.size then .loc W.σ.length else W.own a, bt := W.bt ++ [W.h.objs.size], σ := W.σ ++ [o], s := s' }

theorem Inv.push {T : Tp} {W : Wd} (I : Inv T W) {s' : Shared} {o : AO} {ob : Obj} (hs : s'.heap.get? W.h.objs.size = some ob) (hk : ∀ a q, W.h.get? a = some q → s'.heap.get? a = some q)
    (hg : s'.gens = W.s.gens) (ho : s'.os = W.s.os) (hr : Ext noX W.own W.bt W.h (W.push o s').own (W.push o s').bt s'.heap → OR T (W.push o s').own (W.push o s').bt s'.heap W.σ.length W.h.objs.size o) :
    Inv T (W.push o s') ∧ Le noX W (W.push o s') ∧ (W.push o s').V T (.ref W.σ.length) (.ref W.h.objs.size) := by
  have x : Ext noX W.own W.bt W.h (W.push o s').own (W.push o s').bt s'.heap := ⟨fun a o e _ _ => hk a o e, fun a o e _ => ⟨o, hk a o e⟩, fun a o e _ => if_neg (Nat.ne_of_lt (Heap.lt_size e)), [W.h.objs.size], rfl⟩
  have hbt : ∀ l a, W.bt[l]? = some a → a < W.h.objs.size := fun l a e => let ⟨_, q⟩ := (I.lt a (by rw [I.ownb l a e]; exact Ow.noConfusion)).1; Heap.lt_size q
  refine ⟨⟨by simp [I.len], fun l a e => ?_, fun a q => ?_, fun l o' a e q => ?_, fun b q e => hk _ _ (I.base b q e), I.st, fun l a e => ?_⟩, ⟨x, hg, ho⟩, .ref (by simp [← I.len])⟩
  · simp only [Wd.push] at e ⊢
    rw [List.getElem?_append] at e
    split at e
    · rw [if_neg (Nat.ne_of_lt (hbt l a e))]; exact I.ownb l a e
    · rename_i hl
      have : l = W.bt.length := by
        rcases Nat.lt_or_ge l (W.bt.length + 1) with z | z
        · lia  
        · rw [List.getElem?_eq_none (by simp; lia  )] at e; cases e
      subst this
      simp at e
      rw [← e, if_pos rfl, I.len]
  · simp only [Wd.push] at q ⊢
    by_cases e : a = W.h.objs.size
    · exact ⟨⟨ob, by rw [e]; exact hs⟩, by
        rw [e]
        cases z : T.base.get? W.h.objs.size with
        | none => rfl
        | some o' => exact absurd (Heap.lt_size (I.base _ _ z)) (Nat.lt_irrefl _)⟩
    · rw [if_neg e] at q
      exact ⟨let ⟨o, e⟩ := (I.lt a q).1; ⟨o, hk a o e⟩, (I.lt a q).2⟩
  · simp only [Wd.push] at e q
    rw [List.getElem?_append] at e q
    split at e
    · rename_i hl
      rw [if_pos (by rw [I.len]; exact hl)] at q
      exact (I.obj l o' a e q).mono x .no (I.ownb l a q) fun b q' _ e' => hk b q' e'
    · rename_i hl
      rw [if_neg (by rw [I.len]; exact hl)] at q
      have : l = W.σ.length := by
        rcases Nat.lt_or_ge l (W.σ.length + 1) with z | z
        · lia  
        · rw [List.getElem?_eq_none (by simp; lia  )] at e; cases e
      subst this
      rw [I.len] at q
      simp at e q
      rw [← e, ← q]
      exact hr x
  · simp only [Wd.push] at e
    rw [List.getElem?_append] at e
    split at e
    · exact I.hi l a e
    · obtain ⟨o, ho⟩ := I.st
      have := Heap.lt_size (I.base _ _ ho)
      rcases List.mem_singleton.mp (List.mem_of_getElem? e) with rfl
      exact this

/-- a state with one object changed -/
noncomputable abbrev Wd.upd (W : Wd) (l : Nat) (o : AO) (s' : Shared) : Wd := { W with σ := W.σ.set l o, s := s' }

theorem Inv.upd {T : Tp} {W : Wd} (I : Inv T W) {s' : Shared} {l : Nat} {o : AO} {a : Addr} (hl : W.bt[l]? = some a) (hs : ∀ b q, W.own b = .loc l → W.h.get? b = some q → ∃ q', s'.heap.get? b = some q') (hk : ∀ b, W.own b ≠ .loc l → s'.heap.get? b = W.h.get? b)
    (hg : s'.gens = W.s.gens) (ho : s'.os = W.s.os) (hr : Ext noX W.own W.bt W.h W.own W.bt s'.heap → OR T W.own W.bt s'.heap l a o) :
    Inv T (W.upd l o s') ∧ Le noX W (W.upd l o s') := by
  have df : ∀ a o, W.h.get? a = some o → ∃ o', s'.heap.get? a = some o' := fun a o e => (Classical.em (W.own a = .loc l)).elim (fun f => hs a o f e) (fun f => ⟨o, (hk a f).trans e⟩)
  have x : Ext noX W.own W.bt W.h W.own W.bt s'.heap := ⟨fun a o e f _ => (hk a (by rw [f]; exact Ow.noConfusion)).trans e, fun a o e _ => df a o e, fun _ _ _ _ => rfl, [], (List.append_nil _).symm⟩
  refine ⟨⟨by simp [I.len], I.ownb, fun a q => ⟨let ⟨o, e⟩ := (I.lt a q).1; df a o e, (I.lt a q).2⟩, fun l' o' a' e q => ?_, fun b q e => ?_, I.st, I.hi⟩, x, hg, ho⟩
  · simp only [Wd.upd] at e
    rw [List.getElem?_set] at e
    split at e
    · rename_i z
      subst z
      split at e
      · cases e
        rw [hl] at q; cases q
        exact hr x
      · cases e
    · rename_i z
      refine (I.obj l' o' a' e q).mono x .no (I.ownb l' a' q) fun b q' f e' => (hk b ?_).trans e'
      rw [f]; intro y; injection y with y; exact z y.symm
  · refine (hk b fun z => ?_).trans (I.base b q e)
    have := (I.lt b (by rw [z]; simp)).2
    rw [this] at e; cases e

theorem Inv.toks {T : Tp} {W : Wd} (I : Inv T W) (t : Nat) : Inv T { W with s := { W.s with toks := t } } ∧ Le noX W { W with s := { W.s with toks := t } } :=
  I.grow (fun _ _ e => e) rfl rfl

/-! ### what a tree gives back -/
/-- the tree ends as `r` says -/
inductive PostE {α β : Type} (T : Tp) (X : Addr → Prop) (W : Wd) (r : Out α) (R : Wd → α → β → Prop) (b : β) (s' : Shared) : Prop
  | intro (a : α) (W' : Wd) : W'.s = s' → r = .ok a W'.σ → Inv T W' → Le X W W' → R W' a b → PostE T X W r R b s'

/-- evaluation of a tree as the abstract one says -/
noncomputable def Does {α β : Type} (T : Tp) (A : Around) (X : Addr → Prop) (W : Wd) (t : Sem β) (r : Out α) (R : Wd → α → β → Prop) : Prop :=
  wpAny T.M A t (PostE T X W r R) (fun _ _ => False) W.s

section
variable {T : Tp} {A : Around} {X : Addr → Prop} {W : Wd} {α β γ δ : Type}

theorem Does.ok {t : Sem β} {a : α} {R : Wd → α → β → Prop} (h : wpAny T.M A t (fun b s' => ∃ W', W'.s = s' ∧ W'.σ = W.σ ∧ Inv T W' ∧ Le X W W' ∧ R W' a b) (fun _ _ => False) W.s) : Does T A X W t (.ok a W.σ) R :=
  wpAny_mono h (fun _ _ ⟨W', e, q, I, l, r⟩ => ⟨a, W', e, by rw [q], I, l, r⟩) fun _ _ q => q.elim

/-- the tree's end, for any rule of the library -/
theorem Does.cps {t : Sem β} {r : Out α} {R : Wd → α → β → Prop} {Q : β → Shared → Prop} {E : Value → Shared → Prop} (h : Does T A X W t r R)
    (hq : ∀ a W' b, r = .ok a W'.σ → Inv T W' → Le X W W' → R W' a b → Q b W'.s) : wpAny T.M A t Q E W.s :=
  wpAny_mono h (fun b _ ⟨a, W', e, q, I, l, r⟩ => e ▸ hq a W' b q I l r) fun _ _ q => q.elim

/-- seen from an earlier state -/
theorem Does.up {W₀ : Wd} {t : Sem β} {r r₀ : Out α} {R : Wd → α → β → Prop} {E : Value → Shared → Prop} (h : Does T A X W t r R) (l : Le X W₀ W) (e : r₀ = r) :
    wpAny T.M A t (PostE T X W₀ r₀ R) E W.s := by
  subst e
  exact wpAny_mono h (fun b _ ⟨a, W', e, q, I, l', r⟩ => ⟨a, W', e, q, I, l.trans l', r⟩) fun _ _ q => q.elim

theorem Does.bind {t : Sem β} {r : Out α} {R : Wd → α → β → Prop} {f : α → Hp → Out γ} {R' : Wd → γ → δ → Prop} {k : β → Sem δ}
    (h : Does T A X W t r R)
    (hk : ∀ a W' b, r = .ok a W'.σ → Inv T W' → Le X W W' → R W' a b → Does T A X W' (k b) (f a W'.σ) R') : Does T A X W (t >>= k) (r.bind f) R' :=
  wpAny_bind (h.cps (fun a W' b e I l rr => (hk a W' b e I l rr).up l (by rw [e]; rfl)))

theorem Does.mono {t : Sem β} {r : Out α} {R R' : Wd → α → β → Prop} (h : Does T A X W t r R) (m : ∀ W' a b, Inv T W' → Le X W W' → r = .ok a W'.σ → R W' a b → R' W' a b) : Does T A X W t r R' :=
  wpAny_mono h (fun _ _ ⟨a, W', e, q, I, l, r⟩ => ⟨a, W', e, q, I, l, m _ _ _ I l q r⟩) fun _ _ q => q
end

end Mine

/-! Soundness: what is asked of the text's classes (typed by hand). -/
set_option Elab.async false
namespace Mine
open PySem PySem.W

/-- a class of plain instances -/
noncomputable def instB (K : Frag) (P : Pr) (fa : Nat → Addr) (C : Addr) (cl : Cl) : Bool :=
  keepIn K (.ref C) && makesIn K C && (match cl.init with | some f => (findIn K (.ref C) "__init__" == some (some (.ref (fa f)))) && PySem.W.isFn K (.ref (fa f)) | none => false) && plainGet K C "" && hasDictIn K C &&
    (findIn K (.ref C) "__setattr__" == some (some (.builtin "object.__setattr__"))) && plainOver K C &&
    P.attrs.all (fun nm => (match findIn K (.ref C) nm with | some a => noGet K a | none => false) && (takerIn K C nm == some none)) &&
    cl.meths.all (fun p => match P.methNames[p.1]? with | some nm => (findIn K (.ref C) nm == some (some (.ref (fa p.2)))) && PySem.W.isFn K (.ref (fa p.2)) && keepIn K (.ref (fa p.2)) && !P.attrs.contains nm | none => false)
noncomputable def clsB (K : Frag) (P : Pr) (ca fa : Nat → Addr) : Nat → List Cl → Bool
  | _, [] => true
  | c, cl :: r => instB K P fa (ca c) cl && clsB K P ca fa (c + 1) r
noncomputable def nodupA : List Str → Bool
  | [] => true
  | x :: r => !r.contains x && nodupA r

theorem clsB_get {K : Frag} {P : Pr} {ca fa : Nat → Addr} : ∀ {l : List Cl} {i : Nat}, clsB K P ca fa i l = true → ∀ (j : Nat) (cl : Cl), l[j]? = some cl → instB K P fa (ca (i + j)) cl = true
  | c :: r, i, h, 0, cl, e => by
    cases e
    simp only [clsB, Bool.and_eq_true] at h
    exact h.1
  | c :: r, i, h, j + 1, cl, e => by
    simp only [clsB, Bool.and_eq_true] at h
    have := clsB_get h.2 j cl (by simpa using e)
    rw [show i + (j + 1) = i + 1 + j by lia  ]; exact this
end Mine

/-! Soundness, part 3: frames, names, the plain expressions (typed by hand). -/
set_option Elab.async false
namespace Mine
open PySem PySem.SeqAt

/-- a name of the frame reads a value -/
noncomputable def Rd (W : Wd) (env : Env) (x : Str) (v : Value) : Prop :=
  (env.kindOf x = some .local ∧ W.own env.locals = .free ∧ ∃ m, W.h.Ns env.locals m ∧ m x = some v) ∨
  (env.kindOf x = some .cell ∧ ∃ c, env.cells.lookup x = some c ∧ W.own c = .free ∧ W.h.IsCell c (some v))

theorem ns_ko {h h' : Heap} {a : Addr} {m : Str → Option Value} (n : h.Ns a m) (k : ∀ o, h.get? a = some o → h'.get? a = some o) : h'.Ns a m := let ⟨o, es, ep, ho, r⟩ := n; ⟨o, es, ep, k o ho, r⟩
theorem cell_ko {h h' : Heap} {a : Addr} {v : Option Value} (n : h.IsCell a v) (k : ∀ o, h.get? a = some o → h'.get? a = some o) : h'.IsCell a v := let ⟨o, ho, hd⟩ := n; ⟨o, k o ho, hd⟩
theorem ns_at {h : Heap} {a : Addr} {m : Str → Option Value} (n : h.Ns a m) : ∃ o, h.get? a = some o := let ⟨o, _, _, ho, _⟩ := n; ⟨o, ho⟩
theorem cell_at {h : Heap} {a : Addr} {m : Option Value} (n : h.IsCell a m) : ∃ o, h.get? a = some o := let ⟨o, ho, _⟩ := n; ⟨o, ho⟩

theorem Rd.le {W W' : Wd} {env : Env} {x : Str} {v : Value} (r : Rd W env x v) (l : Le noX W W') : Rd W' env x v := by
  rcases r with ⟨k, f, m, n, e⟩ | ⟨k, c, e, f, n⟩
  · exact .inl ⟨k, (let ⟨_, z⟩ := ns_at n; (l.ext.ow _ _ z id).trans f), m, ns_ko n fun o ho => l.ext.kp _ o ho f id, e⟩
  · exact .inr ⟨k, c, e, (let ⟨_, z⟩ := cell_at n; (l.ext.ow _ _ z id).trans f), cell_ko n fun o ho => l.ext.kp _ o ho f id⟩

/-- the frame as the abstract variables say -/
structure Fm (T : Tp) (W : Wd) (env : Env) (sl : List (Nat × Str)) (vs : Vs) : Prop where
  kind : env.scope.kind = .function
  glob : env.globals = mainGlobals
  bi : env.builtins = builtinsNs
  cells : ∀ x, env.scope.names.lookup x = some .cell → ∃ c, env.cells.lookup x = some c
  rd : ∀ i x, (i, x) ∈ sl → ∀ av, vs[i]? = some (some av) → ∃ v, W.V T av v ∧ Rd W env x v

theorem Fm.le {T : Tp} {W W' : Wd} {env : Env} {sl : List (Nat × Str)} {vs : Vs} (F : Fm T W env sl vs) (l : Le noX W W') : Fm T W' env sl vs :=
  ⟨F.kind, F.glob, F.bi, F.cells, fun i x hi av e => let ⟨v, r, d⟩ := F.rd i x hi av e; ⟨v, r.le l, d.le l⟩⟩

/-- what is known of the top -/
structure Tp.Ok (T : Tp) : Prop where
  g : T.base.Ns mainGlobals T.mg
  b : T.base.Ns builtinsNs T.mb
  nolimit : T.base.NoLimit
  bi : ∀ x : Str, x ≠ "__name__" → T.mb x = bootBuiltins x
  X : T.K.In T.base
  cl : clsB T.K T.P T.ca T.fa 0 T.P.cls = true
  at_ : nodupA T.P.attrs = true

section
variable {T : Tp} {A : Around} {W : Wd} {env : Env} {sl : List (Nat × Str)} {vs : Vs}

noncomputable abbrev VW (T : Tp) : Wd → AV → Value → Prop := fun W av v => W.V T av v
noncomputable abbrev VWs (T : Tp) : Wd → List AV → List Value → Prop := fun W av v => W.Vs T av v

theorem does_var (F : Fm T W env sl vs) (I : Inv T W) {i : Nat} {x : Str} {pos : Pos} {av : AV} (hi : (i, x) ∈ sl) (hv : vs[i]? = some (some av)) (hd : (x == ("__debug__" : Str)) = false) :
    Does T A noX W (eval (.Name x pos) env) (.ok av W.σ) (VW T) := by
  obtain ⟨v, r, d⟩ := F.rd i x hi av hv
  refine Does.ok (wpAny_Name ?_ hd)
  rcases d with ⟨k, f, m, n, e⟩ | ⟨k, c, e, f, n⟩
  · exact wpAny_loadName_local F.kind k n e ⟨W, rfl, rfl, I, .refl _ _, r⟩
  · exact wpAny_loadName_cell F.kind k e n ⟨W, rfl, rfl, I, .refl _ _, r⟩

theorem does_tok {β : Type} {t : Sem β} {a : AV} {R : Wd → AV → β → Prop} {b : β} (I : Inv T W) (k : Nat) (h : ∀ Q E, Q b { W.s with toks := k } → wpAny T.M A t Q E W.s) (r : R { W with s := { W.s with toks := k } } a b) :
    Does T A noX W t (.ok a W.σ) R := Does.ok (h _ _ ⟨{ W with s := { W.s with toks := k } }, rfl, rfl, (I.toks k).1, (I.toks k).2, r⟩)

theorem does_int (I : Inv T W) {i : Int} {k : Nat} {pos : Pos} : Does T A noX W (eval (.Constant (.int i) k pos) env) (.ok (.int i) W.σ) (VW T) :=
  does_tok I (W.s.toks + 1) (fun _ _ h => wpAny_Constant_int h) (.int _ _)
theorem does_str (I : Inv T W) {s : List Nat} {k : Nat} {pos : Pos} (ok : okS s) : Does T A noX W (eval (.Constant (.str (tS s)) k pos) env) (.ok (.str s) W.σ) (VW T) :=
  does_tok I (W.s.toks + 1) (fun _ _ h => wpAny_Constant_str h) (.str _ ok)
theorem does_bool (I : Inv T W) {b : Bool} {k : Nat} {pos : Pos} : Does T A noX W (eval (.Constant (.bool b) k pos) env) (.ok (.bool b) W.σ) (VW T) :=
  Does.ok (wpAny_Constant_bool ⟨W, rfl, rfl, I, .refl _ _, .bool b⟩)
theorem does_none (I : Inv T W) {k : Nat} {pos : Pos} : Does T A noX W (eval (.Constant .none k pos) env) (.ok .none W.σ) (VW T) :=
  Does.ok (wpAny_Constant_none ⟨W, rfl, rfl, I, .refl _ _, .none⟩)

/-- two in turn, then a third tree -/
theorem does_two {t u : Sem Value} {f : Value → Value → Sem Value} {x : Out AV} {y : Hp → Out AV} {z : AV → AV → Hp → Out AV} {E : Value → Shared → Prop} (hl : Does T A noX W t x (VW T))
    (hr : ∀ a W', Inv T W' → Le noX W W' → x = .ok a W'.σ → Does T A noX W' u (y W'.σ) (VW T))
    (ho : ∀ a b va vb W', Inv T W' → Le noX W W' → (∃ σ, x = .ok a σ ∧ y σ = .ok b W'.σ) → W'.V T a va → W'.V T b vb → Does T A noX W' (f va vb) (z a b W'.σ) (VW T)) :
    wpAny T.M A t (fun a s₁ => wpAny T.M A u (fun b s₂ => wpAny T.M A (f a b) (PostE T noX W (x.bind fun a h => (y h).bind fun b h => z a b h) (VW T)) E s₂) E s₁) E W.s :=
  hl.cps fun a W' va e I' l' ra => (hr a W' I' l' e).cps fun b W'' vb e' I'' l'' rb => (ho a b va vb W'' I'' (l'.trans l'') ⟨_, e, e'⟩ (ra.le l'') rb).up (l'.trans l'') (by rw [e]; show (y W'.σ).bind _ = _; rw [e']; rfl)

theorem does_bin {l r : Expr} {op : Operator} {pos : Pos} {x : Out AV} {y : Hp → Out AV} {z : AV → AV → Hp → Out AV} (hl : Does T A noX W (eval l env) x (VW T))
    (hr : ∀ a W', Inv T W' → Le noX W W' → x = .ok a W'.σ → Does T A noX W' (eval r env) (y W'.σ) (VW T))
    (ho : ∀ a b va vb W', Inv T W' → Le noX W W' → (∃ σ, x = .ok a σ ∧ y σ = .ok b W'.σ) → W'.V T a va → W'.V T b vb → Does T A noX W' (binaryOp op va vb) (z a b W'.σ) (VW T)) :
    Does T A noX W (eval (.BinOp l op r pos) env) (x.bind fun a h => (y h).bind fun b h => z a b h) (VW T) :=
  wpAny_BinOp (does_two hl hr ho)
end

end Mine

/-! Soundness, part 4: operators (typed by hand). -/
set_option Elab.async false
namespace Mine
open PySem PySem.SeqAt

theorem lim_eq : lim = sizeLine := by decide +kernel
theorem tS_length (s : List Nat) : (tS s).length = s.length := by simp [tS, Str.length]
theorem tS_append (a b : List Nat) : tS a ++ tS b = tS (a ++ b) := by
  show (⟨a.toArray ++ b.toArray⟩ : Str) = ⟨(a ++ b).toArray⟩
  simp
theorem okS.append {a b : List Nat} (ha : okS a) (hb : okS b) (h : a.length + b.length ≤ lim) : okS (a ++ b) :=
  ⟨fun c hc => (List.mem_append.mp hc).elim (ha.1 c) (hb.1 c), by simpa using h⟩
theorem okS.sub {a b : List Nat} (ha : okS a) (h : ∀ c ∈ b, c ∈ a) (hl : b.length ≤ a.length) : okS b := ⟨fun c hc => ha.1 c (h c hc), Nat.le_trans hl ha.2⟩

section
variable {T : Tp} {A : Around} {W : Wd}

theorem Does.keep {t : Sem Value} {a : AV} (I : Inv T W) (h : ∀ Q E, (∀ v k, W.V T a v → Q v { W.s with toks := k }) → wpAny T.M A t Q E W.s) : Does T A noX W t (.ok a W.σ) (VW T) :=
  Does.ok (h _ _ fun v k r => ⟨{ W with s := { W.s with toks := k } }, rfl, rfl, (I.toks k).1, (I.toks k).2, r.le (I.toks k).2⟩)

/-- a tree that makes a new list -/
theorem does_newList {t : Sem Value} {xs : List AV} {vs : List Value} (I : Inv T W) (r : W.Vs T xs vs)
    (h : xs.length ≤ lim → ∀ Q E, (∀ k, Q (.ref W.h.objs.size) { W.s with heap := W.h.push { cls := .type "list", data := .seq vs.toArray }, toks := k }) → wpAny T.M A t Q E W.s)
    (hn : newList xs W.σ ≠ .fail) : Does T A noX W t (newList xs W.σ) (VW T) := by
  unfold newList at hn ⊢
  split at hn
  · rename_i hl
    rw [if_pos hl]
    refine h hl (PostE T noX W _ (VW T)) (fun _ _ => False) fun k => ?_
    have := I.push (s' := { W.s with heap := W.h.push { cls := .type "list", data := .seq vs.toArray }, toks := k }) (o := .list xs) (Heap.get?_push_size _ rfl) (fun a q e => Heap.get?_push_of_some _ e) rfl rfl
      fun x => .list vs.toArray 0 (Heap.get?_push_size _ rfl) (by simpa using r.ext x .no) hl
    exact ⟨_, _, rfl, rfl, this.1, this.2.1, this.2.2⟩
  · exact absurd rfl hn

noncomputable def opM : BOp → Operator
  | .add => .Add
  | .sub => .Sub
  | .mul => .Mult
  | .mod => .Mod
  | .div => .FloorDiv

theorem rep_eq (n : Nat) (s : List Nat) : ∀ acc : Array Nat, (List.replicate n s.toArray).foldl (· ++ ·) acc = acc ++ (rep n s).toArray := by
  induction n with
  | zero => intro acc; simp [rep]
  | succ n ih => intro acc; rw [List.replicate_succ, List.foldl_cons, ih]; simp [rep]
theorem rep_length (n : Nat) (s : List Nat) : (rep n s).length = s.length * n := by
  induction n with
  | zero => rfl
  | succ n ih => simp [rep, ih, Nat.mul_succ]; lia  
theorem mem_rep {n : Nat} {s : List Nat} {c : Nat} (h : c ∈ rep n s) : c ∈ s := by
  induction n with
  | zero => simp [rep] at h
  | succ n ih => simp only [rep, List.mem_append] at h; exact h.elim id ih
theorem mul_eq (s : List Nat) (n : Int) : Txt.mul (tS s) n = tS (rep n.toNat s) := by
  unfold Txt.mul
  split
  · rename_i h
    rw [show n.toNat = 0 by lia  ]; rfl
  · split
    · rename_i h1 h2
      simp only [Bool.or_eq_true, beq_iff_eq] at h2
      rcases h2 with rfl | h2
      · simp [rep]
      · rw [tS_length] at h2
        have : s = [] := List.length_eq_zero_iff.mp h2
        subst this
        have : ∀ n, rep n [] = [] := fun n => by induction n with | zero => rfl | succ n ih => simp [rep, ih]
        rw [this]
    · show (⟨(List.replicate n.toNat s.toArray).foldl (· ++ ·) #[]⟩ : Str) = _
      rw [rep_eq]; simp [tS]

theorem log2_small {n : Nat} (h : n < 2 ^ 64) : n.log2 < 9000 := by
  by_cases e : n = 0
  · subst e; decide
  · exact Nat.lt_trans ((Nat.log2_lt e).mpr h) (by decide)
theorem bits_small {x : Int} (h : x.natAbs < 18446744073709551616) : Builtin.Int.intBits x ≤ 64 := by
  unfold Builtin.Int.intBits
  split
  · decide
  · rename_i q
    have : x.natAbs ≠ 0 := by simpa using q
    exact (Nat.log2_lt this).mpr h
theorem mulOk {s : List Nat} {n : Int} (h1 : -(lim : Int) ≤ n) (h2 : n ≤ lim) (h3 : s.length * n.toNat ≤ lim) : MulOk (tS s) n := by
  have hl : (lim : Int) = 16777216 := rfl
  refine ⟨?_, fun h _ q => ?_, fun _ _ => ?_⟩
  · simp only [Bool.or_eq_false_iff, decide_eq_false_iff_not]; lia  
  · rw [tS_length] at q
    have h4 : (s.length : Int) * n ≤ 2 ^ 63 - 1 := by
      have : ((s.length * n.toNat : Nat) : Int) ≤ (lim : Int) := by exact_mod_cast h3
      rw [Int.natCast_mul, Int.toNat_of_nonneg (by lia  )] at this
      lia  
    have h5 := (Int.le_ediv_iff_mul_le (a := s.length) (b := 2 ^ 63 - 1) (c := n) (by lia  )).mpr h4
    lia  
  · unfold Builtin.Str.tooLong
    rw [tS_length, ← lim_eq]
    simp only [gt_iff_lt, decide_eq_false_iff_not]; lia  

theorem arith_ok {f : Int → Int → Out AV} {a b : AV} (h : arithA f a b ≠ .fail) : ∃ x y, a = .int x ∧ b = .int y := by
  cases a with
  | int x =>
    cases b with
    | int y => exact ⟨x, y, rfl, rfl⟩
    | _ => exact absurd rfl h
  | _ => exact absurd rfl h

theorem does_addA (I : Inv T W) {a b : AV} {va vb : Value} (ra : W.V T a va) (rb : W.V T b vb) (hn : addA a b W.σ ≠ .fail) : Does T A noX W (binaryOp .Add va vb) (addA a b W.σ) (VW T) := by
  cases ra with
  | int x t =>
    cases rb with
    | int y u => exact Does.keep I fun _ _ h => P.add_int (h _ _ (.int _ _))
    | _ => exact absurd rfl hn
  | str t ox =>
    cases rb with
    | str u oy =>
      rename_i x y
      by_cases hl : x.length + y.length ≤ lim
      · show Does T A noX W _ (if x.length + y.length ≤ lim then _ else _) _
        rw [if_pos hl]
        refine Does.keep I fun _ _ h => SB.add (fun t' k => h _ _ ?_) (by rw [tS_length, tS_length, ← lim_eq]; exact hl)
        rw [tS_append]; exact .str _ (ox.append oy hl)
      · exact absurd (if_neg hl) hn
    | _ => exact absurd rfl hn
  | ref hx =>
    cases rb with
    | ref hy =>
      rename_i x _ y _
      have e0 : addA (.ref x) (.ref y) W.σ = match lst W.σ[x]? with | some xs => (match lst W.σ[y]? with | some ys => newList (xs ++ ys) W.σ | none => .fail) | none => .fail := rfl
      rw [e0] at hn ⊢
      cases e1 : lst W.σ[x]? with
      | none => rw [e1] at hn; exact absurd rfl hn
      | some o1 =>
        cases e2 : lst W.σ[y]? with
        | none => rw [e1, e2] at hn; exact absurd rfl hn
        | some o2 =>
          rw [e1, e2] at hn
          obtain ⟨_, vs, n, _, h1, h2, _⟩ := I.listAt (lst_ok e1) (.ref hx)
          obtain ⟨_, ws, m, _, k1, k2, _⟩ := I.listAt (lst_ok e2) (.ref hy)
          refine does_newList I (h2.append k2) (fun hl Q E h => ?_) hn
          have hz : vs.size + ws.size ≤ sizeLine := by
            have e3 := h2.length; have e4 := k2.length
            rw [Array.length_toList] at e3 e4
            rw [← lim_eq, e3, e4, ← List.length_append]; exact hl
          refine P.add_list h1 k1 ?_ hz
          have := h W.s.toks
          rw [show (vs.toList ++ ws.toList).toArray = vs ++ ws from by rw [← Array.toList_append, Array.toArray_toList]] at this
          exact this
    | _ => exact absurd rfl hn
  | _ => exact absurd rfl hn

theorem does_binA (I : Inv T W) {op : BOp} {a b : AV} {va vb : Value} (ra : W.V T a va) (rb : W.V T b vb) (hn : binA op a b W.σ ≠ .fail) :
    Does T A noX W (binaryOp (opM op) va vb) (binA op a b W.σ) (VW T) := by
  cases op with
  | add => exact does_addA I ra rb hn
  | sub =>
    obtain ⟨x, y, rfl, rfl⟩ := arith_ok hn
    cases ra; cases rb
    exact Does.keep I fun _ _ h => P.sub_int (h _ _ (.int _ _))
  | mul =>
    have key : ∀ x y : Int, a = .int x → b = .int y → Does T A noX W (binaryOp .Mult va vb) (binA .mul a b W.σ) (VW T) := fun x y ea eb => by
      subst ea; subst eb
      cases ra; cases rb
      by_cases hl : (small x || small y) = true
      · show Does T A noX W _ (if (small x || small y) = true then _ else _) _
        rw [if_pos hl]
        refine Does.keep I fun _ _ h => P.mul_int (h _ _ (.int _ _)) ?_
        simp only [small, Bool.or_eq_true, decide_eq_true_eq] at hl
        exact hl.elim (fun q => .of_left (bits_small q)) fun q => .of_right (bits_small q)
      · exact absurd (if_neg hl) hn
    cases ra with
    | str t ox =>
      cases rb with
      | int y u =>
        rename_i x
        by_cases hl : -lim ≤ y ∧ y ≤ lim ∧ x.length * y.toNat ≤ lim
        · show Does T A noX W _ (if -lim ≤ y ∧ y ≤ lim ∧ x.length * y.toNat ≤ lim then _ else _) _
          rw [if_pos hl]
          refine Does.keep I fun _ _ h => SB.mul (mulOk hl.1 hl.2.1 hl.2.2) fun t' k => h _ _ ?_
          rw [mul_eq]
          exact .str _ ⟨fun c hc => ox.1 c (mem_rep hc), by rw [rep_length]; exact hl.2.2⟩
        · exact absurd (if_neg hl) hn
      | _ => exact absurd rfl hn
    | int x t => obtain ⟨_, y, e, rfl⟩ := arith_ok (f := fun x y => if small x || small y then .ok (.int (x * y)) W.σ else .fail) (a := .int x) (b := b) hn; exact key _ _ e rfl
    | _ => exact absurd rfl hn
  | mod =>
    obtain ⟨x, y, rfl, rfl⟩ := arith_ok hn
    cases ra; cases rb
    by_cases hl : 0 < y
    · show Does T A noX W _ (if 0 < y then _ else _) _
      rw [if_pos hl]
      refine Does.keep I fun _ _ h => PyProof.Rows.mod_int (by lia  ) ?_
      rw [Int.fmod_eq_emod_of_nonneg _ (by lia  )]
      exact h _ _ (.int _ _)
    · exact absurd (if_neg hl) hn
  | div =>
    obtain ⟨x, y, rfl, rfl⟩ := arith_ok hn
    cases ra; cases rb
    by_cases hl : 0 < y ∧ y < 18446744073709551616
    · show Does T A noX W _ (if 0 < y ∧ y < 18446744073709551616 then _ else _) _
      rw [if_pos hl]
      refine Does.keep I fun _ _ h => PyProof.Rows.floordiv_int (by lia  ) ?_ (.inl (PyProof.noPylong_of_log2 ?_))
      · rw [Int.fdiv_eq_ediv_of_nonneg _ (by lia  )]
        exact h _ _ (.int _ _)
      · have : y.natAbs < 2 ^ 64 := by omega
        exact log2_small this
    · exact absurd (if_neg hl) hn
end
end Mine

/-! Soundness: dicts (typed by hand). -/
set_option Elab.async false
namespace Mine
open PySem PySem.SeqAt

/-! ### things that nobody knows are taken into the abstract heap -/
noncomputable abbrev Wd.take (W : Wd) (D D2 : Addr) (o : AO) : Wd := { own := fun a => if a = D ∨ a = D2 then .loc W.σ.length else W.own a, bt := W.bt ++ [D], σ := W.σ ++ [o], s := W.s }

theorem Inv.take {T : Tp} {W : Wd} (I : Inv T W) {D D2 : Addr} {o : AO} (hD : W.own D = .free) (hD2 : W.own D2 = .free) (hb : T.base.get? D = none) (hb2 : T.base.get? D2 = none) (ho : ∃ q, W.h.get? D = some q) (ho2 : ∃ q, W.h.get? D2 = some q) (hi : cStatics < D)
    (fx : FrX (fun b => b = D ∨ b = D2) W.own W.h) (hr : Ext (fun b => b = D ∨ b = D2) W.own W.bt W.h (W.take D D2 o).own (W.take D D2 o).bt W.h → OR T (W.take D D2 o).own (W.take D D2 o).bt W.h W.σ.length D o) :
    Inv T (W.take D D2 o) ∧ Le (fun b => b = D ∨ b = D2) W (W.take D D2 o) ∧ (W.take D D2 o).V T (.ref W.σ.length) (.ref D) := by
  have x : Ext (fun b => b = D ∨ b = D2) W.own W.bt W.h (W.take D D2 o).own (W.take D D2 o).bt W.h := ⟨fun a o e _ _ => e, fun a o e _ => ⟨o, e⟩, fun a o e q => if_neg q, [D], rfl⟩
  have hbt : ∀ (l : Nat) (a : Addr), W.bt[l]? = some a → ¬ (a = D ∨ a = D2) := fun l a e q => by
    have := I.ownb l a e
    rcases q with q | q <;> rw [q] at this
    · rw [hD] at this; cases this
    · rw [hD2] at this; cases this
  refine ⟨⟨by simp [I.len], fun l a e => ?_, fun a q => ?_, fun l o' a e q => ?_, I.base, I.st, fun l a e => ?_⟩, ⟨x, rfl, rfl⟩, .ref (by simp [← I.len])⟩
  · rw [List.getElem?_append] at e
    split at e
    · exact (if_neg (hbt l a e)).trans (I.ownb l a e)
    · rename_i hl
      have : l = W.bt.length := by
        rcases Nat.lt_or_ge l (W.bt.length + 1) with z | z
        · lia  
        · rw [List.getElem?_eq_none (by simp; lia  )] at e; cases e
      subst this
      simp at e
      show (if a = D ∨ a = D2 then Ow.loc W.σ.length else W.own a) = _
      rw [if_pos (Or.inl e.symm), I.len]
  · by_cases e : a = D ∨ a = D2
    · rcases e with rfl | rfl
      · exact ⟨ho, hb⟩
      · exact ⟨ho2, hb2⟩
    · have q' : (if a = D ∨ a = D2 then Ow.loc W.σ.length else W.own a) ≠ .free := q
      rw [if_neg e] at q'
      exact I.lt a q'
  · rw [List.getElem?_append] at e q
    split at e
    · rename_i hl
      rw [if_pos (by rw [I.len]; exact hl)] at q
      exact (I.obj l o' a e q).mono x fx (I.ownb l a q) fun b q' _ e' => e'
    · rename_i hl
      rw [if_neg (by rw [I.len]; exact hl)] at q
      have : l = W.σ.length := by
        rcases Nat.lt_or_ge l (W.σ.length + 1) with z | z
        · lia  
        · rw [List.getElem?_eq_none (by simp; lia  )] at e; cases e
      subst this
      rw [I.len] at q
      simp at e q
      rw [← e, ← q]
      exact hr x
  · rw [List.getElem?_append] at e
    split at e
    · exact I.hi l a e
    · rw [List.mem_singleton.mp (List.mem_of_getElem? e)]; exact hi

/-- what was made on the way is forgotten -/
theorem Le.lose {X Y : Addr → Prop} {W₀ W₁ W₂ : Wd} (l : Le X W₀ W₁) (l' : Le Y W₁ W₂) (h : ∀ b o, W₀.h.get? b = some o → ¬ X b → ¬ Y b) : Le X W₀ W₂ :=
  ⟨⟨fun b o e f nx => l'.ext.kp b o (l.ext.kp b o e f nx) ((l.ext.ow b o e nx).trans f) (h b o e nx), fun b o e nx => let ⟨o', e'⟩ := l.ext.df b o e nx; l'.ext.df b o' e' (h b o e nx),
    fun b o e nx => let ⟨o', e'⟩ := l.ext.df b o e nx; (l'.ext.ow b o' e' (h b o e nx)).trans (l.ext.ow b o e nx), let ⟨r, e⟩ := l.ext.bt; let ⟨r', e'⟩ := l'.ext.bt; ⟨r ++ r', by rw [e', e, List.append_assoc]⟩⟩, l'.gens.trans l.gens, l'.os.trans l.os⟩

section
variable {T : Tp} {A : Around} {W : Wd}
theorem own_new (I : Inv T W) {a : Addr} (h : W.h.get? a = none) : W.own a = .free := by
  cases q : W.own a with
  | free => rfl
  | _ => obtain ⟨o, e⟩ := (I.lt a (by rw [q]; exact Ow.noConfusion)).1; rw [h] at e; cases e
theorem get_size (h : Heap) : h.get? h.objs.size = none := by
  cases q : h.get? h.objs.size with
  | none => rfl
  | some o => exact absurd (Heap.lt_size q) (Nat.lt_irrefl _)
theorem base_new (I : Inv T W) {a : Addr} (h : W.h.get? a = none) : T.base.get? a = none := by
  cases q : T.base.get? a with
  | none => rfl
  | some o => rw [I.base _ _ q] at h; cases h
theorem Inv.high (I : Inv T W) : cStatics < W.h.objs.size := let ⟨_, ho⟩ := I.st; Heap.lt_size (I.base _ _ ho)

/-- a new list, at any new address -/
theorem Does.newAt {t : Sem Value} {xs : List AV} (I : Inv T W) (hl : xs.length ≤ lim)
    (h : ∀ Q E, (∀ D h' k arr c, W.h.get? D = none → cStatics < D → (∀ c o, W.h.get? c = some o → h'.get? c = some o) → h'.get? D = some { cls := .type "list", data := .seq arr c } → VRs T W.own W.bt h' xs arr.toList → Q (.ref D) { W.s with heap := h', toks := k }) → wpAny T.M A t Q E W.s) :
    Does T A noX W t (newList xs W.σ) (VW T) := by
  unfold newList
  rw [if_pos hl]
  refine h _ _ fun D h' k arr c hD hi hk ho r => ?_
  obtain ⟨I1, l1⟩ := I.grow (s' := { W.s with heap := h', toks := k }) hk rfl rfl
  have fx : FrX (fun b => b = D ∨ b = D) W.own h' := fun a q => ⟨by have q : a = D := q.elim id id; rw [q]; exact own_new I hD, fun o e => by
    have q : a = D := q.elim id id
    subst q
    rw [ho] at e; cases e
    exact .inr (.inr ⟨by simp, by simp⟩)⟩
  obtain ⟨I2, l2, v2⟩ := I1.take (o := .list xs) (own_new I hD) (own_new I hD) (base_new I hD) (base_new I hD) ⟨_, ho⟩ ⟨_, ho⟩ hi fx fun x => .list arr c ho (r.ext x fx) hl
  refine ⟨.ref W.σ.length, _, rfl, rfl, I2, l1.lose l2 (fun b o e _ q => ?_), v2⟩
  have q : b = D := q.elim id id
  rw [q, hD] at e; cases e
end

/-! ### keys -/
theorem tS_inj {a b : List Nat} (h : tS a = tS b) : a = b := by
  have := congrArg (fun s : Str => s.cps.toList) h
  exact this
theorem keyOk_cases {k : AV} (h : keyOk k) : (∃ i, k = .int i) ∨ ∃ s, k = .str s ∧ okS s := by
  cases k with
  | int i => exact .inl ⟨i, rfl⟩
  | str s => exact .inr ⟨s, rfl, h⟩
  | _ => cases h

section
variable {T : Tp} {own : Addr → Ow} {bt : List Addr} {h : Heap}
theorem key_of {k : AV} {v : Value} (r : VR T own bt h k v) (hk : isKey k = true) : kIs (kOf k) v = true ∧ keyOk k := by
  cases r with
  | int i t => exact ⟨by simp [kOf, kIs, Value.isInt], trivial⟩
  | str t ok => exact ⟨by simp [kOf, kIs, Value.isStrOf], ok⟩
  | _ => cases hk
theorem vr_key {k : AV} {v : Value} (ok : keyOk k) (q : kIs (kOf k) v = true) : VR T own bt h k v := by
  rcases keyOk_cases ok with ⟨i, rfl⟩ | ⟨s, rfl, ok⟩
  · rcases kIs_shape q with ⟨x, t, e, rfl⟩ | ⟨i, t, e, rfl⟩
    · cases e
    · cases e; exact .int _ _
  · rcases kIs_shape q with ⟨x, t, e, rfl⟩ | ⟨i, t, e, rfl⟩
    · cases e; exact .str _ ok
    · cases e
theorem keq_kOf {a b : AV} (ha : keyOk a) (hb : keyOk b) : (keq a b = true) ↔ kOf a = kOf b := by
  rcases keyOk_cases ha with ⟨i, rfl⟩ | ⟨s, rfl, _⟩ <;> rcases keyOk_cases hb with ⟨j, rfl⟩ | ⟨t, rfl, _⟩
  · show (i == j) = true ↔ (Sum.inr i : Str ⊕ Int) = .inr j
    rw [beq_iff_eq]
    exact ⟨fun e => by rw [e], fun e => Sum.inr.inj e⟩
  · exact ⟨fun e => (nomatch e), fun e => (nomatch e)⟩
  · exact ⟨fun e => (nomatch e), fun e => (nomatch e)⟩
  · show (s == t) = true ↔ (Sum.inl (tS s) : Str ⊕ Int) = .inl (tS t)
    rw [beq_iff_eq]
    exact ⟨fun e => by rw [e], fun e => tS_inj (Sum.inl.inj e)⟩

theorem KV.length {es : List (AV × AV)} {kvs : List ((Str ⊕ Int) × Value)} (r : KV T own bt h es kvs) : kvs.length = es.length := by
  induction r with
  | nil => rfl
  | cons _ _ _ ih => rw [List.length_cons, List.length_cons, ih]
theorem KV.keys {es : List (AV × AV)} {kvs : List ((Str ⊕ Int) × Value)} (r : KV T own bt h es kvs) : ∀ p ∈ es, keyOk p.1 := by
  induction r with
  | nil => intro p hp; cases hp
  | cons ok _ _ ih =>
    intro p hp
    rcases List.mem_cons.mp hp with rfl | hp
    · exact ok
    · exact ih p hp
theorem KV.mem {es : List (AV × AV)} {kvs : List ((Str ⊕ Int) × Value)} (r : KV T own bt h es kvs) : ∀ x, x ∈ kvs.map (·.1) → ∃ p ∈ es, kOf p.1 = x := by
  induction r with
  | nil => intro x q; cases q
  | cons _ _ _ ih =>
    intro x q
    rcases List.mem_cons.mp q with rfl | q
    · exact ⟨_, List.mem_cons_self .., rfl⟩
    · obtain ⟨p, hp, e⟩ := ih x q; exact ⟨p, List.mem_cons_of_mem _ hp, e⟩
theorem KV.nodup {es : List (AV × AV)} {kvs : List ((Str ⊕ Int) × Value)} (r : KV T own bt h es kvs) : distinct es = true → (kvs.map (·.1)).Nodup := by
  induction r with
  | nil => exact fun _ => List.nodup_nil
  | cons ok _ r ih =>
    intro hd
    have hd := Bool.and_eq_true_iff.mp hd
    rw [List.map_cons, List.nodup_cons]
    refine ⟨fun q => ?_, ih hd.2⟩
    obtain ⟨p, hp, e⟩ := r.mem _ q
    have := List.all_eq_true.mp (Bool.and_eq_true_iff.mp hd.1).2 p hp
    rw [(keq_kOf ok (r.keys p hp)).mpr e.symm] at this
    cases this
theorem dget_cons (p : AV × AV) (r : List (AV × AV)) (k : AV) : dget (p :: r) k = if keq p.1 k then some p.2 else dget r k := rfl
theorem dput_cons (p : AV × AV) (r : List (AV × AV)) (k v : AV) : dput (p :: r) k v = if keq p.1 k then (p.1, v) :: r else p :: dput r k v := rfl
theorem KV.get {k : AV} (ok : keyOk k) {es : List (AV × AV)} {kvs : List ((Str ⊕ Int) × Value)} (r : KV T own bt h es kvs) : (∀ av, dget es k = some av → ∃ v, valueAt kvs (kOf k) = some v ∧ VR T own bt h av v) ∧ (dget es k = none → valueAt kvs (kOf k) = none) := by
  induction r with
  | nil => exact ⟨fun _ e => (nomatch e), fun _ => rfl⟩
  | cons ok' r q ih =>
    rename_i p w es kvs
    rw [dget_cons]
    by_cases e : kOf p.1 = kOf k
    · rw [if_pos ((keq_kOf ok' ok).mpr e)]
      refine ⟨fun av z => ?_, fun z => (nomatch z)⟩
      cases z
      exact ⟨w, by simp [valueAt, e], r⟩
    · rw [if_neg (fun z => e ((keq_kOf ok' ok).mp z))]
      refine ⟨fun av z => ?_, fun z => ?_⟩
      · obtain ⟨v', h1, h2⟩ := ih.1 av z
        exact ⟨v', by simpa [valueAt, e] using h1, h2⟩
      · simpa [valueAt, e] using ih.2 z
theorem KV.isSome {k : AV} (ok : keyOk k) {es : List (AV × AV)} {kvs : List ((Str ⊕ Int) × Value)} (r : KV T own bt h es kvs) : (valueAt kvs (kOf k)).isSome = (dget es k).isSome := by
  cases z : dget es k with
  | none => rw [(r.get ok).2 z]; rfl
  | some av => obtain ⟨v, e1, _⟩ := (r.get ok).1 av z; rw [e1]; rfl
theorem KV.put {k v : AV} {w : Value} (ok : keyOk k) (rv : VR T own bt h v w) {es : List (AV × AV)} {kvs : List ((Str ⊕ Int) × Value)} (r : KV T own bt h es kvs) : (kvs.map (·.1)).Nodup → KV T own bt h (dput es k v) (stored kvs (kOf k) w) := by
  induction r with
  | nil => intro _; exact KV.cons (p := (k, v)) ok rv .nil
  | cons ok' r q ih =>
    intro hn
    rename_i p w' es kvs
    rw [List.map_cons, List.nodup_cons] at hn
    rw [dput_cons]
    by_cases e : kOf p.1 = kOf k
    · rw [if_pos ((keq_kOf ok' ok).mpr e)]
      have h1 : stored ((kOf p.1, w') :: kvs) (kOf k) w = (kOf p.1, w) :: kvs := by
        simp only [stored, List.any_cons, e, decide_true, Bool.true_or, if_true, List.map_cons]
        rw [map_store_of_not_mem kvs (kOf k) w (e ▸ hn.1)]
      rw [h1]
      exact .cons (p := (p.1, v)) ok' rv q
    · rw [if_neg (fun z => e ((keq_kOf ok' ok).mp z))]
      have h1 : stored ((kOf p.1, w') :: kvs) (kOf k) w = (kOf p.1, w') :: stored kvs (kOf k) w := by
        unfold stored
        by_cases z : (kvs.any fun kv => decide (kv.1 = kOf k)) = true
        · simp [z, e]
        · simp [z, e]
      rw [h1]
      exact .cons ok' r (ih hn.2)
theorem dput_length (k v : AV) (es : List (AV × AV)) : (dput es k v).length ≤ es.length + 1 := by
  induction es with
  | nil => exact Nat.le_refl _
  | cons p r ih => rw [dput_cons]; split <;> simp only [List.length_cons] at * <;> lia  
end

/-! ### writing -/
section
variable {prog : Program} {w : World} {K : Type} [DecidableEq K] {knd : KeyKind prog w K} {A : Around} {E : Value → Shared → Prop} {s : Shared}
theorem idx_toList {es : Array DictEntry} (p : DictEntry → Bool) : es.findIdx? p = es.toList.findIdx? p := by obtain ⟨l⟩ := es; simp
theorem valueAt_none {kvs : List (K × Value)} {k : K} (h : (kvs.findIdx? fun kv => decide (kv.1 = k)) = none) : valueAt kvs k = none := by
  unfold valueAt
  rw [List.findIdx?_eq_none_iff] at h
  rw [List.find?_eq_none.mpr fun x hx => by simpa using h x hx]
  rfl
theorem valueAt_some {kvs : List (K × Value)} {k : K} {i : Nat} (h : (kvs.findIdx? fun kv => decide (kv.1 = k)) = some i) : (valueAt kvs k).isSome = true := by
  unfold valueAt
  have := any_of_findIdx_some h
  rw [Option.isSome_map, List.find?_isSome]
  obtain ⟨x, hx, q⟩ := List.any_eq_true.mp this
  exact ⟨x, hx, q⟩

/-- a dict is written, and its epoch told -/
theorem set_at {d : Addr} {kvs : List (K × Value)} {ep : Nat} {k : K} {key v : Value} {Q : Unit → Shared → Prop} (hkey : knd.is k key = true) (hm : s.heap.DictAt knd d kvs ep) (hsz : kvs.length ≤ sizeLine)
    (hQ : ∀ h', h'.DictAt knd d (stored kvs k v) (if (valueAt kvs k).isSome then ep else ep + 1) → Heap.SameBut d s.heap h' → Q () { s with heap := h', toks := s.toks + 1 }) :
    wpAny (model prog w) A (dictSet d key v) Q E s := by
  obtain ⟨o, es, ho, hx, hd, hk, hp, hn⟩ := hm
  have hes : es.size ≤ sizeLine := by rw [← Array.length_toList, hp.length]; exact hsz
  have hidx := hp.findIdx k
  rw [← idx_toList] at hidx
  unfold dictSet
  with_reducible refine wpAny_holding ?_
  refine wpAny_bind (knd.pyHash hkey ?_)
  unfold dictSetHashed
  with_reducible refine wpAny_holding ?_
  refine wpAny_bind (wpAny_dictFind_of (s := { s with toks := s.toks + 1 }) hkey ho hd hk ?_)
  cases hi : es.findIdx? fun e => knd.is k e.key with
  | none =>
    rw [hi] at hidx
    rw [valueAt_none hidx.symm] at hQ
    have hnot := not_mem_of_findIdx_none hidx.symm
    have hst : stored kvs k v = kvs ++ [(k, v)] := by
      unfold stored
      rw [if_neg]
      rw [List.any_eq_true]
      rintro ⟨kv, h1, h2⟩
      exact hnot (List.mem_map.mpr ⟨kv, h1, of_decide_eq_true h2⟩)
    refine wpAny_bind (wpAny_rule (wpAny_updateDictKeys (hz := hes) (s := { s with toks := s.toks + 1 }) ho hd (hQ _ ⟨_, es.push ⟨knd.hash k, key, v⟩, Heap.get?_update_self _ ho (Obj.isFreed_of_dict (Obj.data_mapDictKeys hd _)), hx.mapDictKeys _, Obj.data_mapDictKeys hd _, hk.push hkey v, ?_, ?_⟩ (Heap.SameBut.update ..))))
    · rw [hst, Array.toList_push]; exact hp.append hkey _ v
    · rw [hst, List.map_append, List.nodup_append]
      refine ⟨hn, by simp, fun a ha b hb => ?_⟩
      simp only [List.map_cons, List.map_nil, List.mem_singleton] at hb
      exact fun z => hnot (by rw [← hb, ← z]; exact ha)
  | some i =>
    rw [hi] at hidx
    rw [valueAt_some hidx.symm] at hQ
    have hst : stored kvs k v = kvs.map fun kv => if kv.1 = k then (kv.1, v) else kv := by
      unfold stored
      rw [if_pos (any_of_findIdx_some hidx.symm)]
    refine wpAny_bind (wpAny_rule (wpAny_bind (wpAny_updateDict (s := { s with toks := s.toks + 1 }) ho hd (wpAny_point (hQ _ ⟨_, es.modify i fun e => { e with val := v }, Heap.get?_update_self _ ho (Obj.isFreed_of_dict (Obj.data_mapDict hd _)), hx.mapDict _, Obj.data_mapDict hd _, hk.modify _ _, ?_, ?_⟩ (Heap.SameBut.update ..))))))
    · rw [hst]
      have := hp.modify hn ((idx_toList _).symm.trans hi) v
      obtain ⟨l⟩ := es
      simpa using this
    · rw [hst, keys_map_store]; exact hn

theorem setItem_at {d : Addr} {kvs : List (K × Value)} {ep : Nat} {k : K} {key v : Value} {Q : Unit → Shared → Prop} (hkey : knd.is k key = true) (hm : s.heap.DictAt knd d kvs ep) (hsz : kvs.length ≤ sizeLine)
    (hQ : ∀ h', h'.DictAt knd d (stored kvs k v) (if (valueAt kvs k).isSome then ep else ep + 1) → Heap.SameBut d s.heap h' → Q () { s with heap := h', toks := s.toks + 1 }) :
    wpAny (model prog w) A (setItem (.ref d) key v) Q E s := by
  have hT := hm.dictOf.typeIs (s := s)
  unfold setItem
  with_reducible refine wpAny_holding ?_
  refine wpAny_bind (wpAny_sequenceKey hT (by decide) ?_)
  refine wpAny_bind (wpAny_callSpecial?_slot (name := Str.ofString "__setitem__") hT slot_dict_setitem (wpAny_call_entry slot_dict_setitem hT entry_dict_setitem ?_ (args_dict_setitem _ _ _)))
  show wpAny _ _ (Builtin.Dict.notOrdered "__setitem__" ⟨[.ref d, key, v], []⟩ >>= _) _ _ s
  refine wpAny_bind (wpAny_notOrdered_dict hT ?_)
  show wpAny _ _ (dictSet d key v >>= _) _ _ s
  exact wpAny_bind (set_at hkey hm hsz fun h' q z => wpAny_pure ⟨.none, rfl, wpAny_pure (hQ h' q z)⟩)


end
end Mine

/-! Soundness, part 5: data, comparisons, truth (typed by hand). -/
set_option Elab.async false
namespace Mine
open PySem PySem.SeqAt PySem.Spec

theorem strOk_of {s : List Nat} (h : okS s) : PyData.strOk (tS s) = true := by
  unfold PyData.strOk
  simp only [tS, Array.all_eq_true, decide_eq_true_eq]
  intro i hi
  have := h.1 _ (List.getElem_mem (l := s) (by simpa using hi))
  simp only [List.getElem_toArray]
  omega

section
variable {T : Tp} {A : Around} {W : Wd}

theorem readsF {a : AV} {d : PyData} {v : Value} (e : datF a = some d) (r : W.V T a v) : (∃ as, Reads W.h v d as) ∧ d.canLay0 = true ∧ d.depth ≤ 0 := by
  cases r with
  | int i t => cases e; exact ⟨⟨_, .int _ _⟩, rfl, Nat.le_refl _⟩
  | str t q => cases e; exact ⟨⟨_, .str _ _⟩, strOk_of q, Nat.le_refl _⟩
  | _ => cases e
theorem readsAll_of : ∀ {xs : List AV} {ds : List PyData} {vs : List Value}, mapO datF xs = some ds → W.Vs T xs vs → (∃ as, ReadsAll W.h vs ds as) ∧ PyData.canLayAll0 ds = true ∧ PyData.depthAll ds ≤ 0 := by
  intro xs ds vs e r
  induction r generalizing ds with
  | nil => cases e; exact ⟨⟨[], .nil⟩, rfl, Nat.zero_le _⟩
  | cons a _ ih =>
    rename_i x v xs vs _
    rw [mapO_cons] at e
    cases e1 : datF x with
    | none => rw [e1] at e; cases e
    | some d =>
      cases e2 : mapO datF xs with
      | none => rw [e1, e2] at e; cases e
      | some ds' =>
        rw [e1, e2] at e
        cases e
        obtain ⟨⟨as, h1⟩, h2, h3⟩ := readsF e1 a
        obtain ⟨⟨bs, k1⟩, k2, k3⟩ := ih e2
        exact ⟨⟨as ++ bs, .cons h1 k1⟩, by rw [PyData.canLayAll0, h2, k2]; rfl, by rw [PyData.depthAll]; lia  ⟩
theorem reads_of (I : Inv T W) {a : AV} {d : PyData} {v : Value} (e : dat W.σ a = some d) (r : W.V T a v) : (∃ as, Reads W.h v d as) ∧ d.canLay0 = true ∧ d.depth ≤ 1 := by
  have flat : datF a = some d → (∃ as, Reads W.h v d as) ∧ d.canLay0 = true ∧ d.depth ≤ 1 := fun e => let ⟨h1, h2, h3⟩ := readsF e r; ⟨h1, h2, Nat.le_succ_of_le h3⟩
  cases a with
  | ref l =>
    have e0 : dat W.σ (.ref l) = match lst W.σ[l]? with | some xs => (mapO datF xs).map .list | none => none := rfl
    rw [e0] at e
    cases hx : lst W.σ[l]? with
    | none => rw [hx] at e; cases e
    | some xs =>
      rw [hx] at e
      obtain ⟨ds, e1, rfl⟩ := Option.map_eq_some_iff.mp e
      obtain ⟨_, vs, m, _, h1, h2, _⟩ := I.listAt (lst_ok hx) r
      obtain ⟨⟨as, k1⟩, k2, k3⟩ := readsAll_of e1 h2
      exact ⟨⟨_, .list h1 rfl rfl k1⟩, k2, by rw [PyData.depth]; lia  ⟩
  | _ => exact flat e

/-- room for calls: n calls deep -/
structure AOk (n : Nat) (A : Around) : Prop where
  depth : A.depth + 2 * n + 1 < recursionLimit
  units : A.units + 20 * n + 200 < cLine
  handled : A.handled = none
/-- the same, for a call -/
structure AOkC (n : Nat) (A : Around) : Prop where
  depth : A.depth + 2 * n < recursionLimit
  units : A.units + 20 * n + 190 < cLine
  handled : A.handled = none
theorem AOk.call {n : Nat} {A : Around} (a : AOk n A) : AOkC n A := ⟨Nat.lt_of_succ_lt a.depth, by have := a.units; lia  , a.handled⟩

noncomputable def cmpM : COp → CmpOp
  | .eq => .Eq
  | .ne => .NotEq
  | .lt => .Lt
  | .le => .LtE
  | .gt => .Gt
  | .ge => .GtE
  | .isin => .In
  | .notin => .NotIn

theorem shaped_of {d : PyData} (h2 : d.canLay0 = true) (h3 : d.depth ≤ 1) : shaped d = true := by
  unfold shaped; rw [h2, decide_eq_true (Nat.le_trans h3 (by decide))]; rfl

theorem does_eqA (I : Inv T W) {a b : AV} {va vb : Value} (ra : W.V T a va) (rb : W.V T b vb) (hu : A.units + 64 < cLine) {c : Bool} (e : eqA W.σ a b = some c) :
    (∀ Q E, Q (.bool c) W.s → wpAny T.M A (compareOp .Eq va vb) Q E W.s) ∧ ∀ Q E, Q (.bool (!c)) W.s → wpAny T.M A (compareOp .NotEq va vb) Q E W.s := by
  unfold eqA at e
  cases e1 : dat W.σ a with
  | none => rw [e1] at e; cases e
  | some x =>
    cases e2 : dat W.σ b with
    | none => rw [e1, e2] at e; cases e
    | some y =>
      rw [e1, e2] at e
      cases e
      obtain ⟨⟨as, h1⟩, h2, h3⟩ := reads_of I e1 ra
      obtain ⟨⟨bs, k1⟩, k2, k3⟩ := reads_of I e2 rb
      have s1 := shaped_of h2 h3
      have s2 := shaped_of k2 k3
      exact ⟨fun Q E q => compareEq_shaped h1 k1 s1 s2 hu q, fun Q E q => compareNe_shaped h1 k1 s1 s2 hu q⟩

theorem dictAt_ok {σ : Hp} {v : AV} {p : Option Nat × List (AV × AV)} (h : dictAt σ v = some p) : ∃ l, v = .ref l ∧ σ[l]? = some (.dict p.1 p.2) := by
  cases v with
  | ref l => exact ⟨l, rfl, dct_ok h⟩
  | _ => cases h
theorem listAt_ok {σ : Hp} {v : AV} {xs : List AV} (h : listAt σ v = some xs) : ∃ l, v = .ref l ∧ σ[l]? = some (.list xs) := by
  cases v with
  | ref l => exact ⟨l, rfl, lst_ok h⟩
  | _ => cases h
theorem strs_of : ∀ {xs : List AV} {ts : List (List Nat)} {vs : List Value}, mapO asStr xs = some ts → W.Vs T xs vs → PyProof.Rows.StrsAre vs (ts.map tS) ∧ xs = ts.map .str ∧ ∀ t ∈ ts, okS t := by
  intro xs ts vs e r
  induction r generalizing ts with
  | nil => cases e; exact ⟨.nil, rfl, fun _ h => nomatch h⟩
  | cons a _ ih =>
    rw [mapO_cons] at e
    cases a with
    | str t q =>
      rename_i s
      simp only [asStr] at e
      split at e
      · rename_i ys e2
        cases e
        obtain ⟨h1, h2, h3⟩ := ih e2
        exact ⟨.cons _ _ h1, congrArg (AV.str s :: ·) h2, fun t ht => (List.mem_cons.mp ht).elim (fun e => e ▸ q) (h3 t)⟩
      · cases e
    | _ => cases e
theorem any_tS (x : List Nat) : ∀ ts : List (List Nat), (ts.map tS).any (· == tS x) = ts.contains x
  | [] => rfl
  | t :: r => by
    rw [List.map_cons, List.any_cons, any_tS x r, List.contains_cons]
    congr 1
    rw [Bool.eq_iff_iff, beq_iff_eq, beq_iff_eq]
    exact ⟨fun e => (tS_inj e).symm, fun e => e ▸ rfl⟩
theorem does_inA (I : Inv T W) {a b : AV} {va vb : Value} {c : Bool} (ra : W.V T a va) (rb : W.V T b vb) (e : inA W.σ a b = some c) :
    (∀ Q E, (∀ k, Q (.bool c) { W.s with toks := k }) → wpAny T.M A (compareOp .In va vb) Q E W.s) ∧ (∀ Q E, (∀ k, Q (.bool (!c)) { W.s with toks := k }) → wpAny T.M A (compareOp .NotIn va vb) Q E W.s) := by
  unfold inA at e
  cases hx : dictAt W.σ b with
  | some p =>
    rw [hx] at e
    cases hk : isKey a with
    | false => simp only [hk] at e; cases e
    | true =>
      simp only [hk, if_true] at e
      cases e
      obtain ⟨l, rfl, hx'⟩ := dictAt_ok hx
      obtain ⟨d, kvs, n, _, hd, _, kv, _, hs⟩ := I.dict hx' rb
      obtain ⟨k1, k2⟩ := key_of ra hk
      have hm := hd.dictOf.mapOf
      have hv := kv.isSome k2
      exact ⟨fun Q E q => wpAny_in_of k1 hs hm (by rw [hv]; exact q _), fun Q E q => wpAny_notIn_of k1 hs hm (by rw [hv]; exact q _)⟩
  | none =>
    rw [hx] at e
    cases ra with
    | str t ox =>
      rename_i x
      have lists : (match (listAt W.σ b).bind (mapO asStr) with | some ts => some (ts.contains x) | none => none) = some c →
          (∀ Q E, (∀ k, Q (.bool c) { W.s with toks := k }) → wpAny T.M A (compareOp .In (.str (tS x) t) vb) Q E W.s) ∧ (∀ Q E, (∀ k, Q (.bool (!c)) { W.s with toks := k }) → wpAny T.M A (compareOp .NotIn (.str (tS x) t) vb) Q E W.s) := fun e => by
        cases e1 : (listAt W.σ b).bind (mapO asStr) with
        | none => rw [e1] at e; cases e
        | some ts =>
          rw [e1] at e
          cases e
          obtain ⟨xs, e2, e3⟩ := Option.bind_eq_some_iff.mp e1
          obtain ⟨l, rfl, e4⟩ := listAt_ok e2
          obtain ⟨_, vs, n, _, h1, h2, _⟩ := I.listAt e4 rb
          have hl : W.h.IsList _ vs.toList.toArray := ⟨_, h1, rfl, n, by rw [Array.toArray_toList]⟩
          obtain ⟨hs, _⟩ := strs_of e3 h2
          exact ⟨fun Q E q => PyProof.Rows.in_list_strs hl hs (by rw [any_tS]; exact q _), fun Q E q => PyProof.Rows.notin_list_strs hl hs (by rw [any_tS]; exact q _)⟩
      cases rb with
      | str u oy => cases e; exact ⟨fun Q E q => SB.contains (q _), fun Q E q => SB.notContains (q _)⟩
      | ref h => exact lists e
      | _ => cases e
    | _ => cases e

theorem ord_ok {f : Int → Int → Bool} {a b : AV} {c : Bool} (h : ordA f a b = some c) : ∃ x y, a = .int x ∧ b = .int y ∧ c = f x y := by
  cases a with
  | int x =>
    cases b with
    | int y => cases h; exact ⟨x, y, rfl, rfl, rfl⟩
    | _ => cases h
  | _ => cases h

theorem does_cmpA (I : Inv T W) {op : COp} {a b : AV} {va vb : Value} (ra : W.V T a va) (rb : W.V T b vb) (hu : A.units + 65 < cLine) {c : Bool} (e : cmpA op a b W.σ = some c) :
    ∀ Q E, (∀ k, Q (.bool c) { W.s with toks := k }) → wpAny T.M A (compareOp (cmpM op) va vb) Q E W.s := by
  intro Q E q
  cases op with
  | eq => exact (does_eqA I ra rb (by lia  ) e).1 Q E (q _)
  | ne =>
    obtain ⟨c', e', rfl⟩ := Option.map_eq_some_iff.mp e
    exact (does_eqA I ra rb (by omega) e').2 Q E (q _)
  | lt => obtain ⟨x, y, rfl, rfl, rfl⟩ := ord_ok e; cases ra; cases rb; exact P.lt_int (q _)
  | le =>
    cases ra with
    | str t ox =>
      cases rb with
      | str u oy => cases e; exact P.le_str (q _)
      | _ => cases e
    | int x t =>
      cases rb with
      | int y u => cases e; exact P.le_int (q _)
      | _ => cases e
    | _ => cases e
  | gt => obtain ⟨x, y, rfl, rfl, rfl⟩ := ord_ok e; cases ra; cases rb; exact P.gt_int (q _)
  | ge => obtain ⟨x, y, rfl, rfl, rfl⟩ := ord_ok e; cases ra; cases rb; exact P.ge_int (q _)
  | isin => exact (does_inA I ra rb e).1 Q E q
  | notin =>
    obtain ⟨c', e', rfl⟩ := Option.map_eq_some_iff.mp e
    exact (does_inA I ra rb e').2 Q E q

theorem does_truth (I : Inv T W) {a : AV} {v : Value} (r : W.V T a v) {c : Bool} (e : truth W.σ a = some c) :
    ∀ Q E, (∀ k, Q c { W.s with toks := k }) → wpAny T.M A (truthy v) Q E W.s := by
  intro Q E q
  cases r with
  | none => cases e; exact PyProof.Rows.truthy_none (q _)
  | bool b => cases e; exact wpAny_truthy_bool (q _)
  | int i t =>
    cases e
    refine P.truthy_int ?_
    rw [show (i != 0) = decide (i ≠ 0) by by_cases z : i = 0 <;> simp [z]]
    exact q _
  | str t ok =>
    rename_i s
    cases e
    refine P.truthy_str (by have := ok.2; rw [tS_length]; have : lim = 16777216 := rfl; lia  ) ?_
    rw [tS_length, show ((s.length : Int) != 0) = !s.isEmpty by cases s <;> simp <;> lia  ]
    exact q _
  | _ => cases e
end
end Mine

/-! Soundness, part 6: displays, subscripts, slices (typed by hand). -/
set_option Elab.async false
namespace Mine
open PySem PySem.SeqAt PySem.Spec

section
variable {T : Tp} {A : Around} {W : Wd} {env : Env}

/-! ### indexes -/
theorem seqIndex_place {n : Nat} {i : Int} {k : Nat} (h : place n i = some k) : seqIndex? i n = some k ∧ k < n ∧ (0 ≤ i → i = k) ∧ (i < 0 → i + n = k) := by
  unfold place at h
  split at h
  · split at h
    · cases h
      rename_i h1 h2
      refine ⟨?_, by lia  , fun _ => by lia  , fun _ => by lia  ⟩
      have e : (if i < 0 then i + (n : Int) else i) = i := if_neg (by omega)
      simp only [seqIndex?, e]
      rw [if_pos (by simp; lia  )]
    · cases h
  · split at h
    · cases h
      rename_i h1 h2
      refine ⟨?_, by lia  , fun _ => by lia  , fun _ => by lia  ⟩
      have e : (if i < 0 then i + (n : Int) else i) = i + n := if_pos (by lia  )
      simp only [seqIndex?, e]
      rw [if_pos (by simp; lia  )]
    · cases h

noncomputable def notSlice : Expr → Bool
  | .Slice .. => false
  | _ => true

theorem subscripted_plain {slice : Expr} (h : notSlice slice = true) (o i : Value) : subscripted slice false o i = operate [o, i] (getItem o i) := by
  cases slice <;> first | rfl | cases h

theorem lim_small {n : Nat} (h : n ≤ lim) : (n : Int) < 2 ^ 63 := by have : lim = 16777216 := rfl; lia  

theorem vrs_at {xs : List AV} {vs : Array Value} (r : W.Vs T xs vs.toList) {k : Nat} {x : AV} (h : xs[k]? = some x) : ∃ v, vs[k]? = some v ∧ W.V T x v := by
  obtain ⟨v, e, q⟩ := r.get h
  exact ⟨v, by rw [← Array.getElem?_toList]; exact e, q⟩
theorem vrs_size {xs : List AV} {vs : Array Value} (r : W.Vs T xs vs.toList) : vs.size = xs.length := by
  have := r.length; rw [Array.length_toList] at this; exact this

theorem list_item (hl : W.h.IsList l vs) {xs : List AV} (hz : vs.size = xs.length) (hlim : xs.length ≤ lim) {i : Int} {t : Tok} {k : Nat} {v : Value} (hp : place xs.length i = some k) (hv : vs[k]? = some v) {Q : Value → Shared → Prop} {E : Value → Shared → Prop} (q : Q v W.s) :
    wpAny T.M A (getItem (.ref l) (.int i t)) Q E W.s := by
  obtain ⟨_, h2, h3, h4⟩ := seqIndex_place hp
  have h63 := lim_small hlim
  by_cases h0 : 0 ≤ i
  · exact wpAny_getItem_list hl h0 (by have := h3 h0; lia  ) (by rw [h3 h0]; exact hv) q
  · have := h4 (by omega)
    exact wpAny_getItem_list_neg hl (by omega) (by lia  ) (by lia  ) (by rw [hz, this]; exact hv) q

theorem does_idxI (I : Inv T W) {value slice : Expr} {o r : AV} {i : Int} {vo : Value} {u : Tok} (hs : notSlice slice = true) (ro : W.V T o vo) (e : idxI o i W.σ = some r) :
    Does T A noX W (PyProof.Rows.subscriptTail value slice vo (.int i u)) (.ok r W.σ) (VW T) := by
  refine Does.keep I fun Q E q => ?_
  cases ro with
  | str t ok =>
    rename_i s
    obtain ⟨k, e1, e2⟩ := Option.bind_eq_some_iff.mp e
    obtain ⟨c, e3, rfl⟩ := Option.map_eq_some_iff.mp e2
    obtain ⟨h1, h2, h3, h4⟩ := seqIndex_place e1
    have h63 := lim_small ok.2
    refine PyProof.Rows.tail_any (T := "str") rfl PyProof.Rows.slot_str_getitem.lookup (P.getItem_str (c := c) ?_ ?_ (q _ _ ?_)) (subscripted_plain hs _ _)
    · simp only [Bool.or_eq_false_iff, decide_eq_false_iff_not]
      by_cases h0 : 0 ≤ i
      · have := h3 h0; lia  
      · have := h4 (by omega); lia  
    · rw [tS_length, h1]
      show (tS s).cps[k]? = some c
      simp [tS, e3]
    · refine .str _ ⟨fun d hd => ?_, by simp [lim]⟩
      simp at hd; subst hd
      exact ok.1 _ (List.mem_of_getElem? e3)
  | tup h1 h2 h3 h4 h5 h6 h7 =>
    obtain ⟨k, e1, e2⟩ := Option.bind_eq_some_iff.mp e
    rename_i xs a ob vs n
    obtain ⟨g1, g2, g3, g4⟩ := seqIndex_place e1
    have ev : vs[k]? = some (vs[k]'(by rw [h6]; exact g2)) := Array.getElem?_eq_getElem _
    have rv := h7 k _ _ e2 ev
    have h63 := lim_small h5
    refine PyProof.Rows.tail_any (T := "tuple") ⟨_, h1, h2⟩ PyProof.Rows.slot_tuple_getitem.lookup (PyProof.Rows.getItem_tuple (items := vs) (j := k) ⟨_, h1, h2, n, h3⟩ ?_ ?_ ?_ ev (q _ W.s.toks rv)) (subscripted_plain hs _ _)
    · by_cases h0 : 0 ≤ i
      · have := g3 h0; lia  
      · have := g4 (by omega); lia  
    · by_cases h0 : 0 ≤ i
      · have := g3 h0; omega
      · have := g4 (by omega); lia  
    · rw [h6]; exact g1
  | scr h1 h2 h3 h4 h5 h6 =>
    obtain ⟨k, e1, e2⟩ := Option.bind_eq_some_iff.mp e
    obtain ⟨c, e3, rfl⟩ := Option.map_eq_some_iff.mp e2
    obtain ⟨t, et⟩ := h5 k c e3
    rename_i ns a ob vs n
    exact PyProof.Rows.tail_any (T := "list") ⟨_, I.base _ _ h1, h2⟩ slot_list_getitem.lookup (list_item (xs := ns.map AV.int) ⟨_, I.base _ _ h1, h2, n, h3⟩ (by rw [List.length_map]; exact h6) (by rw [List.length_map]; exact h4) (by rw [List.length_map]; exact e1) et (q _ W.s.toks (.int _ _))) (subscripted_plain hs _ _)
  | ref hb =>
    rename_i l b
    have e0 : idxI (.ref l) i W.σ = match lst W.σ[l]? with | some xs => (place xs.length i).bind fun k => xs[k]? | none => none := rfl
    rw [e0] at e
    cases hx : lst W.σ[l]? with
    | none => rw [hx] at e; cases e
    | some xs =>
      rw [hx] at e
      obtain ⟨k, e1, e2⟩ := Option.bind_eq_some_iff.mp e
      obtain ⟨_, vs, n, _, h1, h2, h3⟩ := I.listAt (lst_ok hx) (.ref hb)
      obtain ⟨v, ev, rv⟩ := vrs_at h2 e2
      exact PyProof.Rows.tail_any (T := "list") ⟨_, h1, rfl⟩ slot_list_getitem.lookup (list_item ⟨_, h1, rfl, n, rfl⟩ (vrs_size h2) h3 e1 ev (q v W.s.toks rv)) (subscripted_plain hs _ _)
  | _ => cases e

theorem does_idxA (I : Inv T W) (hu : A.units + 65 < cLine) {value slice : Expr} {o i r : AV} {vo vi : Value} (hs : notSlice slice = true) (ro : W.V T o vo) (ri : W.V T i vi) (e : idxA o i W.σ = some r) :
    Does T A noX W (PyProof.Rows.subscriptTail value slice vo vi) (.ok r W.σ) (VW T) := by
  unfold idxA at e
  cases hx : dictAt W.σ o with
  | none =>
    rw [hx] at e
    cases i with
    | int i => cases ri; exact does_idxI I hs ro e
    | _ => cases e
  | some p =>
    rw [hx] at e
    simp only at e
    cases hk : isKey i with
    | false => rw [hk] at e; cases e
    | true =>
      rw [hk] at e
      obtain ⟨l, rfl, hx'⟩ := dictAt_ok hx
      obtain ⟨d, kvs, n, _, hd, _, kv, _, hm⟩ := I.dict hx' ro
      obtain ⟨k1, k2⟩ := key_of ri hk
      obtain ⟨v, ev, rv⟩ := (kv.get k2).1 _ e
      exact Does.keep I fun Q E q => PyProof.Rows.tail_any (T := "dict") hd.dictOf.typeIs slot_dict_getitem.lookup (wpAny_getItem_of k1 hd.dictOf.mapOf ev (q v _ rv)) (subscripted_plain hs _ _)

/-! ### slices -/
theorem bound_part {n d a : Nat} {av : AV} {v : Value} (e : bound n d av = some a) (r : W.V T av v) : ∃ p, IsPart v p ∧ p.elim d (clipAt n) = a ∧ (a ≤ n ∨ a = d) := by
  cases r with
  | none => cases e; exact ⟨none, .none, rfl, .inr rfl⟩
  | int i t =>
    cases e
    refine ⟨some i, .int i t, ?_, ?_⟩
    · have := clipAt_cast n i
      simp only [Option.elim]
      split at this <;> split <;> lia  
    · split <;> lia  
  | _ => cases e

theorem range_map_drop {α : Type} (xs : List α) (a : Nat) : ∀ k, ((List.range k).map fun i => a + i).filterMap (fun i => xs[i]?) = (xs.drop a).take k := by
  intro k
  induction k with
  | zero => simp
  | succ k ih =>
    rw [List.range_succ, List.map_append, List.filterMap_append, ih, List.take_add_one]
    congr 1
    simp only [List.map_cons, List.map_nil, List.filterMap_cons, List.filterMap_nil, List.getElem?_drop]
    cases xs[a + k]? <;> rfl

theorem strSlice_eq (lo hi : Option Int) (n : Nat) : Builtin.Str.strSliceIndices lo hi 1 n = (List.range (hi.elim n (clipAt n) - lo.elim 0 (clipAt n))).map fun i => lo.elim 0 (clipAt n) + i := by
  have h := sliceBounds_plain lo hi n
  have e : Builtin.Str.strSliceIndices lo hi 1 n = sliceRange (sliceBounds lo hi none n).1 (sliceBounds lo hi none n).2.1 1 := by
    cases lo <;> cases hi <;> rfl
  rw [e, h]
  exact sliceRange_one _ _

theorem slice_text {s : List Nat} (lo hi : Option Int) : Txt.slice (tS s) lo hi = tS (cut s (lo.elim 0 (clipAt s.length)) (hi.elim s.length (clipAt s.length))) := by
  unfold Txt.slice
  rw [tS_length, strSlice_eq]
  have e : (List.filterMap (fun x => (tS s).cps[x]?) ((List.range (hi.elim s.length (clipAt s.length) - lo.elim 0 (clipAt s.length))).map fun i => lo.elim 0 (clipAt s.length) + i)) = cut s (lo.elim 0 (clipAt s.length)) (hi.elim s.length (clipAt s.length)) := by
    have := range_map_drop s (lo.elim 0 (clipAt s.length)) (hi.elim s.length (clipAt s.length) - lo.elim 0 (clipAt s.length))
    rw [show (fun x => (tS s).cps[x]?) = fun i => s[i]? from funext fun i => by simp [tS]]
    exact this
  split
  · rename_i h
    simp only [List.length_map, List.length_range] at h
    have h' : hi.elim s.length (clipAt s.length) - lo.elim 0 (clipAt s.length) = s.length := by simpa using h
    have hh : hi.elim s.length (clipAt s.length) ≤ s.length := by
      cases hi with
      | none => exact Nat.le_refl _
      | some i => have := clipAt_cast s.length i; simp only [Option.elim]; omega
    unfold cut
    rw [h']
    rcases Nat.eq_zero_or_pos s.length with z | z
    · have : s = [] := List.length_eq_zero_iff.mp z
      subst this; simp
    · rw [show lo.elim 0 (clipAt s.length) = 0 by omega]; simp
  · rw [e]; rfl

theorem cut_ok {s : List Nat} {a b : Nat} (h : okS s) : okS (cut s a b) :=
  h.sub (fun _ hc => List.mem_of_mem_drop (List.mem_of_mem_take hc)) (by unfold cut; rw [List.length_take, List.length_drop]; lia  )

theorem sliceTail {value : Expr} {lo hi : Option Expr} {p : Pos} {o i : Value} {Ty id : String} {Q : Value → Shared → Prop} {E : Value → Shared → Prop} {s : Shared} (hT : s.TypeIs o Ty)
    (hl : typeLookup (.type Ty) "__getitem__" = pure (some (.builtin id))) (hg : wpAny T.M A (getItem o i) Q E s) : wpAny T.M A (PyProof.Rows.subscriptTail value (.Slice lo hi none p) o i) Q E s :=
  PyProof.Rows.tail_any hT hl hg rfl

theorem part_tok {v : Value} {p : Option Int} (h : IsPart v p) : ∃ pt : Option (Int × Tok), v = partValue pt ∧ pt.map (·.1) = p := by
  cases h with
  | none => exact ⟨none, rfl, rfl⟩
  | int i t => exact ⟨some (i, t), rfl, rfl⟩

theorem slice_list (I : Inv T W) {value : Expr} {lo hi : Option Expr} {p : Pos} {x y : AV} {vx vy : Value} {a l : Addr} {vs : Array Value} {xs : List AV} {b c : Nat} (hl : W.h.IsList l vs) (h2 : W.Vs T xs vs.toList) (h3 : xs.length ≤ lim)
    (e1 : bound xs.length 0 x = some b) (e2 : bound xs.length xs.length y = some c) (rx : W.V T x vx) (ry : W.V T y vy) (ha : W.h.get? a = some { cls := .type "slice", data := .fields #[vx, vy, .none] })
    (hn : newList (cut xs b c) W.σ ≠ .fail) : Does T A noX W (PyProof.Rows.subscriptTail value (.Slice lo hi none p) (.ref l) (.ref a)) (newList (cut xs b c) W.σ) (VW T) := by
  obtain ⟨pl, i1, i2, _⟩ := bound_part e1 rx
  obtain ⟨pu, j1, j2, _⟩ := bound_part e2 ry
  have hz := vrs_size h2
  refine does_newList (vs := (vs.toList.drop b).take (c - b)) I ((h2.drop b).take (c - b)) (fun hl' Q E q => sliceTail (Ty := "list") ?_ slot_list_getitem.lookup ?_) hn
  · obtain ⟨o, h1, h2', _⟩ := hl; exact ⟨o, h1, h2'⟩
  · refine wpAny_getItem_list_slice hl ⟨_, ha, rfl, rfl⟩ i1 j1 .none (by simp) ?_ (by rw [hz, ← lim_eq]; exact h3)
    rw [slicePick_plain, hz, i2, j2]
    exact q W.s.toks

theorem does_sliceA (I : Inv T W) {value : Expr} {lo hi : Option Expr} {p : Pos} {o x y : AV} {vo vx vy : Value} {a : Addr} (ro : W.V T o vo) (rx : W.V T x vx) (ry : W.V T y vy)
    (ha : W.h.get? a = some { cls := .type "slice", data := .fields #[vx, vy, .none] }) (hn : sliceA o x y W.σ ≠ .fail) :
    Does T A noX W (PyProof.Rows.subscriptTail value (.Slice lo hi none p) vo (.ref a)) (sliceA o x y W.σ) (VW T) := by
  cases ro with
  | str t ok =>
    rename_i s
    have e0 : sliceA (.str s) x y W.σ = match bound s.length 0 x with | some a => (match bound s.length s.length y with | some b => .ok (.str (cut s a b)) W.σ | none => .fail) | none => .fail := rfl
    rw [e0] at hn ⊢
    cases e1 : bound s.length 0 x with
    | none => rw [e1] at hn; exact absurd rfl hn
    | some b =>
      cases e2 : bound s.length s.length y with
      | none => rw [e1, e2] at hn; exact absurd rfl hn
      | some c =>
        dsimp only
        obtain ⟨pl, i1, i2, _⟩ := bound_part e1 rx
        obtain ⟨pu, j1, j2, _⟩ := bound_part e2 ry
        obtain ⟨ptl, rfl, rfl⟩ := part_tok i1
        obtain ⟨ptu, rfl, rfl⟩ := part_tok j1
        refine Does.keep I fun Q E q => sliceTail (Ty := "str") rfl PyProof.Rows.slot_str_getitem.lookup ?_
        refine wpAny_getItem_str_slice (l := ptl) (u := ptu) (st := none) ⟨_, ha, rfl, rfl⟩ rfl ?_
        have hh := slice_text (s := s) (ptl.map (·.1)) (ptu.map (·.1))
        rw [i2, j2] at hh
        unfold Txt.slice at hh
        unfold sliceMade slicePicked
        show Made.post (if ((1 : Int) == 1 && (Builtin.Str.strSliceIndices (ptl.map (·.1)) (ptu.map (·.1)) 1 (tS s).length).length == (tS s).length) = true then _ else _) _ _
        split at hh
        · rename_i z
          rw [if_pos z]
          rw [hh]
          exact q _ W.s.toks (.str _ (cut_ok ok))
        · rename_i z
          rw [if_neg z]
          refine ⟨?_, ?_⟩
          · exact Nat.le_trans (Nat.le_of_eq (congrArg Str.length hh)) (by rw [tS_length, ← lim_eq]; exact (cut_ok ok).2)
          · have q' := q _ (W.s.toks + 1) (.str W.s.toks (cut_ok (a := b) (b := c) ok))
            rw [← hh] at q'
            exact q'
  | ref hb =>
    rename_i l b
    have e0 : sliceA (.ref l) x y W.σ = match lst W.σ[l]? with | some xs => (match bound xs.length 0 x with | some a => (match bound xs.length xs.length y with | some b => newList (cut xs a b) W.σ | none => .fail) | none => .fail) | none => .fail := rfl
    rw [e0] at hn ⊢
    cases hx : lst W.σ[l]? with
    | none => rw [hx] at hn; exact absurd rfl hn
    | some xs =>
      rw [hx] at hn
      simp only at hn ⊢
      cases e1 : bound xs.length 0 x with
      | none => rw [e1] at hn; exact absurd rfl hn
      | some b' =>
        cases e2 : bound xs.length xs.length y with
        | none => rw [e1, e2] at hn; exact absurd rfl hn
        | some c =>
          rw [e1, e2] at hn
          simp only at hn ⊢
          obtain ⟨_, vs, n, _, h1, h2, h3⟩ := I.listAt (lst_ok hx) (.ref hb)
          exact slice_list I ⟨_, h1, rfl, n, rfl⟩ h2 h3 e1 e2 rx ry ha hn
  | _ => exact absurd rfl hn
end
end Mine

/-! Soundness, part 7: calls (typed by hand). -/
set_option Elab.async false
namespace Mine
open PySem PySem.SeqAt PySem.Spec PySem.W PySem.Calls

section
variable {T : Tp} {A : Around} {W : Wd} {env : Env}

noncomputable def notStar : Expr → Bool
  | .Starred .. => false
  | _ => true
theorem starEach_plain {e : Expr} {rest : List Expr} (h : notStar e = true) : starEach (e :: rest) env = (false, eval e env) :: starEach rest env := by
  cases e <;> first | rfl | cases h
noncomputable def plainArgs (es : List Expr) : Bool := es.all notStar
theorem backTo_plain {pos : Pos} : ∀ {es : List Expr}, plainArgs es = true → (backTo pos (starEach es env)).any (·.1) = false
  | [], _ => rfl
  | e :: r, h => by
    have h' : notStar e = true ∧ plainArgs r = true := by simpa [plainArgs] using h
    rw [starEach_plain h'.1]
    show (false || (backTo pos (starEach r env)).any (·.1)) = false
    rw [backTo_plain h'.2]; rfl

theorem does_args_nil (I : Inv T W) {pos : Pos} : Does T A noX W (spliced (backTo pos (starEach [] env))) (.ok [] W.σ) (VWs T) :=
  Does.ok (spliced_nil ⟨W, rfl, rfl, I, .refl _ _, .nil⟩)
theorem does_args_cons {pos : Pos} {e : Expr} {rest : List Expr} {x : Out AV} {y : Hp → Out (List AV)} (he : notStar e = true) (h1 : Does T A noX W (eval e env) x (VW T))
    (h2 : ∀ a W', Inv T W' → Le noX W W' → x = .ok a W'.σ → Does T A noX W' (spliced (backTo pos (starEach rest env))) (y W'.σ) (VWs T)) :
    Does T A noX W (spliced (backTo pos (starEach (e :: rest) env))) (x.bind fun a h => (y h).bind fun b h => .ok (a :: b) h) (VWs T) := by
  rw [starEach_plain he]
  show wpAny T.M A (spliced ((false, eval e env) :: backTo pos (starEach rest env))) _ _ _
  refine spliced_cons (h1.cps (fun a W' va e I' l' ra => ?_))
  refine (h2 a W' I' l' e).cps (fun b W'' vb e' I'' l'' rb => ?_)
  exact ⟨a :: b, W'', rfl, by rw [e]; show (y W'.σ).bind _ = _; rw [e']; rfl, I'', l'.trans l'', .cons (ra.le l'') rb⟩

/-- a value that may be called, in every later state -/
noncomputable def Callee (T : Tp) (f : Value) : Prop := ∀ h, T.base.StaysIn h → ∃ k, (k = Keeper.frame ∨ k = Keeper.machine ∨ k = Keeper.boundFrame) ∧ Looks T.M h (keeperOf f) k
theorem callee_builtin (id : String) : Callee T (.builtin id) := fun _ _ => ⟨.machine, .inr (.inl rfl), Looks.of_pure rfl⟩
theorem callee_type (id : String) : Callee T (.type id) := fun _ _ => ⟨.machine, .inr (.inl rfl), Looks.of_pure rfl⟩

theorem does_callWith0 {pos : Pos} {f : Value} {first : List Value} {g : Out AV} (I : Inv T W) (hk : Callee T f) (hc : Does T A noX W (call f (first ++ [])) g (VW T)) :
    Does T A noX W (callWith pos f first (backTo pos (starEach [] env)) []) g (VW T) :=
  callWith_of (P := fun h => T.base.StaysIn h) rfl hk (PyProof.Rows.evalArgs_nil3 ⟨I.base, hc⟩)

theorem does_callWith {pos : Pos} {f : Value} {first : List Value} {e : Expr} {r : List Expr} {xs : Out (List AV)} {g : List AV → Hp → Out AV} (hp : plainArgs (e :: r) = true) (hk : Callee T f)
    (ha : Does T A noX W (spliced (backTo pos (starEach (e :: r) env))) xs (VWs T))
    (hc : ∀ as vs W', Inv T W' → Le noX W W' → xs = .ok as W'.σ → W'.Vs T as vs → Does T A noX W' (call f (first ++ vs)) (g as W'.σ) (VW T)) :
    Does T A noX W (callWith pos f first (backTo pos (starEach (e :: r) env)) []) (xs.bind g) (VW T) := by
  refine callWith_of (P := fun h => T.base.StaysIn h) (by rw [backTo_plain hp]; rfl) hk ?_
  have h' : notStar e = true ∧ plainArgs r = true := by simpa [plainArgs] using hp
  rw [starEach_plain h'.1] at ha ⊢
  refine evalArgs_plain (ha.cps (fun as W' vs e I' l' r => ⟨I'.base, ?_⟩))
  exact (hc as vs W' I' l' e r).up l' (by rw [e]; rfl)
end
end Mine

/-! Soundness: sorted (typed by hand). -/
set_option Elab.async false
namespace Mine
open PySem PySem.SeqAt PySem.Spec PySem.W PySem.Calls

theorem VRs.kept {T : Tp} {own : Addr → Ow} {bt : List Addr} {h h' : Heap} {xs : List AV} {vs : List Value} (r : VRs T own bt h xs vs) (k : ∀ a o, h.get? a = some o → h'.get? a = some o) : VRs T own bt h' xs vs :=
  r.ext (X := noX) ⟨fun a o e _ _ => k a o e, fun a o e _ => ⟨o, k a o e⟩, fun _ _ _ _ => rfl, [], (List.append_nil _).symm⟩ .no

theorem insT_cons (x y : List Nat) (r : List (List Nat)) : insT x (y :: r) = if y < x then y :: insT x r else x :: y :: r := rfl
theorem insT_perm (x : List Nat) (l : List (List Nat)) : (insT x l).Perm (x :: l) := by
  induction l with
  | nil => exact .refl _
  | cons y r ih =>
    rw [insT_cons]
    split
    · exact (ih.cons y).trans (.swap x y r)
    · exact .refl _
theorem sortT_perm (l : List (List Nat)) : (sortT l).Perm l := by
  induction l with
  | nil => exact .refl _
  | cons x r ih => exact (insT_perm x _).trans (ih.cons x)
theorem insT_sorted (x : List Nat) (l : List (List Nat)) : l.Pairwise (fun a b => ¬ b < a) → (insT x l).Pairwise (fun a b => ¬ b < a) := by
  induction l with
  | nil => exact fun _ => List.pairwise_singleton _ _
  | cons y r ih =>
    intro h
    have h' := List.pairwise_cons.mp h
    rw [insT_cons]
    split
    · rename_i q
      refine List.pairwise_cons.mpr ⟨fun z hz => ?_, ih h'.2⟩
      rcases List.mem_cons.mp ((insT_perm x r).mem_iff.mp hz) with rfl | hz
      · exact fun z => List.lt_irrefl _ (List.lt_trans q z)
      · exact h'.1 z hz
    · rename_i q
      refine List.pairwise_cons.mpr ⟨fun z hz => ?_, h⟩
      rcases List.mem_cons.mp hz with rfl | hz
      · exact q
      · exact fun k => q (List.lt_of_le_of_lt (List.not_lt.mp (h'.1 z hz)) k)
theorem sortT_sorted (l : List (List Nat)) : (sortT l).Pairwise (fun a b => ¬ b < a) := by
  induction l with
  | nil => exact List.Pairwise.nil
  | cons x r ih => exact insT_sorted x _ ih
theorem sortT_of {a b : List (List Nat)} (p : a.Perm b) (s : a.Pairwise (fun a b => ¬ b < a)) : a = sortT b :=
  List.Perm.eq_of_pairwise (fun _ _ _ _ h1 h2 => List.le_antisymm (List.not_lt.mp h1) (List.not_lt.mp h2)) s (sortT_sorted b) (p.trans (sortT_perm b).symm)

theorem keysAt_cases {σ : Hp} {v : AV} {xs : List AV} (h : keysAt σ v = some xs) : ∃ l, v = .ref l ∧ (σ[l]? = some (.list xs) ∨ ∃ ep es, σ[l]? = some (.dict ep es) ∧ xs = es.map (·.1)) := by
  unfold keysAt at h
  cases e : listAt σ v with
  | some ys =>
    rw [e] at h
    cases h
    obtain ⟨l, rfl, q⟩ := listAt_ok e
    exact ⟨l, rfl, .inl q⟩
  | none =>
    rw [e] at h
    simp only at h
    cases e' : dictAt σ v with
    | none => rw [e'] at h; cases h
    | some p =>
      rw [e'] at h
      cases h
      obtain ⟨l, rfl, q⟩ := dictAt_ok e'
      exact ⟨l, rfl, .inr ⟨_, _, q, rfl⟩⟩

section
variable {T : Tp} {A : Around} {W : Wd}
theorem keys_vals' {own : Addr → Ow} {bt : List Addr} {h h' : Heap} {es : List (AV × AV)} {kvs : List ((Str ⊕ Int) × Value)} (r : KV T own bt h es kvs) : ∀ {l : List Value}, l.length = kvs.length → (∀ (i : Nat) v, l[i]? = some v → ∃ k x, kvs[i]? = some (k, x) ∧ kIs k v = true) → VRs T own bt h' (es.map (·.1)) l := by
  induction r with
  | nil =>
    intro l hl _
    cases l with
    | nil => exact .nil
    | cons _ _ => cases hl
  | cons ok _ _ ih =>
    intro l hl hp
    cases l with
    | nil => cases hl
    | cons v l =>
      obtain ⟨k, x, e, q⟩ := hp 0 v rfl
      cases e
      exact .cons (vr_key ok q) (ih (Nat.succ.inj hl) fun i w hw => hp (i + 1) w hw)
theorem keys_vals {own : Addr → Ow} {bt : List Addr} {h h' : Heap} {es : List (AV × AV)} {kvs : List ((Str ⊕ Int) × Value)} {arr : Array Value} (kv : KV T own bt h es kvs) (hp : ItemsOf (fun i v => ∃ k x, kvs[i]? = some (k, x) ∧ (kKind T.prog T.w).is k v = true) arr kvs.length) : VRs T own bt h' (es.map (·.1)) arr.toList :=
  keys_vals' kv (by rw [Array.length_toList]; exact hp.1) fun i v e => hp.2 i v (by rw [← Array.getElem?_toList]; exact e)

/-- the items, taken together -/
theorem does_collect (I : Inv T W) (hh : A.handled = none) {v : AV} {val : Value} {xs : List AV} (ra : W.V T v val) (hx : keysAt W.σ v = some xs) {Q : List Value → Shared → Prop} {E : Value → Shared → Prop}
    (h : ∀ (h' : Heap) (tk : Nat) (vs : List Value), (∀ b o, W.h.get? b = some o → h'.get? b = some o) → xs.length ≤ lim → VRs T W.own W.bt h' xs vs → Q vs { W.s with heap := h', toks := tk }) : wpAny T.M A (collect val) Q E W.s := by
  obtain ⟨l, rfl, hz⟩ := keysAt_cases hx
  rcases hz with hx | ⟨ep, es, hx', rfl⟩
  · obtain ⟨_, vs, m, _, h1, h2, h3⟩ := I.listAt hx ra
    have hk : ∀ b o, W.h.get? b = some o → ((W.s.heap.push (PyProof.Rows.seqObj "list" #[] 0)).update W.s.heap.objs.size (Obj.mapSeq (· ++ vs.toList.toArray))).get? b = some o := fun b o q => by
      rw [Heap.get?_update_ne _ _ _ _ (Nat.ne_of_lt (Heap.lt_size q)), Heap.get?_push_ne _ _ _ (Nat.ne_of_lt (Heap.lt_size q))]; exact q
    exact PyProof.Rows.collect_list (vs := vs.toList) ⟨_, h1, rfl, m, by simp⟩ (h _ W.s.toks _ hk h3 (h2.kept hk)) (by rw [h2.length, ← lim_eq]; exact h3)
  · obtain ⟨d, kvs, n, _, hd, _, kv, hl, lo⟩ := I.dict hx' ra
    exact kdu_collect (kdl_dict lo) hh hd (by rw [kv.length, ← lim_eq]; exact hl) fun h' tk acc hk hacc => h h' tk _ hk (by rw [List.length_map]; exact hl) (keys_vals kv hacc)

theorem sorted_by (I : Inv T W) (hh : A.handled = none) {v : AV} {val : Value} {xs ys : List AV} (ra : W.V T v val) (hx : keysAt W.σ v = some xs) (hl : ys.length ≤ lim)
    (hs : ∀ (h' : Heap) (tk : Nat) (vs : List Value) (P : PySem.Fin → Shared → Prop) (E : Value → Shared → Prop), xs.length ≤ lim → VRs T W.own W.bt h' xs vs →
      (∀ out, VRs T W.own W.bt h' ys out → P (.done (.ret .none)) { W.s with heap := PyProof.Rows.sortedHeap (h'.push (PyProof.Rows.seqObj "list" vs.toArray 0)) h'.objs.size vs out.toArray, toks := tk }) →
      wpAny T.M A.in1.in1 (Builtin.«list.sort» ⟨[.ref h'.objs.size], []⟩) P E { W.s with heap := h'.push (PyProof.Rows.seqObj "list" vs.toArray 0), toks := tk }) :
    Does T A noX W (call (.builtin "sorted") [val]) (newList ys W.σ) (VW T) := by
  refine Does.newAt I hl fun Q E q => ?_
  refine call_function_entry PyProof.Rows.kind_sorted PyProof.Rows.plain_sorted PyProof.Rows.entry_sorted (PyProof.Rows.args_sorted1 _) ?_
  unfold Builtin.«sorted»
  refine wpAny_bind (m := checkCount "sorted" 1 1 _) (wpAny_pure ?_)
  refine wpAny_bind (does_collect (A := A.in1) I hh ra hx fun h' tk vs hk hxl r => ?_)
  refine wpAny_bind (wpAny_newList ?_ (by rw [r.length, ← lim_eq]; exact hxl))
  have ho : (h'.push (PyProof.Rows.seqObj "list" vs.toArray 0)).get? h'.objs.size = some (PyProof.Rows.seqObj "list" vs.toArray 0) := Heap.get?_push_size _ rfl
  have hold : ∀ out b o, h'.get? b = some o → (PyProof.Rows.sortedHeap (h'.push (PyProof.Rows.seqObj "list" vs.toArray 0)) h'.objs.size vs out).get? b = some o := fun out b o z => by
    have hb := Heap.lt_size z
    rw [PyProof.Rows.sortedHeap_old (Nat.ne_of_lt hb) (by rw [PyProof.Rows.size_push']; exact Nat.lt_succ_of_lt hb)]
    exact Heap.get?_push_of_some _ z
  refine wpAny_bind (wpAny_holding (wpAny_call_entry (s := { W.s with heap := h'.push (PyProof.Rows.seqObj "list" vs.toArray 0), toks := tk }) PyProof.Rows.slot_list_sort ⟨_, ho, rfl⟩ PyProof.Rows.entry_list_sort
    (hs h' tk vs _ _ hxl r fun out ro => ⟨_, rfl, ?_⟩) (PyProof.Rows.args_list_sort _)))
  obtain ⟨e, he⟩ := PyProof.Rows.sortedHeap_at (out := out.toArray) ho
  refine wpAny_pure ⟨_, rfl, q _ _ _ _ e ?_ ?_ (fun b o z => hold _ b o (hk b o z)) he (ro.kept (hold _))⟩
  · cases z : W.h.get? h'.objs.size with
    | none => rfl
    | some o => exact absurd (Heap.lt_size (hk _ _ z)) (Nat.lt_irrefl _)
  · obtain ⟨_, ho⟩ := I.st; exact Heap.lt_size (hk _ _ (I.base _ _ ho))

end
end Mine

/-! Soundness: sorted, the kinds (typed by hand). -/
set_option Elab.async false
namespace Mine
open PySem PySem.SeqAt PySem.Spec PySem.W PySem.Calls

section
variable {T : Tp} {A : Around} {W : Wd}
theorem ints_of {own : Addr → Ow} {bt : List Addr} {h : Heap} {xs : List AV} {vs : List Value} (r : VRs T own bt h xs vs) : ∀ {ns : List Int}, mapO asInt xs = some ns → PyProof.Rows.IntsAre vs ns := by
  induction r with
  | nil => intro ns e; cases e; exact .nil
  | cons a _ ih =>
    intro ns e
    rw [mapO_cons] at e
    cases a with
    | int i t =>
      rename_i xs _ _
      cases e2 : mapO asInt xs with
      | none => rw [e2] at e; cases e
      | some ms => rw [e2] at e; cases e; exact .cons _ _ (ih e2)
    | _ => cases e
theorem ascI_le : ∀ {ns : List Int}, ascI ns = true → ns.Pairwise (· ≤ ·)
  | [], _ => .nil
  | [a], _ => List.pairwise_singleton _ _
  | a :: b :: r, h => by
    have h : (decide (a < b) && ascI (b :: r)) = true := h
    obtain ⟨h1, h2⟩ := Bool.and_eq_true_iff.mp h
    have ih := ascI_le h2
    have hab : a ≤ b := Int.le_of_lt (of_decide_eq_true h1)
    refine List.pairwise_cons.mpr ⟨fun y hy => ?_, ih⟩
    rcases List.mem_cons.mp hy with rfl | hy
    · exact hab
    · exact Int.le_trans hab ((List.pairwise_cons.mp ih).1 y hy)
theorem vrs_ints {own : Addr → Ow} {bt : List Addr} {h : Heap} {vs : List Value} {ns : List Int} (r : PyProof.Rows.IntsAre vs ns) : ∀ {xs : List AV}, mapO asInt xs = some ns → VRs T own bt h xs vs := by
  induction r with
  | nil =>
    intro xs e
    cases xs with
    | nil => exact .nil
    | cons x xs =>
      rw [mapO_cons] at e
      split at e
      · split at e <;> cases e
      · cases e
  | cons n t _ ih =>
    intro xs e
    cases xs with
    | nil => cases e
    | cons x xs =>
      rw [mapO_cons] at e
      split at e
      · rename_i y hy
        split at e
        · rename_i ys hys
          cases e
          cases x with
          | int i => cases hy; exact .cons (.int _ _) (ih hys)
          | _ => cases hy
        · cases e
      · cases e
theorem sorted_ints (I : Inv T W) (hh : A.handled = none) {v : AV} {val : Value} {xs : List AV} {ns : List Int} (ra : W.V T v val) (hx : keysAt W.σ v = some xs) (hl : xs.length ≤ lim) (hi : mapO asInt xs = some ns) (h64 : ns.length < 64) (hs : ascI ns = true) :
    Does T A noX W (call (.builtin "sorted") [val]) (newList xs W.σ) (VW T) :=
  sorted_by I hh ra hx hl fun h' tk vs P E hxl r h => by
    have hI := ints_of r hi
    refine PyProof.Rows.list_sort_tree (Heap.get?_push_size _ rfl) hI (by rw [PyProof.Rows.IntsAre.length hI]; exact h64) fun out ns' a1 a2 a3 => ?_
    have e : ns' = ns := List.Perm.eq_of_pairwise (fun _ _ _ _ h1 h2 => Int.le_antisymm h1 h2) a3 (ascI_le hs) a2
    subst e
    have := h out.toList (vrs_ints a1 hi)
    rw [Array.toArray_toList] at this
    exact this

theorem vrs_texts {own : Addr → Ow} {bt : List Addr} {h : Heap} {vs : List Value} {ss : List Str} (r : PyProof.Rows.StrsAre vs ss) : ∀ {ts : List (List Nat)}, ss = ts.map tS → (∀ t ∈ ts, okS t) → VRs T own bt h (ts.map .str) vs := by
  induction r with
  | nil => intro ts e _; cases ts with | nil => exact .nil | cons _ _ => cases e
  | cons n t _ ih =>
    intro ts e ok
    cases ts with
    | nil => cases e
    | cons x ts =>
      cases e
      exact .cons (.str _ (ok x (List.mem_cons_self ..))) (ih rfl fun t ht => ok t (List.mem_cons_of_mem _ ht))
theorem rising_pairs : ∀ {l : List Str} {p : Str}, PyProof.Rows.risingS p l = true → (p :: l).Pairwise (fun a b => ¬ b.cps.toList < a.cps.toList)
  | [], _, _ => List.pairwise_singleton _ _
  | x :: r, p, h => by
    have h : (!PySem.Spec.ltCps x.cps.toList p.cps.toList && PyProof.Rows.risingS x r) = true := h
    rw [Bool.and_eq_true, PyProof.Rows.ltCps_eq, Bool.not_eq_true', decide_eq_false_iff_not] at h
    have ih := rising_pairs h.2
    refine List.pairwise_cons.mpr ⟨fun y hy => ?_, ih⟩
    rcases List.mem_cons.mp hy with rfl | hy
    · exact h.1
    · exact fun q => h.1 (List.lt_of_le_of_lt (List.not_lt.mp ((List.pairwise_cons.mp ih).1 y hy)) q)
theorem sortT_of_strs {ss : List Str} {ts : List (List Nat)} (p : ss.Perm (ts.map tS)) (h : PyProof.Rows.sortedS ss = true) : ss = (sortT ts).map tS := by
  have e : ∀ l : List (List Nat), (l.map tS).map (fun x : Str => x.cps.toList) = l := fun l => by
    rw [List.map_map]; exact (List.map_congr_left fun t _ => by simp [tS]).trans (List.map_id _)
  have e' : ∀ l : List Str, (l.map (fun x : Str => x.cps.toList)).map tS = l := fun l => by
    rw [List.map_map]; exact (List.map_congr_left fun t _ => by simp [tS]).trans (List.map_id _)
  have h1 : (ss.map fun x : Str => x.cps.toList) = sortT ts := by
    refine sortT_of ((p.map _).trans (by rw [e])) ?_
    rw [List.pairwise_map]
    cases ss with
    | nil => exact .nil
    | cons x r => exact rising_pairs h
  rw [← h1, e']

theorem does_sorted (I : Inv T W) (hh : A.handled = none) {v : AV} {val : Value} (ra : W.V T v val) (hn : sortedA v W.σ ≠ .fail) : Does T A noX W (call (.builtin "sorted") [val]) (sortedA v W.σ) (VW T) := by
  unfold sortedA at hn ⊢
  cases hx : keysAt W.σ v with
  | none => rw [hx] at hn; exact absurd rfl hn
  | some xs =>
    rw [hx] at hn
    simp only [Option.bind_some] at hn ⊢
    unfold sortX at hn ⊢
    cases hi : mapO asInt xs with
    | none => rw [hi] at hn; exact absurd rfl hn
    | some ns =>
      rw [hi] at hn
      simp only at hn ⊢
      by_cases hc : ns.length < 64 ∧ ascI ns = true
      · rw [if_pos hc] at hn ⊢
        have hl : xs.length ≤ lim := by
          simp only at hn
          unfold newList at hn
          split at hn
          · assumption
          · exact absurd rfl hn
        exact sorted_ints I hh ra hx hl hi hc.1 hc.2
      · rw [if_neg hc] at hn; exact absurd rfl hn
end
end Mine

/-! Soundness: a set of texts (typed by hand). -/
set_option Elab.async false
set_option maxRecDepth 100000
namespace Mine
open PySem PySem.Spec

/-! ### the marks of a set's table -/
theorem relaid_marks {t t' : SetTable} {hs : Array Int} {n : Nat} {o : Array Nat} (h : t.relaid hs n = some (t', o)) : t'.led = t.led ∧ t'.plain = t.plain := by
  unfold SetTable.relaid SetTable.laid at h
  cases e : SetTable.layClean (SetTable.sizeAbove n - 1) hs with
  | none => rw [e] at h; cases h
  | some x => rw [e] at h; cases h; exact ⟨rfl, rfl⟩
theorem orStandIn_marks (t : SetTable) (n : Nat) : (t.orStandIn n).led = t.led ∧ (t.plain = false → (t.orStandIn n).plain = false) := by
  unfold SetTable.orStandIn
  split
  · exact ⟨rfl, id⟩
  · exact ⟨rfl, fun _ => rfl⟩
theorem layNew_marks (t : SetTable) (es : Array (Int × Value)) (h : Int) (x : Value) : (layNew t es h x).2.1.led = t.led ∧ (t.plain = false → (layNew t es h x).2.1.plain = false) := by
  unfold layNew
  split
  · exact orStandIn_marks _ _
  · exact ⟨rfl, fun _ => rfl⟩
theorem relayAll_marks (t : SetTable) (es : Array (Int × Value)) (n : Nat) : (relayAll t es n).2.1.led = t.led ∧ (t.plain = false → (relayAll t es n).2.1.plain = false) := by
  unfold relayAll
  split
  · rename_i t' order e
    have m := relaid_marks e
    dsimp only
    split
    · exact ⟨m.1, fun h => m.2.trans h⟩
    · exact ⟨rfl, fun _ => rfl⟩
  · exact ⟨rfl, fun _ => rfl⟩

noncomputable def strV : Value → Str
  | .str x _ => x
  | _ => ""
noncomputable def strE (e : Int × Value) : Str := strV e.2
/-- us, and x if it is new -/
noncomputable def addS (us : List Str) (x : Str) : List Str := if us.contains x then us else us ++ [x]

section
variable {prog : Program} {w : World} {A : Around} {E : Value → Shared → Prop} {s : Shared}

/-- a set of texts, us in some order -/
inductive SetX (prog : Program) (w : World) (h : Heap) (a : Addr) (us : List Str) : Prop
  | mk (o : Obj) (es : Array (Int × Value)) (ep : Nat) (t : SetTable) (ho : h.get? a = some o) (hex : o.ExactSet) (hd : o.data = .set es ep t) (hel : ElemsOf (strKind prog w) es.toList) (hb : es.size < scanBound)
    (hf : t.fits es.size = true) (hled : t.led = !w.params.followText "set-order") (hpl : es.size ≠ 0 → t.plain = false) (hp : (es.toList.map strE).Perm us)

theorem SetX.at {h h' : Heap} {a : Addr} {us : List Str} (x : SetX prog w h a us) (k : ∀ o, h.get? a = some o → h'.get? a = some o) : SetX prog w h' a us := by
  obtain ⟨o, es, ep, t, ho, r1, r2, r3, r4, r5, r6, r7, r8⟩ := x
  exact ⟨o, es, ep, t, k o ho, r1, r2, r3, r4, r5, r6, r7, r8⟩

theorem set_stored {h : Heap} {a : Addr} {o : Obj} {es es' : Array (Int × Value)} {ep : Nat} {t t' : SetTable} (ho : h.get? a = some o) (hd : o.data = .set es ep t) :
    (h.update a (Obj.putSet es' t')).get? a = some { o with data := .set es' (ep + 1) t' } := by
  have := Heap.get?_update_self (Obj.putSet es' t') ho (by rw [putSet_of es' t' hd]; rfl)
  rw [putSet_of es' t' hd] at this
  exact this

theorem set_add {a : Addr} {us : List Str} {x : Str} {tk : Tok} {Q : Bool → Shared → Prop} (X : SetX prog w s.heap a us) (hroom : us.length + 1 < scanBound)
    (h : ∀ b h', Heap.SameBut a s.heap h' → SetX prog w h' a (addS us x) → Q b { s with heap := h' }) :
    wpAny (model prog w) A (setAddHashed a (.str x tk) ((strKind prog w).hash x)) Q E s := by
  obtain ⟨o, es, ep, t, ho, hex, hd, hel, hb, hf, hled, hpl, hp⟩ := X
  have hkey : (strKind prog w).is x (.str x tk) = true := strKind_is _ _ _ _
  have hn : es.size = us.length := by simpa using hp.length_eq
  unfold setAddHashed setAddHashedIn
  refine wpAny_holding (wpAny_bind (wpAny_setState_of ho hd hf ?_))
  dsimp only
  rw [byScan_of (knd := strKind prog w) rfl hb hel]
  simp only [↓reduceIte]
  unfold setAddByScan
  refine wpAny_bind ?_
  refine wpAny_bind (wpAny_rule ?_)
  refine wpAny_bind (wpAny_setScan_of hkey ho hd hf hel ?_)
  have hin : us.contains x = (List.findIdx? (fun e => (strKind prog w).is x e.2) es.toList).isSome := by
    rw [Bool.eq_iff_iff, List.findIdx?_isSome, List.any_eq_true, List.contains_iff_mem, ← hp.mem_iff, List.mem_map]
    constructor
    · rintro ⟨e, he, rfl⟩
      obtain ⟨⟨k, hk, _⟩, _⟩ := hel e he
      obtain ⟨u, hu⟩ := Value.isStrOf_shape hk
      refine ⟨e, he, ?_⟩
      unfold strE
      rw [hu]
      exact strKind_is _ _ _ _
    · rintro ⟨e, he, q⟩
      obtain ⟨u, hu⟩ := Value.isStrOf_shape q
      exact ⟨e, he, by unfold strE; rw [hu]; rfl⟩
  cases hr : List.findIdx? (fun e => (strKind prog w).is x e.2) es.toList with
  | some j =>
    dsimp only
    rw [hr] at hin
    have e : addS us x = us := by unfold addS; rw [hin]; rfl
    refine wpAny_pure (wpAny_pure ?_)
    exact h false s.heap (Heap.SameBut.refl a s.heap) (by rw [e]; exact ⟨o, es, ep, t, ho, hex, hd, hel, hb, hf, hled, hpl, hp⟩)
  | none =>
    dsimp only
    rw [hr] at hin
    have e : addS us x = us ++ [x] := by unfold addS; rw [hin]; rfl
    have hgw : ∀ (b : Bool) {s₁ : Shared} {Q' : Unit → Shared → Prop}, Q' () s₁ → wpAny (model prog w) A (match b with | true => rule "set.scan.the-table-gave-way" | false => pure ()) Q' E s₁ :=
      fun b s₁ Q' hq => by cases b <;> first | exact wpAny_pure hq | exact wpAny_rule hq
    have hperm := layNew_perm t es ((strKind prog w).hash x) (.str x tk)
    have hfits := layNew_fits t es ((strKind prog w).hash x) (.str x tk)
    have hmk := layNew_marks t es ((strKind prog w).hash x) (.str x tk)
    generalize layNew t es ((strKind prog w).hash x) (.str x tk) = L at hperm hfits hmk ⊢
    obtain ⟨es1, t1, wasDummy, gave⟩ := L
    dsimp only at hperm hfits hmk ⊢
    rw [Array.toList_push] at hperm
    have hel1 : ElemsOf (strKind prog w) es1.toList := (hel.push hkey rfl).perm hperm
    have hsz : es1.size = us.length + 1 := by rw [← Array.length_toList, hperm.length_eq, List.length_append, Array.length_toList, hn]; rfl
    have hp1 : (es1.toList.map strE).Perm (us ++ [x]) := (hperm.map strE).trans (by rw [List.map_append]; exact hp.append_right _)
    refine wpAny_bind (hgw _ ?_)
    have fin : ∀ t2 : SetTable, t2.fits es1.size = true → t2.led = t.led → t2.plain = false → wpAny (model prog w) A (do
        storeSet a es1 t2
        if (!wasDummy && t2.tooFull) = true then do
            (match (relayAll t2 es1 (SetTable.grown es1.size)).2.2 with | true => rule "set.scan.the-table-gave-way" | false => pure ())
            storeSet a (relayAll t2 es1 (SetTable.grown es1.size)).1 (relayAll t2 es1 (SetTable.grown es1.size)).2.1
            pure (some true)
          else pure (some true)) (fun r s' => wpAny (model prog w) A (match r with | some added => pure added | none => setAddHashedIn a (.str x tk) ((strKind prog w).hash x) 99999) Q E s') E s := fun t2 f2 l2 p2 => by
      refine wpAny_bind (wpAny_storeSet_of ho hd ?_ (fits_of_scanBound (by lia  )))
      have ho1 := set_stored (es' := es1) (t' := t2) ho hd
      have hsb1 := Heap.SameBut.update s.heap a (Obj.putSet es1 t2)
      split
      · have hp2 := relayAll_perm t2 es1 (SetTable.grown es1.size)
        have hf2 := relayAll_fits t2 es1 (SetTable.grown es1.size)
        have hm2 := relayAll_marks t2 es1 (SetTable.grown es1.size)
        generalize relayAll t2 es1 (SetTable.grown es1.size) = Rl at hp2 hf2 hm2 ⊢
        obtain ⟨es2, t3, gave2⟩ := Rl
        dsimp only at hp2 hf2 hm2 ⊢
        have hsz2 : es2.size = es1.size := by rw [← Array.length_toList, hp2.length_eq, Array.length_toList]
        refine wpAny_bind (hgw _ ?_)
        refine wpAny_bind (wpAny_storeSet_of ho1 rfl ?_ (fits_of_scanBound (by omega)))
        refine wpAny_pure (wpAny_pure (h _ _ (hsb1.trans (Heap.SameBut.update _ a _)) ?_))
        rw [e]
        exact ⟨_, es2, _, t3, set_stored ho1 rfl, hex, rfl, hel1.perm hp2, by omega, hf2, by rw [hm2.1, l2, hled], fun _ => hm2.2 p2, (hp2.map strE).trans hp1⟩
      · refine wpAny_pure (wpAny_pure (h _ _ hsb1 ?_))
        rw [e]
        exact ⟨_, es1, _, t2, ho1, hex, rfl, hel1, by lia  , f2, by rw [l2, hled], fun _ => p2, hp1⟩
    split
    · refine wpAny_bind ?_
      rw [hashByValue_scannable 8 (x := .str x tk) rfl]
      refine wpAny_pure ?_
      exact fin { t1 with plain := false } (SetTable.fits_plain_off hfits) hmk.1 rfl
    · rename_i hnp
      refine wpAny_bind (wpAny_pure ?_)
      simp only [↓reduceIte]
      exact fin t1 hfits hmk.1 (by simpa using hnp)
end
end Mine

/-! Soundness: going through a set of texts (typed by hand). -/
set_option Elab.async false
set_option maxRecDepth 100000
namespace Mine
open PySem PySem.Spec

theorem owner_si : Manifest.owners.lookup (String.ofList ['r', 'o', 't', 'a', 'r', 'e', 't', 'i', '_', 't', 'e', 's'].reverse) = some Manifest.sig_set_iterator := by kernel_rfl
theorem slot_si_next : Slot "set_iterator" "__next__" "set_iterator.__next__" :=
  .of (owner := "set_iterator") (n := "__next__") (by rw [typeLookup_type, builtinLookup_eq_fast]; kernel_rfl) (by decide +kernel) (by decide +kernel) (by decide +kernel)
    (by first | exact .inl (by decide +kernel) | exact .inr (by decide +kernel)) (by rw [isSubtype_type]; kernel_rfl)
theorem entry_si_next : entryFor table "set_iterator.__next__" = some Builtin.«set_iterator.__next__» := entryFor_of_tree (by kernel_rfl)
theorem args_si_next (a : Value) : argsOk "set_iterator.__next__" ⟨[a], []⟩ := by
  unfold argsOk; rw [signature?_of (id := "set_iterator.__next__") (n := ['_', '_', 't', 'x', 'e', 'n', '_', '_']) (o := ['r', 'o', 't', 'a', 'r', 'e', 't', 'i', '_', 't', 'e', 's']) (by kernel_rfl) owner_si]; kernel_rfl
theorem entry_set_iter : entryFor table "set.__iter__" = some Builtin.«frozenset.__iter__» :=
  entryFor_alias (id' := "frozenset.__iter__") (by kernel_rfl) rfl (by decide +kernel) (by kernel_rfl)

noncomputable def IsSI (h : Heap) (I : Addr) (first : Value) (i : Nat) (S : Addr) (n ep : Nat) : Prop :=
  ∃ o, h.get? I = some o ∧ o.cls = .type "set_iterator" ∧ o.data = .fields #[first, .int i 0, .ref S, .int n 0, .int ep 0]
theorem IsSI.typeIs {s : Shared} {I S : Addr} {first : Value} {i n ep : Nat} (x : IsSI s.heap I first i S n ep) : s.TypeIs (.ref I) "set_iterator" := let ⟨o, ho, hc, _⟩ := x; ⟨o, ho, hc⟩
theorem IsSI.at {h h' : Heap} {I S : Addr} {first : Value} {i n ep : Nat} (x : IsSI h I first i S n ep) (e : ∀ o, h.get? I = some o → h'.get? I = some o) : IsSI h' I first i S n ep := let ⟨o, ho, r⟩ := x; ⟨o, e _ ho, r⟩

section
variable {prog : Program} {w : World} {A : Around} {E : Value → Shared → Prop} {s : Shared} {I S D : Addr} {i n ep m : Nat} {oS oD : Obj} {es : Array (Int × Value)} {t : SetTable} {places : Array Value}
theorem si_item_drawn {p : Nat} {e : Int × Value} {Q : Option Value → Shared → Prop} (hit : IsSI s.heap I (.ref D) i S n ep) (hS : s.heap.get? S = some oS) (hd : oS.data = .set es ep t) (hf : t.fits es.size = true) (hn : es.size = n)
    (hD : s.heap.get? D = some oD) (hdD : oD.data = .seq places m) (hp : places[i]? = some (.int p 0)) (he : es[p]? = some e)
    (hQ : ∀ h', IsSI h' I (.ref D) (i + 1) S n ep → Heap.SameBut I s.heap h' → Q (some e.2) { s with heap := h' }) : wpAny (model prog w) A (pyNext (.ref I)) Q E s := by
  obtain ⟨o, ho, hc, hdo⟩ := id hit
  subst hn
  unfold pyNext
  refine wpAny_bind (wpAny_attempt (wpAny_callSpecial?_slot (name := Str.ofString "__next__") hit.typeIs slot_si_next
    (wpAny_call_entry slot_si_next hit.typeIs entry_si_next ?_ (args_si_next _))))
  unfold Builtin.«set_iterator.__next__»
  refine wpAny_bind (wpAny_of_eq (a := (Value.ref I, [])) rfl ?_)
  refine wpAny_bind (wpAny_fieldsOf ho hdo ?_)
  dsimp only
  refine wpAny_bind (wpAny_setEntries_of hS hd hf ?_)
  rw [if_neg (by simp)]
  refine wpAny_bind (wpAny_seqItems hD hdD ?_)
  simp only [Int.toNat_natCast, hp]
  unfold setNextDrawn
  refine wpAny_bind (wpAny_bind (wpAny_setState_of hS hd hf ?_))
  dsimp only
  rw [if_neg (by simp), he]
  refine wpAny_pure ?_
  refine wpAny_bind (wpAny_setField ho hdo (by simp) ?_)
  refine wpAny_pure ⟨_, rfl, wpAny_pure (hQ _ ⟨_, Heap.get?_update_self _ ho (Obj.isFreed_of_fields (Obj.data_mapFields hdo _)), (Obj.cls_mapFields ..).trans hc, ?_⟩ (Heap.SameBut.update ..))⟩
  rw [Obj.data_mapFields hdo]; simp [rawInt]

/-- the end -/
theorem si_stop {s' : Shared} {Q : Option Value → Shared → Prop} (hh : A.handled = none) (hx : Heap.ExtBut I s.heap s'.heap) (hs : s' = { s with heap := s'.heap }) (hQ : ∀ h', Heap.ExtBut I s.heap h' → Q none { s with heap := h' }) :
    wpAny (model prog w) A.in1 (do raiseNew (← newExc (Value.type "StopIteration") []) : Sem PySem.Fin) (fun fin s' => ∃ v, fin = Fin.done (Flow.ret v) ∧ wpAny (model prog w) A (pure (some v)) Q E s')
      (fun e s' => wpAny (model prog w) A (do if (← isInstance e (Value.type "StopIteration")) = true then pure none else throw e) Q E s') s' := by
  refine wpAny_bind ?_
  simp only [newExc, newTuple]
  refine wpAny_bind (wpAny_newObj_type ?_ (by size_fits))
  refine wpAny_bind (m := firstArgMember _ _) (wpAny_of_eq (a := Value.none) (by first | rfl | (simp only [firstArgMember]; rfl)) ?_)
  refine wpAny_newObj_type ?_ (by size_fits)
  simp only [raiseNew]
  refine wpAny_bind (wpAny_handled ?_)
  rw [show A.in1.handled = none from hh]
  refine wpAny_bind (wpAny_pure (wpAny_throw ?_))
  refine wpAny_bind (wpAny_isInstance (T := "StopIteration") (b := true) ⟨_, Heap.get?_push_size _ rfl, rfl⟩ isSubtype_stop ?_)
  rw [hs]
  exact wpAny_pure (hQ _ ((hx.push _).push _))

theorem si_done_drawn {Q : Option Value → Shared → Prop} (hh : A.handled = none) (hit : IsSI s.heap I (.ref D) i S n ep) (hS : s.heap.get? S = some oS) (hd : oS.data = .set es ep t) (hf : t.fits es.size = true) (hn : es.size = n)
    (hD : s.heap.get? D = some oD) (hdD : oD.data = .seq places m) (hp : places[i]? = none)
    (hQ : ∀ h', Heap.ExtBut I s.heap h' → Q none { s with heap := h' }) : wpAny (model prog w) A (pyNext (.ref I)) Q E s := by
  obtain ⟨o, ho, hc, hdo⟩ := id hit
  subst hn
  unfold pyNext
  refine wpAny_bind (wpAny_attempt (wpAny_callSpecial?_slot (name := Str.ofString "__next__") hit.typeIs slot_si_next
    (wpAny_call_entry slot_si_next hit.typeIs entry_si_next ?_ (args_si_next _))))
  unfold Builtin.«set_iterator.__next__»
  refine wpAny_bind (wpAny_of_eq (a := (Value.ref I, [])) rfl ?_)
  refine wpAny_bind (wpAny_fieldsOf ho hdo ?_)
  dsimp only
  refine wpAny_bind (wpAny_setEntries_of hS hd hf ?_)
  rw [if_neg (by simp)]
  refine wpAny_bind (wpAny_seqItems hD hdD ?_)
  simp only [Int.toNat_natCast, hp]
  refine wpAny_bind (wpAny_setField ho hdo (by simp) ?_)
  refine wpAny_bind (wpAny_setField (Heap.get?_update_self _ ho (Obj.isFreed_of_fields (Obj.data_mapFields hdo _))) (Obj.data_mapFields hdo _) (by simp) ?_)
  exact si_stop (s := s) hh ((Heap.SameBut.update ..).trans (Heap.SameBut.update ..)).extBut rfl hQ

/-- in the order of the table -/
theorem si_next {slot : Nat} {r : Option (Value × Nat)} {Q : Option Value → Shared → Prop} (hh : A.handled = none) (hit : IsSI s.heap I (.int slot 0) i S n ep) (hS : s.heap.get? S = some oS) (hd : oS.data = .set es ep t) (hf : t.fits es.size = true) (hn : es.size = n)
    (hr : ∀ (Q : Option (Value × Nat) → Shared → Prop) (E : Value → Shared → Prop), Q r s → wpAny (model prog w) A.in1 (setNext S slot i ep) Q E s)
    (h1 : ∀ v k h', r = some (v, k) → IsSI h' I (.int k 0) (i + 1) S n ep → Heap.SameBut I s.heap h' → Q (some v) { s with heap := h' })
    (h2 : ∀ h', r = none → Heap.ExtBut I s.heap h' → Q none { s with heap := h' }) : wpAny (model prog w) A (pyNext (.ref I)) Q E s := by
  obtain ⟨o, ho, hc, hdo⟩ := id hit
  subst hn
  unfold pyNext
  refine wpAny_bind (wpAny_attempt (wpAny_callSpecial?_slot (name := Str.ofString "__next__") hit.typeIs slot_si_next
    (wpAny_call_entry slot_si_next hit.typeIs entry_si_next ?_ (args_si_next _))))
  unfold Builtin.«set_iterator.__next__»
  refine wpAny_bind (wpAny_of_eq (a := (Value.ref I, [])) rfl ?_)
  refine wpAny_bind (wpAny_fieldsOf ho hdo ?_)
  dsimp only
  refine wpAny_bind (wpAny_setEntries_of hS hd hf ?_)
  rw [if_neg (by simp)]
  simp only [Int.toNat_natCast]
  refine wpAny_bind (hr _ _ ?_)
  cases r with
  | none =>
    dsimp only
    refine wpAny_bind (wpAny_setField ho hdo (by simp) ?_)
    exact si_stop (s := s) hh (Heap.SameBut.update ..).extBut rfl fun h' => h2 h' rfl
  | some p =>
    obtain ⟨v, k⟩ := p
    dsimp only
    refine wpAny_bind (wpAny_setField ho hdo (by simp) ?_)
    refine wpAny_bind (wpAny_setField (Heap.get?_update_self _ ho (Obj.isFreed_of_fields (Obj.data_mapFields hdo _))) (Obj.data_mapFields hdo _) (by simp) ?_)
    refine wpAny_pure ⟨_, rfl, wpAny_pure (h1 v k _ rfl ⟨_, Heap.get?_update_self _ (Heap.get?_update_self _ ho (Obj.isFreed_of_fields (Obj.data_mapFields hdo _))) (Obj.isFreed_of_fields (Obj.data_mapFields (Obj.data_mapFields hdo _) _)), (Obj.cls_mapFields ..).trans ((Obj.cls_mapFields ..).trans hc), ?_⟩ ((Heap.SameBut.update ..).trans (Heap.SameBut.update ..)))⟩
    rw [Obj.data_mapFields (Obj.data_mapFields hdo _)]; simp [rawInt]
end
/-! ### the orders -/
theorem erase_perm {α : Type} : ∀ {l : List α} {i : Nat} (h : i < l.length), (l[i] :: l.eraseIdx i).Perm l
  | x :: r, 0, _ => .refl _
  | x :: r, i + 1, h => by
    rw [List.getElem_cons_succ, List.eraseIdx_cons_succ]
    exact (List.Perm.swap _ _ _).trans ((erase_perm (l := r) (Nat.lt_of_succ_lt_succ h)).cons x)
theorem pick_go {α : Type} (next : Nat → Nat) : ∀ (n k : Nat) (l : List α) (out : Array α), l.length = n → (pickOrder.go next n k l out).toList.Perm (out.toList ++ l)
  | 0, k, l, out, h => by
    have : l = [] := List.length_eq_zero_iff.mp h
    subst this
    simp [pickOrder.go]
  | n + 1, k, l, out, h => by
    have hl : next k % l.length < l.length := Nat.mod_lt _ (by lia  )
    unfold pickOrder.go
    rw [List.getElem?_eq_getElem hl]
    dsimp only
    refine (pick_go next n (k + 1) _ _ (by rw [List.length_eraseIdx, if_pos hl]; lia  )).trans ?_
    rw [Array.toList_push, List.append_assoc]
    refine List.Perm.append_left _ ?_
    exact (erase_perm hl)
theorem pick_perm {α : Type} (next : Nat → Nat) (xs : Array α) : (pickOrder next xs).toList.Perm xs.toList := by
  have := pick_go next xs.size 0 xs.toList #[] (by simp)
  simpa [pickOrder] using this
section
variable {prog : Program} {w : World} {A : Around} {E : Value → Shared → Prop} {s : Shared}
theorem wpAny_choose {src : Source} {n : Nat} {Q : Nat → Shared → Prop} (hn : n ≠ 0) (h : ∀ k d, k < n → Q k { s with drawn := d }) : wpAny (model prog w) A (choose src n) Q E s := fun _ _ _ => ⟨hn, h _ _ (Nat.mod_lt _ (Nat.pos_of_ne_zero hn))⟩
theorem draw_perm {α : Type} : ∀ (n : Nat) (xs : List α) (s : Shared) {Q : List α → Shared → Prop}, xs.length = n → (∀ l d, l.Perm xs → Q l { s with drawn := d }) → wpAny (model prog w) A (drawOrder n xs) Q E s
  | 0, xs, s, Q, h, q => by
    have : xs = [] := List.length_eq_zero_iff.mp h
    subst this
    exact wpAny_pure (q [] s.drawn (.refl _))
  | n + 1, [], s, Q, h, q => nomatch h
  | n + 1, x :: xs, s, Q, h, q => by
    unfold drawOrder
    refine wpAny_bind (wpAny_choose (by simp) fun k d hk => ?_)
    rw [List.getElem?_eq_getElem hk]
    dsimp only
    refine wpAny_bind (draw_perm n _ _ (by rw [List.length_eraseIdx, if_pos hk]; simp at h ⊢; omega) fun l d' hl => ?_)
    exact wpAny_pure (q _ d' ((hl.cons _).trans (erase_perm hk)))
end
end Mine

/-! Soundness: a walk through a set of texts (typed by hand). -/
set_option Elab.async false
set_option maxRecDepth 100000
namespace Mine
open PySem PySem.Spec

theorem slot_si_iter : Slot "set_iterator" "__iter__" "set_iterator.__iter__" :=
  .of (owner := "set_iterator") (n := "__iter__") (by rw [typeLookup_type, builtinLookup_eq_fast]; kernel_rfl) (by decide +kernel) (by decide +kernel) (by decide +kernel)
    (by first | exact .inl (by decide +kernel) | exact .inr (by decide +kernel)) (by rw [isSubtype_type]; kernel_rfl)
theorem args_si_iter (a : Value) : argsOk "set_iterator.__iter__" ⟨[a], []⟩ := by
  unfold argsOk; rw [signature?_of (id := "set_iterator.__iter__") (n := ['_', '_', 'r', 'e', 't', 'i', '_', '_']) (o := ['r', 'o', 't', 'a', 'r', 'e', 't', 'i', '_', 't', 'e', 's']) (by kernel_rfl) owner_si]; kernel_rfl
theorem entry_si_iter : entryFor table "set_iterator.__iter__" = some Builtin.«dict_keyiterator.__iter__» :=
  entryFor_alias (id' := "dict_keyiterator.__iter__") (by kernel_rfl) (by first | rfl | decide +kernel | (unfold String.splitOn; simp +decide [String.splitOnAux])) (by decide +kernel) (by kernel_rfl)

section
variable {prog : Program} {w : World} {A : Around} {E : Value → Shared → Prop} {s : Shared} {I S D : Addr} {ep : Nat} {oS : Obj} {es : Array (Int × Value)} {t : SetTable}
theorem si_self {first : Value} {i n : Nat} {Q : Value → Shared → Prop} (hit : IsSI s.heap I first i S n ep) (h : Q (.ref I) s) : wpAny (model prog w) A (pyIter (.ref I)) Q E s := by
  refine wpAny_pyIter_slot hit.typeIs slot_si_iter (wpAny_call_entry slot_si_iter hit.typeIs entry_si_iter ?_ (args_si_iter _))
  show wpAny _ _ (ret (.ref I)) _ _ s
  exact wpAny_pure ⟨_, rfl, "set_iterator", _, hit.typeIs, slot_si_next.lookup, h⟩

/-- the values, in the order ord -/
noncomputable def valsBy (es : Array (Int × Value)) (ord : List Nat) : List Value := ord.map fun k => ((es[k]?).map (·.2)).getD .none
theorem valsBy_range (es : Array (Int × Value)) : valsBy es (List.range es.size) = es.toList.map (·.2) := by
  apply List.ext_getElem?
  intro i
  unfold valsBy
  by_cases h : i < es.size
  · simp [h]
  · simp [h]
theorem valsBy_perm {es : Array (Int × Value)} {ord : List Nat} (h : ord.Perm (List.range es.size)) : (valsBy es ord).Perm (es.toList.map (·.2)) := by
  rw [← valsBy_range]; exact h.map _

theorem walk_drawn (hh : A.handled = none) (hSI : S ≠ I) (hDI : D ≠ I) (hd : oS.data = .set es ep t) (hf : t.fits es.size = true) {ord : List Nat} (hord : ord.Perm (List.range es.size)) :
    Walks prog w A I [I, S, D] [I] es.size (fun i v => (valsBy es ord)[i]? = some v) (fun i h => IsSI h I (.ref D) i S es.size ep ∧ h.get? S = some oS ∧ ∃ oD m, h.get? D = some oD ∧ oD.data = .seq (ord.map fun k : Nat => rawInt k).toArray m) where
  sub := fun b hb => by simp at hb; simp [hb]
  frame := fun _ _ _ ⟨a, b, oD, m, c, d⟩ hk => ⟨a.at fun o e => hk I (by simp) o e, hk S (by simp) _ b, oD, m, hk D (by simp) _ c, d⟩
  item := fun i s Q E hi ⟨a, b, oD, m, c, d⟩ hQ => by
    have hl : i < ord.length := by rw [hord.length_eq, List.length_range]; exact hi
    have hm : ord[i] < es.size := List.mem_range.mp (hord.mem_iff.mp (List.getElem_mem hl))
    refine si_item_drawn (p := ord[i]) (e := es[ord[i]]) a b hd hf rfl c d (by simp [hl, rawInt]) (Array.getElem?_eq_getElem hm) fun h' a' sb => ?_
    refine hQ _ h' s.toks ?_ ⟨a', (sb.2 S hSI).trans b, oD, m, (sb.2 D hDI).trans c, d⟩ fun x o hx e => (sb.2 x fun z => hx (by simp [z])).trans e
    unfold valsBy
    simp [hl, hm]
  done := fun s Q E ⟨a, b, oD, m, c, d⟩ hQ => by
    refine si_done_drawn hh a b hd hf rfl c d ?_ fun h' x => hQ h' s.toks fun b o hb e => x b o (fun z => hb (by simp [z])) e
    simp [hord.length_eq]
  self := fun _ _ _ _ ⟨a, _⟩ hQ => si_self a hQ

theorem walk_next (hh : A.handled = none) (hSI : S ≠ I) (hd : oS.data = .set es ep t) (hf : t.fits es.size = true) {vals : List Value} (hv : vals.length = es.size) (Rl : Nat → Nat → Prop)
    (hn : ∀ i slot, Rl i slot → ∃ r, (∀ (s : Shared) (Q : Option (Value × Nat) → Shared → Prop) (E : Value → Shared → Prop), s.heap.get? S = some oS → Q r s → wpAny (model prog w) A.in1 (setNext S slot i ep) Q E s) ∧
      match vals[i]? with
      | some v => ∃ k, r = some (v, k) ∧ Rl (i + 1) k
      | none => r = none) :
    Walks prog w A I [I, S] [I] es.size (fun i v => vals[i]? = some v) (fun i h => (∃ slot, Rl i slot ∧ IsSI h I (.int slot 0) i S es.size ep) ∧ h.get? S = some oS) where
  sub := fun b hb => by simp at hb; simp [hb]
  frame := fun _ _ _ ⟨⟨k, q, a⟩, b⟩ hk => ⟨⟨k, q, a.at fun o e => hk I (by simp) o e⟩, hk S (by simp) _ b⟩
  item := fun i s Q E hi ⟨⟨slot, q, a⟩, b⟩ hQ => by
    obtain ⟨r, h1, h2⟩ := hn i slot q
    have hl : i < vals.length := by rw [hv]; exact hi
    rw [List.getElem?_eq_getElem hl] at h2
    obtain ⟨k, rfl, q'⟩ := h2
    refine si_next hh a b hd hf rfl (fun Q E => h1 s Q E b) (fun v k' h' e a' sb => ?_) fun h' e => nomatch e
    cases e
    exact hQ _ h' s.toks (List.getElem?_eq_getElem hl) ⟨⟨k, q', a'⟩, (sb.2 S hSI).trans b⟩ fun x o hx e => (sb.2 x fun z => hx (by simp [z])).trans e
  done := fun s Q E ⟨⟨slot, q, a⟩, b⟩ hQ => by
    obtain ⟨r, h1, h2⟩ := hn es.size slot q
    rw [List.getElem?_eq_none (by lia  )] at h2
    subst h2
    exact si_next hh a b hd hf rfl (fun Q E => h1 s Q E b) (fun _ _ _ e => nomatch e) fun h' _ x => hQ h' s.toks fun b o hb e => x b o (fun z => hb (by simp [z])) e
  self := fun _ _ _ _ ⟨⟨_, _, a⟩, _⟩ hQ => si_self a hQ

theorem next_text (ho : s.heap.get? S = some oS) (hd : oS.data = .set es ep t) (hf : t.fits es.size = true) (hw : w.params.followText "set-order" = true) {slot i : Nat} {Q : Option (Value × Nat) → Shared → Prop} (h : Q (((pickOrder (w.params.setOrder S ep) es)[i]?).map fun e => (e.2, slot)) s) :
    wpAny (model prog w) A (setNext S slot i ep) Q E s := by
  unfold setNext setWalk setsByText
  refine wpAny_bind (wpAny_setState_of ho hd hf ?_)
  dsimp only
  refine wpAny_bind (wpAny_bind (wpAny_askSetting (wpAny_pure ?_)))
  show wpAny _ _ (if w.params.followText "set-order" = true then _ else _) _ _ _
  rw [if_pos hw, if_neg (by simp)]
  refine wpAny_bind (wpAny_bind (wpAny_setState_of ho hd hf ?_))
  dsimp only
  refine wpAny_bind (wpAny_bind (wpAny_askSetting (wpAny_pure ?_)))
  show wpAny _ _ (if w.params.followText "set-order" = true then _ else _) _ _ _
  rw [if_pos hw]
  refine wpAny_bind (wpAny_askSetting ?_)
  exact wpAny_pure (wpAny_pure h)

theorem one_of {α : Type} {a : Array α} (h : a.size = 1) : ∃ x, a = #[x] := by
  obtain ⟨l⟩ := a
  match l, h with
  | [x], _ => exact ⟨x, rfl⟩
theorem below_0 (j : Nat) : SetTable.below #[] j = 0 := rfl
theorem below_one (p j : Nat) : SetTable.below #[p] j = if p < j then 1 else 0 := by
  show SetTable.below.go #[p] j 1 0 1 = _
  unfold SetTable.below.go
  rw [if_pos (by decide)]
  show (if (#[p] : Array Nat).getD 0 j < j then SetTable.below.go #[p] j 0 (0 + 1) 1 else SetTable.below.go #[p] j 0 0 0) = _
  rfl
theorem next_led (ho : s.heap.get? S = some oS) (hd : oS.data = .set es ep t) (hf : t.fits es.size = true) (hw : w.params.followText "set-order" = false) (hl : t.led = true) (h1 : es.size ≤ 1) {slot i : Nat} {Q : Option (Value × Nat) → Shared → Prop}
    (h : Q (match es[SetTable.below t.place slot]?, t.place[SetTable.below t.place slot]? with | some (_, x), some j => some (x, j + 1) | _, _ => none) s) : wpAny (model prog w) A (setNext S slot i ep) Q E s := by
  unfold setNext setWalk setsByText
  refine wpAny_bind (wpAny_setState_of ho hd hf ?_)
  dsimp only
  refine wpAny_bind (wpAny_bind (wpAny_askSetting (wpAny_pure ?_)))
  show wpAny _ _ (if w.params.followText "set-order" = true then _ else _) _ _ _
  rw [if_neg (by rw [hw]; exact Bool.false_ne_true)]
  show wpAny _ _ (if (!t.plain && decide (es.size > 1)) = true then _ else _) _ _ _
  rw [if_neg (by simp; lia  )]
  refine wpAny_bind ?_
  show wpAny _ _ (if (!t.led && !es.isEmpty) = true then _ else _) _ _ _
  rw [if_neg (by simp [hl])]
  exact wpAny_pure (wpAny_pure h)

theorem strs_all : ∀ {l : List Value}, (∀ v ∈ l, ∃ x u, v = .str x u) → PyProof.Rows.StrsAre l (l.map strV)
  | [], _ => .nil
  | v :: r, h => by
    obtain ⟨x, u, rfl⟩ := h v (List.mem_cons_self ..)
    exact .cons x u (strs_all fun v hv => h v (List.mem_cons_of_mem _ hv))
theorem vals_strs {us : List Str} {vals : List Value} (hel : ElemsOf (strKind prog w) es.toList) (hp : (es.toList.map strE).Perm us) (hv : vals.Perm (es.toList.map (·.2))) : PyProof.Rows.StrsAre vals (vals.map strV) ∧ (vals.map strV).Perm us := by
  refine ⟨strs_all fun v q => ?_, (hv.map strV).trans (by rw [List.map_map]; exact hp)⟩
  obtain ⟨e, he, rfl⟩ := List.mem_map.mp (hv.mem_iff.mp q)
  obtain ⟨⟨k, hk, _⟩, _⟩ := hel e he
  obtain ⟨u, hu⟩ := Value.isStrOf_shape hk
  exact ⟨k, u, hu⟩
theorem get_over {h : Heap} {a : Addr} (q : h.objs.size ≤ a) : h.get? a = none := by
  cases e : h.get? a with
  | none => rfl
  | some o => exact absurd (Heap.lt_size e) (Nat.not_lt.mpr q)
/-- what a set's iterator gives -/
theorem set_iter {us : List Str} {Q : Value → Shared → Prop} (hh : A.handled = none) (X : SetX prog w s.heap S us)
    (h : ∀ (I : Addr) (n : Nat) (h' : Heap) (d : Drawn) (vals : List Value) (fp : List Addr) (St : Nat → Heap → Prop), vals.length = n → Walks prog w A I fp [I] n (fun i v => vals[i]? = some v) St → St 0 h' → (∀ b ∈ fp, b = S ∨ s.heap.get? b = none) → (∀ b o, s.heap.get? b = some o → h'.get? b = some o) → s.heap.get? I = none →
      PyProof.Rows.StrsAre vals (vals.map strV) → (vals.map strV).Perm us → Q (.ref I) { s with heap := h', drawn := d }) : wpAny (model prog w) A (pyIter (.ref S)) Q E s := by
  obtain ⟨o, es, ep, t, ho, hex, hd, hel, hb, hf, hled, hpl, hp⟩ := X
  have hT : s.TypeIs (.ref S) "set" := ⟨o, ho, hex.1⟩
  refine wpAny_pyIter_slot hT F.slot_set_iter (wpAny_call_entry F.slot_set_iter hT entry_set_iter ?_ (F.args_set_iter_1 _))
  unfold Builtin.«frozenset.__iter__» Builtin.Frozenset.slot0 Builtin.Frozenset.sizeOf setDrawn
  refine wpAny_bind (wpAny_bind (wpAny_of_eq (a := (Value.ref S, [])) rfl (wpAny_of_eq (a := S) rfl ?_)))
  refine wpAny_bind (wpAny_bind (wpAny_setEntries_of ho hd hf (wpAny_pure ?_)))
  refine wpAny_bind (wpAny_bind (wpAny_setState_of ho hd hf ?_))
  dsimp only
  unfold setsByText
  refine wpAny_bind (wpAny_bind (wpAny_askSetting (wpAny_pure (wpAny_pure ?_))))
  show wpAny _ _ (if (!w.params.followText "set-order" && (!t.plain && decide (es.size > 1))) = true then _ else _) _ _ _
  have hSI : S < s.heap.objs.size := Heap.lt_size ho
  by_cases hq : (!w.params.followText "set-order" && (!t.plain && decide (es.size > 1))) = true
  · rw [if_pos hq]
    refine wpAny_bind (draw_perm es.size _ s (by simp) fun l d hl => ?_)
    refine wpAny_bind (wpAny_newTuple ?_ (by rw [List.length_map, hl.length_eq, List.length_range]; exact fits_of_scanBound hb))
    dsimp only
    have ho1 := Heap.get?_push_of_some { cls := .type "tuple", data := .seq (l.map fun k : Nat => rawInt k).toArray } ho
    refine wpAny_bind (wpAny_setEpoch_of ho1 hd hf ?_)
    refine wpAny_bind (wpAny_newObj_type (wpAny_pure ⟨_, rfl, "set_iterator", _, ⟨_, Heap.get?_push_size _ rfl, rfl⟩, slot_si_next.lookup, ?_⟩))
    obtain ⟨v1, v2⟩ := vals_strs hel hp (valsBy_perm hl)
    have hlen : (valsBy es l).length = es.size := by unfold valsBy; rw [List.length_map, hl.length_eq, List.length_range]
    have hz : (s.heap.push { cls := .type "tuple", data := .seq (l.map fun k : Nat => rawInt k).toArray }).objs.size = s.heap.objs.size + 1 := Heap.size_push ..
    have hD : (s.heap.push { cls := .type "tuple", data := .seq (l.map fun k : Nat => rawInt k).toArray }).get? s.heap.objs.size = some { cls := .type "tuple", data := .seq (l.map fun k : Nat => rawInt k).toArray } := Heap.get?_push_size _ rfl
    have hkeep : ∀ b o, s.heap.get? b = some o → (s.heap.push { cls := .type "tuple", data := .seq (l.map fun k : Nat => rawInt k).toArray }).get? b = some o := fun b o e => Heap.get?_push_of_some _ e
    generalize s.heap.push { cls := .type "tuple", data := .seq (l.map fun k : Nat => rawInt k).toArray } = H at hz hD hkeep ho1 ⊢
    have W := walk_drawn (prog := prog) (w := w) (A := A) (I := H.objs.size) (S := S) (D := s.heap.objs.size) hh (Nat.ne_of_lt (by rw [hz]; exact Nat.lt_succ_of_lt hSI)) (Nat.ne_of_lt (by rw [hz]; exact Nat.lt_succ_self _)) hd hf hl
    refine h _ _ _ d (valsBy es l) _ _ hlen W ⟨⟨_, Heap.get?_push_size _ rfl, rfl, rfl⟩, Heap.get?_push_of_some _ ho1, _, _, Heap.get?_push_of_some _ hD, rfl⟩ (fun b hb => ?_) (fun b o e => Heap.get?_push_of_some _ (hkeep b o e)) ?_ v1 v2
    · simp only [List.mem_cons, List.not_mem_nil, or_false] at hb
      rcases hb with rfl | rfl | rfl
      · exact .inr (get_over (by rw [hz]; exact Nat.le_succ _))
      · exact .inl rfl
      · exact .inr (get_over (Nat.le_refl _))
    · exact get_over (by rw [hz]; exact Nat.le_succ _)
  · rw [if_neg hq]
    refine wpAny_bind (wpAny_pure ?_)
    refine wpAny_bind (wpAny_setEpoch_of ho hd hf ?_)
    refine wpAny_bind (wpAny_newObj_type (wpAny_pure ⟨_, rfl, "set_iterator", _, ⟨_, Heap.get?_push_size _ rfl, rfl⟩, slot_si_next.lookup, ?_⟩))
    have fin : ∀ (vals : List Value) (Rl : Nat → Nat → Prop), vals.Perm (es.toList.map (·.2)) → Rl 0 0 →
        (∀ i slot, Rl i slot → ∃ r, (∀ (s : Shared) (Q : Option (Value × Nat) → Shared → Prop) (E : Value → Shared → Prop), s.heap.get? S = some o → Q r s → wpAny (model prog w) A.in1 (setNext S slot i ep) Q E s) ∧
          match vals[i]? with
          | some v => ∃ k, r = some (v, k) ∧ Rl (i + 1) k
          | none => r = none) → Q (.ref s.heap.objs.size) { s with heap := s.heap.push { cls := .type "set_iterator", data := .fields #[rawInt 0, rawInt 0, .ref S, rawInt es.size, rawInt ep] } } := fun vals Rl hv r0 hn => by
      have hlen : vals.length = es.size := by rw [hv.length_eq, List.length_map, Array.length_toList]
      have W := walk_next (prog := prog) (w := w) (A := A) (I := s.heap.objs.size) (S := S) hh (Nat.ne_of_lt hSI) hd hf hlen Rl hn
      obtain ⟨v1, v2⟩ := vals_strs hel hp hv
      refine h _ _ _ s.drawn vals _ _ hlen W ⟨⟨0, r0, _, Heap.get?_push_size _ rfl, rfl, rfl⟩, Heap.get?_push_of_some _ ho⟩ (fun b hb => ?_) (fun b o e => Heap.get?_push_of_some _ e) ?_ v1 v2
      · simp only [List.mem_cons, List.not_mem_nil, or_false] at hb
        rcases hb with rfl | rfl
        · exact .inr (get_over (Nat.le_refl _))
        · exact .inl rfl
      · exact get_over (Nat.le_refl _)
    cases hw : w.params.followText "set-order" with
    | true =>
      refine fin ((pickOrder (w.params.setOrder S ep) es).toList.map (·.2)) (fun _ _ => True) ((pick_perm _ es).map _) trivial fun i slot _ => ⟨_, fun s' Q E ho' q => next_text ho' hd hf hw q, ?_⟩
      rw [List.getElem?_map, Array.getElem?_toList]
      cases (pickOrder (w.params.setOrder S ep) es)[i]? with
      | none => rfl
      | some e => exact ⟨slot, rfl, trivial⟩
    | false =>
      rw [hw] at hled
      have h1 : es.size ≤ 1 := by
        rcases Nat.lt_or_ge 1 es.size with z | z
        · exfalso
          refine hq ?_
          rw [hw, hpl (by omega), decide_eq_true z]; rfl
        · exact z
      have hps : t.place.size = es.size := by
        unfold SetTable.fits at hf
        rw [Bool.and_eq_true, beq_iff_eq] at hf
        exact hf.1
      have nx : ∀ i slot (s' : Shared) (Q : Option (Value × Nat) → Shared → Prop) (E : Value → Shared → Prop), s'.heap.get? S = some o → Q (match es[SetTable.below t.place slot]?, t.place[SetTable.below t.place slot]? with | some (_, x), some j => some (x, j + 1) | _, _ => none) s' → wpAny (model prog w) A.in1 (setNext S slot i ep) Q E s' :=
        fun i slot s' Q E ho' q => next_led ho' hd hf hw hled h1 q
      by_cases h0 : es.size = 0
      · have e0 : es = #[] := Array.eq_empty_of_size_eq_zero h0
        refine fin [] (fun i _ => i = 0) (by rw [e0]; exact .refl _) rfl fun i slot _ => ⟨none, fun s' Q E ho' q => nx i slot s' Q E ho' ?_, rfl⟩
        rw [e0]
        exact q
      · have hz : es.size = 1 := by lia  
        obtain ⟨p, hp1⟩ := one_of (hps.trans hz)
        obtain ⟨e, he⟩ := one_of hz
        refine fin [e.2] (fun i slot => (i = 0 ∧ slot = 0) ∨ (i = 1 ∧ slot = p + 1)) (by rw [he]; exact .refl _) (.inl ⟨rfl, rfl⟩) fun i slot z => ⟨_, fun s' Q E ho' q => nx i slot s' Q E ho' q, ?_⟩
        rw [hp1, he, below_one]
        rcases z with ⟨rfl, rfl⟩ | ⟨rfl, rfl⟩
        · rw [if_neg (Nat.not_lt_zero _)]
          exact ⟨p + 1, rfl, .inr ⟨rfl, rfl⟩⟩
        · rw [if_pos (Nat.lt_succ_self _)]
          rfl
end
end Mine

/-! Soundness: the items of a set of texts, a set of a list's texts (typed by hand). -/
set_option Elab.async false
set_option maxRecDepth 100000
namespace Mine
open PySem PySem.Spec
section
variable {prog : Program} {w : World} {A : Around} {E : Value → Shared → Prop} {s : Shared} {S : Addr}
theorem set_hint {Q : Bool → Shared → Prop} (hT : s.TypeIs (.ref S) "set") (h : Q false s) : wpAny (model prog w) A (Builtin.List.listLengthHint (.ref S)) Q E s := by
  unfold Builtin.List.listLengthHint
  refine wpAny_bind (wpAny_specialOf hT F.slot_set_len.lookup ?_)
  generalize hid : ("set.__len__" : String) = id0
  wp_delta
  rw [show splitId id0 = some ("set", "__len__") from by subst hid; decide +kernel]
  subst hid
  refine wpAny_bind (wpAny_isInstance (T := "set") (b := true) hT (by rw [isSubtype_type]; kernel_rfl) ?_)
  refine wpAny_ite_split (fun hab => absurd hab (by decide)) (fun _ => ?_)
  refine wpAny_ite_split (fun _ => ?_) (fun hab => absurd (by decide +kernel) hab)
  refine wpAny_bind (wpAny_typeOf hT ?_)
  exact wpAny_pure h

theorem set_collect {us : List Str} {Q : List Value → Shared → Prop} (hh : A.handled = none) (X : SetX prog w s.heap S us) (hu : us.length ≤ sizeLine)
    (h : ∀ h' d tk vals, (∀ b o, s.heap.get? b = some o → h'.get? b = some o) → PyProof.Rows.StrsAre vals (vals.map strV) → (vals.map strV).Perm us → Q vals { s with heap := h', drawn := d, toks := tk }) :
    wpAny (model prog w) A (collect (.ref S)) Q E s := by
  have hS : ∃ o, s.heap.get? S = some o ∧ o.cls = .type "set" := by
    obtain ⟨o, es, ep, t, ho, hex, _⟩ := X
    exact ⟨o, ho, hex.1⟩
  obtain ⟨oS, hoS, hcS⟩ := hS
  have hSlt := Heap.lt_size hoS
  unfold collect
  refine wpAny_bind (wpAny_runValue (codeAny_builtin F.entry_proto_collect ?_))
  rw [Around.under_plainId F.plain_proto_collect _]
  show wpAny _ A.in1 (PySem.newList [] >>= fun l => again (.builtin "list.__iadd__" ⟨[l, .ref S], []⟩)) _ _ s
  refine wpAny_bind (wpAny_newObj_type ?_)
  refine wpAny_pure ⟨plainId_quiet F.plain_list_iadd _, codeAny_builtin F.entry_list_iadd ?_⟩
  rw [Around.under_plainId F.plain_list_iadd _]
  show wpAny _ A.in1 (Builtin.List.listExtendWith (.ref s.heap.objs.size) (.ref S) (.ref s.heap.objs.size)) _ _ _
  have hL : (s.heap.push { cls := .type "list", data := .seq ([] : List Value).toArray }).get? s.heap.objs.size = some { cls := .type "list", data := .seq ([] : List Value).toArray } := Heap.get?_push_size _ rfl
  have hk1 : ∀ b o, s.heap.get? b = some o → (s.heap.push { cls := .type "list", data := .seq ([] : List Value).toArray }).get? b = some o := fun b o e => Heap.get?_push_of_some _ e
  generalize s.heap.push { cls := .type "list", data := .seq ([] : List Value).toArray } = H at hL hk1 ⊢
  generalize hLa : s.heap.objs.size = L at hL hSlt ⊢
  unfold Builtin.List.listExtendWith
  refine wpAny_bind (wpAny_typeOf (T := "set") ⟨oS, hk1 _ _ hoS, hcS⟩ ?_)
  have h1 : Builtin.List.listSameRef (.ref L) (.ref S) = false := by simp [Builtin.List.listSameRef, Nat.ne_of_gt hSlt]
  have h2 : (Value.type "set" == Value.type "list") = false := by decide
  have h3 : (Value.type "set" == Value.type "tuple") = false := by decide
  simp only [h1, h2, h3, Bool.or_false, Bool.false_eq_true, if_false]
  refine wpAny_bind (set_iter (A := A.in1) (s := { s with heap := H }) (by simpa using hh) (X.at fun o e => hk1 S o e) fun I n h' d vals fp St hn W st hfp hk hI v1 v2 => ?_)
  have hnl : n ≤ sizeLine := by rw [← hn]; have := v2.length_eq; rw [List.length_map] at this; rw [this]; exact hu
  refine wpAny_bind (wpAny_holding (set_hint ⟨oS, hk _ _ (hk1 _ _ hoS), hcS⟩ ?_))
  have hLf : L ∉ fp := fun hm => by
    rcases hfp L hm with z | z
    · exact Nat.ne_of_gt hSlt z
    · have z : H.get? L = none := z
      rw [hL] at z; cases z
  have hLI : L ≠ I := fun z => by
    have hI : H.get? I = none := hI
    rw [← z, hL] at hI; cases hI
  have hL1 : h'.get? L = some { cls := .type "list", data := .seq ([] : List Value).toArray } := hk _ _ hL
  rw [if_pos (by decide +kernel)]
  refine wpAny_bind (wpAny_rule ?_)
  refine wpAny_bind ?_
  show wpAny _ A.in1 (updateSeq L (·.push .none) >>= fun _ => updateSeq L (·.pop)) _ _ _
  refine wpAny_bind (wpAny_updateSeq hL1 rfl ?_)
  have hL2 := Heap.get?_update_self (Obj.mapSeq (·.push Value.none)) hL1 rfl
  refine wpAny_updateSeq hL2 rfl ?_
  have hL3 := Heap.get?_update_self (Obj.mapSeq (·.pop)) hL2 rfl
  have oth : ∀ b o, b ≠ L → h'.get? b = some o → ((h'.update L (Obj.mapSeq (·.push Value.none))).update L (Obj.mapSeq (·.pop))).get? b = some o :=
    fun b o hb e => (Heap.get?_update_other _ _ (Ne.symm hb)).trans ((Heap.get?_update_other _ _ (Ne.symm hb)).trans e)
  have st1 := W.frame 0 _ ((h'.update L (Obj.mapSeq (·.push Value.none))).update L (Obj.mapSeq (·.pop))) st fun b hb o e => oth b o (fun z => hLf (z ▸ hb)) e
  generalize (h'.update L (Obj.mapSeq (·.push Value.none))).update L (Obj.mapSeq (·.pop)) = H3 at hL3 oth st1 ⊢
  refine wpAny_pure ⟨plainId_quiet F.plain_extend_loop _, codeAny_extend_loopS W.toS hnl L hLf (.ref L) n 0 _ #[] _ rfl (Nat.zero_le _) st1 hL3 (ItemsOf.nil _) fun s' acc' c' hm hL' hacc => ?_⟩
  show wpAny _ A (load L >>= _) _ _ s'
  refine wpAny_bind (wpAny_load hL' ?_)
  obtain ⟨h2, g2, d2, tk2, os2⟩ := s'
  have eg : g2 = s.gens := hm.gens
  have ed : d2 = d := hm.drawn
  have eo : os2 = s.os := hm.os
  subst eg; subst ed; subst eo
  have ev : acc'.toList = vals := by
    apply List.ext_getElem?
    intro j
    rw [Array.getElem?_toList]
    cases z : acc'[j]? with
    | some v => exact (hacc.2 j v z).symm
    | none =>
      have := Array.getElem?_eq_none_iff.mp z
      rw [List.getElem?_eq_none (by rw [hn, ← hacc.1]; exact this)]
  refine wpAny_pure ?_
  rw [ev]
  refine h h2 d2 tk2 vals (fun b o e => hm.heap b o (fun z => ?_) (oth b o ?_ (hk b o (hk1 b o e)))) v1 v2
  · rcases List.mem_cons.mp z with z | z
    · exact Nat.ne_of_lt (hLa ▸ Heap.lt_size e) z
    · have hI : H.get? I = none := hI
      rw [← List.mem_singleton.mp z, hk1 b o e] at hI; cases hI
  · exact Nat.ne_of_lt (hLa ▸ Heap.lt_size e)
end
end Mine

/-! Soundness: a set of a list's texts (typed by hand). -/
set_option Elab.async false
set_option maxRecDepth 100000
namespace Mine
open PySem PySem.Spec
section
variable {prog : Program} {w : World} {A : Around} {R : Result → Shared → Prop} {I : Addr} {fp wr : List Addr} {G : Array GenState → Array GenState → Prop} {n : Nat} {P : Nat → Value → Prop} {St : Nat → Shared → Prop}
theorem set_filled (W : WalksS prog w A.in1 I fp wr G n P St) (S : Addr) (hSf : S ∉ fp) (val : Nat → Str) (hval : ∀ i v, P i v → ∃ t, v = .str (val i) t) (us : Nat → List Str) (hus : ∀ i, i < n → us (i + 1) = addS (us i) (val i)) (hul : ∀ i, (us i).length ≤ i) (hb : n + 1 < scanBound) :
    ∀ (k i : Nat) (s : Shared), n - i = k → i ≤ n → St i s → SetX prog w s.heap S (us i) → (∀ s', Moved (S :: wr) G s s' → SetX prog w s'.heap S (us n) → R (.ok (.ret .none)) s') →
      codeAny (model prog w) A (.builtin "set.update.loop" ⟨[.ref S, .ref I], []⟩) R s := by
  have hSw : S ∉ wr := fun h => hSf (W.sub _ h)
  have hsub : ∀ b ∈ wr, b ∈ S :: wr := fun b hb => List.mem_cons_of_mem _ hb
  intro k
  induction k with
  | zero =>
    intro i s hk hi hst X hR
    have hin : i = n := by lia  
    subst hin
    refine codeAny_builtin PyProof.Rows.F.entry_set_update_loop ?_
    rw [Around.under_plainId PyProof.Rows.F.plain_set_update_loop _]
    show wpAny _ A.in1 (pyNext (.ref I) >>= _) _ _ s
    refine wpAny_bind (W.done s _ _ hst fun s' hm => ?_)
    exact wpAny_pure (hR s' (hm.mono hsub) (X.at fun o e => hm.heap S o hSw e))
  | succ k ih =>
    intro i s hk hi hst X hR
    have hlt : i < n := by lia  
    refine codeAny_builtin PyProof.Rows.F.entry_set_update_loop ?_
    rw [Around.under_plainId PyProof.Rows.F.plain_set_update_loop _]
    show wpAny _ A.in1 (pyNext (.ref I) >>= _) _ _ s
    refine wpAny_bind (W.item i s _ _ hlt hst fun v s' hP hst' hm => ?_)
    obtain ⟨tk, rfl⟩ := hval i v hP
    have X' := X.at (h' := s'.heap) fun o e => hm.heap S o hSw e
    show wpAny _ A.in1 (holding [Value.str (val i) tk] (setAdd S (.str (val i) tk)) >>= _) _ _ s'
    refine wpAny_bind (wpAny_holding ?_)
    unfold setAdd
    refine wpAny_holding ?_
    refine wpAny_bind ((strKind prog w).pyHash (k := val i) (strKind_is _ _ _ _) ?_)
    refine set_add (s := { s' with toks := s'.toks + 1 }) X' (by have := hul i; lia  ) fun b h' hsb X2 => ?_
    rw [← hus i hlt] at X2
    refine wpAny_pure ⟨plainId_quiet PyProof.Rows.F.plain_set_update_loop _, ih (i + 1) _ (by lia  ) hlt (W.frame _ s' _ _ hst' (Nat.le_succ _) fun b hb o e => ?_) X2 fun s'' hm'' X3 => ?_⟩
    · rw [hsb.2 b (fun h : b = S => hSf (by rw [← h]; exact hb))]; exact e
    · refine hR s'' (Moved.trans W.gtrans ((hm.mono hsub).then_heap (Nat.le_succ _) fun b o hb e => ?_) hm'') X3
      rw [hsb.2 b (fun h : b = S => hb (by rw [h]; exact List.mem_cons_self))]; exact e
end
noncomputable def onceS (ss : List Str) : List Str := ss.foldl addS []
theorem addS_len (us : List Str) (x : Str) : (addS us x).length ≤ us.length + 1 := by
  unfold addS
  split
  · lia  
  · rw [List.length_append]; exact Nat.le_refl _
theorem foldS_len : ∀ (ss us : List Str), (ss.foldl addS us).length ≤ us.length + ss.length
  | [], us => Nat.le_refl _
  | x :: r, us => by
    have := foldS_len r (addS us x)
    have := addS_len us x
    rw [List.foldl_cons, List.length_cons]; lia  
section
variable {prog : Program} {w : World} {A : Around} {E : Value → Shared → Prop} {s : Shared}
theorem strs_len : ∀ {vs : List Value} {ss : List Str}, PyProof.Rows.StrsAre vs ss → vs.length = ss.length
  | _, _, .nil => rfl
  | _, _, .cons x t r => congrArg Nat.succ (strs_len r)
theorem strs_at : ∀ {vs : List Value} {ss : List Str}, PyProof.Rows.StrsAre vs ss → ∀ (i : Nat) (v : Value), vs[i]? = some v → ∃ t, v = .str ((ss[i]?).getD "") t
  | _, _, .nil, i, v, h => by simp at h
  | _, _, .cons x t r, 0, v, h => by simp at h; exact ⟨t, by rw [← h]; rfl⟩
  | _, _, .cons x t r, i + 1, v, h => by
    simp only [List.getElem?_cons_succ] at h ⊢
    exact strs_at r i v h
theorem set_new (a : Value) {Q₁ : Value → Shared → Prop}
    (h : Q₁ (.ref s.heap.objs.size) { s with heap := s.heap.push { cls := .type "set", dict := none, data := .set #[] 0 (.fresh 0 0 (!w.params.followText "set-order")) } }) :
    codeAny (model prog w) A (.call (.builtin "set.__new__") ⟨[.type "set", a], []⟩) (wants Q₁ E) s := by
  refine codeAny_of_tree ?_
  show wpAny _ A.in1 (do checkBuiltinCall "set.__new__" ⟨[.type "set", a], []⟩; again (.builtin "set.__new__" ⟨[.type "set", a], []⟩)) _ _ s
  refine wpAny_bind (wpAny_of_eq (F.newCall_set_1 a) (wpAny_pure ⟨plainId_quiet F.plain_set_new _, codeAny_builtin F.entry_set_new ?_⟩))
  rw [Around.under_plainId F.plain_set_new _]
  unfold Builtin.«set.__new__» Builtin.Frozenset.newClass
  have hsub := sub_set_self
  obtain ⟨hp, g, d, tk, os⟩ := s
  dsimp only
  wp_walk
  refine wpAny_askSetting (wpAny_pure ?_)
  dsimp only
  simp only [newObj]
  refine wpAny_bind (wpAny_alloc (wpAny_pure ?_))
  exact wpAny_pure h

set_option maxHeartbeats 3200000 in
theorem set_of_list {l : Addr} {items : Array Value} {ss : List Str} {Q : Value → Shared → Prop} (hh : A.handled = none) (hl : s.heap.IsList l items) (hi : PyProof.Rows.StrsAre items.toList ss) (hb : items.size + 1 < scanBound)
    (h : ∀ (h' : Heap) (tk : Nat), SetX prog w h' s.heap.objs.size (onceS ss) → (∀ b o, b < s.heap.objs.size → s.heap.get? b = some o → h'.get? b = some o) → Q (.ref s.heap.objs.size) { s with heap := h', toks := tk }) :
    wpAny (model prog w) A (call (.type "set") [.ref l]) Q E s := by
  obtain ⟨c, tl, hmro⟩ := F.called_set.mro
  have hmade := F.called_set.made
  have hsub := F.called_set.sub
  refine wpAny_call (codeAny_of_tree ?_)
  show wpAny _ _ (callAny (.type "set") _) _ _ _
  refine wpAny_pure ⟨Code.quiet_builtin _ (by decide +kernel), codeAny_builtin F.entry_type_call ?_⟩
  rw [Around.under_plain (weight_type_call_type "set" [.ref l] []) rfl]
  have h1 := F.called_set.notType
  have h2 := F.called_set.canCreate
  have hct := F.typeCall_set_1 (.ref l)
  repeat (any_goals (first | assumption | wp_step))
  have hS : (s.heap.push { cls := .type "set", dict := none, data := .set #[] 0 (.fresh 0 0 (!w.params.followText "set-order")) }).get? s.heap.objs.size = some { cls := .type "set", dict := none, data := .set #[] 0 (.fresh 0 0 (!w.params.followText "set-order")) } := Heap.get?_push_size _ rfl
  have hz : (s.heap.push { cls := .type "set", dict := none, data := .set #[] 0 (.fresh 0 0 (!w.params.followText "set-order")) }).objs.size = s.heap.objs.size + 1 := Heap.size_push ..
  have hkp : ∀ b o, s.heap.get? b = some o → (s.heap.push { cls := .type "set", dict := none, data := .set #[] 0 (.fresh 0 0 (!w.params.followText "set-order")) }).get? b = some o := fun b o e => Heap.get?_push_of_some _ e
  refine codeAny_mono (set_new (.ref l) (E := E) (Q₁ := fun obj s₁ => obj = .ref s.heap.objs.size ∧ s₁ = { s with heap := s.heap.push { cls := .type "set", dict := none, data := .set #[] 0 (.fresh 0 0 (!w.params.followText "set-order")) } }) ⟨rfl, rfl⟩) fun r s₁ hr => ?_
  generalize s.heap.push { cls := .type "set", dict := none, data := .set #[] 0 (.fresh 0 0 (!w.params.followText "set-order")) } = H at hS hz hkp hr
  cases r with
  | error e => exact hr
  | ok fl =>
    cases fl with
    | ret obj =>
      obtain ⟨rfl, rfl⟩ := hr
      have hT : Shared.TypeIs { s with heap := H } (.ref s.heap.objs.size) "set" := ⟨_, hS, rfl⟩
      have hli := F.called_set.init.lookup
      have hbi := F.called_set.init.bind (.ref s.heap.objs.size)
      repeat (any_goals (first | assumption | wp_step))
      refine codeAny_mono (codeAny_call_builtin (R := wants (fun r s₂ => r = .none ∧ ∃ h' tk, s₂ = { s with heap := h', toks := tk } ∧ SetX prog w h' s.heap.objs.size (onceS ss) ∧
          (∀ b o, b < s.heap.objs.size → s.heap.get? b = some o → h'.get? b = some o)) E) F.called_set.init.plain F.entry_set_init (check_set_init_1 hT ?_)) fun r₂ s₂ hr₂ => ?_
      · obtain ⟨ol, hol, hcl, nl, hdl⟩ := hl
        obtain ⟨ocls, odict, odata, oslots⟩ := ol
        simp only at hcl hdl
        subst hcl; subst hdl
        have hol' := hkp l _ hol
        have hsls := F.sub_list_set
        have hslf := F.sub_list_frozenset
        have hne : (Value.type "list" == Value.type "dict") = false := by decide
        have hl1 : H.IsList l items := ⟨_, hol', rfl, nl, rfl⟩
        unfold Builtin.«set.__init__» noKeywords Builtin.Frozenset.updateFrom
        generalize hPI : pyIter = PI
        wp_walk
        subst hPI
        refine wpAny_pyIter_list hl1 ?_
        refine wpAny_bind (wpAny_runValue ?_)
        have hlS : l < s.heap.objs.size := Heap.lt_size hol
        have hh3 : A.in1.in1.in1.handled = none := by simp [hh]
        have hneI : l ≠ H.objs.size := by rw [hz]; exact Nat.ne_of_lt (Nat.lt_succ_of_lt hlS)
        have hSf : s.heap.objs.size ∉ [H.objs.size, l] := by
          rw [hz]; simp only [List.mem_cons, List.not_mem_nil, or_false, not_or]
          exact ⟨Nat.ne_of_lt (Nat.lt_succ_self _), Nat.ne_of_gt hlS⟩
        have hlen : ss.length = items.size := by rw [← strs_len hi, Array.length_toList]
        refine set_filled ((Walks.list hh3 H.objs.size l hneI items).toS) s.heap.objs.size hSf (fun i => (ss[i]?).getD "") (fun i v hv => strs_at hi i v (by rw [Array.getElem?_toList]; exact hv)) (fun i => (ss.take i).foldl addS [])
          (fun i hi => by rw [List.take_add_one, List.getElem?_eq_getElem (by rw [hlen]; exact hi), List.foldl_append]; rfl) (fun i => by have := foldS_len (ss.take i) []; rw [List.length_take, List.length_nil] at this; lia  ) hb (items.size - 0) 0 _ (by lia  ) (Nat.zero_le _)
          ⟨⟨_, Heap.get?_push_size _ rfl, rfl, rfl⟩, (hl1.push _)⟩ ?hS0 ?hR
        case hS0 => exact ⟨_, #[], 0, _, Heap.get?_push_of_some _ hS, ⟨rfl, rfl, rfl⟩, rfl, fun e he => by simp at he, by decide, by rfl, rfl, fun q => absurd rfl q, .refl _⟩
        case hR =>
          intro s' hm X
          obtain ⟨h', g', d', tk', os'⟩ := s'
          have eg : g' = s.gens := hm.gens
          have ed : d' = s.drawn := hm.drawn
          have eo : os' = s.os := hm.os
          subst eg; subst ed; subst eo
          rw [← hlen, List.take_length] at X
          show wpAny _ _ _ _ _ _
          refine wpAny_pure ?_
          show wpAny _ _ (ret Value.none) _ _ _
          refine wpAny_pure ⟨rfl, h', tk', rfl, X, fun b o hb e => ?_⟩
          refine hm.heap b o ?_ (Heap.get?_push_of_some _ (hkp b o e))
          rw [hz]
          simp only [List.mem_cons, List.not_mem_nil, or_false, not_or]
          exact ⟨Nat.ne_of_lt hb, Nat.ne_of_lt (Nat.lt_succ_of_lt hb)⟩
      · cases r₂ with
        | error e => exact hr₂
        | ok fl₂ =>
          cases fl₂ with
          | ret r =>
            obtain ⟨rfl, h', tk, rfl, hS', hk'⟩ := hr₂
            repeat (any_goals (first | assumption | wp_step))
            exact h _ _ hS' hk'
          | _ => exact hr₂.elim
    | _ => exact hr.elim
end
end Mine

/-! Soundness: sorted(set(texts)) (typed by hand). -/
set_option Elab.async false
namespace Mine
open PySem PySem.SeqAt PySem.Spec PySem.W PySem.Calls

theorem tS_mem {x : List Nat} {l : List (List Nat)} : tS x ∈ l.map tS ↔ x ∈ l := by
  rw [List.mem_map]
  exact ⟨fun ⟨y, hy, e⟩ => tS_inj e ▸ hy, fun h => ⟨x, h, rfl⟩⟩
theorem addS_map (us : List (List Nat)) (x : List Nat) : addS (us.map tS) (tS x) = (addU us x).map tS := by
  unfold addS addU
  by_cases q : x ∈ us
  · rw [if_pos (List.contains_iff_mem.mpr (tS_mem.mpr q)), if_pos (List.contains_iff_mem.mpr q)]
  · rw [if_neg fun z => q (tS_mem.mp (List.contains_iff_mem.mp z)), if_neg fun z => q (List.contains_iff_mem.mp z), List.map_append]; rfl
theorem foldS_map : ∀ (ts us : List (List Nat)), (ts.map tS).foldl addS (us.map tS) = (ts.foldl addU us).map tS
  | [], _ => rfl
  | x :: r, us => by rw [List.map_cons, List.foldl_cons, List.foldl_cons, addS_map, foldS_map r]
theorem onceS_map (ts : List (List Nat)) : onceS (ts.map tS) = (onceT ts).map tS := foldS_map ts []
theorem fold_mem {x : List Nat} : ∀ {ts us : List (List Nat)}, x ∈ ts.foldl addU us → x ∈ us ∨ x ∈ ts
  | [], us, h => .inl h
  | y :: r, us, h => by
    rcases fold_mem (ts := r) h with z | z
    · unfold addU at z
      split at z
      · exact .inl z
      · rcases List.mem_append.mp z with z | z
        · exact .inl z
        · exact .inr (by rw [List.mem_singleton.mp z]; exact List.mem_cons_self ..)
    · exact .inr (List.mem_cons_of_mem _ z)
theorem once_mem {x : List Nat} {ts : List (List Nat)} (h : x ∈ onceT ts) : x ∈ ts := (fold_mem h).elim (fun z => nomatch z) id

section
variable {T : Tp} {A : Around} {W : Wd}
/-- a new list, where draws were made -/
theorem Does.newAtD {t : Sem Value} {xs : List AV} (I : Inv T W) (hl : xs.length ≤ lim)
    (h : ∀ Q E, (∀ D h' d k arr c, W.h.get? D = none → cStatics < D → (∀ c o, W.h.get? c = some o → h'.get? c = some o) → h'.get? D = some { cls := .type "list", data := .seq arr c } → VRs T W.own W.bt h' xs arr.toList → Q (.ref D) { W.s with heap := h', drawn := d, toks := k }) → wpAny T.M A t Q E W.s) :
    Does T A noX W t (newList xs W.σ) (VW T) := by
  unfold newList
  rw [if_pos hl]
  refine h _ _ fun D h' d k arr c hD hi hk ho r => ?_
  obtain ⟨I1, l1⟩ := I.grow (s' := { W.s with heap := h', drawn := d, toks := k }) hk rfl rfl
  have fx : FrX (fun b => b = D ∨ b = D) W.own h' := fun a q => ⟨by have q : a = D := q.elim id id; rw [q]; exact own_new I hD, fun o e => by
    have q : a = D := q.elim id id
    subst q
    rw [ho] at e; cases e
    exact .inr (.inr ⟨by simp, by simp⟩)⟩
  obtain ⟨I2, l2, v2⟩ := I1.take (o := .list xs) (own_new I hD) (own_new I hD) (base_new I hD) (base_new I hD) ⟨_, ho⟩ ⟨_, ho⟩ hi fx fun x => .list arr c ho (r.ext x fx) hl
  refine ⟨.ref W.σ.length, _, rfl, rfl, I2, l1.lose l2 (fun b o e _ q => ?_), v2⟩
  have q : b = D := q.elim id id
  rw [q, hD] at e; cases e

theorem sorted_set (I : Inv T W) (hh : A.handled = none) {S : Addr} {us : List (List Nat)} (X : SetX T.prog T.w W.s.heap S (us.map tS)) (ok : ∀ t ∈ us, okS t) (h64 : us.length < 64) :
    Does T A noX W (call (.builtin "sorted") [.ref S]) (newList ((sortT us).map .str) W.σ) (VW T) := by
  have hlim : us.length ≤ lim := Nat.le_trans (Nat.le_of_lt h64) (by decide)
  refine Does.newAtD I (by rw [List.length_map, (sortT_perm us).length_eq]; exact hlim) fun Q E q => ?_
  refine call_function_entry PyProof.Rows.kind_sorted PyProof.Rows.plain_sorted PyProof.Rows.entry_sorted (PyProof.Rows.args_sorted1 _) ?_
  unfold Builtin.«sorted»
  refine wpAny_bind (m := checkCount "sorted" 1 1 _) (wpAny_pure ?_)
  refine wpAny_bind (set_collect (A := A.in1) (by simpa using hh) X (by rw [List.length_map, ← lim_eq]; exact hlim) fun h' d tk vs hk hS hp => ?_)
  have hvl : vs.length = us.length := by have := hp.length_eq; rw [List.length_map, List.length_map] at this; exact this
  refine wpAny_bind (wpAny_newList ?_ (by rw [hvl, ← lim_eq]; exact hlim))
  have ho : (h'.push (PyProof.Rows.seqObj "list" vs.toArray 0)).get? h'.objs.size = some (PyProof.Rows.seqObj "list" vs.toArray 0) := Heap.get?_push_size _ rfl
  have hold : ∀ out b o, h'.get? b = some o → (PyProof.Rows.sortedHeap (h'.push (PyProof.Rows.seqObj "list" vs.toArray 0)) h'.objs.size vs out).get? b = some o := fun out b o z => by
    have hb := Heap.lt_size z
    rw [PyProof.Rows.sortedHeap_old (Nat.ne_of_lt hb) (by rw [PyProof.Rows.size_push']; exact Nat.lt_succ_of_lt hb)]
    exact Heap.get?_push_of_some _ z
  refine wpAny_bind (wpAny_holding (wpAny_call_entry (s := { W.s with heap := h'.push (PyProof.Rows.seqObj "list" vs.toArray 0), drawn := d, toks := tk }) PyProof.Rows.slot_list_sort ⟨_, ho, rfl⟩ PyProof.Rows.entry_list_sort ?_ (PyProof.Rows.args_list_sort _)))
  refine PyProof.Rows.list_sort_treeK PyProof.Rows.strKind_oneLt (Heap.get?_push_size _ rfl) hS.keysOf (fun v₁ v₂ rest e => PyProof.Rows.keyKind_strs (ss := vs.map strV) (by rw [← e]; exact hS)) (by rw [hvl]; exact h64) fun st' hp' hs => ?_
  obtain ⟨ss', a1, a2, a3⟩ := PyProof.Rows.sorted_out_str hS hp' hs
  refine ⟨_, rfl, ?_⟩
  obtain ⟨e, he⟩ := PyProof.Rows.sortedHeap_at (out := _) ho
  refine wpAny_pure ⟨_, rfl, q _ _ _ _ _ e ?_ ?_ (fun b o z => hold _ b o (hk b o z)) he ?_⟩
  · cases z : W.h.get? h'.objs.size with
    | none => rfl
    | some o => exact absurd (Heap.lt_size (hk _ _ z)) (Nat.lt_irrefl _)
  · obtain ⟨_, ho⟩ := I.st; exact Heap.lt_size (hk _ _ (I.base _ _ ho))
  · exact (vrs_texts (T := T) a1 (sortT_of_strs (a2.trans hp) a3) fun t ht => ok t ((sortT_perm us).mem_iff.mp ht))

theorem does_sset (I : Inv T W) (hh : A.handled = none) {v : AV} {val : Value} (r : W.V T v val) (hn : ssetA v W.σ ≠ .fail) {Q : Value → Shared → Prop} {E : Value → Shared → Prop}
    (h : ∀ x W', Inv T W' → Le noX W W' → (T.base.StaysIn W'.h) → Does T A noX W' (call (.builtin "sorted") [x]) (ssetA v W.σ) (VW T) → W'.σ = W.σ → Q x W'.s) : wpAny T.M A (call (.type "set") [val]) Q E W.s := by
  unfold ssetA at hn h
  cases hx : listAt W.σ v with
  | none => rw [hx] at hn; exact absurd rfl hn
  | some xs =>
    rw [hx, Option.bind_some] at hn h
    cases ht : textsA xs with
    | none => rw [ht] at hn; exact absurd rfl hn
    | some ts =>
      rw [ht] at hn h
      simp only at hn h
      by_cases hc : ts.length < 4000 ∧ (onceT ts).length < 64
      · rw [if_pos hc] at hn h
        obtain ⟨l, rfl, hl⟩ := listAt_ok hx
        obtain ⟨a, vs, m, _, h1, h2, h3⟩ := I.listAt hl r
        obtain ⟨hS, e, ok⟩ := strs_of ht h2
        have hsz : vs.size = ts.length := by rw [← Array.length_toList, strs_len hS, List.length_map]
        refine set_of_list (prog := T.prog) (w := T.w) hh (⟨_, h1, rfl, m, rfl⟩ : W.s.heap.IsList a vs) hS (by rw [hsz]; unfold scanBound; lia  ) fun h' tk X hk => ?_
        rw [onceS_map] at X
        obtain ⟨I', l'⟩ := I.grow (s' := { W.s with heap := h', toks := tk }) (fun b o e => hk b o (Heap.lt_size e) e) rfl rfl
        exact h _ _ I' l' I'.base (sorted_set I' hh X (fun t ht => ok t (once_mem ht)) hc.2) rfl
      · rw [if_neg hc] at hn; exact absurd rfl hn
end
end Mine

/-! Soundness, part 8: built-in functions (typed by hand). -/
set_option Elab.async false
namespace Mine
open PySem PySem.SeqAt PySem.Spec PySem.W PySem.Calls

section
variable {T : Tp} {A : Around} {W : Wd} {env : Env}

/-- a tree that makes nothing known, may push things -/
theorem Does.grown {t : Sem Value} {a : AV} (I : Inv T W) (h : ∀ Q E, (∀ v h' k, (∀ c o, W.h.get? c = some o → h'.get? c = some o) → VR T W.own W.bt h' a v → Q v { W.s with heap := h', toks := k }) → wpAny T.M A t Q E W.s) :
    Does T A noX W t (.ok a W.σ) (VW T) :=
  Does.ok (h _ _ fun v h' k hk r => by
    have := I.grow (s' := { W.s with heap := h', toks := k }) hk rfl rfl
    exact ⟨{ W with s := { W.s with heap := h', toks := k } }, rfl, rfl, this.1, this.2, r⟩)

noncomputable def biV : Bi → Value
  | .len => .builtin "len"
  | .ord => .builtin "ord"
  | .range => .type "range"
  | .min => .builtin "min"
  | .sum => .builtin "sum"
  | .all => .builtin "all"
  | .sorted => .builtin "sorted"
  | .list => .type "list"
  | .tuple => .type "tuple"
  | .int => .type "int"
theorem callee_bi (b : Bi) : Callee T (biV b) := by
  cases b <;> first | exact callee_builtin _ | exact callee_type _

theorem minL_spec : ∀ (r : List Int) (a : Int), minL a r ∈ a :: r ∧ ∀ x ∈ a :: r, minL a r ≤ x
  | [], a => ⟨by simp [minL], by simp [minL]⟩
  | b :: r, a => by
    obtain ⟨h1, h2⟩ := minL_spec r (if b < a then b else a)
    simp only [minL]
    refine ⟨?_, fun x hx => ?_⟩
    · rcases List.mem_cons.mp h1 with q | q
      · rw [q]; split <;> simp
      · simp [q]
    · have h3 := h2 (if b < a then b else a) (by simp)
      rcases List.mem_cons.mp hx with rfl | hx
      · refine Int.le_trans h3 ?_; split <;> lia  
      · rcases List.mem_cons.mp hx with rfl | hx
        · refine Int.le_trans h3 ?_; split <;> lia  
        · exact h2 x (by simp [hx])

theorem min_ints_any {l : Addr} {vs : List Value} {ns : List Int} {Q : Value → Shared → Prop} {E : Value → Shared → Prop} {s : Shared} (hh : A.handled = none) (hl : s.heap.IsList l vs.toArray) (hi : PyProof.Rows.IntsAre vs ns) (hne : 0 < ns.length)
    (h : ∀ h' M (t : Tok) tk, (∀ c o, s.heap.get? c = some o → h'.get? c = some o) → M ∈ ns → (∀ a, a ∈ ns → M ≤ a) → Q (.int M t) { s with heap := h', toks := tk }) :
    wpAny T.M A (call (.builtin "min") [.ref l]) Q E s := by
  obtain ⟨xs, e⟩ := hi.allInts.items
  have hns : ns = xs.toList.map (·.1) := by
    rw [← hi.numsOf, ← nums_intItems, ← e]
  have hsz : 0 < xs.size := by
    have h3 := hne; rw [hns, List.length_map, Array.length_toList] at h3; exact h3
  rw [e] at hl
  refine min_intList hh hl hsz fun v h' tk hv hk => ?_
  obtain ⟨t, rfl⟩ := intItems_at hv
  obtain ⟨h1, h2⟩ := argBest_lt (numAt xs) (xs.size - 1)
  refine h _ _ t tk hk ?_ fun a ha => ?_
  · rw [hns, numAt_eq]; exact getD_mem (by rw [List.length_map, Array.length_toList]; omega)
  · rw [hns] at ha
    obtain ⟨j, hj, rfl⟩ := mem_getD ha
    rw [List.length_map, Array.length_toList] at hj
    rw [← numAt_eq]
    exact h2 j (by omega)

theorem does_rng (I : Inv T W) {a b : Int} {t : Sem Value} (hn : rngA a b W.σ ≠ .fail) (h : ∀ Q E, (∀ x y z k, Q (.ref W.s.heap.objs.size) { W.s with heap := W.s.heap.push { cls := .type "range", data := .fields #[.int a x, .int b y, .int 1 z] }, toks := k }) → wpAny T.M A t Q E W.s) :
    Does T A noX W t (rngA a b W.σ) (VW T) := by
  by_cases h1 : -lim ≤ a ∧ a ≤ lim ∧ -lim ≤ b ∧ b ≤ lim
  · have e : rngA a b W.σ = .ok (.rng a b) W.σ := if_pos h1
    rw [e]
    exact Does.grown I fun Q E q => h Q E fun x y z k => q _ _ _ (fun c o e => Heap.get?_push_of_some _ e) (.rng (Heap.get?_push_size _ rfl) (own_new I (get_size _)) h1.1 h1.2.1 h1.2.2.1 h1.2.2.2)
  · exact absurd (if_neg h1) hn

/-- an argument that is a list -/
theorem list_arg (I : Inv T W) {v : AV} {val : Value} (r : W.V T v val) {β : Type} {f : List AV → Option β} {y : β} (e : (listAt W.σ v).bind f = some y) : ∃ a vs xs, val = .ref a ∧ W.h.IsList a (List.toArray vs) ∧ W.Vs T xs vs ∧ f xs = some y ∧ xs.length ≤ lim := by
  obtain ⟨xs, e1, e2⟩ := Option.bind_eq_some_iff.mp e
  obtain ⟨l, rfl, e3⟩ := listAt_ok e1
  obtain ⟨a, vs, m, _, h1, h2, h3⟩ := I.listAt e3 r
  exact ⟨a, vs.toList, xs, rfl, ⟨_, h1, rfl, m, by simp⟩, h2, e2, h3⟩
theorem bools_of {own : Addr → Ow} {bt : List Addr} {h : Heap} {xs : List AV} {vs : List Value} (r : VRs T own bt h xs vs) : ∀ {bs : List Bool}, mapO asBoolV xs = some bs → PyProof.Rows.LSm.BoolsAre vs bs := by
  induction r with
  | nil => intro ns e; cases e; exact .nil
  | cons a _ ih =>
    intro ns e
    rw [mapO_cons] at e
    cases a with
    | bool i =>
      rename_i xs _ _
      cases e2 : mapO asBoolV xs with
      | none => rw [e2] at e; cases e
      | some ms => rw [e2] at e; cases e; exact .cons _ (ih e2)
    | _ => cases e
theorem all_bools {s : Shared} {l : Addr} {vs : List Value} {bs : List Bool} {Q : Value → Shared → Prop} {E : Value → Shared → Prop} (hh : A.handled = none) (hl : s.heap.IsList l vs.toArray) (hb : PyProof.Rows.LSm.BoolsAre vs bs)
    (h : ∀ h' tk, (∀ b o, s.heap.get? b = some o → h'.get? b = some o) → Q (.bool (bs.all id)) { s with heap := h', toks := tk }) : wpAny T.M A (call (.builtin "all") [.ref l]) Q E s := by
  have hlt : l < s.heap.objs.size := by obtain ⟨_, e, _⟩ := hl; exact Heap.lt_size e
  refine call_all_walk (wpAny_pyIter_list hl ?_)
  refine ⟨s.heap.objs.size, [s.heap.objs.size, l], [s.heap.objs.size], vs.toArray.size, _, _, fun i => (bs[i]?).getD true, rfl, Walks.list (A := A.in1) hh _ l (Nat.ne_of_lt hlt) vs.toArray,
    ⟨⟨_, Heap.get?_push_size _ rfl, rfl, rfl⟩, hl.push _⟩, fun i v s' Q' E' hP hQ => ?_, fun h' tk hk => ?_⟩
  · obtain ⟨b, e, rfl⟩ := hb.get i v (by simpa using hP)
    simp only [e, Option.getD_some] at hQ
    exact wpAny_truthy_bool hQ
  · have e : ((List.range vs.toArray.size).all fun i => (bs[i]?).getD true) = bs.all id := by
      rw [List.size_toArray, hb.length]; exact PyProof.Rows.LSm.range_all bs
    rw [e]
    exact h h' tk (PyProof.Rows.LSm.kept_iter hk)
theorem sum_ints {s : Shared} {l : Addr} {vs : List Value} {ns : List Int} {Q : Value → Shared → Prop} {E : Value → Shared → Prop} (hh : A.handled = none) (hl : s.heap.IsList l vs.toArray) (hi : PyProof.Rows.IntsAre vs ns)
    (h : ∀ h' tk t', (∀ b o, s.heap.get? b = some o → h'.get? b = some o) → Q (.int ns.sum t') { s with heap := h', toks := tk }) : wpAny T.M A (call (.builtin "sum") [.ref l]) Q E s := by
  obtain ⟨xs, hx⟩ := hi.allInts.items
  have hl' : s.heap.IsList l (intItems xs) := hx ▸ hl
  refine sum_intListG hh hl' fun h' tk t' hk => ?_
  have e1 : ns = xs.toList.map (·.1) := by
    rw [← nums_intItems, ← hx]
    exact (show numsOf vs.toArray.toList = ns from hi.numsOf).symm
  have e2 : preSum (numAt xs) xs.size = ns.sum := by
    rw [preSum_eq, List.take_of_length_le (by simp), e1]
  rw [e2]
  exact h h' tk t' hk

theorem does_list (I : Inv T W) (hh : A.handled = none) {v : AV} {val : Value} (ra : W.V T v val) {xs : List AV} (hx : keysAt W.σ v = some xs) : Does T A noX W (call (.type "list") [val]) (newList xs W.σ) (VW T) := by
  obtain ⟨l, rfl, hz⟩ := keysAt_cases hx
  clear hx
  rcases hz with hx | ⟨ep, es, hx', rfl⟩
  · obtain ⟨_, vs, m, _, h1, h2, h3⟩ := I.listAt hx ra
    refine Does.newAt I h3 fun Q E q => call_list_seq (hsz := by rw [vrs_size h2, sizeLine_eq]; exact h3) _ (.inl rfl) h1 rfl rfl fun h' c' hk hD => ?_
    exact q _ _ W.s.toks _ c' (get_size _) I.high hk hD (h2.le (I.grow (s' := { W.s with heap := h' }) hk rfl rfl).2)
  · obtain ⟨d, kvs, n, _, hd, _, kv, hl, lo⟩ := I.dict hx' ra
    refine Does.newAt I (by rw [List.length_map]; exact hl) fun Q E q => PySem.W.kdl_call (PySem.W.kdl_dict lo) hh hd (by rw [kv.length, sizeLine_eq]; exact hl) fun h' tk acc' c' hk hD hacc => ?_
    exact q _ _ tk _ c' (get_size _) I.high hk hD (keys_vals kv hacc)

theorem does_len (I : Inv T W) {v : AV} {val : Value} (r : W.V T v val) (hn : lenA v W.σ ≠ .fail) : Does T A noX W (call (.builtin "len") [val]) (lenA v W.σ) (VW T) := by
  cases r with
  | str t ok => exact Does.keep I fun Q E q => P.len_str (by rw [tS_length]; have := lim_small ok.2; lia  ) (by rw [tS_length]; exact q _ _ (.int _ _))
  | scr h1 h2 h3 h4 h5 h6 =>
    rename_i n
    exact Does.keep I fun Q E q => PyProof.Rows.len_list ⟨_, I.base _ _ h1, h2, n, h3⟩ (by rw [h6]; exact lim_small h4) (by rw [h6]; exact q _ _ (.int _ _))
  | tup h1 h2 h3 h4 h5 h6 h7 =>
    rename_i n
    exact Does.keep I fun Q E q => PyProof.Rows.len_tuple ⟨_, h1, h2, n, h3⟩ (by rw [h6]; exact lim_small h5) (by rw [h6]; exact q _ _ (.int _ _))
  | ref hl =>
    rename_i l a
    have e0 : lenA (.ref l) W.σ = match lst W.σ[l]? with | some xs => Out.ok (AV.int xs.length) W.σ | none => (match dct W.σ[l]? with | some p => .ok (.int p.2.length) W.σ | none => .fail) := rfl
    rw [e0] at hn ⊢
    cases e : lst W.σ[l]? with
    | none =>
      rw [e] at hn
      simp only at hn ⊢
      cases e' : dct W.σ[l]? with
      | none => rw [e'] at hn; exact absurd rfl hn
      | some p =>
        obtain ⟨_, kvs, n, _, hd, _, kv, hl', lo⟩ := I.dict (dct_ok e') (.ref hl)
        have e := kv.length
        exact Does.keep I fun Q E q => call_len_dict lo hd.dictOf (by rw [e]; exact lim_small hl') (by rw [e]; exact q _ _ (.int _ _))
    | some xs =>
      obtain ⟨_, vs, m, _, h1, h2, h3⟩ := I.listAt (lst_ok e) (.ref hl)
      have e := vrs_size h2
      exact Does.keep I fun Q E q => PyProof.Rows.len_list ⟨_, h1, rfl, m, rfl⟩ (by rw [e]; exact lim_small h3) (by rw [e]; exact q _ _ (.int _ _))
  | _ => exact absurd rfl hn

theorem does_bi1 (I : Inv T W) (hh : A.handled = none) {b : Bi} {v : AV} {val : Value} (r : W.V T v val) (hn : bi1 b v W.σ ≠ .fail) : Does T A noX W (call (biV b) [val]) (bi1 b v W.σ) (VW T) := by
  cases b with
  | len => exact does_len I r hn
  | ord =>
    cases r with
    | str t ok =>
      rename_i s
      match s, hn with
      | [c], _ => exact Does.keep I fun Q E q => P.ord_of_char (q _ _ (.int _ _))
      | [], hn => exact absurd rfl hn
      | _ :: _ :: _, hn => exact absurd rfl hn
    | _ => exact absurd rfl hn
  | range =>
    cases r with
    | int i t => exact does_rng I hn fun Q E q => call_range_1 (q _ _ _ _)
    | _ => exact absurd rfl hn
  | min =>
    have e0 : bi1 .min v W.σ = match (listAt W.σ v).bind intsA with | some ns => (match ns with | a :: r => .ok (.int (minL a r)) W.σ | [] => .fail) | none => .fail := rfl
    rw [e0] at hn ⊢
    cases hx : (listAt W.σ v).bind intsA with
    | none => rw [hx] at hn; exact absurd rfl hn
    | some ns =>
      rw [hx] at hn
      cases ns with
      | nil => exact absurd rfl hn
      | cons n ns =>
        obtain ⟨l, vs, xs, rfl, h1, h2, hi, _⟩ := list_arg I r hx
        refine Does.grown I fun Q E q => min_ints_any hh h1 (ints_of h2 hi) (by simp) fun h' M t tk hk hm hle => ?_
        have e : M = minL n ns := by
          obtain ⟨g1, g2⟩ := minL_spec ns n
          have := hle _ g1; have := g2 _ hm; lia  
        rw [e]
        exact q _ _ _ hk (.int _ _)
  | sum =>
    have e0 : bi1 .sum v W.σ = match (listAt W.σ v).bind intsA with | some ns => .ok (.int ns.sum) W.σ | none => .fail := rfl
    rw [e0] at hn ⊢
    cases hx : (listAt W.σ v).bind intsA with
    | none => rw [hx] at hn; exact absurd rfl hn
    | some ns =>
      obtain ⟨l, vs, xs, rfl, h1, h2, hi, _⟩ := list_arg I r hx
      exact Does.grown I fun Q E q => sum_ints hh h1 (ints_of h2 hi) fun h' tk t' hk => q _ _ _ hk (.int _ _)
  | all =>
    have e0 : bi1 .all v W.σ = match (listAt W.σ v).bind (mapO asBoolV) with | some bs => .ok (.bool (bs.all id)) W.σ | none => .fail := rfl
    rw [e0] at hn ⊢
    cases hx : (listAt W.σ v).bind (mapO asBoolV) with
    | none => rw [hx] at hn; exact absurd rfl hn
    | some bs =>
      obtain ⟨l, vs, xs, rfl, h1, h2, hi, _⟩ := list_arg I r hx
      exact Does.grown I fun Q E q => all_bools hh h1 (bools_of h2 hi) fun h' tk hk => q _ _ _ hk (.bool _)
  | sorted => exact does_sorted I hh r hn
  | list =>
    have e0 : bi1 .list v W.σ = match keysAt W.σ v with | some xs => newList xs W.σ | none => .fail := rfl
    rw [e0] at hn ⊢
    cases hx : keysAt W.σ v with
    | none => rw [hx] at hn; exact absurd rfl hn
    | some xs => exact does_list I hh r hx
  | tuple =>
    have e0 : bi1 .tuple v W.σ = match listAt W.σ v with | some xs => (if xs.length ≤ lim then .ok (.tup xs) W.σ else .fail) | none => .fail := rfl
    rw [e0] at hn ⊢
    cases hx : listAt W.σ v with
    | none => rw [hx] at hn; exact absurd rfl hn
    | some xs =>
      obtain ⟨l, rfl, hx'⟩ := listAt_ok hx
      obtain ⟨_, vs, m, _, h1, h2, h3⟩ := I.listAt hx' r
      simp only [if_pos h3]
      refine Does.grown I fun Q E q => call_tuple_list ⟨_, h1, rfl, m, rfl⟩ (fun h' hk => ?_) (by rw [vrs_size h2, ← lim_eq]; exact h3)
      have hk' : ∀ b o, W.h.get? b = some o → (h'.push { cls := .type "tuple", data := .seq vs }).get? b = some o := fun b o e => Heap.get?_push_of_some _ (hk b o e)
      refine q _ _ W.s.toks hk' (.tup (Heap.get?_push_size _ rfl) rfl rfl (own_new I ?_) h3 (vrs_size h2) fun i x v ex ev => ?_)
      · cases z : W.h.get? h'.objs.size with
        | none => rfl
        | some o => exact absurd (Heap.lt_size (hk _ _ z)) (Nat.lt_irrefl _)
      · obtain ⟨w, e1, e2⟩ := (h2.kept hk').get ex
        rw [Array.getElem?_toList, ev] at e1
        cases e1
        exact e2
  | int =>
    cases r with
    | bool b => exact Does.keep I fun Q E q => call_int_bool (q _ _ (.int _ _))
    | _ => exact absurd rfl hn

theorem does_biA (I : Inv T W) (hh : A.handled = none) {b : Bi} {as : List AV} {vals : List Value} (r : W.Vs T as vals) (hn : biA b as W.σ ≠ .fail) : Does T A noX W (call (biV b) vals) (biA b as W.σ) (VW T) := by
  cases r with
  | nil => exact absurd rfl hn
  | cons ra rr =>
    cases rr with
    | nil => exact does_bi1 I hh ra hn
    | cons rb rr =>
      cases rr with
      | cons _ _ => exact absurd rfl hn
      | nil =>
        cases b with
        | range =>
          obtain ⟨x, y, rfl, rfl⟩ := arith_ok hn
          cases ra; cases rb
          exact does_rng I hn fun Q E q => call_range_2 (q _ _ _ _)
        | min =>
          obtain ⟨x, y, rfl, rfl⟩ := arith_ok hn
          cases ra; cases rb
          refine Does.grown I fun Q E q => min_two_ints hh fun h' tk hk => ?_
          split
          · rename_i z; rw [if_pos z] at q; exact q _ _ _ hk (.int _ _)
          · rename_i z; rw [if_neg z] at q; exact q _ _ _ hk (.int _ _)
        | _ => exact absurd rfl hn
end
end Mine

/-! Soundness, part 9: isinstance, tests, operators in expressions (typed by hand). -/
set_option Elab.async false
namespace Mine
open PySem PySem.SeqAt PySem.Spec PySem.W PySem.Calls

section
variable {T : Tp} {A : Around} {W : Wd} {env : Env}

noncomputable def kdT : Kd → String
  | .int => "int"
  | .str => "str"
  | .bool => "bool"
  | .tup => "tuple"
  | .list => "list"
theorem does_instA (I : Inv T W) {v : AV} {k : Kd} {b : Bool} {val : Value} (r : W.V T v val) (e : instA W.σ v k = some b) : Does T A noX W (call (.builtin "isinstance") [val, .type (kdT k)]) (.ok (.bool b) W.σ) (VW T) := by
  refine Does.keep I fun Q E q => ?_
  have q0 : Q (.bool b) W.s := q _ W.s.toks (.bool _)
  have q1 : Q (.bool b) { W.s with toks := W.s.toks + 1 } := q _ _ (.bool _)
  cases r with
  | none =>
    cases e
    cases k with
    | int => exact IsiPair.NoneType_int q1
    | str => exact IsiPair.NoneType_str q1
    | bool => exact IsiPair.NoneType_bool q1
    | tup => exact IsiPair.NoneType_tuple q1
    | list => exact IsiPair.NoneType_list q1
  | bool =>
    cases e
    cases k with
    | int => exact IsiPair.bool_int q0
    | str => exact IsiPair.bool_str q1
    | bool => exact IsiPair.bool_bool q0
    | tup => exact IsiPair.bool_tuple q1
    | list => exact IsiPair.bool_list q1
  | int =>
    cases e
    cases k with
    | int => exact IsiPair.int_int q0
    | str => exact IsiPair.int_str q1
    | bool => exact IsiPair.int_bool q1
    | tup => exact IsiPair.int_tuple q1
    | list => exact IsiPair.int_list q1
  | str =>
    cases e
    cases k with
    | int => exact IsiPair.str_int q1
    | str => exact IsiPair.str_str q0
    | bool => exact IsiPair.str_bool q1
    | tup => exact IsiPair.str_tuple q1
    | list => exact IsiPair.str_list q1
  | tup h1 h2 h3 h4 h5 h6 h7 =>
    cases e
    cases k with
    | int => exact IsiPair.tuple_int h1 h2 q1
    | str => exact IsiPair.tuple_str h1 h2 q1
    | bool => exact IsiPair.tuple_bool h1 h2 q1
    | tup => exact IsiPair.tuple_tuple h1 h2 q0
    | list => exact IsiPair.tuple_list h1 h2 q1
  | ref hl =>
    rename_i l a
    have e0 : instA W.σ (.ref l) k = match listAt W.σ (.ref l) with | some _ => some (k == .list) | none => none := rfl
    rw [e0] at e
    cases hx : listAt W.σ (.ref l) with
    | none => rw [hx] at e; cases e
    | some xs =>
      rw [hx] at e
      cases e
      obtain ⟨_, vs, m, _, h1, h2, h3⟩ := I.listAt (lst_ok hx) (.ref hl)
      cases k with
      | int => exact IsiPair.list_int h1 rfl q1
      | str => exact IsiPair.list_str h1 rfl q1
      | bool => exact IsiPair.list_bool h1 rfl q1
      | tup => exact IsiPair.list_tuple h1 rfl q1
      | list => exact IsiPair.list_list h1 rfl q0
  | _ => cases e

end
end Mine

/-! Soundness, part 10: the abstract text, laid out as the model's text (typed by hand). -/
set_option Elab.async false
set_option genInjectivity false
set_option genSizeOf false
set_option bootstrap.genMatcherCode false
namespace Mine
open PySem PySem.SeqAt PySem.Spec PySem.W PySem.Calls

/-! ### places in the text: one number, forty-eight bits each -/
noncomputable def posOf (n : Nat) : Pos := ⟨n % 1024, n / 1024 % 512, n / 524288 % 1024, n / 536870912 % 512⟩
noncomputable def kAt (n : Nat) : Nat := n / 274877906944 % 1024
noncomputable def nx (n : Nat) : Nat := n / 281474976710656

/-- the names -/
structure Nm where
  P : Pr
  names : List Str
noncomputable def Nm.var (N : Nm) (x : Nat) : Str := (N.names[x]?).getD ""
noncomputable def Nm.fn (N : Nm) (f : Nat) : Str := ((N.P.fns[f]?).map (·.name)).getD ""
noncomputable def Nm.cl (N : Nm) (c : Nat) : Str := ((N.P.cls[c]?).map (·.name)).getD ""
noncomputable def Nm.gl (N : Nm) (g : Nat) : Str := ((N.P.consts[g]?).map (·.1)).getD ""
noncomputable def Nm.at_ (N : Nm) (a : Nat) : Str := (N.P.attrs[a]?).getD ""
noncomputable def Nm.me (N : Nm) (m : Nat) : Str := (N.P.methNames[m]?).getD ""

noncomputable def biN : Bi → Str
  | .len => "len"
  | .ord => "ord"
  | .range => "range"
  | .min => "min"
  | .sum => "sum"
  | .all => "all"
  | .sorted => "sorted"
  | .list => "list"
  | .tuple => "tuple"
  | .int => "int"
noncomputable def bmNm : Bm → Str
  | .append => "append"
  | .join => "join"
  | .get => "get"
  | .setdefault => "setdefault"
/-- every second one, from the first or from the second on -/
noncomputable def halves {α : Type} (b : Bool) : List α → List α
  | [] => []
  | x :: r => if b then x :: halves false r else halves true r

mutual
noncomputable def embE (N : Nm) : ME → Nat → Expr × Nat
  | .none, n => (.Constant .none (kAt n) (posOf n), nx n)
  | .bool b, n => (.Constant (.bool b) (kAt n) (posOf n), nx n)
  | .int i, n => (.Constant (.int i) (kAt n) (posOf n), nx n)
  | .str s, n => (.Constant (.str (tS s)) (kAt n) (posOf n), nx n)
  | .var x, n => (.Name (N.var x) (posOf n), nx n)
  | .gl g, n => (.Name (N.gl g) (posOf n), nx n)
  | .bin op a b, n => (.BinOp (embE N a (nx n)).1 (opM op) (embE N b (embE N a (nx n)).2).1 (posOf n), (embE N b (embE N a (nx n)).2).2)
  | .not e, n => (.UnaryOp .Not (embE N e (nx n)).1 (posOf n), (embE N e (nx n)).2)
  | .and es, n => (.BoolOp .And (embEs N es (nx n)).1 (posOf n), (embEs N es (nx n)).2)
  | .or es, n => (.BoolOp .Or (embEs N es (nx n)).1 (posOf n), (embEs N es (nx n)).2)
  | .cmp l op r, n => (.Compare (embE N l (nx n)).1 [cmpM op] [(embE N r (embE N l (nx n)).2).1] (posOf n), (embE N r (embE N l (nx n)).2).2)
  | .chain l op m op' r, n => (.Compare (embE N l (nx n)).1 [cmpM op, cmpM op'] [(embE N m (embE N l (nx n)).2).1, (embE N r (embE N m (embE N l (nx n)).2).2).1] (posOf n), (embE N r (embE N m (embE N l (nx n)).2).2).2)
  | .isNone e, n => (.Compare (embE N e (nx (nx n))).1 [.Is] [.Constant .none (kAt (nx n)) (posOf (nx n))] (posOf n), (embE N e (nx (nx n))).2)
  | .isTrue e, n => (.Compare (embE N e (nx (nx n))).1 [.Is] [.Constant (.bool true) (kAt (nx n)) (posOf (nx n))] (posOf n), (embE N e (nx (nx n))).2)
  | .tup es, n => (.Tuple (embEs N es (nx n)).1 (kAt n) (posOf n), (embEs N es (nx n)).2)
  | .list es, n => (.List (embEs N es (nx n)).1 (posOf n), (embEs N es (nx n)).2)
  | .dict kvs, n => (.Dict ((halves true (embEs N kvs (nx n)).1).map some) (halves false (embEs N kvs (nx n)).1) (posOf n), (embEs N kvs (nx n)).2)
  | .idx o i, n => (.Subscript (embE N o (nx n)).1 (embE N i (embE N o (nx n)).2).1 (posOf n), (embE N i (embE N o (nx n)).2).2)
  | .slice o lo hi bl bh, n => (.Subscript (embE N o (nx (nx n))).1 (.Slice (if bl then some (embE N lo (embE N o (nx (nx n))).2).1 else none) (if bh then some (embE N hi (embE N lo (embE N o (nx (nx n))).2).2).1 else none) none (posOf (nx n))) (posOf n),
      (embE N hi (embE N lo (embE N o (nx (nx n))).2).2).2)
  | .attr o a, n => (.Attribute (embE N o (nx n)).1 (N.at_ a) (posOf n), (embE N o (nx n)).2)
  | .call f args, n => (.Call (.Name (N.fn f) (posOf (nx n))) (embEs N args (nx (nx n))).1 [] (posOf n), (embEs N args (nx (nx n))).2)
  | .new c args, n => (.Call (.Name (N.cl c) (posOf (nx n))) (embEs N args (nx (nx n))).1 [] (posOf n), (embEs N args (nx (nx n))).2)
  | .meth o m args, n => (.Call (.Attribute (embE N o (nx (nx n))).1 (N.me m) { posOf (nx n) with endLine := (posOf n).line }) (embEs N args (embE N o (nx (nx n))).2).1 [] (posOf n), (embEs N args (embE N o (nx (nx n))).2).2)
  | .bi b args, n => (.Call (.Name (biN b) (posOf (nx n))) (embEs N args (nx (nx n))).1 [] (posOf n), (embEs N args (nx (nx n))).2)
  | .bm m o args, n => (.Call (.Attribute (embE N o (nx (nx n))).1 (bmNm m) { posOf (nx n) with endLine := (posOf n).line }) (embEs N args (embE N o (nx (nx n))).2).1 [] (posOf n), (embEs N args (embE N o (nx (nx n))).2).2)
  | .inst e k, n => (.Call (.Name "isinstance" (posOf (nx n))) [(embE N e (nx (nx (nx n)))).1, .Name (Str.ofString (kdT k)) (posOf (nx (nx n)))] [] (posOf n), (embE N e (nx (nx (nx n)))).2)
  | .comp elt x src conds sc, n => (.ListComp (embE N elt (embEs N conds (embE N src (nx (nx n))).2).2).1 [⟨.Name (N.var x) (posOf (nx n)), (embE N src (nx (nx n))).1, (embEs N conds (embE N src (nx (nx n))).2).1, 0⟩] sc (posOf n),
      (embE N elt (embEs N conds (embE N src (nx (nx n))).2).2).2)
  | .sset e, n => (.Call (.Name "sorted" (posOf (nx n))) [.Call (.Name "set" (posOf (nx (nx (nx n))))) [(embE N e (nx (nx (nx (nx n))))).1] [] (posOf (nx (nx n)))] [] (posOf n), (embE N e (nx (nx (nx (nx n))))).2)
  | .chain3 l op m op' r op'' q, n => (.Compare (embE N l (nx n)).1 [cmpM op, cmpM op', cmpM op''] [(embE N m (embE N l (nx n)).2).1, (embE N r (embE N m (embE N l (nx n)).2).2).1, (embE N q (embE N r (embE N m (embE N l (nx n)).2).2).2).1] (posOf n),
      (embE N q (embE N r (embE N m (embE N l (nx n)).2).2).2).2)
noncomputable def embEs (N : Nm) : List ME → Nat → List Expr × Nat
  | [], n => ([], n)
  | e :: r, n => ((embE N e n).1 :: (embEs N r (embE N e n).2).1, (embEs N r (embE N e n).2).2)
end

/-! ### what is asked of the names -/
/-- what is asked of the globals -/
structure Gl where
  gv : Str → Option (Option Value)
  fa : Nat → Addr
  ca : Nat → Addr
noncomputable def isGlob (sc : Scope) (x : Str) : Bool := sc.names.lookup x == some .globalImplicit && !(x == ("__debug__" : Str))
noncomputable def okSb (s : List Nat) : Bool := s.all (fun c => decide (c < 128)) && decide (s.length ≤ 100000)
theorem okS_of {s : List Nat} (h : okSb s = true) : okS s := by
  simp only [okSb, Bool.and_eq_true, List.all_eq_true, decide_eq_true_eq] at h
  exact ⟨h.1, Nat.le_trans h.2 (by decide)⟩
/-- a built-in's name that nobody has taken -/
noncomputable def isBi (G : Gl) (sc : Scope) (x : Str) (v : Value) : Bool := isGlob sc x && (match G.gv x with | some none => true | _ => false) && bootBuiltins x == some v && !(x == ("__name__" : Str))
noncomputable def isRefOf (a : Addr) : Option (Option Value) → Bool
  | some (some (.ref b)) => b == a
  | _ => false
theorem isRefOf_ok {a : Addr} {o : Option (Option Value)} (h : isRefOf a o = true) : o = some (some (.ref a)) := by
  unfold isRefOf at h
  split at h
  · rw [eq_of_beq h]
  · cases h
noncomputable def isNoM : ME → Bool
  | .none => true
  | _ => false
/-- no call: its value may be asked for an attribute -/
noncomputable def noCall : ME → Bool
  | .call .. => false
  | .new .. => false
  | .meth .. => false
  | .bi .. => false
  | .bm .. => false
  | .inst .. => false
  | .sset .. => false
  | _ => true
/-- a comprehension's scope, seen from the frame that it stands in -/
noncomputable def relabelS (sc' sc : Scope) : Scope :=
  { sc' with names := sc'.names.map fun (n, k) => if (k == .free && sc.kind == .function && sc.names.lookup n == some .cell) then (n, .cell) else (n, k) }
noncomputable def compSl (sc' sc : Scope) (sl : List (Nat × Str)) (x : Nat) (nm : Str) : List (Nat × Str) :=
  (x, nm) :: sl.filter fun p => !(p.1 == x) && sc'.names.lookup p.2 == some .free && sc.names.lookup p.2 == some .cell
noncomputable def scOk (sc' sc : Scope) (nm : Str) : Bool := (sc'.kind == .function) && sc'.names.lookup nm == some .local &&
  sc'.names.all fun p => !(p.2 == .cell) && (!(p.2 == .local) || sc'.names.lookup p.1 == some .local) && (!(p.2 == .free) || sc.names.lookup p.1 == some .cell)
mutual
noncomputable def okE (G : Gl) (N : Nm) (sc : Scope) (sl : List (Nat × Str)) : ME → Bool
  | .none => true
  | .bool _ => true
  | .int _ => true
  | .str s => okSb s
  | .var x => sl.contains (x, N.var x) && !(N.var x == ("__debug__" : Str))
  | .gl g => isGlob sc (N.gl g)
  | .bin _ a b => okE G N sc sl a && okE G N sc sl b
  | .not e => okE G N sc sl e
  | .and es => okEs G N sc sl es
  | .or es => okEs G N sc sl es
  | .cmp l _ r => okE G N sc sl l && okE G N sc sl r
  | .chain l _ m _ r => okE G N sc sl l && okE G N sc sl m && okE G N sc sl r
  | .isNone e => okE G N sc sl e
  | .isTrue e => okE G N sc sl e
  | .tup es => okEs G N sc sl es
  | .list es => okEs G N sc sl es
  | .dict kvs => okEs G N sc sl kvs && decide (kvs.length ≤ 30) && decide (kvs.length % 2 = 0)
  | .idx o i => okE G N sc sl o && okE G N sc sl i
  | .slice o lo hi bl bh => okE G N sc sl o && okE G N sc sl lo && okE G N sc sl hi && (bl || isNoM lo) && (bh || isNoM hi)
  | .attr o a => noCall o && okE G N sc sl o && decide (a < N.P.attrs.length)
  | .call f args => isGlob sc (N.fn f) && isRefOf (G.fa f) (G.gv (N.fn f)) && okEs G N sc sl args
  | .new c args => isGlob sc (N.cl c) && isRefOf (G.ca c) (G.gv (N.cl c)) && okEs G N sc sl args
  | .meth o m args => noCall o && okE G N sc sl o && okEs G N sc sl args && decide (args.length < 30) && decide (m < N.P.methNames.length)
  | .bi b args => isBi G sc (biN b) (biV b) && okEs G N sc sl args
  | .bm _ o args => noCall o && okE G N sc sl o && okEs G N sc sl args && decide (args.length < 30)
  | .inst e k => isBi G sc "isinstance" (.builtin "isinstance") && isBi G sc (Str.ofString (kdT k)) (.type (kdT k)) && okE G N sc sl e
  | .comp elt x src conds sc' => scOk sc' sc (N.var x) && okE G N sc sl src && okEs G N (relabelS sc' sc) (compSl sc' sc sl x (N.var x)) conds && okE G N (relabelS sc' sc) (compSl sc' sc sl x (N.var x)) elt
  | .sset e => isBi G sc "sorted" (.builtin "sorted") && isBi G sc "set" (.type "set") && okE G N sc sl e
  | .chain3 l _ m _ r _ q => okE G N sc sl l && okE G N sc sl m && okE G N sc sl r && okE G N sc sl q
noncomputable def okEs (G : Gl) (N : Nm) (sc : Scope) (sl : List (Nat × Str)) : List ME → Bool
  | [] => true
  | e :: r => okE G N sc sl e && okEs G N sc sl r
end

theorem and3 {a b c : Bool} (h : (a && b && c) = true) : (a = true ∧ b = true) ∧ c = true := ⟨Bool.and_eq_true_iff.mp (Bool.and_eq_true_iff.mp h).1, (Bool.and_eq_true_iff.mp h).2⟩
theorem and4 {a b c d : Bool} (h : (a && b && c && d) = true) : ((a = true ∧ b = true) ∧ c = true) ∧ d = true := ⟨and3 (Bool.and_eq_true_iff.mp h).1, (Bool.and_eq_true_iff.mp h).2⟩
theorem and5 {a b c d e : Bool} (h : (a && b && c && d && e) = true) : (((a = true ∧ b = true) ∧ c = true) ∧ d = true) ∧ e = true := ⟨and4 (Bool.and_eq_true_iff.mp h).1, (Bool.and_eq_true_iff.mp h).2⟩

/-! ### what the laid out text is not -/
theorem notStar_emb {N : Nm} (m : ME) (n : Nat) : notStar (embE N m n).1 = true := by cases m <;> rfl
theorem notSlice_emb {N : Nm} (m : ME) (n : Nat) : notSlice (embE N m n).1 = true := by cases m <;> rfl
noncomputable def notSet : Expr → Bool
  | .Set .. => false
  | _ => true
theorem notSet_emb {N : Nm} (m : ME) (n : Nat) : notSet (embE N m n).1 = true := by cases m <;> rfl
theorem marks_of {e : Expr} (op : CmpOp) (h : notSet e = true) : behindInMarks op e = false := by
  cases e with
  | Set _ _ _ => cases h
  | _ => rfl
noncomputable def noSuper : Expr → Bool
  | .Call .. => false
  | _ => true
theorem noSuper_emb {N : Nm} {m : ME} (h : noCall m = true) (n : Nat) : noSuper (embE N m n).1 = true := by
  cases m <;> first | rfl | cases h
theorem plain_embs {N : Nm} : ∀ (ms : List ME) (n : Nat), plainArgs (embEs N ms n).1 = true
  | [], _ => rfl
  | m :: r, n => by
    show (notStar (embE N m n).1 && plainArgs (embEs N r (embE N m n).2).1) = true
    rw [notStar_emb, plain_embs r]; rfl
theorem embs_length {N : Nm} : ∀ (ms : List ME) (n : Nat), (embEs N ms n).1.length = ms.length
  | [], _ => rfl
  | m :: r, n => congrArg Nat.succ (embs_length r _)

structure GlOk (T : Tp) (G : Gl) : Prop where
  sm : ∀ x v, G.gv x = some (some v) → T.mg x = some v
  nn : ∀ x, G.gv x = some none → T.mg x = none
  fa : G.fa = T.fa
  ca : G.ca = T.ca
  con : ∀ (g : Nat) (p : Str × AV), T.P.consts[g]? = some p → ∃ v, T.mg p.1 = some v ∧ ∀ own bt h, VR T own bt h p.2 v
  callee : ∀ x f, G.gv x = some (some (.ref (G.fa f))) → Callee T (.ref (T.fa f))

/-- the calls of the text's defs -/
structure CallsOk (T : Tp) (n : Nat) (call : Nat → List AV → Hp → Out AV) : Prop where
  code : ∀ f as vals A W, AOkC n A → Inv T W → W.Vs T as vals → call f as W.σ ≠ .fail →
    codeAny T.M A (.call (.ref (T.fa f)) ⟨vals, []⟩) (fun r s' => match r with | .ok (.ret v) => PostE T noX W (call f as W.σ) (VW T) v s' | _ => False) W.s
theorem CallsOk.does {T : Tp} {n : Nat} {call : Nat → List AV → Hp → Out AV} (h : CallsOk T n call) (f : Nat) (as : List AV) (vals : List Value) (A : Around) (W : Wd) (a : AOkC n A) (I : Inv T W) (r : W.Vs T as vals) (hn : call f as W.σ ≠ .fail) :
    Does T A noX W (PySem.call (.ref (T.fa f)) vals) (call f as W.σ) (VW T) := wpAny_call (codeAny_mono (h.code f as vals A W a I r hn) fun r s' q => by
      cases r with
      | ok fl => cases fl <;> first | exact q | exact q.elim
      | error e => exact q)

theorem Out.bind_ok {α β : Type} {x : Out α} {f : α → Hp → Out β} (h : x.bind f ≠ .fail) : x ≠ .fail ∧ ∀ a k, x = .ok a k → f a k ≠ .fail := by
  cases x with
  | ok a k => exact ⟨fun q => (nomatch q), fun a' k' e => by cases e; exact h⟩
  | fail => exact absurd rfl h

section
variable {T : Tp} {A : Around} {W : Wd} {env : Env} {sl : List (Nat × Str)} {vs : Vs} {G : Gl}

theorem does_global (hT : T.Ok) (I : Inv T W) (F : Fm T W env sl vs) {x : Str} {pos : Pos} {v : Value} (hx : isGlob env.scope x = true) (e : T.mg x = some v) {Q : Value → Shared → Prop} {E : Value → Shared → Prop} (q : Q v W.s) :
    wpAny T.M A (eval (.Name x pos) env) Q E W.s := by
  simp only [isGlob, Bool.and_eq_true, beq_iff_eq, Bool.not_eq_true'] at hx
  exact Name_function_global F.kind hx.1 (loadGlobal_global (by rw [F.glob]; exact hT.g.keeps I.base) e q) hx.2
theorem does_bi_name (hT : T.Ok) (hG : GlOk T G) (I : Inv T W) (F : Fm T W env sl vs) {x : Str} {pos : Pos} {v : Value} (hx : isBi G env.scope x v = true) {Q : Value → Shared → Prop} {E : Value → Shared → Prop} (q : Q v W.s) :
    wpAny T.M A (eval (.Name x pos) env) Q E W.s := by
  simp only [isBi, isGlob, Bool.and_eq_true, beq_iff_eq, Bool.not_eq_true', beq_eq_false_iff_ne] at hx
  obtain ⟨⟨⟨⟨h1, h2⟩, h3⟩, h4⟩, h5⟩ := hx
  have hm : T.mg x = none := by
    cases z : G.gv x with
    | none => rw [z] at h3; cases h3
    | some y => cases y with
      | none => exact hG.nn x z
      | some w => rw [z] at h3; cases h3
  exact Name_function_global F.kind h1 (loadGlobal_builtin (by rw [F.glob]; exact hT.g.keeps I.base) hm (by rw [F.bi]; exact hT.b.keeps I.base) ((hT.bi x h5).trans h4) q) (by simpa using h2)

/-- truth of a value, as a tree -/
theorem does_truthD (I : Inv T W) {a : AV} {v : Value} (r : W.V T a v) {α : Type} {g : Bool → Hp → Out α} (hn : (match truth W.σ a with | some b => g b W.σ | Option.none => .fail) ≠ .fail) {Q : Bool → Shared → Prop} {E : Value → Shared → Prop}
    (h : ∀ b W', Inv T W' → Le noX W W' → W'.σ = W.σ → truth W.σ a = some b → Q b W'.s) : wpAny T.M A (truthy v) Q E W.s := by
  cases e : truth W.σ a with
  | none => rw [e] at hn; exact absurd rfl hn
  | some b => exact does_truth I r e Q E fun k => h b { W with s := { W.s with toks := k } } (I.toks k).1 (I.toks k).2 rfl e
end
end Mine

/-! Soundness, part 11: expressions (typed by hand). -/
set_option Elab.async false
namespace Mine
open PySem PySem.SeqAt PySem.Spec PySem.W PySem.Calls

section
variable {T : Tp} {G : Gl} {N : Nm} {n : Nat} {C : Cx}

theorem does_spliced_list {A : Around} {W : Wd} {env : Env} {es : List Expr} {pos : Pos} {x : Out (List AV)} (h : Does T A noX W (spliced (backTo pos (starEach es env))) x (VWs T)) (hn : x.bind (fun xs h => newList xs h) ≠ .fail) :
    Does T A noX W (eval (.List es pos) env) (x.bind fun xs h => newList xs h) (VW T) := by
  refine wpAny_List_spliced (h.cps (fun xs W' vals e I l r => ?_))
  have hn' := (Out.bind_ok hn).2 xs W'.σ e
  unfold newList at hn'
  split at hn'
  · rename_i hl
    refine ⟨by rw [r.length, ← lim_eq]; exact hl, ?_⟩
    have := I.push (s' := { W'.s with heap := W'.h.push { cls := .type "list", data := .seq vals.toArray } }) (o := .list xs) (Heap.get?_push_size _ rfl) (fun a q e => Heap.get?_push_of_some _ e) rfl rfl
      fun x => .list vals.toArray 0 (Heap.get?_push_size _ rfl) (by simpa using r.ext x .no) hl
    refine ⟨.ref W'.σ.length, _, rfl, ?_, this.1, l.trans this.2.1, this.2.2⟩
    rw [e]; show newList xs W'.σ = _; unfold newList; rw [if_pos hl]
  · exact absurd rfl hn'

theorem does_spliced_tup {A : Around} {W : Wd} {env : Env} {es : List Expr} {k : Nat} {pos : Pos} {x : Out (List AV)} (h : Does T A noX W (spliced (backTo pos (starEach es env))) x (VWs T)) (hn : x.bind (fun xs h => tupA xs h) ≠ .fail) :
    Does T A noX W (eval (.Tuple es k pos) env) (x.bind fun xs h => tupA xs h) (VW T) := by
  refine wpAny_Tuple_spliced (h.cps (fun xs W' vals e I l r => ?_))
  have hn' := (Out.bind_ok hn).2 xs W'.σ e
  unfold tupA at hn'
  split at hn'
  · rename_i hl
    refine ⟨by rw [r.length, ← lim_eq]; exact hl, ?_⟩
    have g := I.grow (s' := { W'.s with heap := W'.h.push { cls := .type "tuple", data := .seq vals.toArray } }) (fun a q e => Heap.get?_push_of_some _ e) rfl rfl
    refine ⟨.tup xs, _, rfl, ?_, g.1, l.trans g.2, .tup (Heap.get?_push_size _ rfl) rfl rfl (own_new I (get_size _)) hl ?_ fun i y v hy hv => ?_⟩
    · rw [e]; show tupA xs W'.σ = _; unfold tupA; rw [if_pos hl]
    · rw [List.size_toArray, r.length]
    · obtain ⟨v', e1, e2⟩ := (r.le g.2).get hy
      rw [List.getElem?_toArray, e1] at hv
      cases hv; exact e2
  · exact absurd rfl hn'

/-- the tree of `and` | `or` -/
theorem boolOp_cons {pos : Pos} {op : BoolOp} {x y : Sem Value} {r : List (Sem Value)} : boolOp pos op (x :: y :: r) = (do
    let v ← x
    standAt pos
    let t ← holding [v] (truthy v)
    match op, t with
    | .And, false | .Or, true => pure v
    | _, _ => boolOp pos op (y :: r)) := rfl


/-- what is shown of an expression -/
noncomputable def SE (T : Tp) (G : Gl) (N : Nm) (n : Nat) (C : Cx) (m : ME) : Prop :=
  ∀ (p : Nat) (sl : List (Nat × Str)) (A : Around) (W : Wd) (env : Env) (vs : Vs), okE G N env.scope sl m = true → AOk n A → Fm T W env sl vs → Inv T W → ev C m W.σ vs ≠ .fail →
    Does T A noX W (eval (embE N m p).1 env) (ev C m W.σ vs) (VW T)
theorem okEs_cons {sc : Scope} {sl : List (Nat × Str)} {m : ME} {ms : List ME} (h : okEs G N sc sl (m :: ms) = true) : okE G N sc sl m = true ∧ okEs G N sc sl ms = true := Bool.and_eq_true_iff.mp h

theorem does_evs : ∀ (ms : List ME), (∀ m ∈ ms, SE T G N n C m) → ∀ (p : Nat) (sl : List (Nat × Str)) (A : Around) (W : Wd) (env : Env) (vs : Vs) (pos : Pos), okEs G N env.scope sl ms = true → AOk n A → Fm T W env sl vs → Inv T W → evs C ms W.σ vs ≠ .fail →
    Does T A noX W (spliced (backTo pos (starEach (embEs N ms p).1 env))) (evs C ms W.σ vs) (VWs T)
  | [], _, _, _, _, _, _, _, _, _, _, _, I, _ => does_args_nil I
  | m :: ms, ih, p, sl, A, W, env, vs, pos, h, a, F, I, hn => by
    obtain ⟨h1, h2⟩ := okEs_cons h
    rw [evs_q2] at hn ⊢
    obtain ⟨n1, n2⟩ := Out.bind_ok hn
    exact does_args_cons (notStar_emb m p) (ih m (List.mem_cons_self ..) p sl A W env vs h1 a F I n1) fun x W' I' l' e' => does_evs ms (fun m' hm => ih m' (List.mem_cons_of_mem _ hm)) _ sl A W' env vs pos h2 a (F.le l') I' (Out.bind_ok (n2 x W'.σ e')).1

noncomputable def evB (C : Cx) (op : BoolOp) (ms : List ME) (h : Hp) (vs : Vs) : Out AV := match op with
  | .And => evAnd C ms h vs
  | .Or => evOr C ms h vs
/-- does the operator stop at this truth -/
noncomputable def stops : BoolOp → Bool → Bool
  | .And, b => !b
  | .Or, b => b
theorem evB_one {op : BoolOp} {m : ME} {h : Hp} {vs : Vs} : evB C op [m] h vs = ev C m h vs := by cases op <;> rfl
theorem evB_cons {op : BoolOp} {m m' : ME} {ms : List ME} {h : Hp} {vs : Vs} : evB C op (m :: m' :: ms) h vs = (ev C m h vs).bind fun x h => match truth h x with | some b => (match stops op b with | true => .ok x h | false => evB C op (m' :: ms) h vs) | Option.none => .fail := by
  cases op with
  | And =>
    show evAnd C (m :: m' :: ms) h vs = _
    rw [evAnd_q3]
    congr 1; funext x h
    rcases truth h x with _ | _ | _ <;> rfl
  | Or =>
    show evOr C (m :: m' :: ms) h vs = _
    rw [evOr_q3]
    congr 1; funext x h
    rcases truth h x with _ | _ | _ <;> rfl
theorem boolOp_stop {pos : Pos} {op : BoolOp} {x y : Sem Value} {r : List (Sem Value)} : boolOp pos op (x :: y :: r) = (do
    let v ← x
    standAt pos
    let t ← holding [v] (truthy v)
    match stops op t with
    | true => pure v
    | false => boolOp pos op (y :: r)) := by
  rw [boolOp_cons]
  congr 1; funext v; congr 1; funext _; congr 1; funext t
  cases op <;> cases t <;> rfl

theorem does_and (op : BoolOp) : ∀ (ms : List ME), (∀ m ∈ ms, SE T G N n C m) → ∀ (p : Nat) (sl : List (Nat × Str)) (A : Around) (W : Wd) (env : Env) (vs : Vs) (pos : Pos), okEs G N env.scope sl ms = true → AOk n A → Fm T W env sl vs → Inv T W →
    evB C op ms W.σ vs ≠ .fail → Does T A noX W (boolOp pos op (evalEach (embEs N ms p).1 env)) (evB C op ms W.σ vs) (VW T)
  | [], _, _, _, _, _, _, _, _, _, _, _, _, hn => absurd (by cases op <;> rfl) hn
  | [m], ih, p, sl, A, W, env, vs, pos, h, a, F, I, hn => by
    rw [evB_one] at hn ⊢
    exact ih m (List.mem_cons_self ..) p sl A W env vs (okEs_cons h).1 a F I hn
  | m :: m' :: ms, ih, p, sl, A, W, env, vs, pos, h, a, F, I, hn => by
    obtain ⟨h1, h2⟩ := okEs_cons h
    have ih' := does_and op (m' :: ms) (fun q hq => ih q (List.mem_cons_of_mem _ hq))
    rw [evB_cons] at hn ⊢
    show Does T A noX W (boolOp pos op (eval (embE N m p).1 env :: eval (embE N m' (embE N m p).2).1 env :: evalEach (embEs N ms (embE N m' (embE N m p).2).2).1 env)) _ _
    rw [boolOp_stop]
    obtain ⟨n1, n2⟩ := Out.bind_ok hn
    refine Does.bind (ih m (List.mem_cons_self ..) p sl A W env vs h1 a F I n1) fun x W' v e1 I' l' r => ?_
    have n3 := n2 x W'.σ e1
    cases q : truth W'.σ x with
    | none => rw [q] at n3; exact absurd rfl n3
    | some b =>
      rw [q] at n3
      refine wpAny_bind (wpAny_standAt (wpAny_bind (wpAny_holding (does_truth I' r q _ _ fun k => ?_))))
      have g := I'.toks k
      simp only at n3 ⊢
      cases z : stops op b with
      | true => exact wpAny_pure ⟨x, { W' with s := { W'.s with toks := k } }, rfl, rfl, g.1, g.2, r.le g.2⟩
      | false =>
        rw [z] at n3
        exact (ih' (embE N m p).2 sl A { W' with s := { W'.s with toks := k } } env vs pos h2 a (F.le (l'.trans g.2)) g.1 n3).up g.2 rfl
end
end Mine

/-! Soundness, part 13: frames that are written (typed by hand). -/
set_option Elab.async false
namespace Mine
open PySem PySem.SeqAt PySem.Spec PySem.W PySem.Calls

/-- the addresses that a frame writes -/
noncomputable def frX (env : Env) : Addr → Prop := fun a => a = env.locals ∨ ∃ x, env.cells.lookup x = some a

structure Fs (T : Tp) (W : Wd) (env : Env) (sl : List (Nat × Str)) (vs : Vs) : Prop where
  fm : Fm T W env sl vs
  ns : ∃ m, W.h.Ns env.locals m
  ownL : W.own env.locals = .free
  baseL : T.base.get? env.locals = none
  kinds : ∀ i x, (i, x) ∈ sl → env.kindOf x = some .local ∨ env.kindOf x = some .cell
  cell : ∀ x c, env.cells.lookup x = some c → W.own c = .free ∧ T.base.get? c = none ∧ c ≠ env.locals ∧ ∃ v, W.h.IsCell c v
  cinj : ∀ x y c, env.cells.lookup x = some c → env.cells.lookup y = some c → x = y
  inj : ∀ i j x, (i, x) ∈ sl → (j, x) ∈ sl → i = j
  inj2 : ∀ i x y, (i, x) ∈ sl → (i, y) ∈ sl → x = y
  len : ∀ i x, (i, x) ∈ sl → i < vs.length

section
variable {T : Tp} {A : Around} {W W' : Wd} {env : Env} {sl : List (Nat × Str)} {vs : Vs}

theorem Fs.le (F : Fs T W env sl vs) (l : Le noX W W') : Fs T W' env sl vs where
  fm := F.fm.le l
  ns := let ⟨m, n⟩ := F.ns; ⟨m, ns_ko n fun o ho => l.ext.kp _ o ho F.ownL id⟩
  ownL := let ⟨_, n⟩ := F.ns; let ⟨_, z⟩ := ns_at n; (l.ext.ow _ _ z id).trans F.ownL
  baseL := F.baseL
  kinds := F.kinds
  cell := fun x c e => let ⟨h1, h2, h3, v, h4⟩ := F.cell x c e; let ⟨_, z⟩ := cell_at h4; ⟨(l.ext.ow _ _ z id).trans h1, h2, h3, v, cell_ko h4 fun o ho => l.ext.kp _ o ho h1 id⟩
  cinj := F.cinj
  inj := F.inj
  inj2 := F.inj2
  len := F.len

theorem Fs.frX (F : Fs T W env sl vs) : FrX (frX env) W.own W.h := by
  intro a q
  rcases q with rfl | ⟨x, q⟩
  · refine ⟨F.ownL, fun o e => ?_⟩
    obtain ⟨m, o', es, ep, ho, hd, _⟩ := F.ns
    rw [e] at ho; cases ho
    exact .inl ⟨es, ep, hd⟩
  · refine ⟨(F.cell x a q).1, fun o e => ?_⟩
    obtain ⟨_, _, _, v, o', ho, hd⟩ := F.cell x a q
    rw [e] at ho; cases ho
    exact .inr (.inl ⟨v, hd⟩)

/-- one address of the frame's own is written -/
theorem Inv.touch {X : Addr → Prop} (I : Inv T W) {a : Addr} {s' : Shared} (ha : W.own a = .free) (hb : T.base.get? a = none) (hx : X a) (fx : FrX X W.own W.h) (hs : ∀ b o, b ≠ a → W.h.get? b = some o → s'.heap.get? b = some o)
    (hg : s'.gens = W.s.gens) (hos : s'.os = W.s.os) : Inv T { W with s := s' } ∧ Le X W { W with s := s' } := by
  have x : Ext X W.own W.bt W.h W.own W.bt s'.heap := ⟨fun b o e f n => hs b o (fun q => n (q ▸ hx)) e,
    fun b o e n => ⟨o, hs b o (fun q => n (q ▸ hx)) e⟩, fun _ _ _ _ => rfl, [], (List.append_nil _).symm⟩
  refine ⟨⟨I.len, I.ownb, fun b q => ⟨let ⟨o, e⟩ := (I.lt b q).1; ⟨o, hs b o (fun z => q (z ▸ ha)) e⟩, (I.lt b q).2⟩, fun l o b e q => ?_, fun b o e => hs b o (fun q => by rw [q, hb] at e; cases e) (I.base b o e), I.st, I.hi⟩, x, hg, hos⟩
  exact (I.obj l o b e q).mono x fx (I.ownb l b q) fun c r f e' => hs c r (fun z => by rw [z, ha] at f; cases f) e'

theorem VR.leX {X : Addr → Prop} {av : AV} {v : Value} (r : W.V T av v) (x : Le X W W') (fx : FrX X W.own W.h) : W'.V T av v := VR.ext x.ext fx r

theorem getElem?_set_ne' {vs : Vs} {i j : Nat} (h : i ≠ j) (v : Option AV) : (vs.set i v)[j]? = vs[j]? := by simp [List.getElem?_set, h]

theorem does_store (F : Fs T W env sl vs) (I : Inv T W) {i : Nat} {x : Str} {av : AV} {v : Value} (hi : (i, x) ∈ sl) (r : W.V T av v) {Q : Unit → Shared → Prop} {E : Value → Shared → Prop}
    (h : ∀ W', Inv T W' → Le (frX env) W W' → W'.σ = W.σ → Fs T W' env sl (vs.set i (some av)) → Q () W'.s) : wpAny T.M A (storeName env x v) Q E W.s := by
  have fx := F.frX
  rcases F.kinds i x hi with hk | hk
  · obtain ⟨m, hm⟩ := F.ns
    refine wpAny_storeName_local hk hm (fun h' hn hs => ?_) (by rw [F.fm.kind]; rfl)
    obtain ⟨o', z⟩ := ns_at hn
    obtain ⟨I', l'⟩ := I.touch (X := Mine.frX env) (s' := { W.s with heap := h', toks := W.s.toks + 1 }) F.ownL F.baseL (.inl rfl) fx (fun b o n e => (hs.2 b n).trans e) rfl rfl
    refine h { W with s := { W.s with heap := h', toks := W.s.toks + 1 } } I' l' rfl ⟨⟨F.fm.kind, F.fm.glob, F.fm.bi, F.fm.cells, fun j y hj aw e => ?_⟩, ⟨_, hn⟩, F.ownL, F.baseL, F.kinds, fun y c e => ?_, F.cinj, F.inj, F.inj2, fun j y hj => by simpa using F.len j y hj⟩
    · by_cases q : i = j
      · subst q
        have := F.inj2 i x y hi hj
        subst this
        rw [List.getElem?_set_self (F.len i x hi)] at e
        cases e
        exact ⟨v, r.leX l' fx, .inl ⟨hk, F.ownL, _, hn, by simp⟩⟩
      · rw [getElem?_set_ne' q] at e
        obtain ⟨w, rw', d⟩ := F.fm.rd j y hj aw e
        refine ⟨w, rw'.leX l' fx, ?_⟩
        rcases d with ⟨k, f, m', n', e'⟩ | ⟨k, c, e', f, n'⟩
        · refine .inl ⟨k, f, _, hn, ?_⟩
          have hxy : y ≠ x := fun z => q (F.inj i j x hi (z ▸ hj))
          simp only [if_neg hxy]
          rw [← e']
          obtain ⟨o1, es1, ep1, g1, g2, g3, g4⟩ := hm
          obtain ⟨o2, es2, ep2, k1, k2, k3, k4⟩ := n'
          rw [g1] at k1; cases k1
          rw [g2] at k2; cases k2
          rw [← g4, ← k4]
        · obtain ⟨_, _, g3, _⟩ := F.cell y c e'
          exact .inr ⟨k, c, e', f, cell_ko n' fun o ho => (hs.2 c g3).trans ho⟩
    · obtain ⟨g1, g2, g3, w, g4⟩ := F.cell y c e
      exact ⟨g1, g2, g3, w, cell_ko g4 fun o ho => (hs.2 c g3).trans ho⟩
  · obtain ⟨c, hc⟩ := F.fm.cells x hk
    obtain ⟨g1, g2, g3, w, g4⟩ := F.cell x c hc
    refine wpAny_storeName_cell F.fm.kind hk hc g4 (fun h' hn hs => ?_)
    obtain ⟨o', z⟩ := cell_at hn
    obtain ⟨I', l'⟩ := I.touch (X := Mine.frX env) (s' := { W.s with heap := h' }) g1 g2 (.inr ⟨x, hc⟩) fx (fun b o n e => (hs.2 b n).trans e) rfl rfl
    have hL : ∀ {m : Str → Option Value}, W.h.Ns env.locals m → h'.Ns env.locals m := fun n => ns_ko n fun o ho => (hs.2 _ g3.symm).trans ho
    refine h { W with s := { W.s with heap := h' } } I' l' rfl ⟨⟨F.fm.kind, F.fm.glob, F.fm.bi, F.fm.cells, fun j y hj aw e => ?_⟩, let ⟨m, n⟩ := F.ns; ⟨m, hL n⟩, F.ownL, F.baseL, F.kinds, fun y d e => ?_, F.cinj, F.inj, F.inj2, fun j y hj => by simpa using F.len j y hj⟩
    · by_cases q : i = j
      · subst q
        have := F.inj2 i x y hi hj
        subst this
        rw [List.getElem?_set_self (F.len i x hi)] at e
        cases e
        exact ⟨v, r.leX l' fx, .inr ⟨hk, c, hc, g1, hn⟩⟩
      · rw [getElem?_set_ne' q] at e
        obtain ⟨w, rw', d⟩ := F.fm.rd j y hj aw e
        refine ⟨w, rw'.leX l' fx, ?_⟩
        rcases d with ⟨k, f, m', n', e'⟩ | ⟨k, d, e', f, n'⟩
        · exact .inl ⟨k, f, m', hL n', e'⟩
        · have hxy : y ≠ x := fun z => q (F.inj i j x hi (z ▸ hj))
          have hdc : d ≠ c := fun z => hxy (F.cinj y x c (z ▸ e') hc)
          exact .inr ⟨k, d, e', f, cell_ko n' fun o ho => (hs.2 d hdc).trans ho⟩
    · obtain ⟨k1, k2, k3, w', k4⟩ := F.cell y d e
      by_cases z : d = c
      · subst z; exact ⟨k1, k2, k3, _, hn⟩
      · exact ⟨k1, k2, k3, w', cell_ko k4 fun o ho => (hs.2 d z).trans ho⟩
end
end Mine

/-! Soundness, part 14: tests (typed by hand). -/
set_option Elab.async false
namespace Mine
open PySem PySem.SeqAt PySem.Spec PySem.W PySem.Calls

/-- the truth of what an expression gives -/
noncomputable def evT (C : Cx) (m : ME) (h : Hp) (vs : Vs) : Out Bool := (ev C m h vs).bind fun v h => match truth h v with
  | some b => .ok b h
  | Option.none => .fail

noncomputable abbrev BW : Wd → Bool → Bool → Prop := fun _ a b => a = b

section
variable {T : Tp} {G : Gl} {N : Nm} {n : Nat} {C : Cx}

/-- is it None; is it True -/
noncomputable def isNA : AV → Bool
  | .none => true
  | _ => false
noncomputable def isTA : AV → Bool
  | .bool true => true
  | _ => false
theorem does_is_none {A : Around} {W : Wd} {x : AV} {v : Value} (r : W.V T x v) {Q : Value → Shared → Prop} {E : Value → Shared → Prop} (q : Q (.bool (isNA x)) W.s) : wpAny T.M A (compareOp .Is v .none) Q E W.s := by
  cases r <;> exact wpAny_is_plain rfl q
theorem does_is_true {A : Around} {W : Wd} {x : AV} {v : Value} (r : W.V T x v) {Q : Value → Shared → Prop} {E : Value → Shared → Prop} (q : Q (.bool (isTA x)) W.s) : wpAny T.M A (compareOp .Is v (.bool true)) Q E W.s := by
  cases r with
  | bool b => cases b <;> exact wpAny_is_plain rfl q
  | _ => exact wpAny_is_plain rfl q
theorem ev_isNone (e : ME) (h : Hp) (vs : Vs) : ev C (.isNone e) h vs = (ev C e h vs).bind fun x h => .ok (.bool (isNA x)) h := by
  show (ev C e h vs).bind _ = _; congr 1; funext x h; cases x <;> rfl
theorem ev_isTrue (e : ME) (h : Hp) (vs : Vs) : ev C (.isTrue e) h vs = (ev C e h vs).bind fun x h => .ok (.bool (isTA x)) h := by
  show (ev C e h vs).bind _ = _; congr 1; funext x h; cases x <;> first | rfl | (rename_i b; cases b <;> rfl)
theorem evT_bool {x : Out AV} (f : AV → Bool) : ((x.bind fun v h => .ok (.bool (f v)) h).bind fun v h => match truth h v with | some b => .ok b h | Option.none => .fail : Out Bool) = x.bind fun v h => .ok (f v) h := by
  cases x <;> rfl

noncomputable def ST (T : Tp) (G : Gl) (N : Nm) (n : Nat) (C : Cx) (m : ME) : Prop :=
  ∀ (p : Nat) (sl : List (Nat × Str)) (A : Around) (W : Wd) (env : Env) (vs : Vs), okE G N env.scope sl m = true → AOk n A → Fm T W env sl vs → Inv T W → evT C m W.σ vs ≠ .fail →
    Does T A noX W (isTrue (embE N m p).1 env (eval (embE N m p).1 env)) (evT C m W.σ vs) BW

theorem does_value_test {A : Around} {W : Wd} {env : Env} {e : Expr} {x : Out AV} (h : Does T A noX W (eval e env) x (VW T)) (hn : (x.bind fun v h => match truth h v with | some b => .ok b h | Option.none => .fail : Out Bool) ≠ .fail)
    (he : isTrue e env (eval e env) = (do let v ← eval e env; standAt e.pos; holding [v] (truthy v))) :
    Does T A noX W (isTrue e env (eval e env)) (x.bind fun v h => match truth h v with | some b => .ok b h | Option.none => .fail) BW := by
  obtain ⟨n1, n2⟩ := Out.bind_ok hn
  refine wpAny_isTrue_value (h.cps (fun v W' val e1 I' l' r => ?_)) he
  have n3 := n2 v W'.σ e1
  refine does_truthD (α := Bool) (g := fun b h => .ok b h) I' r n3 fun b W'' I'' l'' es q => ?_
  exact ⟨b, W'', rfl, by rw [e1]; simp only [Out.bind, q, es], I'', l'.trans l'', rfl⟩

noncomputable def evBT (C : Cx) (op : BoolOp) (ms : List ME) (h : Hp) (vs : Vs) : Out Bool := (evB C op ms h vs).bind fun v h => match truth h v with
  | some b => .ok b h
  | Option.none => .fail
theorem evBT_cons (op : BoolOp) (e : ME) (m : ME) (ms : List ME) (h : Hp) (vs : Vs) : evBT C op (e :: m :: ms) h vs = (evT C e h vs).bind fun b h => match stops op b with | true => .ok b h | false => evBT C op (m :: ms) h vs := by
  unfold evBT evT
  rw [evB_cons]
  cases ev C e h vs with
  | ok v k =>
    simp only [Out.bind]
    cases q : truth k v with
    | none => rfl
    | some b =>
      cases z : stops op b with
      | true => simp only [q, z]
      | false => simp only [z]
  | fail => rfl

theorem all_step {op : BoolOp} {A : Around} {W : Wd} {env : Env} {e : Expr} {es : List Expr} {x r : Out Bool} (D : Does T A noX W (isTrue e env (eval e env)) x BW)
    (k : ∀ b W', x = .ok b W'.σ → Inv T W' → Le noX W W' → (stops op b = true → PostE T noX W r BW b W'.s) ∧ (stops op b = false → wpAny T.M A (allTrue op es env) (PostE T noX W r BW) (fun _ _ => False) W'.s)) : Does T A noX W (allTrue op (e :: es) env) r BW := by
  cases op with
  | And =>
    refine wpAny_allTrue_And_cons (D.cps (fun b W' b' e1 I' l' r => ?_))
    cases r
    cases b with
    | true => exact (k true W' e1 I' l').2 rfl
    | false => exact (k false W' e1 I' l').1 rfl
  | Or =>
    refine wpAny_allTrue_Or_cons (D.cps (fun b W' b' e1 I' l' r => ?_))
    cases r
    cases b with
    | true => exact (k true W' e1 I' l').1 rfl
    | false => exact (k false W' e1 I' l').2 rfl
theorem does_all (op : BoolOp) : ∀ (ms : List ME), (∀ m ∈ ms, ST T G N n C m) → ∀ (p : Nat) (sl : List (Nat × Str)) (A : Around) (W : Wd) (env : Env) (vs : Vs), okEs G N env.scope sl ms = true → AOk n A → Fm T W env sl vs → Inv T W →
    evBT C op ms W.σ vs ≠ .fail → Does T A noX W (allTrue op (embEs N ms p).1 env) (evBT C op ms W.σ vs) BW
  | [], _, _, _, _, _, _, _, _, _, _, _, hn => absurd (by cases op <;> rfl) hn
  | [m], ih, p, sl, A, W, env, vs, h, a, F, I, hn => by
    have e0 : evBT C op [m] W.σ vs = evT C m W.σ vs := by unfold evBT; rw [evB_one]; rfl
    rw [e0] at hn ⊢
    refine all_step (ih m (List.mem_cons_self ..) p sl A W env vs (okEs_cons h).1 a F I hn) fun b W' e1 I' l' => ⟨fun _ => ⟨b, W', rfl, e1, I', l', rfl⟩, fun z => ?_⟩
    cases op with
    | And => cases b with
      | true => exact wpAny_allTrue_And_nil ⟨true, W', rfl, e1, I', l', rfl⟩
      | false => cases z
    | Or => cases b with
      | false => exact wpAny_allTrue_Or_nil ⟨false, W', rfl, e1, I', l', rfl⟩
      | true => cases z
  | m :: m' :: ms, ih, p, sl, A, W, env, vs, h, a, F, I, hn => by
    have ih' := does_all op (m' :: ms) (fun q hq => ih q (List.mem_cons_of_mem _ hq))
    rw [evBT_cons] at hn ⊢
    obtain ⟨n1, n2⟩ := Out.bind_ok hn
    refine all_step (ih m (List.mem_cons_self ..) p sl A W env vs (okEs_cons h).1 a F I n1) fun b W' e1 I' l' => ⟨fun z => ⟨b, W', rfl, by rw [e1]; simp only [Out.bind, z], I', l', rfl⟩, fun z => ?_⟩
    have n3 := n2 b W'.σ e1
    simp only [z] at n3
    exact (ih' _ sl A W' env vs (okEs_cons h).2 a (F.le l') I' n3).up l' (by rw [e1]; simp only [Out.bind, z])

/-! ### longer chains -/
noncomputable def evL (C : Cx) : List (COp × ME) → AV → Hp → Vs → Out Bool
  | [], _, _, _ => .fail
  | p :: r, x, h, vs => (ev C p.2 h vs).bind fun y h => match cmpA p.1 x y h with
    | some b => if b && !r.isEmpty then evL C r y h vs else .ok b h
    | Option.none => .fail
theorem ev_chain (l : ME) (op : COp) (m : ME) (op' : COp) (r : ME) (h : Hp) (vs : Vs) : ev C (.chain l op m op' r) h vs = ((ev C l h vs).bind fun x h => evL C [(op, m), (op', r)] x h vs).bind fun b h => .ok (.bool b) h := by
  rw [ev_q12]
  cases ev C l h vs with
  | fail => rfl
  | ok x k =>
    simp only [Out.bind, evL]
    cases ev C m k vs with
    | fail => rfl
    | ok y k =>
      simp only
      cases cmpA op x y k with
      | none => rfl
      | some b =>
        cases b with
        | false => rfl
        | true =>
          simp only [List.isEmpty_cons, Bool.not_false, Bool.and_self, if_true]
          cases ev C r k vs with
          | fail => rfl
          | ok z k => simp only; cases cmpA op' y z k with
            | none => rfl
            | some b => cases b <;> rfl
theorem ev_chain3 (l : ME) (op : COp) (m : ME) (op' : COp) (r : ME) (op'' : COp) (q : ME) (h : Hp) (vs : Vs) : ev C (.chain3 l op m op' r op'' q) h vs = ((ev C l h vs).bind fun x h => evL C [(op, m), (op', r), (op'', q)] x h vs).bind fun b h => .ok (.bool b) h := by
  rw [ev_q29]
  cases ev C l h vs with
  | fail => rfl
  | ok x k =>
    simp only [Out.bind, evL]
    cases ev C m k vs with
    | fail => rfl
    | ok y k =>
      simp only
      cases cmpA op x y k with
      | none => rfl
      | some b =>
        cases b with
        | false => rfl
        | true =>
          simp only [List.isEmpty_cons, Bool.not_false, Bool.and_self, if_true]
          cases ev C r k vs with
          | fail => rfl
          | ok z k =>
            simp only
            cases cmpA op' y z k with
            | none => rfl
            | some b =>
              cases b with
              | false => rfl
              | true =>
                simp only [if_true]
                cases ev C q k vs with
                | fail => rfl
                | ok u k => simp only; cases cmpA op'' z u k with
                  | none => rfl
                  | some b => cases b <;> rfl
theorem does_link {A : Around} {W : Wd} {env : Env} {sl : List (Nat × Str)} {vs : Vs} {q : COp × ME} {p : Nat} (iq : SE T G N n C q.2) (hq : okE G N env.scope sl q.2 = true) (a : AOk n A) (F : Fm T W env sl vs) (I : Inv T W) {x : AV} {vx : Value} (rx : W.V T x vx)
    {g : Bool → AV → Hp → Out Bool} (hn : ((ev C q.2 W.σ vs).bind fun y h => match cmpA q.1 x y h with | some b => g b y h | Option.none => .fail) ≠ .fail) {E : Value → Shared → Prop} {K : Value → Value → Shared → Prop}
    (k : ∀ (y : AV) (vy : Value) (b : Bool) (W3 : Wd), Inv T W3 → Le noX W W3 → W3.V T y vy → (((ev C q.2 W.σ vs).bind fun y h => match cmpA q.1 x y h with | some b => g b y h | Option.none => .fail) = g b y W3.σ) → K vy (.bool b) W3.s) :
    wpAny T.M A (eval (embE N q.2 p).1 env) (fun b s₁ => wpAny T.M A (compareOp (cmpM q.1) vx b) (K b) E s₁) E W.s := by
  have hu : A.units + 65 < cLine := by have := a.units; omega
  obtain ⟨m1, m2⟩ := Out.bind_ok hn
  refine (iq p sl A W env vs hq a F I m1).cps fun y W2 vy e2 I2 l2 ry => ?_
  have n4 := m2 y W2.σ e2
  cases z : cmpA q.1 x y W2.σ with
  | none => rw [z] at n4; exact absurd rfl n4
  | some b => exact does_cmpA I2 (rx.le l2) ry hu z _ _ fun t => k y vy b { W2 with s := { W2.s with toks := t } } (I2.toks t).1 (l2.trans (I2.toks t).2) (ry.le (I2.toks t).2) (by rw [e2]; simp only [Out.bind, z])
theorem does_links {A : Around} {env : Env} {sl : List (Nat × Str)} {vs : Vs} (pos : Pos) (a : AOk n A) : ∀ (ps : List (COp × ME)), (∀ q ∈ ps, SE T G N n C q.2) → ∀ (p : Nat) (W : Wd) (x : AV) (vx : Value), okEs G N env.scope sl (ps.map (·.2)) = true → Fm T W env sl vs → Inv T W → W.V T x vx → evL C ps x W.σ vs ≠ .fail →
    Does T A noX W (compareChain pos vx (ps.map fun q => cmpM q.1) (evalEach (embEs N (ps.map (·.2)) p).1 env)) (evL C ps x W.σ vs) (fun _ b v => v = .bool b) ∧
    Does T A noX W (testChain pos vx (ps.map fun q => cmpM q.1) (evalEach (embEs N (ps.map (·.2)) p).1 env)) (evL C ps x W.σ vs) BW
  | [], _, _, _, _, _, _, _, _, _, hn => absurd rfl hn
  | [q], ih, p, W, x, vx, h, F, I, rx, hn => by
    have hq := (okEs_cons h).1
    have e0 : ∀ b y k, (if (b && !([] : List (COp × ME)).isEmpty) = true then evL C [] y k vs else .ok b k) = Out.ok b k := fun b y k => by cases b <;> rfl
    refine ⟨PyProof.Rows.chain_last (does_link (g := fun b y h => if (b && !([] : List (COp × ME)).isEmpty) = true then evL C [] y h vs else .ok b h) (ih q (List.mem_cons_self ..)) hq a F I rx hn fun y vy b W3 I3 l3 ry e => ⟨b, W3, rfl, e.trans (e0 b y _), I3, l3, rfl⟩),
      PyProof.Rows.test_last (does_link (g := fun b y h => if (b && !([] : List (COp × ME)).isEmpty) = true then evL C [] y h vs else .ok b h) (ih q (List.mem_cons_self ..)) hq a F I rx hn fun y vy b W3 I3 l3 ry e => wpAny_truthy_bool ⟨b, W3, rfl, e.trans (e0 b y _), I3, l3, rfl⟩)⟩
  | q :: q' :: r, ih, p, W, x, vx, h, F, I, rx, hn => by
    have hq := okEs_cons h
    have more := does_links (env := env) (sl := sl) (vs := vs) pos a (q' :: r) (fun m hm => ih m (List.mem_cons_of_mem _ hm)) (embE N q.2 p).2
    have e1 : ∀ y k, (if (true && !(q' :: r).isEmpty) = true then evL C (q' :: r) y k vs else .ok true k) = evL C (q' :: r) y k vs := fun _ _ => rfl
    refine ⟨PyProof.Rows.chain_link (does_link (g := fun b y h => if (b && !(q' :: r).isEmpty) = true then evL C (q' :: r) y h vs else .ok b h) (ih q (List.mem_cons_self ..)) hq.1 a F I rx hn fun y vy b W3 I3 l3 ry e => wpAny_truthy_bool ?_),
      PyProof.Rows.test_link (does_link (g := fun b y h => if (b && !(q' :: r).isEmpty) = true then evL C (q' :: r) y h vs else .ok b h) (ih q (List.mem_cons_self ..)) hq.1 a F I rx hn fun y vy b W3 I3 l3 ry e => wpAny_truthy_bool ?_)⟩
    · cases b with
      | true =>
        have e : evL C (q :: q' :: r) x W.σ vs = evL C (q' :: r) y W3.σ vs := e
        rw [e] at hn ⊢
        exact ((more W3 y vy hq.2 (F.le l3) I3 ry hn).1).up l3 rfl
      | false => exact ⟨false, W3, rfl, e, I3, l3, rfl⟩
    · cases b with
      | true =>
        have e : evL C (q :: q' :: r) x W.σ vs = evL C (q' :: r) y W3.σ vs := e
        rw [e] at hn ⊢
        exact ((more W3 y vy hq.2 (F.le l3) I3 ry hn).2).up l3 rfl
      | false => exact ⟨false, W3, rfl, e, I3, l3, rfl⟩
theorem okEs3 {sc : Scope} {sl : List (Nat × Str)} {m r q : ME} (h1 : okE G N sc sl m = true) (h2 : okE G N sc sl r = true) (h3 : okE G N sc sl q = true) : okEs G N sc sl [m, r, q] = true := by
  show (okE G N sc sl m && (okE G N sc sl r && (okE G N sc sl q && true))) = true
  rw [h1, h2, h3]; rfl
theorem does_chains {A : Around} {W : Wd} {env : Env} {sl : List (Nat × Str)} {vs : Vs} {l : ME} {q q' : COp × ME} {r : List (COp × ME)} {p : Nat} {pos : Pos} (il : SE T G N n C l) (ih : ∀ z ∈ q :: q' :: r, SE T G N n C z.2) (hl : okE G N env.scope sl l = true) (hs : okEs G N env.scope sl ((q :: q' :: r).map (·.2)) = true)
    (mk : lastMarks ((q :: q' :: r).map fun q => cmpM q.1) (embEs N ((q :: q' :: r).map (·.2)) (embE N l p).2).1 = false)
    (a : AOk n A) (F : Fm T W env sl vs) (I : Inv T W) (hn : ((ev C l W.σ vs).bind fun x h => evL C (q :: q' :: r) x h vs) ≠ .fail) :
    Does T A noX W (eval (.Compare (embE N l p).1 ((q :: q' :: r).map fun q => cmpM q.1) (embEs N ((q :: q' :: r).map (·.2)) (embE N l p).2).1 pos) env) ((ev C l W.σ vs).bind fun x h => evL C (q :: q' :: r) x h vs) (fun _ b v => v = .bool b) ∧
    ∀ whole, Does T A noX W (isTrue (.Compare (embE N l p).1 ((q :: q' :: r).map fun q => cmpM q.1) (embEs N ((q :: q' :: r).map (·.2)) (embE N l p).2).1 pos) env whole) ((ev C l W.σ vs).bind fun x h => evL C (q :: q' :: r) x h vs) BW := by
  obtain ⟨n1, n2⟩ := Out.bind_ok hn
  have D1 := il p sl A W env vs hl a F I n1
  refine ⟨PyProof.Rows.Compare_chain (D1.cps fun x W1 vx e1 I1 l1 rx => ?_) mk, fun whole => PyProof.Rows.isTrue_chain (D1.cps fun x W1 vx e1 I1 l1 rx => ?_) mk⟩
  · exact ((does_links pos a _ ih (embE N l p).2 W1 x vx hs (F.le l1) I1 rx (n2 x W1.σ e1)).1).up l1 (by rw [e1]; rfl)
  · exact ((does_links pos a _ ih (embE N l p).2 W1 x vx hs (F.le l1) I1 rx (n2 x W1.σ e1)).2).up l1 (by rw [e1]; rfl)
theorem se2 {a b : COp × ME} (h1 : SE T G N n C a.2) (h2 : SE T G N n C b.2) : ∀ z ∈ [a, b], SE T G N n C z.2 := fun z hz => by
  rcases List.mem_cons.mp hz with rfl | hz
  · exact h1
  · rw [List.mem_singleton.mp hz]; exact h2
theorem se3 {a b c : COp × ME} (h1 : SE T G N n C a.2) (h2 : SE T G N n C b.2) (h3 : SE T G N n C c.2) : ∀ z ∈ [a, b, c], SE T G N n C z.2 := fun z hz => by
  rcases List.mem_cons.mp hz with rfl | hz
  · exact h1
  · exact se2 h2 h3 z hz
theorem okEs2 {sc : Scope} {sl : List (Nat × Str)} {m r : ME} (h1 : okE G N sc sl m = true) (h2 : okE G N sc sl r = true) : okEs G N sc sl [m, r] = true := by
  show (okE G N sc sl m && (okE G N sc sl r && true)) = true
  rw [h1, h2]; rfl

/-- an expression whose test is its value's -/
noncomputable def valM : ME → Bool
  | .not _ => false
  | .and _ => false
  | .or _ => false
  | .isNone _ => false
  | .isTrue _ => false
  | .cmp _ _ _ => false
  | .chain _ _ _ _ _ => false
  | .chain3 _ _ _ _ _ _ _ => false
  | _ => true
theorem valM_test {m : ME} {p : Nat} {env : Env} (h : valM m = true) : isTrue (embE N m p).1 env (eval (embE N m p).1 env) = (do let v ← eval (embE N m p).1 env; standAt (embE N m p).1.pos; holding [v] (truthy v)) := by
  cases m <;> first | rfl | cases h

theorem sound_t_aux (k : Nat) (hs : ∀ m : ME, sizeOf m < k + 1 → SE T G N n C m) (ih : ∀ m : ME, sizeOf m < k → ST T G N n C m) (m : ME) (hk : sizeOf m < k + 1) : ST T G N n C m := by
  intro p sl A W env vs hm a F I hn
  have hu : A.units + 65 < cLine := by have := a.units; lia  
  have val : valM m = true → Does T A noX W (isTrue (embE N m p).1 env (eval (embE N m p).1 env)) (evT C m W.σ vs) BW := fun hv => does_value_test (hs m hk p sl A W env vs hm a F I (Out.bind_ok hn).1) hn (valM_test hv)
  cases m with
  | not e0 =>
    have eq : evT C (.not e0) W.σ vs = (evT C e0 W.σ vs).bind fun b h => .ok (!b) h := by
      show ((ev C e0 W.σ vs).bind _).bind _ = ((ev C e0 W.σ vs).bind _).bind _
      cases ev C e0 W.σ vs with
      | ok v k => simp only [Out.bind]; cases truth k v <;> rfl
      | fail => rfl
    rw [eq] at hn ⊢
    obtain ⟨n1, n2⟩ := Out.bind_ok hn
    refine wpAny_isTrue_Not ((ih e0 (by simp at hk; lia  ) _ sl A W env vs hm a F I n1).cps fun b W' b' e1 I' l' r => ?_)
    cases r
    exact ⟨!b, W', rfl, by rw [e1]; rfl, I', l', rfl⟩
  | and es => exact wpAny_isTrue_BoolOp (does_all .And es (fun m' hm' => ih m' (by have := List.sizeOf_lt_of_mem hm'; simp at hk; lia  )) _ sl A W env vs hm a F I hn)
  | or es => exact wpAny_isTrue_BoolOp (does_all .Or es (fun m' hm' => ih m' (by have := List.sizeOf_lt_of_mem hm'; simp at hk; lia  )) _ sl A W env vs hm a F I hn)
  | isNone e0 =>
    have eq : evT C (.isNone e0) W.σ vs = (ev C e0 W.σ vs).bind fun v h => .ok (isNA v) h := by unfold evT; rw [ev_isNone]; exact evT_bool isNA
    rw [eq] at hn ⊢
    obtain ⟨n1, n2⟩ := Out.bind_ok hn
    refine wpAny_isTrue_Compare1 ((hs e0 (by simp at hk; omega) _ sl A W env vs hm a F I n1).cps fun x W' vx e1 I' l' rx => ?_) rfl
    exact wpAny_Constant_none (does_is_none rx (wpAny_truthy_bool ⟨isNA x, W', rfl, by rw [e1]; rfl, I', l', rfl⟩))
  | isTrue e0 =>
    have eq : evT C (.isTrue e0) W.σ vs = (ev C e0 W.σ vs).bind fun v h => .ok (isTA v) h := by unfold evT; rw [ev_isTrue]; exact evT_bool isTA
    rw [eq] at hn ⊢
    obtain ⟨n1, n2⟩ := Out.bind_ok hn
    refine wpAny_isTrue_Compare1 ((hs e0 (by simp at hk; omega) _ sl A W env vs hm a F I n1).cps fun x W' vx e1 I' l' rx => ?_) rfl
    exact wpAny_Constant_bool (does_is_true rx (wpAny_truthy_bool ⟨isTA x, W', rfl, by rw [e1]; rfl, I', l', rfl⟩))
  | cmp l op r =>
    obtain ⟨h2, h3⟩ := Bool.and_eq_true_iff.mp hm
    have eq : evT C (.cmp l op r) W.σ vs = (ev C l W.σ vs).bind fun x h => (ev C r h vs).bind fun y h => match cmpA op x y h with | some b => .ok b h | Option.none => .fail := by
      show ((ev C l W.σ vs).bind _).bind _ = _
      cases ev C l W.σ vs with
      | ok v k =>
        simp only [Out.bind]
        cases ev C r k vs with
        | ok w k' => simp only; cases cmpA op v w k' <;> rfl
        | fail => rfl
      | fail => rfl
    rw [eq] at hn ⊢
    obtain ⟨n1, n2⟩ := Out.bind_ok hn
    refine wpAny_isTrue_Compare1 ((hs l (by simp at hk; lia  ) _ sl A W env vs h2 a F I n1).cps fun x W' vx e1 I' l' rx => ?_) (marks_of _ (notSet_emb r _))
    obtain ⟨m1, m2⟩ := Out.bind_ok (n2 x W'.σ e1)
    refine (hs r (by simp at hk; lia  ) _ sl A W' env vs h3 a (F.le l') I' m1).cps fun y W'' vy e2 I'' l'' ry => ?_
    have n4 := m2 y W''.σ e2
    cases q : cmpA op x y W''.σ with
    | none => rw [q] at n4; exact absurd rfl n4
    | some b =>
      refine does_cmpA I'' (rx.le l'') ry hu q _ _ fun k => wpAny_truthy_bool ?_
      have g := I''.toks k
      exact ⟨b, { W'' with s := { W''.s with toks := k } }, rfl, by rw [e1]; show (ev C r W'.σ vs).bind _ = _; rw [e2]; simp only [Out.bind, q], g.1, (l'.trans l'').trans g.2, rfl⟩
  | chain l op m op' r =>
    have hm := and3 hm
    have eq : evT C (.chain l op m op' r) W.σ vs = (ev C l W.σ vs).bind fun x h => evL C [(op, m), (op', r)] x h vs := by
      unfold evT; rw [ev_chain]
      cases (ev C l W.σ vs).bind fun x h => evL C [(op, m), (op', r)] x h vs <;> rfl
    rw [eq] at hn ⊢
    exact (does_chains (q := (op, m)) (q' := (op', r)) (r := []) (hs l (by simp at hk; omega)) (se2 (hs m (by simp at hk; omega)) (hs r (by simp at hk; omega))) hm.1.1 (okEs2 hm.1.2 hm.2) (marks_of (cmpM op') (notSet_emb r _)) a F I hn).2 _
  | chain3 l op m op' r op'' q =>
    have hm := and4 hm
    have eq : evT C (.chain3 l op m op' r op'' q) W.σ vs = (ev C l W.σ vs).bind fun x h => evL C [(op, m), (op', r), (op'', q)] x h vs := by
      unfold evT; rw [ev_chain3]
      cases (ev C l W.σ vs).bind fun x h => evL C [(op, m), (op', r), (op'', q)] x h vs <;> rfl
    rw [eq] at hn ⊢
    exact (does_chains (q := (op, m)) (q' := (op', r)) (r := [(op'', q)]) (hs l (by simp at hk; omega)) (se3 (hs m (by simp at hk; omega)) (hs r (by simp at hk; omega)) (hs q (by simp at hk; omega))) hm.1.1.1 (okEs3 hm.1.1.2 hm.1.2 hm.2) (marks_of (cmpM op'') (notSet_emb q _)) a F I hn).2 _
  | _ => exact val rfl

theorem tests_of (k : Nat) (hs : ∀ m : ME, sizeOf m < k → SE T G N n C m) : ∀ m : ME, sizeOf m < k → ST T G N n C m := by
  have h : ∀ j, j ≤ k → ∀ m : ME, sizeOf m < j → ST T G N n C m := fun j => by
    induction j with
    | zero => intro _ m h; lia  
    | succ j ih => exact fun hj m hk => sound_t_aux j (fun m' hm' => hs m' (by lia  )) (fun m' hm' => ih (by lia  ) m' hm') m hk
  exact h k (Nat.le_refl _)
end
end Mine

/-! Soundness, part 15: iterators (typed by hand). -/
set_option Elab.async false
namespace Mine
open PySem PySem.SeqAt PySem.Spec PySem.W PySem.Calls

noncomputable def srcGet : Src → Hp → Option (List AV)
  | .fixed xs, _ => some xs
  | .list l _, h => getL l h
  | .dict l ep n, h => getD l ep n h
noncomputable def srcN : Src → Nat
  | .fixed xs => xs.length
  | .list _ n => n
  | .dict _ _ n => n

theorem iterL_eq {σ ρ : Type} (bad : ρ) (f : AV → σ → It σ ρ) (xs : List AV) : ∀ (k i : Nat) (s : σ), i + k = xs.length → iterL f (xs.drop i) s = iterR (fun _ => some xs) bad f (k + 1) i s := by
  intro k
  induction k with
  | zero =>
    intro i s h
    have : xs.length ≤ i := by lia  
    rw [List.drop_eq_nil_of_le this]
    simp only [iterL, iterR]
    rw [List.getElem?_eq_none this]
  | succ k ih =>
    intro i s h
    have hi : i < xs.length := by lia  
    rw [List.drop_eq_getElem_cons hi]
    rw [iterR]
    simp only [iterL, List.getElem?_eq_getElem hi]
    cases f xs[i] s with
    | go s' => simp only; exact ih (i + 1) s' (by lia  )
    | stop x => rfl

theorem iter_eq {τ ρ : Type} (src : Src) (bad : ρ) (f : AV → Hp × τ → It (Hp × τ) ρ) (s : Hp × τ) : iter src bad f s = iterR (fun st => srcGet src st.1) bad f (srcN src + 1) 0 s := by
  cases src with
  | fixed xs => simp only [iter, srcN]; exact iterL_eq bad f xs xs.length 0 s (by lia  )
  | list l n => rfl
  | dict l ep n => rfl

section
variable {T : Tp} {A : Around} {W W' : Wd}

/-- an iterator over a source, at a place -/
inductive ItAt (T : Tp) (W : Wd) (J : Addr) : Src → Nat → Prop
  | str {s : List Nat} {t : Tok} {i : Nat} : W.h.IsStrIter J "str_ascii_iterator" (tS s) t i → okS s → ItAt T W J (.fixed (s.map fun c => .str [c])) i
  | tup {xs : List AV} {a : Addr} {i : Nat} : W.h.IsTupleIter J a i → W.V T (.tup xs) (.ref a) → ItAt T W J (.fixed xs) i
  | rng {a : Int} {k i : Nat} : IsRangeIter W.h J (a + i) (k - i) 1 → ItAt T W J (.fixed (ups a k)) i
  | list {l k i : Nat} {a : Addr} : W.h.IsListIter J a i → W.bt[l]? = some a → ItAt T W J (.list l k) i
  | dict {l ep k i : Nat} {a : Addr} : W.h.IsKeyIter J a i k ep → W.bt[l]? = some a → ItAt T W J (.dict l ep k) i

structure ItOk (T : Tp) (W : Wd) (J : Addr) (src : Src) (i : Nat) : Prop where
  own : W.own J = .free
  base : T.base.get? J = none
  it : ItAt T W J src i

theorem ItAt.there {J : Addr} {src : Src} {i : Nat} (h : ItAt T W J src i) : ∃ o, W.h.get? J = some o ∧ o.cls ≠ .type "tuple" ∧ o.cls ≠ .type "range" := by
  cases h with
  | str h _ => obtain ⟨o, h1, h2, _⟩ := h; exact ⟨o, h1, by rw [h2]; simp, by rw [h2]; simp⟩
  | tup h _ => obtain ⟨o, h1, h2, _⟩ := h; exact ⟨o, h1, by rw [h2]; simp, by rw [h2]; simp⟩
  | rng h => exact ⟨_, h, by simp, by simp⟩
  | list h _ => obtain ⟨o, h1, h2, _⟩ := h; exact ⟨o, h1, by rw [h2]; simp, by rw [h2]; simp⟩
  | dict h _ => obtain ⟨o, h1, h2, _⟩ := h; exact ⟨o, h1, by rw [h2]; simp, by rw [h2]; simp⟩

theorem ItOk.frX {J : Addr} {src : Src} {i : Nat} (h : ItOk T W J src i) : FrX (fun a => a = J) W.own W.h := fun a q => ⟨q ▸ h.own, fun o e => by
  subst q
  obtain ⟨o', h1, h2⟩ := h.it.there
  rw [e] at h1; cases h1
  exact .inr (.inr h2)⟩

theorem ItOk.leX {X : Addr → Prop} {J : Addr} {src : Src} {i : Nat} (h : ItOk T W J src i) (x : Le X W W') (fx : FrX X W.own W.h) (hJ : ¬ X J) : ItOk T W' J src i := by
  obtain ⟨o, ho, hc⟩ := h.it.there
  have hk : ∀ o, W.h.get? J = some o → W'.h.get? J = some o := fun o e => x.ext.kp J o e h.own hJ
  refine ⟨(x.ext.ow _ _ ho hJ).trans h.own, h.base, ?_⟩
  cases h.it with
  | str q ok => obtain ⟨o', h1, h2⟩ := q; exact .str ⟨o', hk _ h1, h2⟩ ok
  | tup q r => obtain ⟨o', h1, h2⟩ := q; exact .tup ⟨o', hk _ h1, h2⟩ (r.leX x fx)
  | rng q => exact .rng (hk _ q)
  | list q e =>
    obtain ⟨o', h1, h2⟩ := q
    obtain ⟨r, er⟩ := x.ext.bt
    exact .list ⟨o', hk _ h1, h2⟩ (by rw [er, List.getElem?_append_left (List.getElem?_eq_some_iff.mp e).1]; exact e)
  | dict q e =>
    obtain ⟨o', h1, h2⟩ := q
    obtain ⟨r, er⟩ := x.ext.bt
    exact .dict ⟨o', hk _ h1, h2⟩ (by rw [er, List.getElem?_append_left (List.getElem?_eq_some_iff.mp e).1]; exact e)

theorem getD_ok {l ep n : Nat} {σ : Hp} {xs : List AV} (h : getD l ep n σ = some xs) : ∃ es, σ[l]? = some (.dict (some ep) es) ∧ es.length = n ∧ xs = es.map (·.1) := by
  unfold getD at h
  cases e : dct σ[l]? with
  | none => rw [e] at h; cases h
  | some p =>
    rw [e] at h
    simp only at h
    by_cases q : p.1 = some ep ∧ p.2.length = n
    · rw [if_pos q] at h
      cases h
      exact ⟨p.2, by rw [dct_ok e, q.1], q.2, rfl⟩
    · rw [if_neg q] at h; cases h
theorem KV.at {own : Addr → Ow} {bt : List Addr} {h : Heap} {es : List (AV × AV)} {kvs : List ((Str ⊕ Int) × Value)} (r : KV T own bt h es kvs) : ∀ {i : Nat} {p : AV × AV}, es[i]? = some p → ∃ w, kvs[i]? = some (kOf p.1, w) ∧ keyOk p.1 := by
  induction r with
  | nil => intro i p e; cases e
  | cons ok _ _ ih =>
    intro i p e
    cases i with
    | zero => cases e; exact ⟨_, rfl, ok⟩
    | succ i => exact ih e
theorem ups_get (a : Int) : ∀ (k i : Nat), (ups a k)[i]? = if i < k then some (.int (a + i)) else none
  | 0, i => by simp [ups]
  | k + 1, 0 => by simp [ups]
  | k + 1, i + 1 => by
    rw [ups, List.getElem?_cons_succ, ups_get (a + 1) k i]
    by_cases h : i < k
    · rw [if_pos h, if_pos (by lia  )]; congr 2; lia  
    · rw [if_neg h, if_neg (by lia  )]

/-- one address is touched, from the view of the iterator -/
theorem touch_it (I : Inv T W) {J : Addr} {src : Src} {i : Nat} (h : ItOk T W J src i) {h' : Heap} {k : Nat} (hs : ∀ b o, b ≠ J → W.h.get? b = some o → h'.get? b = some o) :
    Inv T { W with s := { W.s with heap := h', toks := k } } ∧ Le (fun a => a = J) W { W with s := { W.s with heap := h', toks := k } } :=
  I.touch (s' := { W.s with heap := h', toks := k }) h.own h.base rfl h.frX hs rfl rfl

theorem does_next_item (I : Inv T W) {J : Addr} {src : Src} {i : Nat} (h : ItOk T W J src i) {xs : List AV} {av : AV} (hx : srcGet src W.σ = some xs) (hi : xs[i]? = some av) {Q : Option Value → Shared → Prop} {E : Value → Shared → Prop}
    (q : ∀ v W', Inv T W' → Le (fun a => a = J) W W' → W'.σ = W.σ → ItOk T W' J src (i + 1) → W'.V T av v → Q (some v) W'.s) : wpAny T.M A (pyNext (.ref J)) Q E W.s := by
  have key : ∀ {h' : Heap} {k : Nat} {v : Value}, Heap.SameBut J W.h h' → ItAt T { W with s := { W.s with heap := h', toks := k } } J src (i + 1) → W.V T av v → Q (some v) { W.s with heap := h', toks := k } := fun hs hit r => by
    obtain ⟨I', l'⟩ := touch_it I h fun b o n e => (hs.2 b n).trans e
    exact q _ _ I' l' rfl ⟨h.own, h.base, hit⟩ (r.leX l' h.frX)
  cases h.it with
  | str hit ok =>
    rename_i s t
    simp only [srcGet, Option.some.injEq] at hx
    subst hx
    rw [List.getElem?_map] at hi
    obtain ⟨c, e1, rfl⟩ := Option.map_eq_some_iff.mp hi
    refine wpAny_pyNext_ascii_item hit (c := c) (by simp [tS, e1]) fun h' hit' hs => ?_
    exact key hs (.str hit' ok) (.str (s := [c]) _ ⟨fun d hd => by simp at hd; subst hd; exact ok.1 _ (List.mem_of_getElem? e1), by simp [lim]⟩)
  | tup hit r =>
    simp only [srcGet, Option.some.injEq] at hx
    subst hx
    cases id r with
    | tup o1 c d f l z itm =>
      rename_i ob ws m
      have hk : i < ws.size := by rw [z]; exact (List.getElem?_eq_some_iff.mp hi).1
      have ev : ws[i]? = some ws[i] := Array.getElem?_eq_getElem hk
      refine wpAny_pyNext_tuple_item hit ⟨_, o1, c, m, d⟩ ev fun h' hit' hs => ?_
      obtain ⟨I', l'⟩ := touch_it (k := W.s.toks) I h fun b o n e => (hs.2 b n).trans e
      exact key hs (.tup hit' (r.leX l' h.frX)) (itm i _ _ hi ev)
  | rng hit =>
    rename_i a k
    simp only [srcGet, Option.some.injEq] at hx
    subst hx
    rw [ups_get] at hi
    split at hi
    · cases hi
      rename_i hik
      refine wpAny_pyNext_range_item hit (by lia  ) fun h' hit' hs => ?_
      refine key hs (.rng ?_) (.int _ _)
      have e1 : a + ((i + 1 : Nat) : Int) = a + i + 1 := by lia  
      have e2 : (k : Int) - ((i + 1 : Nat) : Int) = k - i - 1 := by lia  
      rw [e1, e2]; exact hit'
    · cases hi
  | list hit e =>
    rename_i l k a
    have hσ : W.σ[l]? = some (.list xs) := lst_ok hx
    obtain ⟨_, vs, m, _, h1, h2, h3⟩ := I.listAt hσ (.ref e)
    obtain ⟨v, ev, rv⟩ := vrs_at h2 hi
    refine wpAny_pyNext_list_item hit ⟨_, h1, rfl, m, rfl⟩ ev fun h' hit' hs => ?_
    exact key hs (.list hit' e) rv
  | dict hit e =>
    rename_i l ep k a
    obtain ⟨es, hσ, rfl, hxs⟩ := getD_ok hx
    subst hxs
    rw [List.getElem?_map] at hi
    obtain ⟨p, hp, rfl⟩ := Option.map_eq_some_iff.mp hi
    obtain ⟨_, kvs, n, _, hd, hn, kv, _, _⟩ := I.dict hσ (.ref e)
    obtain rfl := hn ep rfl
    obtain ⟨w, ew, ok⟩ := kv.at hp
    refine wpAny_pyNext_dict_item (by rw [kv.length]; exact hit) hd ew fun key' h' hkey hit' hs => ?_
    exact key (k := W.s.toks) hs (.dict (by rw [← kv.length]; exact hit') e) (vr_key ok hkey)

theorem does_next_end (I : Inv T W) (hh : A.handled = none) {J : Addr} {src : Src} {i : Nat} (h : ItOk T W J src i) {xs : List AV} (hx : srcGet src W.σ = some xs) (hi : xs[i]? = none) {Q : Option Value → Shared → Prop} {E : Value → Shared → Prop}
    (q : ∀ W', Inv T W' → Le (fun a => a = J) W W' → W'.σ = W.σ → Q none W'.s) : wpAny T.M A (pyNext (.ref J)) Q E W.s := by
  have key : ∀ {h' : Heap}, Heap.ExtBut J W.h h' → Q none { W.s with heap := h' } := fun hs => by
    obtain ⟨I', l'⟩ := touch_it (k := W.s.toks) I h fun b o n e => hs b o n e
    exact q _ I' l' rfl
  cases h.it with
  | str hit ok =>
    rename_i s t
    simp only [srcGet, Option.some.injEq] at hx
    subst hx
    rw [List.getElem?_map] at hi
    exact wpAny_pyNext_ascii_end hh hit (by simpa [tS] using hi) fun h' hs => key hs
  | tup hit r =>
    simp only [srcGet, Option.some.injEq] at hx
    subst hx
    cases r with
    | tup o1 c d f l z itm =>
      rename_i ob ws m
      exact wpAny_pyNext_tuple_end hh hit (items := ws) ⟨_, o1, c, m, d⟩ (Array.getElem?_eq_none (by rw [z]; exact List.getElem?_eq_none_iff.mp hi)) fun h' hs => key hs
  | rng hit =>
    rename_i a k
    simp only [srcGet, Option.some.injEq] at hx
    subst hx
    rw [ups_get] at hi
    split at hi
    · cases hi
    · exact wpAny_pyNext_range_end hh hit (by lia  ) fun h' hs => key hs
  | list hit e =>
    rename_i l k a
    have hσ : W.σ[l]? = some (.list xs) := lst_ok hx
    obtain ⟨_, vs, m, _, h1, h2, h3⟩ := I.listAt hσ (.ref e)
    refine wpAny_pyNext_list_end hh hit (items := vs) ⟨_, h1, rfl, m, rfl⟩ ?_ fun h' hs => key hs
    rw [List.getElem?_eq_none_iff] at hi
    exact Array.getElem?_eq_none (by rw [vrs_size h2]; exact hi)
  | dict hit e =>
    rename_i l ep k a
    obtain ⟨es, hσ, rfl, hxs⟩ := getD_ok hx
    subst hxs
    rw [List.getElem?_map, Option.map_eq_none_iff, List.getElem?_eq_none_iff] at hi
    obtain ⟨_, kvs, n, _, hd, hn, kv, _, _⟩ := I.dict hσ (.ref e)
    obtain rfl := hn ep rfl
    exact wpAny_pyNext_dict_end hh (by rw [kv.length]; exact hit) hd (by rw [List.getElem?_eq_none_iff, kv.length]; exact hi) fun h' hs => key hs

theorem does_iter (I : Inv T W) {av : AV} {v : Value} {src : Src} (r : W.V T av v) (e : srcA W.σ av = some src) {Q : Value → Shared → Prop} {E : Value → Shared → Prop}
    (q : ∀ J W', Inv T W' → Le noX W W' → W'.σ = W.σ → W.h.get? J = none → (∀ b o, W.h.get? b = some o → W'.h.get? b = some o) → ItOk T W' J src 0 → Q (.ref J) W'.s) : wpAny T.M A (pyIter v) Q E W.s := by
  have key : ∀ ob : Obj, ob.isFreed = false → ItAt T { W with s := { W.s with heap := W.h.push ob } } W.h.objs.size src 0 → Q (.ref W.h.objs.size) { W.s with heap := W.h.push ob } := fun ob hf hit => by
    have g := I.grow (s' := { W.s with heap := W.h.push ob }) (fun a q e => Heap.get?_push_of_some _ e) rfl rfl
    refine q _ _ g.1 g.2 rfl (get_size _) (fun a q e => Heap.get?_push_of_some _ e) ⟨own_new I (get_size _), ?_, hit⟩
    cases z : T.base.get? W.h.objs.size with
    | none => rfl
    | some o => exact absurd (Heap.lt_size (I.base _ _ z)) (Nat.lt_irrefl _)
  cases id r with
  | str t ok =>
    rename_i s
    cases e
    refine wpAny_pyIter_ascii (by simp only [tS, Array.all_eq_true, decide_eq_true_eq]; intro j hj; have := ok.1 _ (List.getElem_mem (l := s) (by simpa using hj)); simpa using this) ?_
    exact key _ rfl (.str ⟨_, Heap.get?_push_size _ rfl, rfl, rfl⟩ ok)
  | tup o1 c d f l z itm =>
    rename_i m
    cases e
    exact wpAny_pyIter_tuple ⟨_, o1, c, m, d⟩ (key _ rfl (.tup ⟨_, Heap.get?_push_size _ rfl, rfl, rfl⟩ (r.le (I.grow (s' := { W.s with heap := W.h.push _ }) (fun a q e => Heap.get?_push_of_some _ e) rfl rfl).2)))
  | ref hl =>
    rename_i l a
    have e0 : srcA W.σ (.ref l) = match lst W.σ[l]? with | some xs => some (.list l xs.length) | none => (match dct W.σ[l]? with | some p => p.1.map fun ep => .dict l ep p.2.length | none => none) := rfl
    rw [e0] at e
    cases ho : W.σ[l]? with
    | none => rw [ho] at e; cases e
    | some o =>
      rw [ho] at e
      cases o with
      | list xs =>
        cases e
        obtain ⟨_, vs, m, _, h1, h2, h3⟩ := I.listAt ho (.ref hl)
        exact wpAny_pyIter_list ⟨_, h1, rfl, m, rfl⟩ (key _ rfl (.list ⟨_, Heap.get?_push_size _ rfl, rfl, rfl⟩ hl))
      | dict ep es =>
        obtain ⟨ep, e1, rfl⟩ := Option.map_eq_some_iff.mp e
        obtain ⟨_, kvs, n, _, hd, hn, kv, _, hs⟩ := I.dict ho (.ref hl)
        obtain rfl := hn ep e1
        refine wpAny_pyIter_dict hs hd (key _ rfl (.dict ⟨_, Heap.get?_push_size _ rfl, rfl, ?_⟩ hl))
        rw [kv.length]; rfl
      | inst c fs => cases e
  | rng h1 h2 h3 h4 h5 h6 =>
    rename_i x y a t u v'
    cases e
    have hl : (lim : Int) = 16777216 := rfl
    refine wpAny_pyIter_range h1 (small_one (by lia  ) (by lia  ) (by lia  ) (by lia  )) (key _ rfl (.rng ?_))
    have e1 : Builtin.Range.rangeSize x y 1 = (((y - x).toNat : Nat) : Int) := by rw [rangeSize_one]; split <;> lia  
    rw [e1]
    have := Heap.get?_push_size W.h (o := { cls := .type "range_iterator", data := .fields #[rawInt x, rawInt (((y - x).toNat : Nat) : Int), rawInt 1] }) rfl
    simpa using this
  | _ => cases e
end
end Mine

/-! Soundness, part 15b: comprehensions (typed by hand). -/
set_option Elab.async false
namespace Mine
open PySem PySem.SeqAt PySem.Spec PySem.W PySem.Calls

section
variable {T : Tp} {A : Around} {W : Wd}

theorem does_self {J : Addr} {src : Src} {i : Nat} (h : ItOk T W J src i) {Q : Value → Shared → Prop} {E : Value → Shared → Prop} (q : Q (.ref J) W.s) : wpAny T.M A (pyIter (.ref J)) Q E W.s := by
  cases h.it with
  | str hit _ => exact wpAny_pyIter_striter_ascii hit q
  | tup hit _ => exact wpAny_pyIter_tupleiter hit q
  | rng hit => exact wpAny_pyIter_rangeiter hit q
  | list hit _ => exact wpAny_pyIter_listiter hit q
  | dict hit _ => exact wpAny_pyIter_keyiter hit q

/-! ### the closure -/
noncomputable def closL (cells : List (Str × Addr)) : List (Str × NameKind) → List (Str × Addr) → List (Str × Addr)
  | [], acc => acc
  | (n, k) :: r, acc => if k == .free then closL cells r ((n, (cells.lookup n).getD 0) :: acc) else closL cells r acc

theorem closure_eq {scope : Scope} {env : Env} (h : ∀ p ∈ scope.names, p.2 = .free → ∃ c, env.cells.lookup p.1 = some c) : closureFor scope env = pure (closL env.cells scope.names []) := by
  unfold closureFor
  have key : ∀ (names : List (Str × NameKind)) (acc : List (Str × Addr)), (∀ p ∈ names, p.2 = .free → ∃ c, env.cells.lookup p.1 = some c) →
      (forIn names acc fun (x : Str × NameKind) (cs : List (Str × Addr)) => match x with
          | (name, kind) => if (kind == NameKind.free) = true then (do let c ← cellOf env name; pure (ForInStep.yield ((name, c) :: cs)) : Sem (ForInStep (List (Str × Addr)))) else pure (ForInStep.yield cs)) = pure (closL env.cells names acc) := by
    intro names
    induction names with
    | nil => intro acc _; rfl
    | cons p r ih =>
      intro acc hp
      obtain ⟨nm, k⟩ := p
      rw [List.forIn_cons]
      simp only [closL]
      by_cases hk : (k == NameKind.free) = true
      · obtain ⟨c, hc⟩ := hp (nm, k) (by simp) (eq_of_beq hk)
        simp only [hk, if_true]
        have e : cellOf env nm = pure c := by unfold cellOf; rw [hc]
        rw [e, pure_bind, pure_bind]
        simp only
        rw [ih _ fun q hq => hp q (by simp [hq]), hc]
        rfl
      · simp only [hk, if_false, Bool.false_eq_true]
        rw [pure_bind]
        exact ih _ fun q hq => hp q (by simp [hq])
  have e := key scope.names [] h
  show (forIn scope.names [] _ >>= fun cs => pure cs) = _
  rw [bind_pure]
  exact e

theorem closL_get {cells : List (Str × Addr)} {y : Str} {c : Addr} (hc : cells.lookup y = some c) : ∀ (names : List (Str × NameKind)) (acc : List (Str × Addr)), (acc.lookup y = some c ∨ (acc.lookup y = none ∧ (y, NameKind.free) ∈ names)) → (closL cells names acc).lookup y = some c
  | [], acc, h => by
    rcases h with h | ⟨_, h⟩
    · exact h
    · cases h
  | (n, k) :: r, acc, h => by
    simp only [closL]
    by_cases hk : (k == NameKind.free) = true
    · rw [if_pos hk]
      refine closL_get hc r _ ?_
      by_cases hn : (y == n) = true
      · have : y = n := eq_of_beq hn
        subst this
        exact .inl (by simp [hc])
      · have hn' : (y == n) = false := by simpa using hn
        rcases h with h | ⟨h1, h2⟩
        · exact .inl (by rw [List.lookup_cons, hn']; exact h)
        · refine .inr ⟨by rw [List.lookup_cons, hn']; exact h1, ?_⟩
          rcases List.mem_cons.mp h2 with q | q
          · cases q; simp at hn
          · exact q
    · rw [if_neg hk]
      refine closL_get hc r _ ?_
      rcases h with h | ⟨h1, h2⟩
      · exact .inl h
      · refine .inr ⟨h1, ?_⟩
        rcases List.mem_cons.mp h2 with q | q
        · cases q; exact absurd rfl hk
        · exact q
end
end Mine

/-! Soundness, part 15c: comprehensions (typed by hand). -/
set_option Elab.async false
namespace Mine
open PySem PySem.SeqAt PySem.Spec PySem.W PySem.Calls

theorem relabel_eq (sc : Scope) (env : Env) : relabel sc env = relabelS sc env.scope := rfl

theorem relabel_free {sc : Scope} (hf : (sc.kind == ScopeKind.function) = true) : ∀ {names : List (Str × NameKind)} {y : Str}, names.lookup y = some .free → sc.names.lookup y = some .cell →
    (names.map fun (n, k) => if (k == NameKind.free && sc.kind == .function && sc.names.lookup n == some .cell) then (n, NameKind.cell) else (n, k)).lookup y = some .cell
  | [], _, h, _ => by simp at h
  | (n, k) :: r, y, h, hc => by
    have ih := @relabel_free sc hf r y
    show List.lookup y ((if (k == NameKind.free && sc.kind == .function && sc.names.lookup n == some .cell) = true then (n, NameKind.cell) else (n, k)) :: _) = _
    cases hx : y == n with
    | true =>
      simp only [List.lookup_cons, hx] at h
      cases h
      have : y = n := eq_of_beq hx
      subst this
      rw [hf, hc]
      simp
    | false =>
      simp only [List.lookup_cons, hx] at h
      by_cases hq : (k == NameKind.free && sc.kind == .function && sc.names.lookup n == some .cell) = true
      · rw [if_pos hq]; simp only [List.lookup_cons, hx]; exact ih h hc
      · rw [if_neg hq]; simp only [List.lookup_cons, hx]; exact ih h hc
theorem relabel_cell {sc : Scope} : ∀ {names : List (Str × NameKind)} {y : Str}, (∀ p ∈ names, p.2 ≠ .cell) →
    (names.map fun (n, k) => if (k == NameKind.free && sc.kind == .function && sc.names.lookup n == some .cell) then (n, NameKind.cell) else (n, k)).lookup y = some .cell → (y, NameKind.free) ∈ names ∧ sc.names.lookup y = some .cell
  | [], _, _, h => by simp at h
  | (n, k) :: r, y, hc, h => by
    have ih := @relabel_cell sc r y fun p hp => hc p (by simp [hp])
    have h' : List.lookup y ((if (k == NameKind.free && sc.kind == .function && sc.names.lookup n == some .cell) = true then (n, NameKind.cell) else (n, k)) :: (r.map fun (n, k) => if (k == NameKind.free && sc.kind == .function && sc.names.lookup n == some .cell) then (n, NameKind.cell) else (n, k))) = some .cell := h
    by_cases hq : (k == NameKind.free && sc.kind == .function && sc.names.lookup n == some .cell) = true
    · rw [if_pos hq] at h'
      cases hx : y == n with
      | true =>
        have : y = n := eq_of_beq hx
        subst this
        simp only [Bool.and_eq_true, beq_iff_eq] at hq
        exact ⟨by rw [hq.1.1]; simp, hq.2⟩
      | false =>
        simp only [List.lookup_cons, hx] at h'
        exact ⟨by simp [(ih h').1], (ih h').2⟩
    · rw [if_neg hq] at h'
      cases hx : y == n with
      | true =>
        simp only [List.lookup_cons, hx, Option.some.injEq] at h'
        exact absurd h' (hc (n, k) (by simp))
      | false =>
        simp only [List.lookup_cons, hx] at h'
        exact ⟨by simp [(ih h').1], (ih h').2⟩
theorem lookup_mem {names : List (Str × NameKind)} {y : Str} {k : NameKind} (h : names.lookup y = some k) : (y, k) ∈ names := by
  obtain ⟨l1, l2, e, _⟩ := List.lookup_eq_some_iff.mp h
  rw [e]; simp

structure ScOk (sc' sc : Scope) (nm : Str) : Prop where
  kind : sc'.kind = .function
  nm : sc'.names.lookup nm = some .local
  cell : ∀ p ∈ sc'.names, p.2 ≠ .cell
  loc : ∀ p ∈ sc'.names, p.2 = .local → sc'.names.lookup p.1 = some .local
  free : ∀ p ∈ sc'.names, p.2 = .free → sc.names.lookup p.1 = some .cell
theorem scOk_of {sc' sc : Scope} {nm : Str} (h : scOk sc' sc nm = true) : ScOk sc' sc nm := by
  simp only [scOk, Bool.and_eq_true, beq_iff_eq, List.all_eq_true, Bool.or_eq_true, Bool.not_eq_true', beq_eq_false_iff_ne] at h
  obtain ⟨⟨h1, h2⟩, h3⟩ := h
  exact ⟨h1, h2, fun p hp => (h3 p hp).1.1, fun p hp q => (h3 p hp).1.2.resolve_left fun z => z q, fun p hp q => (h3 p hp).2.resolve_left fun z => z q⟩

section
variable {T : Tp} {G : Gl} {N : Nm} {n : Nat} {C : Cx} {A : Around}

theorem Fm.comp {W : Wd} {env : Env} {sl : List (Nat × Str)} {vs : Vs} (F : Fm T W env sl vs) {sc : Scope} {nm : Str} (ok : ScOk sc env.scope nm) {Ca : Addr} (hC : W.own Ca = .free) {m : Str → Option Value} (hns : W.h.Ns Ca m) {v : Value} {av : AV}
    (hm : m nm = some v) (r : W.V T av v) {x : Nat} : Fm T W (compEnvC sc (closL env.cells sc.names []) Ca env) (compSl sc env.scope sl x nm) (vs.set x (some av)) where
  kind := ok.kind
  glob := F.glob
  bi := F.bi
  cells := fun y h => by
    obtain ⟨h1, h2⟩ := relabel_cell (sc := env.scope) ok.cell h
    obtain ⟨c, hc⟩ := F.cells y h2
    exact ⟨c, closL_get hc _ _ (.inr ⟨rfl, h1⟩)⟩
  rd := fun i y hi aw e => by
    rcases List.mem_cons.mp hi with q | q
    · cases q
      by_cases hl : x < vs.length
      · rw [List.getElem?_set_self hl] at e
        cases e
        exact ⟨v, r, .inl ⟨lookup_relabel_local ok.nm, hC, m, hns, hm⟩⟩
      · rw [List.getElem?_eq_none (by simpa using hl)] at e; cases e
    · obtain ⟨q1, q2⟩ := List.mem_filter.mp q
      simp only [Bool.and_eq_true, Bool.not_eq_true', beq_eq_false_iff_ne, beq_iff_eq] at q2
      obtain ⟨⟨h1, h2⟩, h3⟩ := q2
      rw [getElem?_set_ne' (fun z => h1 z.symm)] at e
      obtain ⟨w, rw', d⟩ := F.rd i y q1 aw e
      refine ⟨w, rw', ?_⟩
      rcases d with ⟨k, _⟩ | ⟨k, c, ec, f, nn⟩
      · have : env.scope.names.lookup y = some .local := k
        rw [h3] at this; cases this
      · exact .inr ⟨relabel_free (by rw [F.kind]; rfl) h2 h3, c, closL_get ec _ _ (.inr ⟨rfl, lookup_mem h2⟩), f, nn⟩

theorem tests_false {env : Env} (ifs : List Expr) : (forIn ifs false fun c r => if r = true then (do let ok ← isTrue c env (eval c env); pure (ForInStep.yield ok) : Sem (ForInStep Bool)) else pure (ForInStep.yield r)) = pure false :=
  forIn_yield_id' ifs
where
  forIn_yield_id' {env : Env} : ∀ ifs : List Expr, (forIn ifs false fun c r => if r = true then (do let ok ← isTrue c env (eval c env); pure (ForInStep.yield ok) : Sem (ForInStep Bool)) else pure (ForInStep.yield r)) = pure false
    | [] => rfl
    | e :: r => by
      rw [List.forIn_cons]
      simp only [Bool.false_eq_true, if_false]
      rw [pure_bind]
      exact forIn_yield_id' r

theorem does_tests : ∀ (ms : List ME), (∀ m ∈ ms, ST T G N n C m) → ∀ (p : Nat) (sl : List (Nat × Str)) (W : Wd) (env : Env) (vs : Vs), okEs G N env.scope sl ms = true → AOk n A → Fm T W env sl vs → Inv T W →
    evConds C ms W.σ vs ≠ .fail → Does T A noX W (forIn (embEs N ms p).1 true fun c r => if r = true then (do let ok ← isTrue c env (eval c env); pure (ForInStep.yield ok) : Sem (ForInStep Bool)) else pure (ForInStep.yield r)) (evConds C ms W.σ vs) BW
  | [], _, _, _, W, _, _, _, _, _, I, _ => wpAny_pure ⟨true, W, rfl, rfl, I, .refl _ _, rfl⟩
  | m :: ms, ih, p, sl, W, env, vs, h, a, F, I, hn => by
    obtain ⟨h1, h2⟩ := okEs_cons h
    have eq : evConds C (m :: ms) W.σ vs = (evT C m W.σ vs).bind fun b h => match b with | true => evConds C ms h vs | false => .ok false h := by
      rw [evConds_q2]
      unfold evT
      cases ev C m W.σ vs with
      | ok v k => simp only [Out.bind]; rcases truth k v with _ | _ | _ <;> rfl
      | fail => rfl
    rw [eq] at hn ⊢
    obtain ⟨n1, n2⟩ := Out.bind_ok hn
    show Does T A noX W (forIn ((embE N m p).1 :: (embEs N ms (embE N m p).2).1) true _) _ _
    rw [List.forIn_cons]
    simp only [if_true]
    refine wpAny_bind (wpAny_bind ((ih m (List.mem_cons_self ..) p sl A W env vs h1 a F I n1).cps fun b W' b' e1 I' l' r => wpAny_pure ?_))
    cases r
    cases b with
    | true => exact (does_tests ms (fun q hq => ih q (List.mem_cons_of_mem _ hq)) _ sl W' env vs h2 a (F.le l') I' (n2 true W'.σ e1)).up l' (by rw [e1]; rfl)
    | false => exact wpAny_of_eq (tests_false _) ⟨false, W', rfl, by rw [e1]; rfl, I', l', rfl⟩
end
end Mine

/-! Soundness, part 15d: comprehensions, the loop (typed by hand). -/
set_option Elab.async false
namespace Mine
open PySem PySem.SeqAt PySem.Spec PySem.W PySem.Calls

section
variable {T : Tp} {G : Gl} {N : Nm} {n : Nat} {C : Cx} {A : Around}

/-- the state of a comprehension's loop: frame Ca, list D, iterator J -/
structure CS (T : Tp) (W : Wd) (J Ca D : Addr) (src : Src) (i : Nat) (ys : List AV) : Prop where
  inv : Inv T W
  it : ItOk T W J src i
  ownC : W.own Ca = .free
  baseC : T.base.get? Ca = none
  ns : ∃ m, W.h.Ns Ca m
  ownD : W.own D = .free
  baseD : T.base.get? D = none
  list : ∃ arr k, W.h.get? D = some { cls := .type "list", data := .seq arr k } ∧ W.Vs T ys arr.toList

/-- the same without the iterator -/
structure CB (T : Tp) (W : Wd) (Ca D : Addr) (ys : List AV) : Prop where
  inv : Inv T W
  ownC : W.own Ca = .free
  baseC : T.base.get? Ca = none
  ns : ∃ m, W.h.Ns Ca m
  ownD : W.own D = .free
  baseD : T.base.get? D = none
  list : ∃ arr k, W.h.get? D = some { cls := .type "list", data := .seq arr k } ∧ W.Vs T ys arr.toList
theorem CS.b {W : Wd} {J Ca D : Addr} {src : Src} {i : Nat} {ys : List AV} (c : CS T W J Ca D src i ys) : CB T W Ca D ys := ⟨c.inv, c.ownC, c.baseC, c.ns, c.ownD, c.baseD, c.list⟩
theorem CB.s {W : Wd} {J Ca D : Addr} {src : Src} {i : Nat} {ys : List AV} (c : CB T W Ca D ys) (it : ItOk T W J src i) : CS T W J Ca D src i ys := ⟨c.inv, it, c.ownC, c.baseC, c.ns, c.ownD, c.baseD, c.list⟩
theorem CB.frC {W : Wd} {Ca D : Addr} {ys : List AV} (c : CB T W Ca D ys) : FrX (fun b => b = Ca) W.own W.h := fun a q => by
  subst q
  refine ⟨c.ownC, fun o e => ?_⟩
  obtain ⟨m, o', es, ep, ho, hd, _⟩ := c.ns
  rw [e] at ho; cases ho
  exact .inl ⟨es, ep, hd⟩
theorem CB.frD {W : Wd} {Ca D : Addr} {ys : List AV} (c : CB T W Ca D ys) : FrX (fun b => b = D) W.own W.h := fun a q => by
  subst q
  refine ⟨c.ownD, fun o e => ?_⟩
  obtain ⟨arr, k, ho, _⟩ := c.list
  rw [e] at ho; cases ho
  exact .inr (.inr ⟨by simp, by simp⟩)

/-- kept where neither the frame nor the list is touched -/
theorem CB.leX {X : Addr → Prop} {W W' : Wd} {Ca D : Addr} {ys : List AV} (c : CB T W Ca D ys) (l : Le X W W') (I' : Inv T W') (fx : FrX X W.own W.h) (hC : ¬ X Ca) (hD : ¬ X D) : CB T W' Ca D ys where
  inv := I'
  ownC := let ⟨_, nn⟩ := c.ns; let ⟨_, z⟩ := ns_at nn; (l.ext.ow _ _ z hC).trans c.ownC
  baseC := c.baseC
  ns := let ⟨m, nn⟩ := c.ns; ⟨m, ns_ko nn fun o ho => l.ext.kp _ o ho c.ownC hC⟩
  ownD := let ⟨_, _, ho, _⟩ := c.list; (l.ext.ow _ _ ho hD).trans c.ownD
  baseD := c.baseD
  list := by
    obtain ⟨arr, k, ho, r⟩ := c.list
    exact ⟨arr, k, l.ext.kp _ _ ho c.ownD hD, VRs.ext l.ext fx r⟩

/-- the frame is written -/
theorem CB.setC {W : Wd} {Ca D : Addr} {ys : List AV} (c : CB T W Ca D ys) (hCD : Ca ≠ D) {h' : Heap} {k : Nat} {m : Str → Option Value} (hn : h'.Ns Ca m) (hs : ∀ a o, a ≠ Ca → W.h.get? a = some o → h'.get? a = some o) :
    CB T { W with s := { W.s with heap := h', toks := k } } Ca D ys ∧ Le (fun b => b = Ca) W { W with s := { W.s with heap := h', toks := k } } := by
  obtain ⟨I', l'⟩ := c.inv.touch (X := fun b => b = Ca) (a := Ca) (s' := { W.s with heap := h', toks := k }) c.ownC c.baseC rfl c.frC hs rfl rfl
  refine ⟨⟨I', c.ownC, c.baseC, ⟨m, hn⟩, c.ownD, c.baseD, ?_⟩, l'⟩
  obtain ⟨arr, j, ho, r⟩ := c.list
  exact ⟨arr, j, hs _ _ (fun q => hCD q.symm) ho, VRs.ext l'.ext c.frC r⟩

/-- the list grows -/
theorem CB.setD {W : Wd} {Ca D : Addr} {ys : List AV} (c : CB T W Ca D ys) (hCD : Ca ≠ D) {h' : Heap} {k j : Nat} {arr : Array Value} {w : AV} {v : Value} (ho : ∃ j, W.h.get? D = some { cls := .type "list", data := .seq arr j }) (r : W.Vs T ys arr.toList) (rv : W.V T w v)
    (hn : h'.get? D = some { cls := .type "list", data := .seq (arr.push v) j }) (hs : ∀ a o, a ≠ D → W.h.get? a = some o → h'.get? a = some o) :
    CB T { W with s := { W.s with heap := h', toks := k } } Ca D (ys ++ [w]) ∧ Le (fun b => b = D) W { W with s := { W.s with heap := h', toks := k } } := by
  obtain ⟨I', l'⟩ := c.inv.touch (X := fun b => b = D) (a := D) (s' := { W.s with heap := h', toks := k }) c.ownD c.baseD rfl c.frD hs rfl rfl
  refine ⟨⟨I', c.ownC, c.baseC, ?_, c.ownD, c.baseD, arr.push v, j, hn, ?_⟩, l'⟩
  · obtain ⟨m, nn⟩ := c.ns
    exact ⟨m, ns_ko nn fun o ho => hs _ o hCD ho⟩
  · have h1 := VRs.ext l'.ext c.frD r
    have h2 := VR.ext l'.ext c.frD rv
    simpa using h1.append (.cons h2 .nil)

theorem does_comp_loop {W₀ W₁ : Wd} {env : Env} {sl : List (Nat × Str)} {vs : Vs} {elt : ME} {x : Nat} {conds : List ME} {src : Src} {J Ca D : Addr} {iter : Expr} {pe pc : Nat} {nm : Str} {px pos : Pos} {sc : Scope}
    (hse : SE T G N n C elt) (hst : ∀ m ∈ conds, ST T G N n C m) (ok : ScOk sc env.scope nm) (hmE : okE G N (relabelS sc env.scope) (compSl sc env.scope sl x nm) elt = true) (hmC : okEs G N (relabelS sc env.scope) (compSl sc env.scope sl x nm) conds = true)
    (a : AOk n A) (F : Fm T W₀ env sl vs) (l01 : Le noX W₀ W₁) (hfr : ∀ b, (b = J ∨ b = Ca ∨ b = D) → W₀.h.get? b = none) (hJC : J ≠ Ca) (hJD : J ≠ D) (hCD : Ca ≠ D) {r0 : Out AV} (hr : r0 ≠ .fail)
    {R : Result → Shared → Prop} (hR : ∀ W' ys, CB T W' Ca D ys → Le (fun b => b = J ∨ b = Ca ∨ b = D) W₁ W' → r0 = newList ys W'.σ → R (.ok .next) W'.s)
    {W : Wd} {i m : Nat} {ys : List AV} (c : CS T W J Ca D src i ys) (l : Le (fun b => b = J ∨ b = Ca ∨ b = D) W₁ W)
    (e : (match iterR (fun st => srcGet src st.1) Out.fail (compF (fun h vs => evConds C conds h vs) (fun h vs => ev C elt h vs) x vs) m i (W.σ, ys) with | .go st => newList st.2 st.1 | .stop o => o) = r0) :
    codeAny T.M A (.compLoop (.ListComp (embE N elt pe).1 [⟨.Name nm px, iter, (embEs N conds pc).1, 0⟩] sc pos) 0 (.ref J) (.ref D) (compEnvC sc (closL env.cells sc.names []) Ca env)) R W.s := by
  refine codeAny_compLoop_tests (fun m s => ∃ W i ys, W.s = s ∧ CS T W J Ca D src i ys ∧ Le (fun b => b = J ∨ b = Ca ∨ b = D) W₁ W ∧
    (match iterR (fun st => srcGet src st.1) Out.fail (compF (fun h vs => evConds C conds h vs) (fun h vs => ev C elt h vs) x vs) m i (W.σ, ys) with | .go st => newList st.2 st.1 | .stop o => o) = r0) (fun m s ⟨W, i, ys, es, c, l, e⟩ => ?_) m ⟨W, i, ys, rfl, c, l, e⟩
  subst es
  cases m with
  | zero => simp only [iterR] at e; exact absurd e.symm hr
  | succ m =>
    simp only [iterR] at e
    cases hg : srcGet src W.σ with
    | none => rw [hg] at e; exact absurd e.symm hr
    | some xs =>
      rw [hg] at e
      simp only at e
      have hJC' : ¬ (Ca = J) := fun q => hJC q.symm
      have hJD' : ¬ (D = J) := fun q => hJD q.symm
      cases hi : xs[i]? with
      | none =>
        rw [hi] at e
        refine does_next_end c.inv a.handled c.it hg hi fun W' I' l' es => ?_
        exact hR W' ys (c.b.leX l' I' c.it.frX hJC' hJD') (l.trans (l'.mono fun _ q => .inl q)) (by rw [← e, es])
      | some av =>
        rw [hi] at e
        simp only at e
        refine does_next_item c.inv c.it hg hi fun v W1 I1 l1 es1 it1 r1 => ?_
        have c1 := c.b.leX l1 I1 c.it.frX hJC' hJD'
        obtain ⟨m1, nn1⟩ := c1.ns
        refine wpAny_assign_Name (wpAny_storeName_local (lookup_relabel_local ok.nm) nn1 (fun h2 hn2 hs2 => ?_) (by show (sc.kind == _ || (sc.kind == _ && _)) = false; rw [ok.kind]; rfl))
        obtain ⟨c2, l2⟩ := c1.setC hCD (k := W1.s.toks + 1) hn2 fun b o q e => (hs2.2 b q).trans e
        have it2 := it1.leX l2 c1.frC hJC
        have r2 := r1.leX l2 c1.frC
        have lX2 : Le (fun b => b = J ∨ b = Ca ∨ b = D) W₁ { W1 with s := { W1.s with heap := h2, toks := W1.s.toks + 1 } } := (l.trans (l1.mono fun _ q => .inl q)).trans (l2.mono fun _ q => .inr (.inl q))
        have F2 : Fm T { W1 with s := { W1.s with heap := h2, toks := W1.s.toks + 1 } } env sl vs := F.le (Le.lose l01 lX2 fun b o e _ q => by rw [hfr b q] at e; cases e)
        have FC := F2.comp (x := x) ok c2.ownC hn2 (by simp) r2
        have hf : compF (fun h vs => evConds C conds h vs) (fun h vs => ev C elt h vs) x vs av (W.σ, ys) = _ := rfl
        simp only [compF] at e
        have n1 : evConds C conds W1.σ (vs.set x (some av)) ≠ .fail := fun q => by
          rw [es1] at q
          rw [q] at e; exact hr e.symm
        refine (does_tests conds hst pc _ _ _ _ hmC a FC c2.inv n1).cps (fun b W3 b' e3 I3 l3 r3 => ?_)
        cases r3
        have e3' : evConds C conds W.σ (vs.set x (some av)) = .ok b W3.σ := by rw [← es1]; exact e3
        rw [e3'] at e
        have c3 := c2.leX l3 I3 .no id id
        have it3 := it2.leX l3 .no id
        have lX3 := lX2.trans l3.ofNo
        cases b with
        | false =>
          simp only [Bool.false_eq_true, if_false]
          exact ⟨m, Nat.lt_succ_self _, W3, i + 1, ys, rfl, c3.s it3, lX3, e⟩
        | true =>
          simp only [if_true]
          simp only at e
          have n2 : ev C elt W3.σ (vs.set x (some av)) ≠ .fail := fun q => by
            rw [q] at e; exact hr e.symm
          refine (hse pe _ A W3 _ _ hmE a (FC.le l3) I3 n2).cps (fun w W4 vw e4 I4 l4 r4 => ?_)
          rw [e4] at e
          simp only at e
          have c4 := c3.leX l4 I4 .no id id
          have it4 := it3.leX l4 .no id
          obtain ⟨arr, k4, ho4, ra4⟩ := c4.list
          have hl : ys.length < lim := by
            rcases Nat.lt_or_ge ys.length lim with q | q
            · exact q
            · rw [if_neg (by lia  )] at e; exact absurd e.symm hr
          rw [if_pos hl] at e
          refine wpAny_list_append_plain ⟨k4, ho4⟩ (fun h5 hn5 hs5 => ?_) (by have := vrs_size ra4; rw [← lim_eq]; omega)
          obtain ⟨k5, ho5⟩ := hn5
          obtain ⟨c5, l5⟩ := c4.setD hCD (k := W4.s.toks) ⟨k4, ho4⟩ ra4 r4 ho5 fun b o q e => (hs5.2 b q).trans e
          exact ⟨m, Nat.lt_succ_self _, _, i + 1, ys ++ [w], rfl, c5.s (it4.leX l5 c4.frD hJD), (lX3.trans l4.ofNo).trans (l5.mono fun _ q => .inr (.inr q)), e⟩
end
end Mine

/-! Soundness, part 15e: comprehensions as expressions and stores (typed by hand). -/
set_option Elab.async false
namespace Mine
open PySem PySem.SeqAt PySem.Spec PySem.W PySem.Calls

section
variable {T : Tp} {G : Gl} {N : Nm} {n : Nat} {C : Cx} {A : Around}

theorem comp_block {W₁ W₂ : Wd} {env : Env} {sl : List (Nat × Str)} {vs : Vs} {elt : ME} {x : Nat} {conds : List ME} {src : Src} {J : Addr} {iter : Expr} {pe pc : Nat} {nm : Str} {px pos : Pos} {sc : Scope}
    (hse : SE T G N n C elt) (hst : ∀ m ∈ conds, ST T G N n C m) (ok : ScOk sc env.scope nm) (hmE : okE G N (relabelS sc env.scope) (compSl sc env.scope sl x nm) elt = true) (hmC : okEs G N (relabelS sc env.scope) (compSl sc env.scope sl x nm) conds = true)
    (a : AOk n A) (F : Fm T W₁ env sl vs) (I₂ : Inv T W₂) (l12 : Le noX W₁ W₂) (hJ : W₁.h.get? J = none) (it : ItOk T W₂ J src 0) {r0 : Out AV} (hr : r0 ≠ .fail)
    (e : (match Mine.iter src Out.fail (compF (fun h vs => evConds C conds h vs) (fun h vs => ev C elt h vs) x vs) (W₂.σ, []) with | .go st => Mine.newList st.2 st.1 | .stop o => o) = r0) {E : Value → Shared → Prop}
    {RR : Value → Addr → Result → Shared → Prop} (hRR : ∀ D Ca W' av, r0 = .ok av W'.σ → Inv T W' → Le (fun b => b = J) W₂ W' → W₂.h.get? Ca = none → W'.own Ca = .free → T.base.get? Ca = none → (∃ m, W'.h.Ns Ca m) → W'.V T av (.ref D) → RR (.ref D) Ca (.ok .next) W'.s) :
    wpAny T.M A (PySem.newList []) (fun acc s₃ => wpAny T.M A (newFunctionEnv sc env.globals (closL env.cells sc.names []) [] env.qual none .none (some env)) (fun cenv s₄ =>
      codeAny T.M A (.compStart (.ListComp (embE N elt pe).1 [⟨.Name nm px, iter, (embEs N conds pc).1, 0⟩] sc pos) 0 (.ref J) acc { cenv with scope := relabel sc env }) (RR acc cenv.locals) s₄) E s₃) E W₂.s := by
  refine wpAny_newObj_type (wpAny_newFunctionEnv ok.cell (by intro y hy; simp at hy) (fun h₁ hns₁ hsb₁ => ?_) ok.kind)
  dsimp only at hns₁ hsb₁ ⊢
  generalize hH2 : W₂.s.heap.push { cls := .type "list", dict := none, data := .seq ([] : List Value).toArray } = H2 at hns₁ hsb₁ ⊢
  have hC : H2.objs.size = W₂.s.heap.objs.size + 1 := by rw [← hH2, Heap.size_push]
  have hN : W₂.s.heap.objs.size < H2.objs.size := by rw [hC]; exact Nat.lt_succ_self _
  have hCD : H2.objs.size ≠ W₂.s.heap.objs.size := Nat.ne_of_gt hN
  have old : ∀ b o, W₂.s.heap.get? b = some o → h₁.get? b = some o := fun b o e => by
    have hb := Heap.lt_size e
    exact hsb₁.extBut b o (Nat.ne_of_lt (Nat.lt_trans hb hN)) (Heap.get?_push_of_some _ (hH2 ▸ Heap.get?_push_of_some _ e))
  have g := I₂.grow (s' := { W₂.s with heap := h₁, toks := W₂.s.toks + ([] : List (Str × Value)).length }) old rfl rfl
  have hfD : W₂.h.get? W₂.s.heap.objs.size = none := get_size _
  have hfC : W₂.h.get? H2.objs.size = none := by
    cases q : W₂.h.get? H2.objs.size with
    | none => rfl
    | some o => exact absurd (Nat.lt_trans (Heap.lt_size q) hN) (Nat.lt_irrefl _)
  have bs : ∀ b, W₂.h.get? b = none → T.base.get? b = none := fun b q => by
    cases z : T.base.get? b with
    | none => rfl
    | some o => have := I₂.base b o z; rw [q] at this; cases this
  obtain ⟨oJ, hoJ, _⟩ := it.it.there
  have hlJ := Heap.lt_size hoJ
  have old1 : ∀ b, W₂.h.get? b = none → W₁.h.get? b = none := fun b q => by
    cases z : W₁.h.get? b with
    | none => rfl
    | some o => obtain ⟨o', e'⟩ := l12.ext.df b o z id; rw [q] at e'; cases e'
  have c0 : CS T { W₂ with s := { W₂.s with heap := h₁, toks := W₂.s.toks + ([] : List (Str × Value)).length } } J H2.objs.size W₂.s.heap.objs.size src 0 [] := {
    inv := g.1
    it := it.leX g.2 .no id
    ownC := own_new I₂ hfC
    baseC := bs _ hfC
    ns := ⟨_, hns₁⟩
    ownD := own_new I₂ hfD
    baseD := bs _ hfD
    list := ⟨#[], 0, hsb₁.extBut _ _ (Nat.ne_of_lt hN) (Heap.get?_push_of_some _ (hH2 ▸ Heap.get?_push_size _ rfl)), .nil⟩ }
  have loop : codeAny T.M A (.compLoop (.ListComp (embE N elt pe).1 [⟨.Name nm px, iter, (embEs N conds pc).1, 0⟩] sc pos) 0 (.ref J) (.ref W₂.s.heap.objs.size) (compEnvC sc (closL env.cells sc.names []) H2.objs.size env)) (RR (.ref W₂.s.heap.objs.size) H2.objs.size)
      { W₂.s with heap := h₁, toks := W₂.s.toks + ([] : List (Str × Value)).length } := by
    refine does_comp_loop (W₀ := W₁) (W₁ := { W₂ with s := { W₂.s with heap := h₁, toks := W₂.s.toks + ([] : List (Str × Value)).length } }) (src := src) (i := 0) (m := srcN src + 1) (ys := []) hse hst ok hmE hmC a F (l12.trans g.2) (fun b q => ?_) (Nat.ne_of_lt (Nat.lt_trans hlJ hN)) (Nat.ne_of_lt hlJ) hCD hr
      (fun W' ys cb lX er => ?_) c0 (.refl _ _) ?_
    · rcases q with rfl | rfl | rfl
      · exact hJ
      · exact old1 _ hfC
      · exact old1 _ hfD
    · obtain ⟨arr, k, ho, ra⟩ := cb.list
      have hl : ys.length ≤ lim := by
        rcases Nat.lt_or_ge lim ys.length with q | q
        · rw [er] at hr; unfold Mine.newList at hr; rw [if_neg (by omega)] at hr; exact absurd rfl hr
        · exact q
      have fx : FrX (fun b => b = W₂.s.heap.objs.size ∨ b = W₂.s.heap.objs.size) W'.own W'.h := fun a q => cb.frD a (q.elim id id)
      obtain ⟨I', l', rv⟩ := cb.inv.take (o := .list ys) cb.ownD cb.ownD cb.baseD cb.baseD ⟨_, ho⟩ ⟨_, ho⟩ I₂.high fx fun x => .list arr k ho (ra.ext x fx) hl
      refine hRR W₂.s.heap.objs.size H2.objs.size (W'.take W₂.s.heap.objs.size W₂.s.heap.objs.size (.list ys)) (.ref W'.σ.length) ?_ I' ?_ hfC ?_ cb.baseC cb.ns rv
      · rw [er]; unfold Mine.newList; rw [if_pos hl]
      · refine Le.lose (Le.lose (W₁ := { W₂ with s := { W₂.s with heap := h₁, toks := W₂.s.toks + ([] : List (Str × Value)).length } }) (g.2.ofNo (X := fun b => b = J)) lX fun b o e nx q => ?_) l' fun b o e nx q => ?_
        · rcases q with q | rfl | rfl
          · exact nx q
          · rw [hfC] at e; cases e
          · rw [hfD] at e; cases e
        · rw [q.elim id id, hfD] at e; cases e
      · exact (if_neg fun q => hCD (q.elim id id)).trans cb.ownC
    · rw [iter_eq] at e; exact e
  exact codeAny_compStart_list loop (does_self (W := { W₂ with s := { W₂.s with heap := h₁, toks := W₂.s.toks + ([] : List (Str × Value)).length } }) c0.it loop)

/-- the frame of a comprehension is emptied -/
theorem comp_gone {W' : Wd} (I : Inv T W') {Ca : Addr} (hC : W'.own Ca = .free) (hb : T.base.get? Ca = none) {m : Str → Option Value} (hn : W'.h.Ns Ca m) {h' : Heap} (hs : Heap.SameBut Ca W'.h h') :
    FrX (fun b => b = Ca) W'.own W'.h ∧ Inv T { W' with s := { W'.s with heap := h' } } ∧ Le (fun b => b = Ca) W' { W' with s := { W'.s with heap := h' } } := by
  have fx : FrX (fun b => b = Ca) W'.own W'.h := fun a q => by
    subst q
    refine ⟨hC, fun o e => ?_⟩
    obtain ⟨o', es, ep, ho, hd, _⟩ := hn
    rw [e] at ho; cases ho
    exact .inl ⟨es, ep, hd⟩
  exact ⟨fx, I.touch (X := fun b => b = Ca) (a := Ca) (s' := { W'.s with heap := h' }) hC hb rfl fx (fun b o q e => (hs.2 b q).trans e) rfl rfl⟩

theorem folded_no {v : Expr} (h : notSet v = true) (env : Env) (x : Value) : foldedSetIterable v env x = pure x := by
  cases v with
  | Set _ _ _ => cases h
  | _ => rfl
theorem does_comp {W : Wd} {env : Env} {sl : List (Nat × Str)} {vs : Vs} {elt src : ME} {x : Nat} {conds : List ME} {pe pc : Nat} {nm : Str} {px pos : Pos} {sc : Scope}
    (hse : SE T G N n C elt) (hss : SE T G N n C src) {ps : Nat} (hst : ∀ m ∈ conds, ST T G N n C m) (ok : ScOk sc env.scope nm)  (hmS : okE G N env.scope sl src = true) (hmE : okE G N (relabelS sc env.scope) (compSl sc env.scope sl x nm) elt = true)
    (hmC : okEs G N (relabelS sc env.scope) (compSl sc env.scope sl x nm) conds = true) (a : AOk n A) (F : Fm T W env sl vs) (I : Inv T W) (hn : ev C (.comp elt x src conds sc) W.σ vs ≠ .fail) :
    Does T A noX W (eval (.ListComp (embE N elt pe).1 [⟨.Name nm px, (embE N src ps).1, (embEs N conds pc).1, 0⟩] sc pos) env) (ev C (.comp elt x src conds sc) W.σ vs) (VW T) := by
  have hcl : closureFor sc env = pure (closL env.cells sc.names []) := closure_eq fun p hp q => F.cells _ (ok.free p hp q)
  rw [ev_q27] at hn ⊢
  obtain ⟨n1, n2⟩ := Out.bind_ok hn
  rw [eval_ListComp]
  refine wpAny_comprehension_free (use := none) rfl (folded_no (notSet_emb src ps) _) hcl ok.kind ok.loc ((hss ps sl A W env vs hmS a F I n1).cps (fun av W1 v e1 I1 l1 r1 => ?_))
  have n3 := n2 av W1.σ e1
  cases hs : srcA W1.σ av with
  | none => rw [hs] at n3; exact absurd rfl n3
  | some sr =>
    rw [hs] at n3
    simp only at n3
    refine does_iter I1 r1 hs fun J W2 I2 l2 es2 hJ _ it2 => ?_
    refine comp_block (r0 := _) (x := x) (vs := vs) (sl := sl) hse hst ok hmE hmC a (F.le l1) I2 l2 hJ it2 n3 (by rw [es2]; try rfl) fun D Ca W' av' er I' lJ hfC oC bC hnC rv => ?_
    obtain ⟨m, hnC⟩ := hnC
    refine ⟨m, hnC, fun h' hsb => ?_⟩
    obtain ⟨fx, I'', l''⟩ := comp_gone I' oC bC hnC hsb
    refine ⟨av', _, rfl, ?_, I'', ?_, rv.leX l'' fx⟩
    · rw [e1]; simp only [Out.bind, hs]; exact er
    · refine l1.trans (Le.lose (Le.lose l2 lJ fun b o e _ q => ?_) l'' fun b o e _ q => ?_)
      · rw [q, hJ] at e; cases e
      · obtain ⟨o', e'⟩ := l2.ext.df b o e id
        rw [q, hfC] at e'; cases e'
end
end Mine

/-! Soundness, part 15f: methods of lists and texts (typed by hand). -/
set_option Elab.async false
namespace Mine
open PySem PySem.SeqAt PySem.Spec PySem.W PySem.Calls PyProof.Rows

theorem joinT_flat (sep : List Nat) : ∀ (r : List (List Nat)) (x : List Nat), joinT sep (x :: r) = x ++ r.flatMap (fun t => sep ++ t)
  | [], x => by simp [joinT]
  | y :: r, x => by
    rw [joinT, joinT_flat sep r y]
    simp
theorem glue_fold (sep : List Nat) : ∀ (r : List (List Nat)) (acc : List Nat), (r.map tS).foldl (fun a p => a ++ (tS sep).cps ++ p.cps) acc.toArray = (acc ++ r.flatMap (fun t => sep ++ t)).toArray
  | [], acc => by simp
  | y :: r, acc => by
    rw [List.map_cons, List.foldl_cons]
    have : acc.toArray ++ (tS sep).cps ++ (tS y).cps = (acc ++ sep ++ y).toArray := by simp [tS]
    rw [this, glue_fold sep r]
    simp
theorem join_tS (sep : List Nat) (ts : List (List Nat)) : Txt.join (tS sep) (ts.map tS) = tS (joinT sep ts) := by
  show Builtin.Str.glued _ _ = _
  unfold Builtin.Str.glued
  cases ts with
  | nil => rfl
  | cons x r =>
    rw [joinT_flat]
    have := glue_fold sep r x
    show Str.mk _ = Str.mk _
    congr 1

theorem joinT_len (sep : List Nat) : ∀ ts : List (List Nat), (joinT sep ts).length ≤ (ts.map (·.length)).sum + ts.length * sep.length
  | [] => by simp [joinT]
  | [x] => by simp [joinT]
  | x :: y :: r => by
    have := joinT_len sep (y :: r)
    simp only [joinT, List.length_append, List.map_cons, List.sum_cons, List.length_cons, Nat.add_mul] at this ⊢
    lia  
theorem joinT_mem (sep : List Nat) {c : Nat} : ∀ {ts : List (List Nat)}, c ∈ joinT sep ts → c ∈ sep ∨ ∃ t ∈ ts, c ∈ t
  | [], h => by simp [joinT] at h
  | [x], h => .inr ⟨x, by simp, h⟩
  | x :: y :: r, h => by
    simp only [joinT, List.mem_append] at h
    rcases h with (h | h) | h
    · exact .inr ⟨x, by simp, h⟩
    · exact .inl h
    · rcases joinT_mem sep h with q | ⟨t, h1, h2⟩
      · exact .inl q
      · exact .inr ⟨t, by simp [h1], h2⟩

section
variable {T : Tp} {G : Gl} {n : Nat} {C : Cx} {A : Around} {W : Wd}

noncomputable def bmId : Bm → String
  | .append => "list.append"
  | .join => "str.join"
  | .get => "dict.get"
  | .setdefault => "dict.setdefault"

/-- the method's place -/
theorem bm_on (I : Inv T W) {m : Bm} {x : AV} {v : Value} (r : W.V T x v) (hk : bmKd m x W.σ = true) {pos : Pos} {trees : List (Bool × Sem Value)} {Q : Value → Shared → Prop} {E : Value → Shared → Prop}
    (h : wpAny T.M A (callWith pos (.builtin (bmId m)) [v] trees []) Q E W.s) : MethodOn T.prog T.w A (bmNm m) pos v trees Q E W.s := by
  cases m with
  | append =>
    obtain ⟨xs, hx⟩ := Option.isSome_iff_exists.mp hk
    obtain ⟨l, rfl, hx'⟩ := listAt_ok hx
    obtain ⟨a, vs, k, _, ho, _⟩ := I.listAt hx' r
    exact ⟨"list", "list.append", F.plainAttrs_list, F.slot_list_append, F.type_list_append, ⟨_, ho, rfl⟩, fun b e => by cases e; exact ⟨_, ho, rfl⟩, h⟩
  | join =>
    cases r with
    | str t ok => exact ⟨"str", "str.join", F.plainAttrs_str, F.slot_str_join, F.type_str_join, typeIs_str _ _ _, fun b e => (by cases e), h⟩
    | _ => cases hk
  | get =>
    obtain ⟨p, hx⟩ := Option.isSome_iff_exists.mp hk
    obtain ⟨l, rfl, hx'⟩ := dictAt_ok hx
    obtain ⟨d, kvs, n, _, hd, _⟩ := I.dict hx' r
    exact ⟨"dict", "dict.get", F.plainAttrs_dict, F.slot_dict_get, F.type_dict_get, hd.dictOf.typeIs, hd.dictOf.mapOf.noDict, h⟩
  | setdefault =>
    obtain ⟨p, hx⟩ := Option.isSome_iff_exists.mp hk
    obtain ⟨l, rfl, hx'⟩ := dictAt_ok hx
    obtain ⟨d, kvs, n, _, hd, _⟩ := I.dict hx' r
    exact ⟨"dict", "dict.setdefault", F.plainAttrs_dict, F.slot_dict_setdefault, F.type_dict_setdefault, hd.dictOf.typeIs, hd.dictOf.mapOf.noDict, h⟩

theorem does_appA (I : Inv T W) {x w : AV} {v vw : Value} (rx : W.V T x v) (rw' : W.V T w vw) (hn : appA x w W.σ ≠ .fail) : Does T A noX W (call (.builtin "list.append") [v, vw]) (appA x w W.σ) (VW T) := by
  cases x with
  | ref l =>
    have e0 : appA (.ref l) w W.σ = match lst W.σ[l]? with | some xs => if xs.length < lim then .ok .none (W.σ.set l (.list (xs ++ [w]))) else .fail | none => .fail := rfl
    rw [e0] at hn ⊢
    cases hx : lst W.σ[l]? with
    | none => rw [hx] at hn; exact absurd rfl hn
    | some xs =>
      rw [hx] at hn
      by_cases hl : xs.length < lim
      · simp only [if_pos hl]
        obtain ⟨a, vs, k, hb, ho, ra, _⟩ := I.listAt (lst_ok hx) rx
        refine wpAny_list_append_plain ⟨k, ho⟩ (fun h' hn' hs => ?_) (by have := vrs_size ra; rw [← lim_eq]; lia  )
        obtain ⟨k', ho'⟩ := hn'
        have own_a := I.ownb _ _ hb
        have g := I.upd (o := .list (xs ++ [w])) (s' := { W.s with heap := h' }) hb (fun b q f e => ?_) (fun b q => ?_) rfl rfl fun x => .list (vs.push vw) k' ho' ?_ ?_
        · exact ⟨.none, _, rfl, rfl, g.1, g.2, .none⟩
        · by_cases z : b = a
          · subst z; exact ⟨_, ho'⟩
          · exact ⟨q, (hs.2 b z).trans e⟩
        · exact hs.2 b fun z => q (z ▸ own_a)
        · have h1 := VRs.ext x .no ra
          have h2 := VR.ext x .no rw'
          rw [Array.toList_push]
          exact h1.append (.cons h2 .nil)
        · rw [List.length_append]; exact hl
      · simp only [if_neg hl] at hn; exact absurd rfl hn
  | _ => exact absurd rfl hn
theorem does_joinA (I : Inv T W) {x w : AV} {v vw : Value} (rx : W.V T x v) (rw' : W.V T w vw) (hn : joinA x w W.σ ≠ .fail) : Does T A noX W (call (.builtin "str.join") [v, vw]) (joinA x w W.σ) (VW T) := by
  cases rx with
  | str tk oks =>
    rename_i sep
    have e0 : joinA (.str sep) w W.σ = match (listAt W.σ w).bind textsA with | some ts => if (ts.map (·.length)).sum + ts.length * sep.length ≤ lim then .ok (.str (joinT sep ts)) W.σ else .fail | none => .fail := rfl
    rw [e0] at hn ⊢
    cases hts : (listAt W.σ w).bind textsA with
    | none => rw [hts] at hn; exact absurd rfl hn
    | some ts =>
      rw [hts] at hn
      by_cases hl : (ts.map (·.length)).sum + ts.length * sep.length ≤ lim
      · simp only [if_pos hl]
        obtain ⟨xs, h0, hts'⟩ := Option.bind_eq_some_iff.mp hts
        obtain ⟨l, rfl, hx⟩ := listAt_ok h0
        obtain ⟨a, vs, k, hb, ho, ra, _⟩ := I.listAt hx rw'
        obtain ⟨h1, _, h2⟩ := strs_of hts' ra
        have hsum : ((ts.map tS).map (·.length)).sum + (ts.map tS).length * (tS sep).length ≤ 16777216 := by
          rw [List.map_map, List.length_map, tS_length]
          have e2 : ((fun x : Str => x.length) ∘ tS) = (fun t : List Nat => t.length) := funext fun t => tS_length t
          rw [e2]; exact hl
        refine join_list ⟨_, ho, rfl, k, rfl⟩ h1 hsum fun t' k' => ?_
        rw [join_tS]
        have g := I.toks k'
        refine ⟨_, { W with s := { W.s with toks := k' } }, rfl, rfl, g.1, g.2, .str _ ⟨fun c hc => ?_, Nat.le_trans (joinT_len sep ts) hl⟩⟩
        rcases joinT_mem sep hc with q | ⟨t, q1, q2⟩
        · exact oks.1 c q
        · exact (h2 t q1).1 c q2
      · simp only [if_neg hl] at hn; exact absurd rfl hn
  | _ => exact absurd rfl hn
theorem setDefault_at {K : Type} [DecidableEq K] {knd : KeyKind T.prog T.w K} {s : Shared} {d : Addr} {kvs : List (K × Value)} {ep : Nat} {k : K} {key dflt : Value} {Q : Value → Shared → Prop} {E : Value → Shared → Prop} (hkey : knd.is k key = true) (hm : s.heap.DictAt knd d kvs ep) (hsz : kvs.length ≤ sizeLine)
    (h1 : ∀ v, valueAt kvs k = some v → Q v { s with toks := s.toks + 1 }) (h2 : valueAt kvs k = none → ∀ h', h'.DictAt knd d (stored kvs k dflt) (ep + 1) → Heap.SameBut d s.heap h' → Q dflt { s with heap := h', toks := s.toks + 1 }) :
    wpAny T.M A (dictSetDefault d key dflt) Q E s := by
  obtain ⟨o, es, ho, hx, hd, hk, hp, hn⟩ := hm
  have hes : es.size ≤ sizeLine := by rw [← Array.length_toList, hp.length]; exact hsz
  have hidx := hp.findIdx k
  rw [← idx_toList] at hidx
  unfold dictSetDefault
  try with_reducible refine wpAny_holding ?_
  refine wpAny_bind (knd.pyHash hkey ?_)
  refine wpAny_bind (wpAny_dictFind_of (s := { s with toks := s.toks + 1 }) hkey ho hd hk ?_)
  cases hi : es.findIdx? fun e => knd.is k e.key with
  | none =>
    rw [hi] at hidx
    have hnot := not_mem_of_findIdx_none hidx.symm
    have hst : stored kvs k dflt = kvs ++ [(k, dflt)] := by
      unfold stored
      rw [if_neg]
      rw [List.any_eq_true]
      rintro ⟨kv, h1, h2⟩
      exact hnot (List.mem_map.mpr ⟨kv, h1, of_decide_eq_true h2⟩)
    refine wpAny_bind (wpAny_rule (wpAny_bind (wpAny_updateDictKeys (hz := hes) (s := { s with toks := s.toks + 1 }) ho hd (wpAny_pure (h2 (valueAt_none hidx.symm) _ ⟨_, es.push ⟨knd.hash k, key, dflt⟩, Heap.get?_update_self _ ho (Obj.isFreed_of_dict (Obj.data_mapDictKeys hd _)),
      hx.mapDictKeys _, Obj.data_mapDictKeys hd _, hk.push hkey dflt, ?_, ?_⟩ (Heap.SameBut.update ..))))))
    · rw [hst, Array.toList_push]; exact hp.append hkey _ dflt
    · rw [hst, List.map_append, List.nodup_append]
      refine ⟨hn, by simp, fun a ha b hb => ?_⟩
      simp only [List.map_cons, List.map_nil, List.mem_singleton] at hb
      exact fun z => hnot (by rw [← hb, ← z]; exact ha)
  | some i =>
    refine wpAny_bind (wpAny_dictEntries (s := { s with toks := s.toks + 1 }) ho hd ?_)
    have hlt : i < es.size := (Array.findIdx?_eq_some_iff_findIdx_eq.mp hi).1
    rw [Array.getElem?_eq_getElem hlt]
    have hev : valueAt kvs k = some es[i].val := by
      have := (Heap.DictAt.dictOf ⟨o, es, ho, hx, hd, hk, hp, hn⟩).mapOf
      obtain ⟨o', es', ep', ho', _, hd', _, hf⟩ := this
      rw [ho] at ho'; cases ho'
      rw [hd] at hd'; cases hd'
      rw [← hf k, findBy_of_findIdx?, hi]; show (es[i]?).map (·.val) = _; rw [Array.getElem?_eq_getElem hlt]; rfl
    exact wpAny_bind (wpAny_rule (wpAny_pure (h1 _ hev)))
theorem meets_setd {K : Type} [DecidableEq K] {knd : KeyKind T.prog T.w K} (d : Addr) {k : K} {key : Value} (hkey : knd.is k key = true) (lo : (d == sysModules) = false) (dflt : Value) :
    MeetsIn T.prog T.w (Builtin.«dict.setdefault» ⟨[.ref d, key, dflt], []⟩) (fun _ R s => ∃ kvs ep, s.heap.DictAt knd d kvs ep ∧ kvs.length ≤ sizeLine ∧ (∀ v, valueAt kvs k = some v → R (.ok (.ret v)) { s with toks := s.toks + 1 }) ∧
      (valueAt kvs k = none → ∀ h', h'.DictAt knd d (stored kvs k dflt) (ep + 1) → Heap.SameBut d s.heap h' → R (.ok (.ret dflt)) { s with heap := h', toks := s.toks + 1 })) :=
  .of_wp fun A R s ⟨kvs, ep, hm, hsz, h1, h2⟩ => by
    unfold Builtin.«dict.setdefault»
    refine wpAny_bind ?_
    unfold Builtin.Dict.keyAndDefault
    refine wpAny_bind (wpAny_notOrdered_dict (hm.dictOf.typeIs (s := s)) ?_)
    show wpAny _ _ (pure (d, key, some dflt)) _ _ s
    refine wpAny_pure ?_
    show wpAny _ _ (if (d == sysModules) = true then _ else (dictSetDefault d key dflt >>= _)) _ _ s
    rw [if_neg (by rw [lo]; exact Bool.false_ne_true)]
    exact wpAny_bind (setDefault_at hkey hm hsz (fun v hv => wpAny_pure ⟨v, rfl, h1 v hv⟩) fun hn h' hm' hs' => wpAny_pure ⟨dflt, rfl, h2 hn h' hm' hs'⟩)
theorem does_setdA (I : Inv T W) {x w y : AV} {v vw vy : Value} (rx : W.V T x v) (rw' : W.V T w vw) (ry : W.V T y vy) (hn : setdA x w y W.σ ≠ .fail) : Does T A noX W (call (.builtin "dict.setdefault") [v, vw, vy]) (setdA x w y W.σ) (VW T) := by
  cases x with
  | ref l =>
    have e0 : setdA (.ref l) w y W.σ = match dct W.σ[l]? with | some p => if isKey w && decide (p.2.length < lim) then (match dget p.2 w with | some v => .ok v W.σ | none => .ok y (W.σ.set l (.dict (p.1.map (· + 1)) (dput p.2 w y)))) else .fail | none => .fail := rfl
    rw [e0] at hn ⊢
    cases hx : dct W.σ[l]? with
    | none => rw [hx] at hn; exact absurd rfl hn
    | some p =>
      rw [hx] at hn
      simp only at hn ⊢
      by_cases hk : (isKey w && decide (p.2.length < lim)) = true
      · rw [if_pos hk] at hn ⊢
        simp only [Bool.and_eq_true, decide_eq_true_eq] at hk
        obtain ⟨d, kvs, n, hb, hd, hep, kv, hl, lo⟩ := I.dict (dct_ok hx) rx
        obtain ⟨k1, k2⟩ := key_of rw' hk.1
        refine call_meetsIn F.slot_dict_setdefault hd.dictOf.typeIs F.entry_dict_setdefault (F.args_dict_setdefault_3 _ _ _) (meets_setd (knd := kKind T.prog T.w) d k1 lo vy) ⟨kvs, n, hd, by rw [kv.length, ← lim_eq]; exact hl, fun u eu => ?_, fun eu h' hd' hs => ?_⟩
        · cases hg : dget p.2 w with
          | none => rw [(kv.get k2).2 hg] at eu; cases eu
          | some r =>
            obtain ⟨u', eu', ru⟩ := (kv.get k2).1 r hg
            rw [eu] at eu'; cases eu'
            have g := I.toks (W.s.toks + 1)
            exact ⟨r, { W with s := { W.s with toks := W.s.toks + 1 } }, rfl, rfl, g.1, g.2, ru.le g.2⟩
        · have hg : dget p.2 w = none := by
            cases hg : dget p.2 w with
            | none => rfl
            | some r => obtain ⟨u', eu', ru⟩ := (kv.get k2).1 r hg; rw [eu] at eu'; cases eu'
          rw [hg]
          have own_d := I.ownb _ _ hb
          have g := I.upd (o := .dict (p.1.map (· + 1)) (dput p.2 w y)) (s' := { W.s with heap := h', toks := W.s.toks + 1 }) hb (fun b q f e => ?_) (fun b q => hs.2 b fun z => q (z ▸ own_d)) rfl rfl
            fun x => .dict _ (n + 1) hd' (fun e he => ?_) ((kv.ext x .no).put k2 (ry.ext x .no) hd.nodup) (Nat.le_trans (dput_length _ _ _) hk.2)
          · exact ⟨y, _, rfl, rfl, g.1, g.2, ry.le g.2⟩
          · by_cases z : b = d
            · subst z; obtain ⟨o, _, ho, _⟩ := hd'; exact ⟨o, ho⟩
            · exact ⟨q, (hs.2 b z).trans e⟩
          · obtain ⟨e', h1, rfl⟩ := Option.map_eq_some_iff.mp he
            rw [hep e' h1]
      · rw [if_neg hk] at hn; exact absurd rfl hn
  | _ => exact absurd rfl hn
theorem does_getA (I : Inv T W) {x w y : AV} {v vw vy : Value} (rx : W.V T x v) (rw' : W.V T w vw) (ry : W.V T y vy) (hn : getA x w y W.σ ≠ .fail) : Does T A noX W (call (.builtin "dict.get") [v, vw, vy]) (getA x w y W.σ) (VW T) := by
  unfold getA at hn ⊢
  cases hx : dictAt W.σ x with
  | none => rw [hx] at hn; exact absurd rfl hn
  | some p =>
    rw [hx] at hn
    simp only at hn ⊢
    cases hk : isKey w with
    | false => rw [hk] at hn; exact absurd rfl hn
    | true =>
      simp only [if_true]
      obtain ⟨l, rfl, hx'⟩ := dictAt_ok hx
      obtain ⟨d, kvs, n, hb, hd, hep, kv, hl, hs⟩ := I.dict hx' rx
      obtain ⟨k1, k2⟩ := key_of rw' hk
      refine Does.keep I fun Q E q => call_meetsIn F.slot_dict_get hd.dictOf.typeIs F.entry_dict_get (F.args_dict_get_3 _ _ _) (meets_dict_get_default (kKind T.prog T.w) d k1 hs vy) ⟨_, hd.dictOf.mapOf, ?_⟩
      refine q _ _ ?_
      cases hg : dget p.2 w with
      | none => rw [(kv.get k2).2 hg]; exact ry
      | some r => obtain ⟨u, eu, ru⟩ := (kv.get k2).1 r hg; rw [eu]; exact ru

theorem does_bmA (I : Inv T W) {m : Bm} {x : AV} {as : List AV} {v : Value} {vals : List Value} (rx : W.V T x v) (r : W.Vs T as vals) (hn : bmA m x as W.σ ≠ .fail) : Does T A noX W (call (.builtin (bmId m)) (v :: vals)) (bmA m x as W.σ) (VW T) := by
  cases r with
  | nil => exact absurd rfl hn
  | cons rw' r' =>
    cases r' with
    | nil =>
      cases m with
      | append => exact does_appA I rx rw' hn
      | join => exact does_joinA I rx rw' hn
      | _ => exact absurd rfl hn
    | cons ry r'' =>
      cases r'' with
      | cons _ _ => exact absurd rfl hn
      | nil =>
        cases m with
        | get => exact does_getA I rx rw' ry hn
        | setdefault => exact does_setdA I rx rw' ry hn
        | _ => exact absurd rfl hn
end
end Mine

/-! Soundness: instances (typed by hand). -/
set_option Elab.async false
set_option maxRecDepth 100000
namespace Mine
open PySem PySem.SeqAt PySem.Spec PySem.W PySem.Calls PyProof.Rows Builtin Builtin.ObjectAttr

theorem isStr_str {x nm : Str} {t : Tok} : (Value.str x t).isStr nm = (x == nm) := rfl

section
variable {T : Tp} {own : Addr → Ow} {bt : List Addr} {h : Heap}
theorem fnd_hit {e : DictEntry} {r : List DictEntry} {nm : Str} {t : Tok} (h : e.key = .str nm t) : fnd (e :: r) nm = some e.val := by
  unfold fnd
  rw [List.find?_cons, h, isStr_str, beq_self_eq_true]; rfl
theorem fnd_miss {e : DictEntry} {r : List DictEntry} {x nm : Str} {t : Tok} (h : e.key = .str x t) (q : x ≠ nm) : fnd (e :: r) nm = fnd r nm := by
  unfold fnd
  rw [List.find?_cons, h, isStr_str, beq_eq_false_iff_ne.mpr q]
theorem fnd_put {nm : Str} {hsh : Int} {tk : Tok} {v : Value} : ∀ {es : List DictEntry}, (∀ e ∈ es, ∃ x t, e.key = .str x t) → fnd (putL nm hsh (.str nm tk) v es) nm = some v ∧ ∀ nm', nm ≠ nm' → fnd (putL nm hsh (.str nm tk) v es) nm' = fnd es nm' := by
  intro es
  induction es with
  | nil => intro _; exact ⟨fnd_hit rfl, fun nm' q => fnd_miss rfl q⟩
  | cons e r ih =>
    intro hk
    obtain ⟨x, t, hx⟩ := hk e (List.mem_cons_self ..)
    obtain ⟨i1, i2⟩ := ih fun e' h' => hk e' (List.mem_cons_of_mem _ h')
    unfold putL
    rw [hx, isStr_str]
    by_cases z : x = nm
    · subst z
      rw [if_pos (beq_self_eq_true x)]
      exact ⟨fnd_hit rfl, fun nm' q => (fnd_miss rfl q).trans (fnd_miss hx q).symm⟩
    · rw [if_neg (by simpa using z)]
      refine ⟨(fnd_miss hx z).trans i1, fun nm' q => ?_⟩
      by_cases y : x = nm'
      · subst y; rw [fnd_hit hx, fnd_hit hx]
      · rw [fnd_miss hx y, fnd_miss hx y, i2 nm' q]
theorem putL_mem {nm : Str} {hsh : Int} {key v : Value} : ∀ {es : List DictEntry} {e : DictEntry}, e ∈ putL nm hsh key v es → e.key = key ∨ ∃ e' ∈ es, e.key = e'.key := by
  intro es
  induction es with
  | nil => intro e h; rcases List.mem_singleton.mp h with rfl; exact .inl rfl
  | cons d r ih =>
    intro e h
    unfold putL at h
    split at h
    · rcases List.mem_cons.mp h with rfl | h
      · exact .inr ⟨d, List.mem_cons_self .., rfl⟩
      · exact .inr ⟨e, List.mem_cons_of_mem _ h, rfl⟩
    · rcases List.mem_cons.mp h with rfl | h
      · exact .inr ⟨_, List.mem_cons_self .., rfl⟩
      · exact (ih h).imp id fun ⟨e', q, z⟩ => ⟨e', List.mem_cons_of_mem _ q, z⟩
theorem putL_length {nm : Str} {hsh : Int} {key v : Value} : ∀ {es : List DictEntry}, (putL nm hsh key v es).length ≤ es.length + 1 := by
  intro es
  induction es with
  | nil => exact Nat.le_refl _
  | cons d r ih => unfold putL; split <;> simp only [List.length_cons] at * <;> lia  
theorem any_ref {es : List DictEntry} (hk : ∀ e ∈ es, ∃ x t, e.key = .str x t) : es.any (·.refKey) = false := by
  rw [List.any_eq_false]
  intro e he
  obtain ⟨x, t, q⟩ := hk e he
  simp [DictEntry.refKey, q]

theorem look_of {es : Array DictEntry} {n : Nat} {nm : Str} (hk : ∀ e ∈ es.toList, ∃ x t, e.key = .str x t) : lookIn nm { cls := .type "dict", data := .dict es n } = some (fnd es.toList nm) := by
  show (match es.toList.find? (·.key.isStr nm) with | some e => some (some e.val) | none => if es.toList.any (·.refKey) then none else some none) = _
  unfold fnd
  cases es.toList.find? (·.key.isStr nm) with
  | some e => rfl
  | none => rw [any_ref hk]; rfl
end

section
variable {T : Tp} {A : Around} {W : Wd}

theorem handed_VR {av : AV} {v : Value} (r : W.V T av v) : handedIn v = true := by cases r <;> rfl

structure InstOk (T : Tp) (C : Addr) (cl : Cl) : Prop where
  keep : keepIn T.K (.ref C) = true
  makes : makesIn T.K C = true
  init : ∀ f, cl.init = some f → findIn T.K (.ref C) "__init__" = some (some (.ref (T.fa f))) ∧ PySem.W.isFn T.K (.ref (T.fa f)) = true
  get : plainGet T.K C "" = true
  dict : hasDictIn T.K C = true
  set : findIn T.K (.ref C) "__setattr__" = some (some (.builtin "object.__setattr__"))
  over : plainOver T.K C = true
  attrs : ∀ nm ∈ T.P.attrs, (∃ a, findIn T.K (.ref C) nm = some a ∧ noGet T.K a = true) ∧ takerIn T.K C nm = some none
  meths : ∀ m f, cl.meths.lookup m = some f → ∃ nm, T.P.methNames[m]? = some nm ∧ findIn T.K (.ref C) nm = some (some (.ref (T.fa f))) ∧ PySem.W.isFn T.K (.ref (T.fa f)) = true ∧ keepIn T.K (.ref (T.fa f)) = true ∧ nm ∉ T.P.attrs

theorem lookup_mem' {l : List (Nat × Nat)} {m f : Nat} (h : l.lookup m = some f) : (m, f) ∈ l := by
  obtain ⟨l1, l2, e, _⟩ := List.lookup_eq_some_iff.mp h
  rw [e]; simp

theorem Tp.Ok.inst (O : T.Ok) {c : Nat} {cl : Cl} (e : T.P.cls[c]? = some cl) : InstOk T (T.ca c) cl := by
  have h := clsB_get O.cl c cl e
  rw [Nat.zero_add] at h
  simp only [instB, Bool.and_eq_true, beq_iff_eq, List.all_eq_true] at h
  obtain ⟨⟨⟨⟨⟨⟨⟨⟨h0, h1⟩, h2⟩, h3⟩, h4⟩, h5⟩, h6⟩, h7⟩, h8⟩ := h
  refine ⟨h0, h1, fun f hf => ?_, h3, h4, h5, h6, fun nm hm => ?_, fun m f hf => ?_⟩
  · rw [hf] at h2
    simpa using h2
  · obtain ⟨q1, q2⟩ := h7 nm hm
    refine ⟨?_, q2⟩
    cases z : findIn T.K (.ref (T.ca c)) nm with
    | none => rw [z] at q1; cases q1
    | some a => rw [z] at q1; exact ⟨a, rfl, q1⟩
  · have q := h8 (m, f) (lookup_mem' hf)
    cases z : T.P.methNames[m]? with
    | none => rw [z] at q; cases q
    | some nm =>
      rw [z] at q
      simp only [Bool.and_eq_true, beq_iff_eq, Bool.not_eq_true'] at q
      exact ⟨nm, rfl, q.1.1.1, q.1.1.2, q.1.2, fun hm => by have := q.2; rw [List.contains_iff_mem.mpr hm] at this; cases this⟩

theorem instAt_ok {σ : Hp} {v : AV} {p : Nat × List (Option AV)} (h : instAt σ v = some p) : ∃ l, v = .ref l ∧ σ[l]? = some (.inst p.1 p.2) := by
  cases v with
  | ref l => exact ⟨l, rfl, ins_ok h⟩
  | _ => cases h

inductive IAt (T : Tp) (W : Wd) (l c : Nat) (fs : List (Option AV)) : Value → Prop
  | mk (cl : Cl) (a dx : Addr) (ents : Array DictEntry) (n : Nat) : T.P.cls[c]? = some cl → W.bt[l]? = some a → W.h.get? a = some { cls := .ref (T.ca c), dict := some dx, data := .plain } → W.own dx = .loc l → dx ≠ a → W.h.get? dx = some { cls := .type "dict", data := .dict ents n } →
      IR T W.own W.bt W.h fs ents.toList → IAt T W l c fs (.ref a)
theorem Inv.inst (I : Inv T W) {l c : Nat} {fs : List (Option AV)} {v : Value} (e : W.σ[l]? = some (.inst c fs)) (r : W.V T (.ref l) v) : IAt T W l c fs v := by
  cases r with
  | ref q =>
    cases I.obj _ _ _ e q with
    | inst cl dx ents n h0 h1 h2 h3 h4 h5 => exact .mk cl _ dx ents n h0 q h1 h2 h3 h4 h5

theorem does_attrA (O : T.Ok) (I : Inv T W) {x r : AV} {a : Nat} {nm : Str} {v : Value} (rx : W.V T x v) (hnm : T.P.attrs[a]? = some nm) (e : attrA W.σ x a = some r) {expr : Bool} :
    Does T A noX W (getAttr v nm expr) (.ok r W.σ) (VW T) := by
  obtain ⟨p, hp, e1⟩ := Option.bind_eq_some_iff.mp e
  obtain ⟨z, hz, e2⟩ := Option.bind_eq_some_iff.mp e1
  have e3 : z = some r := e2
  subst e3
  obtain ⟨l, rfl, hσ⟩ := instAt_ok hp
  obtain ⟨cl, b, dx, ents, n, hcl, hb, h1, h2, h3, h4, hk, _, h5⟩ := I.inst hσ rx
  obtain ⟨v, ev, rv⟩ := (h5 a nm hnm).1 r hz
  have ok := O.inst hcl
  obtain ⟨⟨at', ha, hn⟩, _⟩ := ok.attrs nm (List.mem_of_getElem? hnm)
  have X := O.X.keeps I.base
  exact Does.keep I fun Q E q => get_value X (ox := { cls := .ref (T.ca p.1), dict := some dx, data := .plain }) (od := some { cls := .type "dict", data := .dict ents n }) ⟨h1, rfl, rfl, h4⟩ (plainGet_of ok.get).1
    (findObj_own ok.dict ha hn ((look_of fun e he => let ⟨x, t, q, _⟩ := hk e he; ⟨x, t, q⟩).trans (by rw [ev]))) (handed_VR rv) (q v _ rv)

/-- a method of an instance -/
theorem does_method (O : T.Ok) (I : Inv T W) {x : AV} {m f : Nat} {nm : Str} {v : Value} (rx : W.V T x v) (hnm : T.P.methNames[m]? = some nm) (e : methF T.P W.σ x m = some f) {pl : Sem Bool}
    {Q : Value × List Value → Shared → Prop} {E : Value → Shared → Prop} (q : Callee T (.ref (T.fa f)) → Q (.ref (T.fa f), [v]) W.s) : wpAny T.M A (getMethod v nm pl) Q E W.s := by
  obtain ⟨p, hp, e1⟩ := Option.bind_eq_some_iff.mp e
  obtain ⟨cl', hcl', e2⟩ := Option.bind_eq_some_iff.mp e1
  obtain ⟨l, rfl, hσ⟩ := instAt_ok hp
  obtain ⟨cl, b, dx, ents, n, hcl, hb, h1, h2, h3, h4, hk, _, h5⟩ := I.inst hσ rx
  rw [hcl] at hcl'; cases hcl'
  have ok := O.inst hcl
  obtain ⟨nm', hnm', hf, hfn, hkp, hno⟩ := ok.meths m f e2
  rw [hnm] at hnm'; cases hnm'
  have X := O.X.keeps I.base
  refine method_fn X (ox := { cls := .ref (T.ca p.1), dict := some dx, data := .plain }) (od := some { cls := .type "dict", data := .dict ents n }) ⟨h1, rfl, rfl, h4⟩ (plainGet_of ok.get).1 (plainGet_of ok.get).2 hf (beq_iff_eq.mp hfn) ?_ (q fun h k => let ⟨kp, hk, l⟩ := looks_keep (M := T.M) hkp (O.X.keeps k); ⟨kp, hk.imp id .inl, l⟩)
  show (lookIn nm _).map _ = _
  rw [look_of fun e he => let ⟨x, t, q, _⟩ := hk e he; ⟨x, t, q⟩]
  have : fnd ents.toList nm = none := by
    unfold fnd
    rw [List.find?_eq_none.mpr fun e he => ?_]
    · rfl
    · obtain ⟨x, t, q, hm⟩ := hk e he
      rw [q, isStr_str]
      intro z
      exact hno (eq_of_beq z ▸ hm)
  rw [this]; rfl
end
end Mine

/-! Soundness: attributes are written, instances made (typed by hand). -/
set_option Elab.async false
set_option maxRecDepth 100000
namespace Mine
open PySem PySem.SeqAt PySem.Spec PySem.W PySem.Calls PyProof.Rows Builtin Builtin.ObjectAttr

theorem putL_hit {nm : Str} {hsh : Int} {key v w : Value} : ∀ {es : List DictEntry}, fnd es nm = some w → (putL nm hsh key v es).length = es.length := by
  intro es
  induction es with
  | nil => intro e; cases e
  | cons d r ih =>
    intro e
    unfold putL
    split
    · rfl
    · rename_i q
      unfold fnd at e
      rw [List.find?_cons, Bool.eq_false_iff.mpr q] at e
      rw [List.length_cons, List.length_cons, ih e]

theorem nodupA_inj : ∀ {l : List Str} {i j : Nat} {x : Str}, nodupA l = true → l[i]? = some x → l[j]? = some x → i = j := by
  intro l
  induction l with
  | nil => intro i j x _ e; cases e
  | cons y r ih =>
    intro i j x h e1 e2
    rw [nodupA, Bool.and_eq_true, Bool.not_eq_true'] at h
    have no : ∀ k, r[k]? ≠ some y := fun k q => by
      have := List.contains_iff_mem.mpr (List.mem_of_getElem? q)
      rw [this] at h; cases h.1
    cases i with
    | zero =>
      cases e1
      cases j with
      | zero => rfl
      | succ j => exact absurd e2 (no j)
    | succ i =>
      cases j with
      | zero => cases e2; exact absurd e1 (no i)
      | succ j => rw [ih h.2 e1 e2]

section
variable {T : Tp} {A : Around} {W : Wd}

/-- the store into an instance's own dict -/
theorem store_own {K : Frag} {prog : Program} {w : World} {C x dx : Addr} {s : Shared} {name : Str} {tk : Tok} {v : Value} {ents : Array DictEntry} {n : Nat} {Q : Fin → Shared → Prop} {E : Value → Shared → Prop} {b : Bool} (X : K.In s.heap) (hx : s.heap.get? x = some { cls := .ref C, dict := some dx, data := .plain })
    (hd : s.heap.get? dx = some { cls := .type "dict", data := .dict ents n }) (hh : hasDictIn K C = true) (hk : ∀ e ∈ ents.toList, ∃ x t, e.key = .str x t) (hz : ents.size ≤ 1000)
    (h : ∀ h' hsh t, h'.get? dx = some { cls := .type "dict", data := .dict (putL name hsh (.str name t) v ents.toList).toArray (putN name ents.toList n) } → Heap.SameBut dx s.heap h' → Q (.done (.ret .none)) { s with heap := h', toks := s.toks + 1 }) :
    wpAny (model prog w) A (storeInOwnDict (.ref x) (.ref C) (.str name tk) name v b) Q E s := by
  obtain ⟨cd, hc, hd'⟩ := any_some hh
  refine wpAny_bind (wpAny_pure (wpAny_bind (wpAny_bind (wpAny_loadPart hx (wpAny_bind ((looks_clsIn X hc).here ?_))))))
  rw [hd']
  refine wpAny_pure (a := some dx) (wpAny_bind (wpAny_pure (wpAny_bind ?_)))
  unfold nsSet
  refine wpAny_bind (wpAny_bind (wpAny_askSetting (wpAny_pure (wpAny_bind (wpAny_mkText (wpAny_bind (wpAny_loadPart hd ?_)))))))
  dsimp only
  have c : (!ents.any (·.key.isStr name) && ents.any (·.refKey)) = false := by
    rw [← Array.any_toList, ← Array.any_toList, any_ref hk, Bool.and_false]
  rw [aRefKeyMayBeTheName_at, c]
  have e : ∀ hsh t, Obj.putName name hsh (.str name t) v { cls := .type "dict", data := .dict ents n } = { cls := .type "dict", data := .dict (putL name hsh (.str name t) v ents.toList).toArray (putN name ents.toList n) } := fun hsh t => by
    have := putName_dict name hsh (.str name t) v ents.toList n
    simpa only [dictOf, Array.toArray_toList] using this
  refine wpAny_updatePart hd ?_
  have D' := Heap.get?_update_self (Obj.putName name (PyData.keyHash w.params name) (.str name s.toks) v) hd (by rw [e]; rfl)
  rw [e] at D'
  have hz' : (putL name (PyData.keyHash w.params name) (.str name s.toks) v ents.toList).toArray.size ≤ sizeLine := by
    rw [List.size_toArray, sizeLine_eq]
    have := putL_length (nm := name) (hsh := PyData.keyHash w.params name) (key := .str name s.toks) (v := v) (es := ents.toList)
    have e2 : ents.toList.length = ents.size := Array.length_toList
    lia  
  refine wpAny_bind (wpAny_lookBehind D' (pastItsLine_dict (Nat.le_succ_of_le hz')) ?_)
  exact wpAny_pure (h _ _ _ D' (Heap.SameBut.update ..))

theorem does_setAttrA (O : T.Ok) (I : Inv T W) {x v : AV} {a : Nat} {nm : Str} {vx vv : Value} {σ' : Hp} (rx : W.V T x vx) (rv : W.V T v vv) (hnm : T.P.attrs[a]? = some nm) (e : setAttrA x a v W.σ = some σ') :
    Does T A noX W (setAttr vx nm vv) (.ok () σ') (fun _ _ _ => True) := by
  cases x with
  | ref l =>
    have e0 : setAttrA (.ref l) a v W.σ = match ins W.σ[l]? with | some p => if a < p.2.length then some (W.σ.set l (.inst p.1 (p.2.set a (some v)))) else none | none => none := rfl
    rw [e0] at e
    cases hσ : ins W.σ[l]? with
    | none => rw [hσ] at e; cases e
    | some p =>
      rw [hσ] at e
      simp only at e
      by_cases hl : a < p.2.length
      · rw [if_pos hl] at e
        cases e
        obtain ⟨cl, b, dx, ents, n, hcl, hb, h1, h2, h3, h4, hk, ⟨hc1, hc2⟩, h5⟩ := I.inst (ins_ok hσ) rx
        have hk' : ∀ e ∈ ents.toList, ∃ x t, e.key = .str x t := fun e he => let ⟨x, t, q, _⟩ := hk e he; ⟨x, t, q⟩
        have ok := O.inst hcl
        have X := O.X.keeps I.base
        have hz : ents.size ≤ 1000 := by
          rw [Array.length_toList] at hc1
          exact Nat.le_trans hc1 (Nat.le_trans List.countP_le_length hc2)
        have II : ∀ s : Shared, s.heap = W.h → InstAt s.heap b { cls := .ref (T.ca p.1), dict := some dx, data := .plain } (T.ca p.1) (some { cls := .type "dict", data := .dict ents n }) := fun s q => by rw [q]; exact ⟨h1, rfl, rfl, h4⟩
        refine set_plain X (II _ rfl) ok.set (osa_open (s := { W.s with toks := W.s.toks + 1 }) X (II _ rfl) ok.over (ok.attrs nm (List.mem_of_getElem? hnm)).2 fun bb => store_own (A := A.in1) (s := { W.s with toks := W.s.toks + 1 }) X h1 h4 ok.dict hk' hz fun h' hsh t hd' hs => ?_)
        show PostE _ _ _ _ _ _ _
        have own_b := I.ownb _ _ hb
        obtain ⟨f1, f2⟩ := fnd_put (nm := nm) (hsh := hsh) (tk := t) (v := vv) hk'
        have g := I.upd (o := .inst p.1 (p.2.set a (some v))) (s' := { W.s with heap := h', toks := W.s.toks + 1 + 1 }) hb (fun c q f e => ?_) (fun c q => hs.2 c fun z => q (z ▸ h2)) rfl rfl
          fun x => .inst cl dx _ _ hcl ((hs.2 b (Ne.symm h3)).trans h1) h2 h3 hd' ⟨?_, ⟨?_, by rw [List.length_set]; exact hc2⟩, fun i nm' hi => ?_⟩
        · exact ⟨(), _, rfl, rfl, g.1, g.2, trivial⟩
        · by_cases z : c = dx
          · subst z; exact ⟨_, hd'⟩
          · exact ⟨q, (hs.2 c z).trans e⟩
        · intro e he
          rw [List.toList_toArray] at he
          rcases putL_mem he with q | ⟨e', he', q⟩
          · exact ⟨nm, t, q, List.mem_of_getElem? hnm⟩
          · obtain ⟨x, t, z, m⟩ := hk e' he'
            exact ⟨x, t, q.trans z, m⟩
        · rw [List.toList_toArray, List.countP_set hl]
          have h6 := h5 a nm hnm
          cases q : p.2[a] with
          | none =>
            have := putL_length (nm := nm) (hsh := hsh) (key := .str nm t) (v := vv) (es := ents.toList)
            simp only [Option.isSome_none, Option.isSome_some, if_true, Bool.false_eq_true, if_false]
            lia  
          | some w =>
            obtain ⟨w', ew, _⟩ := h6.1 w (by rw [List.getElem?_eq_getElem hl, q])
            rw [putL_hit ew]
            simp only [Option.isSome_some, if_true]
            have : 0 < p.2.countP (·.isSome) := List.countP_pos_iff.mpr ⟨_, List.getElem_mem hl, by rw [q]; rfl⟩
            omega
        · rw [List.toList_toArray]
          by_cases q : nm = nm'
          · subst q
            obtain rfl := nodupA_inj O.at_ hnm hi
            rw [f1, List.getElem?_set_self hl]
            refine ⟨fun av z => ?_, fun z => absurd rfl (z v)⟩
            cases z
            exact ⟨vv, rfl, rv.ext x .no⟩
          · rw [f2 nm' q, List.getElem?_set_ne (fun z => by rw [z, hi] at hnm; cases hnm; exact q rfl)]
            obtain ⟨k1, k2⟩ := h5 i nm' hi
            exact ⟨fun av z => let ⟨u, e1, e2⟩ := k1 av z; ⟨u, e1, e2.ext x .no⟩, k2⟩
      · rw [if_neg hl] at e; cases e
  | _ => cases e
end
end Mine

/-! Soundness: instances are made (typed by hand). -/
set_option Elab.async false
set_option maxRecDepth 100000
namespace Mine
open PySem PySem.SeqAt PySem.Spec PySem.W PySem.Calls PyProof.Rows

section
variable {T : Tp} {A : Around} {W : Wd} {n : Nat} {C : Cx}

theorem callee_cls (O : T.Ok) {c : Nat} {cl : Cl} (e : T.P.cls[c]? = some cl) : Callee T (.ref (T.ca c)) := fun h k => by
  obtain ⟨kp, hk, l⟩ := looks_keep (M := T.M) (O.inst e).keep (O.X.keeps k)
  exact ⟨kp, hk.imp id .inl, l⟩

theorem initAt_ok {P : Pr} {c f : Nat} (h : initAt P c = some f) : ∃ cl, P.cls[c]? = some cl ∧ cl.init = some f ∧ P.attrs.length ≤ 1000 := by
  unfold initAt at h
  cases e : P.cls[c]? with
  | none => rw [e] at h; cases h
  | some cl =>
    rw [e] at h
    simp only at h
    by_cases q : 1000 < P.attrs.length
    · rw [if_pos q] at h; cases h
    · rw [if_neg q] at h
      exact ⟨cl, rfl, h, by lia  ⟩

theorem tc_weight (args : Args) : (Code.builtin "type.__call__" args).weight ≤ 1 := by
  have e1 : (Code.builtin "type.__call__" args).frames = 0 := by kernel_rfl
  have e2 : (Code.builtin "type.__call__" args).isGuard = false := by kernel_rfl
  have e3 : (Code.builtin "type.__call__" args).isCaller = false := by kernel_rfl
  unfold Code.weight
  rw [e1, e2, e3]
  split <;> decide
theorem tc_units (args : Args) : (Code.builtin "type.__call__" args).cUnits ≤ 9 := by
  have e : (Code.builtin "type.__call__" args).cUnits = (Code.builtin "type.__call__" {}).cUnits := by kernel_rfl
  rw [e]; decide +kernel
theorem under_ok {args : Args} (a : AOk n A) : AOkC n (A.under (.builtin "type.__call__" args)) := by
  have w := tc_weight args
  have u := tc_units args
  refine ⟨?_, ?_, a.handled⟩
  · unfold Around.under
    have := a.depth
    dsimp only
    lia  
  · unfold Around.under
    have := a.units
    dsimp only
    lia  
theorem does_newA (O : T.Ok) (I : Inv T W) (hC : CallsOk T n C.call) (hP : C.P = T.P) {c : Nat} {xs : List AV} {vals : List Value} (a : AOk n A) (r : W.Vs T xs vals) (hn : newA C c xs W.σ ≠ .fail) :
    Does T A noX W (call (.ref (T.ca c)) vals) (newA C c xs W.σ) (VW T) := by
  unfold newA at hn ⊢
  rw [hP] at hn ⊢
  cases hf : initAt T.P c with
  | none => rw [hf] at hn; exact absurd rfl hn
  | some f =>
    rw [hf] at hn
    simp only at hn ⊢
    obtain ⟨cl, hcl, hi, hl⟩ := initAt_ok hf
    have ok := O.inst hcl
    obtain ⟨h1, h2⟩ := ok.init f hi
    have X := O.X.keeps I.base
    have hk : ∀ b o, W.h.get? b = some o → ((W.h.push emptyDict).push (instObj (T.ca c) W.h.objs.size)).get? b = some o := fun b o e => Heap.get?_push_of_some _ (Heap.get?_push_of_some _ e)
    have hx1 : ((W.h.push emptyDict).push (instObj (T.ca c) W.h.objs.size)).get? (W.h.objs.size + 1) = some (instObj (T.ca c) W.h.objs.size) := by
      have := Heap.get?_push_size (W.h.push emptyDict) (o := instObj (T.ca c) W.h.objs.size) rfl
      rwa [Heap.size_push] at this
    have hd1 : ((W.h.push emptyDict).push (instObj (T.ca c) W.h.objs.size)).get? W.h.objs.size = some emptyDict := Heap.get?_push_of_some _ (Heap.get?_push_size _ rfl)
    have hN : ∀ b, W.h.objs.size ≤ b → W.h.get? b = none := fun b hb => by
      cases q : W.h.get? b with
      | none => rfl
      | some o => exact absurd (Heap.lt_size q) (Nat.not_lt.mpr hb)
    have g := I.grow (s' := { W.s with heap := (W.h.push emptyDict).push (instObj (T.ca c) W.h.objs.size) }) hk rfl rfl
    have nx := hN (W.h.objs.size + 1) (Nat.le_succ _)
    have nd := hN W.h.objs.size (Nat.le_refl _)
    have fx : FrX (fun b => b = W.h.objs.size + 1 ∨ b = W.h.objs.size) W.own ((W.h.push emptyDict).push (instObj (T.ca c) W.h.objs.size)) := fun b q => by
      rcases q with rfl | rfl
      · exact ⟨own_new I nx, fun o e => by rw [hx1] at e; cases e; exact .inr (.inr ⟨by simp, by simp⟩)⟩
      · exact ⟨own_new I nd, fun o e => by rw [hd1] at e; cases e; exact .inl ⟨_, _, rfl⟩⟩
    obtain ⟨I2, l2, v2⟩ := g.1.take (D := W.h.objs.size + 1) (D2 := W.h.objs.size) (o := .inst c (List.replicate T.P.attrs.length none)) (own_new I nx) (own_new I nd) (base_new I nx) (base_new I nd) ⟨_, hx1⟩ ⟨_, hd1⟩ (Nat.lt_succ_of_lt I.high) fx
      fun x => .inst cl W.h.objs.size #[] 0 hcl hx1 (if_pos (.inr rfl)) (Nat.ne_of_lt (Nat.lt_succ_self _)) hd1 ⟨fun e he => (nomatch he), ⟨Nat.zero_le _, by rw [List.length_replicate]; exact hl⟩, fun i nm _ => ⟨fun av q => absurd (List.mem_replicate.mp (List.mem_of_getElem? q)).2 (fun z => nomatch z), fun _ => rfl⟩⟩
    · have l3 : Le noX W (Wd.take { W with s := { W.s with heap := (W.h.push emptyDict).push (instObj (T.ca c) W.h.objs.size) } } (W.h.objs.size + 1) W.h.objs.size (.inst c (List.replicate T.P.attrs.length none))) :=
        g.2.lose l2 fun b o e _ q => by
          rcases q with rfl | rfl
          · rw [nx] at e; cases e
          · rw [nd] at e; cases e
      obtain ⟨n1, n2⟩ := Out.bind_ok hn
      have key := hC.code f (.ref W.σ.length :: xs) (.ref (W.h.objs.size + 1) :: vals) _ _ (under_ok (args := ⟨.ref (T.ca c) :: vals, []⟩) a) I2 (.cons v2 (r.le l3)) n1
      refine wpAny_call (make_core (h := W.s.heap) (makes_of X ok.makes) (looks_findIn X h1) (fun self => bind_fn X self (beq_iff_eq.mp h2)) (.inl rfl) (codeAny_mono key fun r s' z => ?_))
      cases r with
      | error e => exact z.elim
      | ok fl =>
        cases fl with
        | ret v =>
          obtain ⟨av, W', e1, e2, I', l', rv⟩ := z
          have n3 := n2 av W'.σ e2
          cases av with
          | none =>
            cases rv
            exact ⟨rfl, .ref W.σ.length, W', e1, by rw [show C.call f (.ref W.σ.length :: xs) (W.σ ++ [.inst c (List.replicate T.P.attrs.length none)]) = _ from e2]; rfl, I', l3.trans l', v2.le l'⟩
          | _ => exact absurd rfl n3
        | _ => exact z.elim
end
end Mine

/-! Soundness: dict displays (typed by hand). -/
set_option Elab.async false
namespace Mine
open PySem PySem.SeqAt PySem.Spec PySem.W PySem.Calls PyProof.Rows

noncomputable def flatP : List (Value × Value) → List Value
  | [] => []
  | p :: r => p.1 :: p.2 :: flatP r

theorem halves_length {α : Type} : ∀ l : List α, l.length % 2 = 0 → (halves true l).length = (halves false l).length ∧ 2 * (halves true l).length = l.length
  | [], _ => ⟨rfl, rfl⟩
  | [_], h => by simp at h
  | x :: y :: r, h => by
    obtain ⟨h1, h2⟩ := halves_length r (by simp at h; lia  )
    exact ⟨congrArg Nat.succ h1, by show 2 * ((halves true r).length + 1) = r.length + 2; lia  ⟩

section
variable {T : Tp} {G : Gl} {N : Nm} {n : Nat} {C : Cx}

theorem does_pairs {A : Around} {env : Env} {sl : List (Nat × Str)} {vs : Vs} {pos : Pos} : ∀ (ms : List ME) (p : Nat) (W : Wd), ms.length % 2 = 0 → (∀ m ∈ ms, SE T G N n C m) → okEs G N env.scope sl ms = true → AOk n A → Fm T W env sl vs → Inv T W → evs C ms W.σ vs ≠ .fail →
    Does T A noX W (evalPairs (pairTrees ((halves true (embEs N ms p).1).map some) (halves false (embEs N ms p).1) env pos)) (evs C ms W.σ vs) (fun W' as r => W'.Vs T as (flatP r))
  | [], _, W, _, _, _, _, _, I, _ => Does.ok (evalPairs_nil ⟨W, rfl, rfl, I, .refl _ _, .nil⟩)
  | [_], _, _, h, _, _, _, _, _, _ => absurd h (by simp)
  | m1 :: m2 :: ms, p, W, hl, hs, hm, a, F, I, hn => by
    obtain ⟨h1, hm2⟩ := okEs_cons hm
    obtain ⟨h2, hm3⟩ := okEs_cons hm2
    rw [evs_q2] at hn ⊢
    obtain ⟨n1, n2⟩ := Out.bind_ok hn
    show Does T A noX W (evalPairs (pairTrees (some (embE N m1 p).1 :: (halves true (embEs N ms (embE N m2 (embE N m1 p).2).2).1).map some) ((embE N m2 (embE N m1 p).2).1 :: halves false (embEs N ms (embE N m2 (embE N m1 p).2).2).1) env pos)) _ _
    refine pairTrees_cons_walk ((hs m1 (List.mem_cons_self ..) p sl A W env vs h1 a F I n1).cps fun x W1 vx e1 I1 l1 r1 => ?_)
    have n3 := n2 x W1.σ e1
    rw [evs_q2] at n3
    obtain ⟨n4, n5⟩ := Out.bind_ok (Out.bind_ok n3).1
    refine (hs m2 (List.mem_cons_of_mem _ (List.mem_cons_self ..)) _ sl A W1 env vs h2 a (F.le l1) I1 n4).cps fun y W2 vy e2 I2 l2 r2 => ?_
    have n6 := Out.bind_ok (n5 y W2.σ e2)
    refine (does_pairs ms _ W2 (by simp at hl; lia  ) (fun m hm => hs m (List.mem_cons_of_mem _ (List.mem_cons_of_mem _ hm))) hm3 a (F.le (l1.trans l2)) I2 n6.1).cps fun ys W3 vys e3 I3 l3 r3 => ?_
    refine ⟨x :: y :: ys, W3, rfl, ?_, I3, (l1.trans l2).trans l3, .cons ((r1.le l2).le l3) (.cons (r2.le l3) r3)⟩
    rw [e1]
    show (evs C (m2 :: ms) W1.σ vs).bind _ = _
    rw [evs_q2, e2]
    show ((evs C ms W2.σ vs).bind _).bind _ = _
    rw [e3]; rfl

theorem pairs_cons (k v : AV) (r : List AV) : pairs (k :: v :: r) = (pairs r).map fun l => (k, v) :: l := rfl
theorem distinct_key {es : List (AV × AV)} (h : distinct es = true) : ∀ p ∈ es, isKey p.1 = true := by
  induction es with
  | nil => intro p hp; cases hp
  | cons q r ih =>
    intro p hp
    have h := Bool.and_eq_true_iff.mp h
    rcases List.mem_cons.mp hp with rfl | hp
    · exact (Bool.and_eq_true_iff.mp h.1).1
    · exact ih h.2 p hp
theorem carry {W : Wd} : ∀ {rs : List (Value × Value)} {as : List AV} {kv : List (AV × AV)}, W.Vs T as (flatP rs) → pairs as = some kv → (∀ p ∈ kv, isKey p.1 = true) → ∃ kvs, Carries (kKind T.prog T.w) rs kvs ∧ KV T W.own W.bt W.h kv kvs := by
  intro rs
  induction rs with
  | nil =>
    intro as kv r e _
    cases r
    cases e
    exact ⟨[], trivial, .nil⟩
  | cons p rs ih =>
    intro as kv r e hk
    obtain ⟨k, v⟩ := p
    cases r with
    | cons a r =>
      cases r with
      | cons b r =>
        rw [pairs_cons] at e
        obtain ⟨kv', e', rfl⟩ := Option.map_eq_some_iff.mp e
        obtain ⟨kvs, h1, h2⟩ := ih r e' fun q hq => hk q (List.mem_cons_of_mem _ hq)
        obtain ⟨k1, k2⟩ := key_of a (hk _ (List.mem_cons_self ..))
        exact ⟨(kOf _, v) :: kvs, (show _ ∧ _ ∧ _ from ⟨k1, rfl, h1⟩), .cons (p := (_, _)) k2 b h2⟩

theorem evs_nil {ms : List ME} {h k : Hp} {vs : Vs} (e : evs C ms h vs = .ok [] k) : ms = [] := by
  cases ms with
  | nil => rfl
  | cons m ms =>
    rw [evs_q2] at e
    cases e1 : ev C m h vs with
    | ok x h1 =>
      rw [e1] at e
      have e : (evs C ms h1 vs).bind (fun xs h => Out.ok (x :: xs) h) = _ := e
      cases e2 : evs C ms h1 vs <;> rw [e2] at e <;> cases e
    | fail => rw [e1] at e; cases e
theorem does_dict {A : Around} {W : Wd} {env : Env} {sl : List (Nat × Str)} {vs : Vs} {pos : Pos} {p : Nat} {ms : List ME} (hs : ∀ m ∈ ms, SE T G N n C m) (hm : okEs G N env.scope sl ms = true) (a : AOk n A) (F : Fm T W env sl vs) (I : Inv T W) (hl : ms.length ≤ 30) (h2 : ms.length % 2 = 0)
    (hn : ((evs C ms (W.σ ++ [.dict (some 0) []]) vs).bind fun xs h => match pairs xs with | some kv => putDict W.σ.length kv h | none => .fail) ≠ .fail) :
    Does T A noX W (eval (.Dict ((halves true (embEs N ms p).1).map some) (halves false (embEs N ms p).1) pos) env) ((evs C ms (W.σ ++ [.dict (some 0) []]) vs).bind fun xs h => match pairs xs with | some kv => putDict W.σ.length kv h | none => .fail) (VW T) := by
  obtain ⟨I0, l0, v0⟩ := I.push (s' := { W.s with heap := W.h.push { cls := .type "dict", data := .dict #[] } }) (o := .dict (some 0) []) (Heap.get?_push_size _ rfl) (fun a q e => Heap.get?_push_of_some _ e) rfl rfl
    fun x => .dict [] 0 ⟨_, #[], Heap.get?_push_size _ rfl, ⟨rfl, rfl, rfl⟩, rfl, fun e he => (nomatch he), .nil, List.nodup_nil⟩ (fun e he => by cases he; rfl) .nil (Nat.zero_le _)
  by_cases h0 : ms = []
  · subst h0
    refine wpAny_Dict_empty ⟨.ref W.σ.length, _, rfl, ?_, I0, l0, v0⟩
    show putDict W.σ.length [] (W.σ ++ [.dict (some 0) []]) = _
    have e1 : emptyAt W.σ.length (W.σ ++ [.dict (some 0) []]) = true := by
      unfold emptyAt
      rw [List.getElem?_append_right (Nat.le_refl _), Nat.sub_self]; rfl
    unfold putDict
    rw [e1]; rfl
  · obtain ⟨n1, n2⟩ := Out.bind_ok hn
    have he := embs_length (N := N) ms p
    obtain ⟨g1, g2⟩ := halves_length (embEs N ms p).1 (by rw [he]; exact h2)
    have hpos : 0 < ms.length := List.length_pos_iff.mpr h0
    refine wpAny_Dict_walk (knd := kKind T.prog T.w) (by simp) (by rw [List.length_map]; exact g1) (fun q => by have := congrArg List.length q; simp at this; rw [this] at g2; simp at g2; lia  ) (by rw [List.length_map]; omega)
      ((does_pairs ms p (W.push (.dict (some 0) []) { W.s with heap := W.h.push { cls := .type "dict", data := .dict #[] } }) h2 hs hm a (F.le l0) I0 n1).cps fun as W1 rs e1 I1 l1 r1 => ?_)
    have n3 := n2 as W1.σ e1
    cases hp : pairs as with
    | none => rw [hp] at n3; exact absurd rfl n3
    | some kv =>
      rw [hp] at n3
      have n3 : putDict W.σ.length kv W1.σ ≠ .fail := n3
      unfold putDict at n3
      by_cases hd : (distinct kv && decide (kv.length ≤ 15) && emptyAt W.σ.length W1.σ) = true
      · simp only [Bool.and_eq_true, decide_eq_true_eq] at hd
        obtain ⟨kvs, c1, c2⟩ := carry r1 hp (distinct_key hd.1.1)
        have hne : kv ≠ [] := fun z => by
          subst z
          have e2 : as = [] := by
            cases as with
            | nil => rfl
            | cons x as => cases as with
              | nil => cases hp
              | cons y as => rw [pairs_cons] at hp; obtain ⟨_, _, q⟩ := Option.map_eq_some_iff.mp hp; cases q
          subst e2
          exact h0 (evs_nil e1)
        have hem := hd.2
        unfold emptyAt at hem
        cases hx : dct W1.σ[W.σ.length]? with
        | none => rw [hx] at hem; cases hem
        | some p =>
          rw [hx] at hem
          have hp2 : p.2 = [] := List.isEmpty_iff.mp hem
          obtain ⟨d, kvs0, n0, hb, hd0, _, kv0, _, _⟩ := I1.dict (dct_ok hx) (v0.le l1)
          rw [hp2] at kv0
          cases kv0
          refine ⟨kvs, c1, hd0.dictOf, fun h' hd2 hsb => ?_⟩
          rw [merged_nil_of_nodup _ (c2.nodup hd.1.1)] at hd2
          obtain ⟨ep, hd3⟩ := hd2.dictAt
          have own_d := I1.ownb _ _ hb
          have g := I1.upd (o := .dict none kv) (s' := { W1.s with heap := h', toks := W1.s.toks + rs.length }) hb (fun b q f e => ?_) (fun b q => hsb.2 b fun z => q (z ▸ own_d)) rfl rfl
            fun x => .dict kvs ep hd3 (fun e he => (nomatch he)) (c2.ext x .no) (Nat.le_trans hd.1.2 (by decide))
          · refine ⟨.ref W.σ.length, _, rfl, ?_, g.1, (l0.trans l1).trans g.2, (v0.le l1).le g.2⟩
            rw [show evs C ms (W.σ ++ [.dict (some 0) []]) vs = _ from e1]
            show (match pairs as with | some kv => putDict W.σ.length kv W1.σ | none => .fail) = _
            rw [hp]
            show putDict W.σ.length kv W1.σ = _
            unfold putDict
            rw [if_pos (by simp only [Bool.and_eq_true, decide_eq_true_eq]; exact hd), if_neg (fun z => hne (List.isEmpty_iff.mp z))]
          · by_cases z : b = W.h.objs.size
            · subst z; obtain ⟨o, _, ho, _⟩ := hd3; exact ⟨o, ho⟩
            · exact ⟨q, (hsb.2 b z).trans e⟩
      · rw [if_neg hd] at n3; exact absurd rfl n3
end
end Mine

/-! Soundness, part 12: all expressions (typed by hand). -/
set_option Elab.async false
namespace Mine
open PySem PySem.SeqAt PySem.Spec PySem.W PySem.Calls

section
variable {T : Tp} {G : Gl} {N : Nm} {n : Nat} {C : Cx}

theorem does_part {m : ME} (ih : SE T G N n C m) {b : Bool} {p : Nat} {sl : List (Nat × Str)} {A : Around} {W : Wd} {env : Env} {vs : Vs} (hm : okE G N env.scope sl m = true) (hb : (b || isNoM m) = true) (a : AOk n A) (F : Fm T W env sl vs) (I : Inv T W) (hn : ev C m W.σ vs ≠ .fail) :
    Does T A noX W (evalPart (if b then some (embE N m p).1 else none) env) (ev C m W.σ vs) (VW T) := by
  cases b with
  | true => exact wpAny_evalPart_some (ih p sl A W env vs hm a F I hn)
  | false =>
    cases m with
    | none => exact Does.ok (wpAny_evalPart_none ⟨W, rfl, rfl, I, .refl _ _, .none⟩)
    | _ => cases hb

theorem few_args {pos : Pos} {env : Env} {es : List Expr} (h : plainArgs es = true) (hl : es.length < 30) : ((backTo pos (starEach es env)).all (fun x => !x.1) && (backToKw pos (keywordEach [] env)).all (fun x => x.1.isSome)
      && decide (es.length + ([] : List Keyword).length + (if ([] : List Keyword).isEmpty then 0 else 1) < 30)) = true := by
  have h1 : (backTo pos (starEach es env)).all (fun x => !x.1) = true := by
    have := backTo_plain (env := env) (pos := pos) h
    rw [List.any_eq_false] at this
    rw [List.all_eq_true]
    intro p hp
    have := this p hp
    simpa using this
  rw [h1]
  have h2 : (backToKw pos (keywordEach [] env)).all (fun x => x.1.isSome) = true := rfl
  rw [h2]
  simpa using hl

/-- a call of a value, with its arguments -/
theorem does_args {A : Around} {W : Wd} {env : Env} {sl : List (Nat × Str)} {vs : Vs} {pos : Pos} {f : Value} {first : List Value} {args : List ME} {p : Nat} {g : List AV → Hp → Out AV} (ih : ∀ m ∈ args, SE T G N n C m) (h : okEs G N env.scope sl args = true) (hk : Callee T f)
    (a : AOk n A) (F : Fm T W env sl vs) (I : Inv T W) (hn : (evs C args W.σ vs).bind g ≠ .fail)
    (hc : ∀ xs vals W', Inv T W' → Le noX W W' → evs C args W.σ vs = .ok xs W'.σ → W'.Vs T xs vals → g xs W'.σ ≠ .fail → Does T A noX W' (call f (first ++ vals)) (g xs W'.σ) (VW T)) :
    Does T A noX W (callWith pos f first (backTo pos (starEach (embEs N args p).1 env)) []) ((evs C args W.σ vs).bind g) (VW T) := by
  cases args with
  | nil => exact does_callWith0 I hk (hc [] [] W I (.refl _ _) rfl .nil hn)
  | cons m ms =>
    obtain ⟨n1, n2⟩ := Out.bind_ok hn
    exact does_callWith (plain_embs (m :: ms) p) hk (does_evs (m :: ms) ih p sl A W env vs pos h a F I n1) fun xs vals W' I' l' e1 rr => hc xs vals W' I' l' e1 rr (n2 xs W'.σ e1)

theorem base_eq {o' : Expr} {nm : Str} {env : Env} (h6 : noSuper o' = true) : attributeBase o' nm env (eval o' env) = eval o' env := by
  cases o' with
  | Call _ _ _ _ => cases h6
  | _ => rfl
theorem attr_eval {A : Around} {s : Shared} {env : Env} {o : Expr} {nm : Str} {pos : Pos} {Q : Value → Shared → Prop} {E : Value → Shared → Prop} (hb : noSuper o = true) (h : wpAny T.M A (eval o env) (fun o s₁ => wpAny T.M A (getAttr o nm true) Q E s₁) E s) :
    wpAny T.M A (eval (.Attribute o nm pos) env) Q E s := by
  rw [arm_eval_Attribute, base_eq hb]
  exact wpAny_bind (wpAny_mono h (fun o s₁ h₁ => wpAny_bind (wpAny_standAt (wpAny_bind (wpAny_holding (wpAny_mono h₁ (fun r s₂ h₂ => wpAny_bind (wpAny_letTemporaryGo (wpAny_pure h₂))) fun _ _ y => y))))) fun _ _ y => y)
theorem meth_eval {A : Around} {s : Shared} {env : Env} {o : Expr} {nm : Str} {apos pos : Pos} {args : List Expr} {Q : Value → Shared → Prop} {E : Value → Shared → Prop} (hb : noSuper o = true) (hp : plainArgs args = true) (hl : args.length < 30) (hline : apos.endLine = pos.line)
    (h : wpAny T.M A (eval o env) (fun o' s₁ => ∀ pl, wpAny T.M A (getMethod o' nm pl) (fun p s₂ => wpAny T.M A (callWith pos p.1 p.2 (backTo pos (starEach args env)) []) Q E s₂) E s₁) E s) :
    wpAny T.M A (eval (.Call (.Attribute o nm apos) args [] pos) env) Q E s := by
  rw [arm_eval_Call, base_eq hb]
  refine wpAny_bind (wpAny_mono h (fun ov s₁ h₁ => wpAny_bind (wpAny_standAt ?_)) fun _ _ e => e)
  have hform : methodCallForm (args.length + ([] : List Keyword).length) (backTo pos (starEach args env)) (backToKw pos (keywordEach [] env)) = true := few_args hp hl
  have hpos : methodCallPos true o env apos pos = pure pos := by unfold methodCallPos; simp [hline]
  unfold methodCall
  rw [hform]
  exact wpAny_bind (wpAny_holding (wpAny_mono (h₁ _) (fun p s₂ h₂ => wpAny_bind (wpAny_of_eq hpos h₂)) fun _ _ e => e))

theorem sound_e_aux (hT : T.Ok) (hG : GlOk T G) (hN : N.P = T.P) (hP : C.P = T.P) (hC : CallsOk T n C.call) (k : Nat) (ih : ∀ m : ME, sizeOf m < k → SE T G N n C m) (m : ME) (hk : sizeOf m < k + 1) : SE T G N n C m := by
  intro p sl A W env vs hm a F I hn
  have hu : A.units + 65 < cLine := by have := a.units; lia  
  cases m with
  | none => exact does_none I
  | bool b => exact does_bool I
  | int i => exact does_int I
  | str s => exact does_str I (okS_of hm)
  | var i =>
    obtain ⟨h1, h2⟩ := Bool.and_eq_true_iff.mp hm
    rw [ev_q6] at hn ⊢
    split at hn
    · rename_i v hv
      exact does_var F I (List.contains_iff_mem.mp h1) hv (by simpa using h2)
    · exact absurd rfl hn
  | gl g =>
    rw [ev_q5] at hn ⊢
    rw [hP] at hn ⊢
    cases q : T.P.consts[g]? with
    | none => rw [q] at hn; exact absurd rfl hn
    | some c =>
      obtain ⟨v, hv, r⟩ := hG.con g c q
      have e : N.gl g = c.1 := by unfold Nm.gl; rw [hN, q]; rfl
      have hm : isGlob env.scope (N.gl g) = true := hm
      rw [e] at hm
      show Does T A noX W (eval (.Name (N.gl g) _) env) _ _
      rw [e]
      exact does_global hT I F hm hv ⟨c.2, W, rfl, rfl, I, .refl _ _, r _ _ _⟩
  | bin op l r =>
    obtain ⟨h2, h3⟩ := Bool.and_eq_true_iff.mp hm
    rw [ev_q7] at hn ⊢
    obtain ⟨n1, n2⟩ := Out.bind_ok hn
    refine does_bin (y := fun h => ev C r h vs) (z := fun a b h => binA op a b h) (ih l (by simp at hk; lia  ) _ sl A W env vs h2 a F I n1) (fun x W' I' l' e' => ih r (by simp at hk; lia  ) _ sl A W' env vs h3 a (F.le l') I' (Out.bind_ok (n2 x W'.σ e')).1) fun x y vx vy W' I' l' ee rx ry => ?_
    obtain ⟨σ, e1, e2⟩ := ee
    exact does_binA I' rx ry ((Out.bind_ok (n2 x σ e1)).2 y W'.σ e2)
  | not e0 =>
    rw [ev_q8] at hn ⊢
    obtain ⟨n1, n2⟩ := Out.bind_ok hn
    refine wpAny_UnaryOp ((ih e0 (by simp at hk; lia  ) _ sl A W env vs hm a F I n1).cps fun x W' v e1 I' l' r => ?_)
    have n3 := n2 x W'.σ e1
    refine PyProof.Rows.not_of (does_truthD (α := AV) (g := fun b h => .ok (.bool (!b)) h) I' r n3 fun b W'' I'' l'' es q => ?_)
    exact ⟨.bool (!b), W'', rfl, by rw [e1]; simp only [Out.bind, q, es], I'', l'.trans l'', .bool _⟩
  | and es => exact does_and .And es (fun m' hm' => ih m' (by have := List.sizeOf_lt_of_mem hm'; simp at hk; lia  )) _ sl A W env vs _ hm a F I hn
  | or es => exact does_and .Or es (fun m' hm' => ih m' (by have := List.sizeOf_lt_of_mem hm'; simp at hk; omega)) _ sl A W env vs _ hm a F I hn
  | cmp l op r =>
    obtain ⟨h2, h3⟩ := Bool.and_eq_true_iff.mp hm
    rw [ev_q11] at hn ⊢
    obtain ⟨n1, n2⟩ := Out.bind_ok hn
    refine wpAny_Compare1 (does_two (y := fun h => ev C r h vs) (z := fun x y h => match cmpA op x y h with | some b => .ok (.bool b) h | Option.none => .fail) (ih l (by simp at hk; omega) _ sl A W env vs h2 a F I n1)
      (fun x W' I' l' e' => ih r (by simp at hk; lia  ) _ sl A W' env vs h3 a (F.le l') I' (Out.bind_ok (n2 x W'.σ e')).1) fun x y vx vy W' I' l' ee rx ry => ?_) (marks_of _ (notSet_emb r _))
    obtain ⟨σ, e1, e2⟩ := ee
    have n4 := (Out.bind_ok (n2 x σ e1)).2 y W'.σ e2
    cases q : cmpA op x y W'.σ with
    | none => rw [q] at n4; exact absurd rfl n4
    | some b => exact Does.keep I' fun Q E qq => does_cmpA I' rx ry hu q Q E fun k => qq _ _ (.bool _)
  | chain l op m op' r =>
    have hm := and3 hm
    rw [ev_chain] at hn ⊢
    refine wpAny_mono (does_chains (q := (op, m)) (q' := (op', r)) (r := []) (ih l (by simp at hk; omega)) (se2 (ih m (by simp at hk; omega)) (ih r (by simp at hk; omega))) hm.1.1 (okEs2 hm.1.2 hm.2) (marks_of (cmpM op') (notSet_emb r _)) a F I (Out.bind_ok hn).1).1 (fun v s' ⟨b, W', e, q, I', l', r⟩ => ?_) fun _ _ q => q
    subst r
    exact ⟨.bool b, W', e, by rw [q]; rfl, I', l', .bool _⟩
  | isNone e0 =>
    rw [ev_isNone] at hn ⊢
    obtain ⟨n1, n2⟩ := Out.bind_ok hn
    refine wpAny_Compare1 ((ih e0 (by simp at hk; lia  ) _ sl A W env vs hm a F I n1).cps fun x W' vx e1 I' l' rx => ?_) rfl
    exact wpAny_Constant_none (does_is_none rx ⟨.bool (isNA x), W', rfl, by rw [e1]; rfl, I', l', .bool _⟩)
  | isTrue e0 =>
    rw [ev_isTrue] at hn ⊢
    obtain ⟨n1, n2⟩ := Out.bind_ok hn
    refine wpAny_Compare1 ((ih e0 (by simp at hk; lia  ) _ sl A W env vs hm a F I n1).cps fun x W' vx e1 I' l' rx => ?_) rfl
    exact wpAny_Constant_bool (does_is_true rx ⟨.bool (isTA x), W', rfl, by rw [e1]; rfl, I', l', .bool _⟩)
  | list es =>
    rw [ev_q16] at hn ⊢
    exact does_spliced_list (does_evs es (fun m' hm' => ih m' (by have := List.sizeOf_lt_of_mem hm'; simp at hk; omega)) _ sl A W env vs _ hm a F I (Out.bind_ok hn).1) hn
  | tup es =>
    rw [ev_q15] at hn ⊢
    exact does_spliced_tup (does_evs es (fun m' hm' => ih m' (by have := List.sizeOf_lt_of_mem hm'; simp at hk; omega)) _ sl A W env vs _ hm a F I (Out.bind_ok hn).1) hn
  | dict es =>
    have hm := and3 hm
    have hm := And.intro (And.intro hm.1.1 (of_decide_eq_true hm.1.2)) (of_decide_eq_true hm.2)
    rw [ev_q17] at hn ⊢
    exact does_dict (fun m' hm' => ih m' (by have := List.sizeOf_lt_of_mem hm'; simp at hk; omega)) hm.1.1 a F I hm.1.2 hm.2 hn
  | idx o i =>
    obtain ⟨h1, h2⟩ := Bool.and_eq_true_iff.mp hm
    rw [ev_q18] at hn ⊢
    obtain ⟨n1, n2⟩ := Out.bind_ok hn
    refine PyProof.Rows.Subscript_ (does_two (y := fun h => ev C i h vs) (z := fun x y h => someA (idxA x y h) h) (ih o (by simp at hk; omega) _ sl A W env vs h1 a F I n1)
        (fun x W' I' l' e' => ih i (by simp at hk; lia  ) _ sl A W' env vs h2 a (F.le l') I' (Out.bind_ok (n2 x W'.σ e')).1) fun x y vx vy W' I' l' ee rx ry => ?_)
    obtain ⟨σ, e1, e2⟩ := ee
    have n4 := (Out.bind_ok (n2 x σ e1)).2 y W'.σ e2
    cases q : idxA x y W'.σ with
    | none => rw [q] at n4; exact absurd rfl n4
    | some b => exact does_idxA I' hu (notSlice_emb i _) rx ry q
  | slice o lo hi bl bh =>
    have hm := and5 hm
    obtain ⟨⟨⟨⟨h1, h2⟩, h3⟩, h4⟩, h5⟩ := hm
    rw [ev_q19] at hn ⊢
    obtain ⟨n1, n2⟩ := Out.bind_ok hn
    refine PyProof.Rows.Subscript_ ((ih o (by simp at hk; lia  ) _ sl A W env vs h1 a F I n1).cps fun x W1 vx e1 I1 l1 rx => ?_)
    obtain ⟨m1, m2⟩ := Out.bind_ok (n2 x W1.σ e1)
    refine wpAny_Slice ((does_part (ih lo (by simp at hk; lia  )) h2 h4 a (F.le l1) I1 m1).cps fun y W2 vy e2 I2 l2 ry => ?_)
    obtain ⟨k1, k2⟩ := Out.bind_ok (m2 y W2.σ e2)
    refine (does_part (ih hi (by simp at hk; lia  )) h3 h5 a (F.le (l1.trans l2)) I2 k1).cps fun z W3 vz e3 I3 l3 rz => ?_
    refine wpAny_evalPart_none ?_
    have g := I3.grow (s' := { W3.s with heap := W3.h.push { cls := .type "slice", data := .fields #[vy, vz, .none] } }) (fun a q e => Heap.get?_push_of_some _ e) rfl rfl
    refine (does_sliceA g.1 ((rx.le (l2.trans l3)).le g.2) ((ry.le l3).le g.2) (rz.le g.2) (Heap.get?_push_size _ rfl) (k2 z W3.σ e3)).up (((l1.trans l2).trans l3).trans g.2) ?_
    rw [e1]; show (ev C lo W1.σ vs).bind _ = _; rw [e2]; show (ev C hi W2.σ vs).bind _ = _; rw [e3]; rfl
  | attr o i =>
    have hm := and3 hm
    have hm := And.intro hm.1 (of_decide_eq_true hm.2)
    have h1 : T.P.attrs[i]? = some (N.at_ i) := by
      have hi := hm.2
      unfold Nm.at_
      rw [hN] at hi ⊢
      rw [List.getElem?_eq_getElem hi]; rfl
    rw [ev_q20] at hn ⊢
    obtain ⟨n1, n2⟩ := Out.bind_ok hn
    refine attr_eval (noSuper_emb hm.1.1 _) ((ih o (by simp at hk; lia  ) _ sl A W env vs hm.1.2 a F I n1).cps fun x W' v e1 I' l' r => ?_)
    have n3 := n2 x W'.σ e1
    cases q : attrA W'.σ x i with
    | none => rw [q] at n3; exact absurd rfl n3
    | some b => exact (does_attrA hT I' r h1 q).up l' (by rw [e1]; show someA (attrA W'.σ x i) W'.σ = _; rw [q]; rfl)
  | call f args =>
    have hm := and3 hm
    have h4 := isRefOf_ok hm.1.2
    rw [ev_q21] at hn ⊢
    refine wpAny_Call_NameR (does_global hT I F hm.1.1 (hG.sm _ _ h4) ?_)
    have hke := hG.callee _ f h4
    rw [hG.fa]
    exact does_args (fun m' hm' => ih m' (by have := List.sizeOf_lt_of_mem hm'; simp at hk; lia  )) hm.2 hke a F I hn fun xs vals W' I' l' _ r n2 => hC.does f xs vals A W' a.call I' r n2
  | new c args =>
    have hm := and3 hm
    rw [ev_q22] at hn ⊢
    refine wpAny_Call_NameR (does_global hT I F hm.1.1 (hG.sm _ _ (isRefOf_ok hm.1.2)) ?_)
    rw [hG.ca]
    by_cases hc : (initAt C.P c).isSome = true
    · rw [if_pos hc] at hn ⊢
      obtain ⟨f, hf⟩ := Option.isSome_iff_exists.mp hc
      rw [hP] at hf
      obtain ⟨cl, hc1, _⟩ := initAt_ok hf
      exact does_args (fun m' hm' => ih m' (by have := List.sizeOf_lt_of_mem hm'; simp at hk; lia  )) hm.2 (callee_cls hT hc1) a F I hn fun xs vals W' I' l' _ r n2 => does_newA hT I' hC hP a r n2
    · rw [if_neg hc] at hn; exact absurd rfl hn
  | meth o m args =>
    have hm := and5 hm
    have hm := And.intro (And.intro hm.1.1 (of_decide_eq_true hm.1.2)) (of_decide_eq_true hm.2)
    obtain ⟨⟨⟨⟨h6, h3⟩, h4⟩, h2⟩, h7⟩ := hm
    have h7' : T.P.methNames[m]? = some (N.me m) := by
      unfold Nm.me
      rw [hN] at h7 ⊢
      rw [List.getElem?_eq_getElem h7]; rfl
    rw [ev_q23] at hn ⊢
    obtain ⟨n1, n2⟩ := Out.bind_ok hn
    refine meth_eval (noSuper_emb h6 _) (plain_embs args _) (by rw [embs_length]; exact h2) rfl ((ih o (by simp at hk; lia  ) _ sl A W env vs h3 a F I n1).cps fun x W1 vx e1 I1 l1 r1 pl => ?_)
    have n3 := n2 x W1.σ e1
    rw [hP] at n3
    cases q : methF T.P W1.σ x m with
    | none => rw [q] at n3; exact absurd rfl n3
    | some f =>
      rw [q] at n3
      refine does_method hT I1 r1 h7' q fun hcal => ?_
      have key := does_args (first := [vx]) (pos := posOf p) (p := (embE N o (nx (nx p))).2) (fun m' hm' => ih m' (by have := List.sizeOf_lt_of_mem hm'; simp at hk; omega)) h4 hcal a (F.le l1) I1 n3 fun xs vals W' I' l' _ r n4 => hC.does f (x :: xs) (vx :: vals) A W' a.call I' (.cons (r1.le l') r) n4
      exact key.up l1 (by rw [e1]; show (match methF C.P W1.σ x m with | some f => (evs C args W1.σ vs).bind fun xs h => C.call f (x :: xs) h | none => .fail) = _; rw [hP, q])
  | bi b args =>
    obtain ⟨h3, h2⟩ := Bool.and_eq_true_iff.mp hm
    rw [ev_q24] at hn ⊢
    refine wpAny_Call_NameR (does_bi_name hT hG I F h3 ?_)
    exact does_args (fun m' hm' => ih m' (by have := List.sizeOf_lt_of_mem hm'; simp at hk; omega)) h2 (callee_bi b) a F I hn fun xs vals W' I' _ _ r n2 => does_biA I' a.handled r n2
  | bm m o args =>
    have hm := and4 hm
    have hm := And.intro hm.1 (of_decide_eq_true hm.2)
    obtain ⟨⟨⟨h6, h3⟩, h4⟩, h2⟩ := hm
    rw [ev_q25] at hn ⊢
    obtain ⟨n1, n2⟩ := Out.bind_ok hn
    refine wpAny_Call_method_late (base_eq (noSuper_emb h6 _)) (few_args (plain_embs args _) (by rw [embs_length]; exact h2)) (beq_self_eq_true _) rfl ((ih o (by simp at hk; lia  ) _ sl A W env vs h3 a F I n1).cps fun x W1 vx e1 I1 l1 r1 => ?_)
    have n3 := n2 x W1.σ e1
    by_cases hb : bmKd m x W1.σ = true
    · rw [if_pos hb] at n3
      refine bm_on I1 r1 hb ?_
      have key := does_args (first := [vx]) (pos := posOf p) (p := (embE N o (nx (nx p))).2) (fun m' hm' => ih m' (by have := List.sizeOf_lt_of_mem hm'; simp at hk; lia  )) h4 (callee_builtin (bmId m)) a (F.le l1) I1 n3 fun xs vals W' I' l' _ r n4 => does_bmA I' (r1.le l') r n4
      exact key.up l1 (by rw [e1]; simp only [Out.bind, if_pos hb])
    · rw [if_neg hb] at n3; exact absurd rfl n3
  | inst e0 k =>
    have hm := and3 hm
    rw [ev_q26] at hn ⊢
    obtain ⟨n1, n2⟩ := Out.bind_ok hn
    refine wpAny_Call_NameR (does_bi_name hT hG I F hm.1.1 ?_)
    refine callWith_of (P := fun h => T.base.StaysIn h) (by rw [starEach_plain (notStar_emb e0 _)]; rfl) (callee_builtin _) ?_
    rw [starEach_plain (notStar_emb e0 _)]
    refine evalArgs_plain (spliced_cons ((ih e0 (by simp at hk; lia  ) _ sl A W env vs hm.2 a F I n1).cps fun x W' v e1 I' l' r => ?_))
    refine spliced_cons (does_bi_name hT hG I' (F.le l') hm.1.2 (spliced_nil ⟨I'.base, ?_⟩))
    have n3 := n2 x W'.σ e1
    cases q : instA W'.σ x k with
    | none => rw [q] at n3; exact absurd rfl n3
    | some b => exact (does_instA I' r q).up l' (by rw [e1]; simp only [Out.bind, q])
  | comp elt x src conds sc =>
    have hm := and4 hm
    have st := tests_of k ih
    exact does_comp (ih elt (by simp at hk; lia  )) (ih src (by simp at hk; lia  )) (fun m' hm' => st m' (by have := List.sizeOf_lt_of_mem hm'; simp at hk; lia  )) (scOk_of hm.1.1.1) hm.1.1.2 hm.2 hm.1.2 a F I hn
  | sset e0 =>
    have hm := and3 hm
    rw [ev_q28] at hn ⊢
    obtain ⟨n1, n2⟩ := Out.bind_ok hn
    refine wpAny_Call_NameR (does_bi_name hT hG I F hm.1.1 ?_)
    refine callWith_of (P := fun h => T.base.StaysIn h) (by rw [starEach_plain rfl]; rfl) (callee_builtin _) ?_
    rw [starEach_plain rfl]
    refine evalArgs_plain (spliced_cons ?_)
    refine wpAny_Call_NameR (does_bi_name hT hG I F hm.1.2 ?_)
    refine callWith_of (P := fun h => T.base.StaysIn h) (by rw [starEach_plain (notStar_emb e0 _)]; rfl) (callee_type _) ?_
    rw [starEach_plain (notStar_emb e0 _)]
    refine evalArgs_plain (spliced_cons ((ih e0 (by simp at hk; lia  ) _ sl A W env vs hm.2 a F I n1).cps fun x W' v e1 I' l' r => ?_))
    refine spliced_nil ⟨I'.base, ?_⟩
    exact does_sset I' a.handled r (n2 x W'.σ e1) fun y W2 I2 l2 hb D es => spliced_nil ⟨hb, D.up (l'.trans l2) (by rw [e1]; rfl)⟩
  | chain3 l op m op' r op'' q =>
    have hm := and4 hm
    rw [ev_chain3] at hn ⊢
    refine wpAny_mono (does_chains (q := (op, m)) (q' := (op', r)) (r := [(op'', q)]) (ih l (by simp at hk; omega)) (se3 (ih m (by simp at hk; omega)) (ih r (by simp at hk; omega)) (ih q (by simp at hk; omega))) hm.1.1.1 (okEs3 hm.1.1.2 hm.1.2 hm.2) (marks_of (cmpM op'') (notSet_emb q _)) a F I (Out.bind_ok hn).1).1 (fun v s' ⟨b, W', e, q, I', l', r⟩ => ?_) fun _ _ q => q
    subst r
    exact ⟨.bool b, W', e, by rw [q]; rfl, I', l', .bool _⟩

theorem sound_e (hT : T.Ok) (hG : GlOk T G) (hN : N.P = T.P) (hP : C.P = T.P) (hC : CallsOk T n C.call) (m : ME) : SE T G N n C m := by
  have h : ∀ k, ∀ m : ME, sizeOf m < k → SE T G N n C m := fun k => by
    induction k with
    | zero => intro m h; lia  
    | succ k ih => exact fun m hk => sound_e_aux hT hG hN hP hC k ih m hk
  exact h _ m (Nat.lt_succ_self _)

theorem sound_t (hT : T.Ok) (hG : GlOk T G) (hN : N.P = T.P) (hP : C.P = T.P) (hC : CallsOk T n C.call) (m : ME) : ST T G N n C m :=
  tests_of (sizeOf m + 1) (fun m' _ => sound_e hT hG hN hP hC m') m (Nat.lt_succ_self _)
end
end Mine

/-! Soundness, part 16: statements (typed by hand). -/
set_option Elab.async false
set_option genInjectivity false
set_option genSizeOf false
set_option bootstrap.genMatcherCode false
namespace Mine
open PySem PySem.SeqAt PySem.Spec PySem.W PySem.Calls

mutual
noncomputable def embS (N : Nm) : MS → Nat → Stmt × Nat
  | .set x e, n => (.Assign [.Name (N.var x) (posOf (nx n))] (embE N e (nx (nx n))).1 (posOf n), (embE N e (nx (nx n))).2)
  | .setAttr o a e, n => (.Assign [.Attribute (embE N o (nx (nx n))).1 (N.at_ a) (posOf (nx n))] (embE N e (embE N o (nx (nx n))).2).1 (posOf n), (embE N e (embE N o (nx (nx n))).2).2)
  | .setItem o i e, n => (.Assign [.Subscript (embE N o (nx (nx n))).1 (embE N i (embE N o (nx (nx n))).2).1 (posOf (nx n))] (embE N e (embE N i (embE N o (nx (nx n))).2).2).1 (posOf n), (embE N e (embE N i (embE N o (nx (nx n))).2).2).2)
  | .expr e, n => (.Expr (embE N e (nx n)).1 (posOf n), (embE N e (nx n)).2)
  | .ifs t a b, n => (.If (embE N t (nx n)).1 (embSs N a (embE N t (nx n)).2).1 (embSs N b (embSs N a (embE N t (nx n)).2).2).1 (posOf n), (embSs N b (embSs N a (embE N t (nx n)).2).2).2)
  | .loop x src body, n => (.For (.Name (N.var x) (posOf (nx n))) (embE N src (nx (nx n))).1 (embSs N body (embE N src (nx (nx n))).2).1 [] (posOf n), (embSs N body (embE N src (nx (nx n))).2).2)
  | .ret e, n => (.Return (some (embE N e (nx n)).1) (posOf n), (embE N e (nx n)).2)
  | .pass, n => (.Pass (posOf n), nx n)
  | .raise c msg, n => (.Raise (some (.Call (.Name c (posOf (nx (nx n)))) [.Constant (.str (tS msg)) (kAt (nx (nx (nx n)))) (posOf (nx (nx (nx n))))] [] (posOf (nx n)))) none (posOf n), nx (nx (nx (nx n))))
noncomputable def embSs (N : Nm) : List MS → Nat → List Stmt × Nat
  | [], n => ([], n)
  | s :: r, n => ((embS N s n).1 :: (embSs N r (embS N s n).2).1, (embSs N r (embS N s n).2).2)
end
noncomputable def notCompM : ME → Bool
  | .comp .. => false
  | _ => true
mutual
noncomputable def okM (G : Gl) (N : Nm) (sc : Scope) (sl : List (Nat × Str)) : MS → Bool
  | .set x e => sl.contains (x, N.var x) && okE G N sc sl e
  | .setAttr o a e => notCompM e && okE G N sc sl e && okE G N sc sl o && decide (a < N.P.attrs.length)
  | .setItem o i e => notCompM e && okE G N sc sl e && okE G N sc sl o && okE G N sc sl i
  | .expr e => notCompM e && okE G N sc sl e
  | .ifs t a b => okE G N sc sl t && okMs G N sc sl a && okMs G N sc sl b
  | .loop x src body => sl.contains (x, N.var x) && okE G N sc sl src && okMs G N sc sl body
  | .ret e => okE G N sc sl e
  | .pass => true
  | .raise _ _ => true
noncomputable def okMs (G : Gl) (N : Nm) (sc : Scope) (sl : List (Nat × Str)) : List MS → Bool
  | [] => true
  | s :: r => okM G N sc sl s && okMs G N sc sl r
end
noncomputable def notComp : Expr → Bool
  | .ListComp .. => false
  | .SetComp .. => false
  | .DictComp .. => false
  | _ => true
theorem notComp_emb {N : Nm} {m : ME} (h : notCompM m = true) (n : Nat) : notComp (embE N m n).1 = true := by
  cases m <;> first | rfl | cases h

section
variable {T : Tp} {G : Gl} {N : Nm} {n : Nat} {C : Cx}

inductive PostS (T : Tp) (env : Env) (sl : List (Nat × Str)) (W : Wd) (r : OutS) (f : Flow) (s' : Shared) : Prop
  | intro (W' : Wd) : W'.s = s' → Inv T W' → Le (frX env) W W' → ((∃ vs', r = .next W'.σ vs' ∧ f = .next ∧ Fs T W' env sl vs') ∨ ∃ av v, r = .ret av W'.σ ∧ f = .ret v ∧ W'.V T av v) → PostS T env sl W r f s'
noncomputable def DoesS (T : Tp) (A : Around) (env : Env) (sl : List (Nat × Str)) (W : Wd) (t : Sem Flow) (r : OutS) : Prop := wpAny T.M A t (PostS T env sl W r) (fun _ _ => False) W.s

theorem DoesS.up {A : Around} {env : Env} {sl : List (Nat × Str)} {W₀ W : Wd} {t : Sem Flow} {r r₀ : OutS} (h : DoesS T A env sl W t r) (l : Le (frX env) W₀ W) (e : r₀ = r) : wpAny T.M A t (PostS T env sl W₀ r₀) (fun _ _ => False) W.s := by
  subst e
  exact wpAny_mono h (fun f _ ⟨W', e, I, l', r⟩ => ⟨W', e, I, l.trans l', r⟩) fun _ _ q => q

noncomputable def SS (T : Tp) (G : Gl) (N : Nm) (n : Nat) (C : Cx) (m : MS) : Prop :=
  ∀ (p : Nat) (sl : List (Nat × Str)) (A : Around) (W : Wd) (env : Env) (vs : Vs), okM G N env.scope sl m = true → AOk n A → Fs T W env sl vs → Inv T W → ex C m W.σ vs ≠ .fail → DoesS T A env sl W (exec (embS N m p).1 env) (ex C m W.σ vs)

theorem does_exs : ∀ (ms : List MS), (∀ m ∈ ms, SS T G N n C m) → ∀ (p : Nat) (sl : List (Nat × Str)) (A : Around) (W : Wd) (env : Env) (vs : Vs), okMs G N env.scope sl ms = true → AOk n A → Fs T W env sl vs → Inv T W → exs C ms W.σ vs ≠ .fail →
    DoesS T A env sl W (execs (embSs N ms p).1 env) (exs C ms W.σ vs)
  | [], _, _, _, _, W, _, vs, _, _, F, I, _ => wpAny_execs_nil ⟨W, rfl, I, .refl _ _, .inl ⟨vs, rfl, rfl, F⟩⟩
  | m :: ms, ih, p, sl, A, W, env, vs, h, a, F, I, hn => by
    obtain ⟨h1, h2⟩ := Bool.and_eq_true_iff.mp h
    rw [exs_q2] at hn ⊢
    have n1 : ex C m W.σ vs ≠ .fail := fun q => by rw [q] at hn; exact hn rfl
    refine wpAny_execs_cons (wpAny_mono (ih m (List.mem_cons_self ..) p sl A W env vs h1 a F I n1) (fun f _ ⟨W', e, I', l', d⟩ => ?_) fun _ _ q => q)
    subst e
    rcases d with ⟨vs', e1, rfl, F'⟩ | ⟨av, v, e1, rfl, r⟩
    · rw [e1] at hn ⊢
      simp only at hn ⊢
      exact (does_exs ms (fun m' hm => ih m' (List.mem_cons_of_mem _ hm)) _ sl A W' env vs' h2 a F' I' hn).up l' rfl
    · rw [e1]
      exact ⟨W', rfl, I', l', .inr ⟨av, v, rfl, rfl, r⟩⟩

theorem swaps_no {v : Expr} (h : notComp v = true) (t : Option Expr) (k : Nat) (env : Env) : swapsWith v t k env = pure false := by
  cases v with
  | ListComp _ _ _ _ => cases h
  | SetComp _ _ _ _ => cases h
  | DictComp _ _ _ _ _ => cases h
  | _ => rfl

theorem Rd.leD {X : Addr → Prop} {W W' : Wd} {env : Env} {x : Str} {v : Value} (r : Rd W env x v) (l : Le X W W') (hd : ∀ a, frX env a → ¬ X a) : Rd W' env x v := by
  rcases r with ⟨k, f, m, nn, e⟩ | ⟨k, c, e, f, nn⟩
  · have hx := hd _ (.inl rfl)
    exact .inl ⟨k, (let ⟨_, z⟩ := ns_at nn; (l.ext.ow _ _ z hx).trans f), m, ns_ko nn fun o ho => l.ext.kp _ o ho f hx, e⟩
  · have hx := hd c (.inr ⟨x, e⟩)
    exact .inr ⟨k, c, e, (let ⟨_, z⟩ := cell_at nn; (l.ext.ow _ _ z hx).trans f), cell_ko nn fun o ho => l.ext.kp _ o ho f hx⟩

theorem Fs.leD {X : Addr → Prop} {W W' : Wd} {env : Env} {sl : List (Nat × Str)} {vs : Vs} (F : Fs T W env sl vs) (l : Le X W W') (fx : FrX X W.own W.h) (hd : ∀ a, Mine.frX env a → ¬ X a) : Fs T W' env sl vs where
  fm := ⟨F.fm.kind, F.fm.glob, F.fm.bi, F.fm.cells, fun i x hi av e => let ⟨v, r, d⟩ := F.fm.rd i x hi av e; ⟨v, r.leX l fx, d.leD l hd⟩⟩
  ns := let ⟨m, nn⟩ := F.ns; ⟨m, ns_ko nn fun o ho => l.ext.kp _ o ho F.ownL (hd _ (.inl rfl))⟩
  ownL := let ⟨_, nn⟩ := F.ns; let ⟨_, z⟩ := ns_at nn; (l.ext.ow _ _ z (hd _ (.inl rfl))).trans F.ownL
  baseL := F.baseL
  kinds := F.kinds
  cell := fun x c e => let ⟨h1, h2, h3, v, h4⟩ := F.cell x c e; let ⟨_, z⟩ := cell_at h4; ⟨(l.ext.ow _ _ z (hd _ (.inr ⟨x, e⟩))).trans h1, h2, h3, v, cell_ko h4 fun o ho => l.ext.kp _ o ho h1 (hd _ (.inr ⟨x, e⟩))⟩
  cinj := F.cinj
  inj := F.inj
  inj2 := F.inj2
  len := F.len

/-- the loop, from any turn on -/
theorem does_loop {A : Around} {W₁ : Wd} {env : Env} {sl : List (Nat × Str)} {x : Nat} {nm : Str} {p : Pos} {body : List MS} {body' : List Stmt} {src : Src} {J : Addr} (a : AOk n A) (hx : (x, nm) ∈ sl)
    (hb : ∀ (W : Wd) (vs : Vs), Fs T W env sl vs → Inv T W → exs C body W.σ vs ≠ .fail → DoesS T A env sl W (execs body' env) (exs C body W.σ vs)) {r0 : OutS} (hr : r0 ≠ .fail) (hJ : ¬ frX env J)
    (f : AV → Hp × Vs → It (Hp × Vs) OutS) (hf : f = fun v (st : Hp × Vs) => match exs C body st.1 (st.2.set x (some v)) with | .next h vs => .go (h, vs) | .ret v h => .stop (.ret v h) | _ => .stop .fail)
    {R : Result → Shared → Prop} (hR : ∀ W' fl, Inv T W' → Le (fun b => frX env b ∨ b = J) W₁ W' → ((∃ vs', r0 = .next W'.σ vs' ∧ fl = .next ∧ Fs T W' env sl vs') ∨ ∃ av v, r0 = .ret av W'.σ ∧ fl = .ret v ∧ W'.V T av v) → R (.ok fl) W'.s)
    {W : Wd} {vs : Vs} {i m : Nat} (I : Inv T W) (l : Le (fun b => frX env b ∨ b = J) W₁ W) (F : Fs T W env sl vs) (it : ItOk T W J src i)
    (e : (match iterR (fun st => srcGet src st.1) OutS.fail f m i (W.σ, vs) with | .go st => OutS.next st.1 st.2 | .stop o => o) = r0) :
    codeAny T.M A (.forLoop (.Name nm p) (.ref J) body' [] env) R W.s := by
  refine codeAny_forLoop (fun m s => ∃ W vs i, W.s = s ∧ Inv T W ∧ Le (fun b => frX env b ∨ b = J) W₁ W ∧ Fs T W env sl vs ∧ ItOk T W J src i ∧
    (match iterR (fun st => srcGet src st.1) OutS.fail f m i (W.σ, vs) with | .go st => OutS.next st.1 st.2 | .stop o => o) = r0) (fun m s ⟨W, vs, i, es, I, l, F, it, e⟩ => ?_) m ⟨W, vs, i, rfl, I, l, F, it, e⟩
  subst es
  cases m with
  | zero => simp only [iterR] at e; exact absurd e.symm hr
  | succ m =>
    simp only [iterR] at e
    cases hg : srcGet src W.σ with
    | none => rw [hg] at e; exact absurd e.symm hr
    | some xs =>
      rw [hg] at e
      simp only at e
      cases hi : xs[i]? with
      | none =>
        rw [hi] at e
        refine does_next_end I a.handled it hg hi fun W' I' l' es => wpAny_execs_nil ?_
        have l2 : Le (fun b => frX env b ∨ b = J) W W' := l'.mono fun _ q => .inr q
        exact hR W' .next I' (l.trans l2) (.inl ⟨vs, by rw [← e, es], rfl, F.leD l' it.frX fun b hb q => hJ (q ▸ hb)⟩)
      | some av =>
        rw [hi] at e
        simp only at e
        refine does_next_item I it hg hi fun v W' I' l' es it' r => ?_
        have F' : Fs T W' env sl vs := F.leD l' it.frX fun b hb q => hJ (q ▸ hb)
        refine wpAny_assign_Name (does_store F' I' hx r fun W'' I'' l'' es' F'' => ?_)
        have it'' : ItOk T W'' J src (i + 1) := it'.leX l'' F'.frX hJ
        have hf' : f av (W.σ, vs) = match exs C body W.σ (vs.set x (some av)) with | .next h vs => .go (h, vs) | .ret v h => .stop (.ret v h) | _ => .stop .fail := by rw [hf]
        have hσ : W''.σ = W.σ := es'.trans es
        have n1 : exs C body W''.σ (vs.set x (some av)) ≠ .fail := fun q => by
          rw [hσ] at q
          rw [hf', q] at e
          exact hr e.symm
        refine wpAny_mono (hb W'' _ F'' I'' n1) (fun fl _ ⟨W3, e3, I3, l3, d⟩ => ?_) fun _ _ q => q.elim
        subst e3
        have lall : Le (fun b => frX env b ∨ b = J) W W3 := ((l'.mono fun _ q => .inr q).trans (l''.mono fun _ q => .inl q)).trans (l3.mono fun _ q => .inl q)
        rw [hσ] at d
        rcases d with ⟨vs', e1, rfl, F3⟩ | ⟨av', v', e1, rfl, r3⟩
        · refine ⟨m, Nat.lt_succ_self _, W3, vs', i + 1, rfl, I3, l.trans lall, F3, it''.leX l3 F''.frX hJ, ?_⟩
          rw [← e, hf', e1]
        · refine hR W3 (.ret v') I3 (l.trans lall) (.inr ⟨av', v', ?_, rfl, r3⟩)
          rw [← e, hf', e1]

/-- what was made on the way is forgotten -/
theorem Le.forget {X : Addr → Prop} {W₀ W₁ W₂ : Wd} {J : Addr} (l : Le noX W₀ W₁) (l' : Le (fun b => X b ∨ b = J) W₁ W₂) (h : W₀.h.get? J = none) : Le X W₀ W₂ :=
  Le.lose l.ofNo l' fun b o e nx q => q.elim nx fun z => by rw [z, h] at e; cases e

theorem nextO_ok {vs : Vs} {r : Out Unit} (h : nextO vs r ≠ .fail) : r ≠ .fail := fun q => by rw [q] at h; exact h rfl
theorem does_setItemA {A : Around} {W : Wd} (I : Inv T W) (hu : A.units + 65 < cLine) {x k v : AV} {vx vk vv : Value} {σ' : Hp} (rx : W.V T x vx) (rk : W.V T k vk) (rv : W.V T v vv) (e : setItemA x k v W.σ = some σ') : Does T A noX W (setItem vx vk vv) (.ok () σ') (fun _ _ _ => True) := by
  cases x with
  | ref l =>
    have e0 : setItemA (.ref l) k v W.σ = (match dct W.σ[l]? with | some p => if isKey k && decide (p.2.length < lim) then some (W.σ.set l (.dict (if (dget p.2 k).isSome then p.1 else p.1.map (· + 1)) (dput p.2 k v))) else none | none => none) := rfl
    rw [e0] at e
    cases hx : dct W.σ[l]? with
    | none => rw [hx] at e; cases e
    | some p =>
      rw [hx] at e
      simp only at e
      by_cases hk : (isKey k && decide (p.2.length < lim)) = true
      · rw [if_pos hk] at e
        cases e
        simp only [Bool.and_eq_true, decide_eq_true_eq] at hk
        obtain ⟨d, kvs, n, hb, hd, hep, kv, hl, _⟩ := I.dict (dct_ok hx) rx
        obtain ⟨k1, k2⟩ := key_of rk hk.1
        refine setItem_at (knd := kKind T.prog T.w) k1 hd (by rw [kv.length, sizeLine_eq]; exact hl) fun h' hd' hs => ?_
        rw [kv.isSome k2] at hd'
        have own_d := I.ownb _ _ hb
        have g := I.upd (o := .dict (if (dget p.2 k).isSome then p.1 else p.1.map (· + 1)) (dput p.2 k v)) (s' := { W.s with heap := h', toks := W.s.toks + 1 }) hb (fun b q f e => ?_) (fun b q => hs.2 b fun z => q (z ▸ own_d)) rfl rfl
          fun x => .dict _ _ hd' (fun e he => ?_) ((kv.ext x .no).put k2 (rv.ext x .no) hd.nodup) (Nat.le_trans (dput_length _ _ _) hk.2)
        · exact ⟨(), _, rfl, rfl, g.1, g.2, trivial⟩
        · by_cases z : b = d
          · subst z; obtain ⟨o, _, ho, _⟩ := hd'; exact ⟨o, ho⟩
          · exact ⟨q, (hs.2 b z).trans e⟩
        · by_cases z : (dget p.2 k).isSome = true
          · rw [if_pos z] at he ⊢; exact hep e he
          · rw [if_neg z] at he ⊢
            obtain ⟨e', h1, rfl⟩ := Option.map_eq_some_iff.mp he
            rw [hep e' h1]
      · rw [if_neg hk] at e; cases e
  | _ => cases e

theorem sound_s_aux (hT : T.Ok) (hG : GlOk T G) (hN : N.P = T.P) (hP : C.P = T.P) (hC : CallsOk T n C.call) (k : Nat) (ih : ∀ m : MS, sizeOf m < k → SS T G N n C m) (m : MS) (hk : sizeOf m < k + 1) : SS T G N n C m := by
  intro pp sl A W env vs hm a F I hn
  have hu : A.units + 65 < cLine := by have := a.units; lia  
  have E := fun e => sound_e (G := G) hT hG hN hP hC e
  cases m with
  | set x e =>
    obtain ⟨hx, h3⟩ := Bool.and_eq_true_iff.mp hm
    have hx := List.contains_iff_mem.mp hx
    rw [ex_q1] at hn ⊢
    have n1 : ev C e W.σ vs ≠ .fail := fun q => by rw [q] at hn; exact hn rfl
    have plain : swapsWith (embE N e (nx (nx pp))).1 (some (.Name (N.var x) (posOf (nx pp)))) (posOf pp).line env = pure false → DoesS T A env sl W (exec (.Assign [.Name (N.var x) (posOf (nx pp))] (embE N e (nx (nx pp))).1 (posOf pp)) env) (match ev C e W.σ vs with | .ok v h => .next h (vs.set x (some v)) | .fail => .fail) := fun hsw => by
      refine wpAny_Assign_Name ((E e _ sl A W env vs h3 a F.fm I n1).cps fun av W' val e1 I' l' r => ?_) hsw
      refine does_store (F.le l') I' hx r fun W'' I'' l'' es F'' => ?_
      rw [e1]
      exact ⟨W'', rfl, I'', l'.ofNo.trans l'', .inl ⟨_, by rw [es], rfl, F''⟩⟩
    show DoesS T A env sl W (exec (.Assign [.Name (N.var x) (posOf (nx pp))] (embE N e (nx (nx pp))).1 (posOf pp)) env) _
    by_cases hcv : notCompM e = true
    · exact plain (swaps_no (notComp_emb hcv _) _ _ _)
    · cases e <;> first | exact absurd rfl hcv | skip
      rename_i elt y src conds sc
      generalize hp1 : nx pp = p1 at *
      generalize hp2 : nx p1 = p2 at *
      have hsw : swapsWith (embE N (.comp elt y src conds sc) p2).1 (some (.Name (N.var x) (posOf p1))) (posOf pp).line env = pure (env.blockKind == .function && env.kindOf (N.var x) == some .local && (posOf p1).line == (posOf p2).line && !(sc.names.any fun (n, k) => n == N.var x && (k == .local || k == .cell))) := rfl
      cases hb : (env.blockKind == .function && env.kindOf (N.var x) == some .local && (posOf p1).line == (posOf p2).line && !(sc.names.any fun (n, k) => n == N.var x && (k == .local || k == .cell))) with
      | false => exact plain (by rw [hsw, hb])
      | true =>
        rw [hb] at hsw
        have h3 := and4 h3
        have ok := scOk_of h3.1.1.1
        have hcl : closureFor sc env = pure (closL env.cells sc.names []) := closure_eq fun p hp q => F.fm.cells _ (ok.free p hp q)
        unfold DoesS
        rw [exec_Assign_Name_used _ _ _ _ hsw]
        refine wpAny_bind (wpAny_standAt (wpAny_bind ?_))
        rw [ev_q27] at n1 hn ⊢
        obtain ⟨m1, m2⟩ := Out.bind_ok n1
        show wpAny _ A (do let _ ← comprehension (.ListComp (embE N elt (embEs N conds (embE N src (nx (nx p2))).2).2).1 [⟨.Name (N.var y) (posOf (nx p2)), (embE N src (nx (nx p2))).1, (embEs N conds (embE N src (nx (nx p2))).2).1, 0⟩] sc (posOf p2)) sc env _ (PySem.newList []) false (eval (embE N src (nx (nx p2))).1 env) (some (assign (.Name (N.var x) (posOf p1)) env))) _ _ W.s
        refine wpAny_bind (wpAny_mono (wpAny_comprehension_free (use := some (assign (.Name (N.var x) (posOf p1)) env)) (Q := fun _ s' => PostS T env sl W _ .next s') rfl (folded_no (notSet_emb src _) _) hcl ok.kind ok.loc
          ((E src _ sl A W env vs h3.1.1.2 a F.fm I m1).cps fun av W1 v e1 I1 l1 r1 => ?_)) (fun _ s' hq => wpAny_pure (wpAny_pure hq)) fun _ _ e => e)
        have n3 := m2 av W1.σ e1
        cases hs : srcA W1.σ av with
        | none => rw [hs] at n3; exact absurd rfl n3
        | some sr =>
          rw [hs] at n3
          simp only at n3
          refine does_iter I1 r1 hs fun J W2 I2 l2 es2 hJ _ it2 => ?_
          refine comp_block (r0 := _) (x := y) (vs := vs) (sl := sl) (E elt) (fun m _ => sound_t hT hG hN hP hC m) ok h3.2 h3.1.2 a (F.fm.le l1) I2 l2 hJ it2 n3 (by rw [es2]; try rfl) fun D Ca W' av' er I' lJ hfC oC bC hnC rv => ?_
          obtain ⟨m, hnC⟩ := hnC
          have hfC1 : W.h.get? Ca = none := by
            cases z : W.h.get? Ca with
            | none => rfl
            | some o => obtain ⟨o', e'⟩ := (l1.trans l2).ext.df Ca o z id; rw [hfC] at e'; cases e'
          have hfX : ¬ frX env Ca := fun q => by
            rcases q with q | ⟨z, q⟩
            · obtain ⟨m', n'⟩ := F.ns
              obtain ⟨o, w⟩ := ns_at n'
              rw [← q, hfC1] at w; cases w
            · obtain ⟨_, _, _, w, n'⟩ := F.cell z Ca q
              obtain ⟨o, w⟩ := cell_at n'
              rw [hfC1] at w; cases w
          have LW : Le noX W W' := l1.trans (Le.lose l2 lJ fun b o e _ q => by rw [q, hJ] at e; cases e)
          show wpAny _ A (assign (.Name (N.var x) (posOf p1)) env (.ref D)) _ _ _
          refine wpAny_assign_Name (does_store (F.le LW) I' hx rv fun W3 I3 l3 es3 F3 => ?_)
          obtain ⟨oc, hoc⟩ := ns_at hnC
          have hn3 : W3.h.Ns Ca m := ns_ko hnC fun o ho => l3.ext.kp _ o ho oC hfX
          refine ⟨m, hn3, fun h' hsb => ?_⟩
          obtain ⟨fx, I4, l4⟩ := comp_gone I3 ((l3.ext.ow _ _ hoc hfX).trans oC) bC hn3 hsb
          refine ⟨_, rfl, I4, Le.lose (LW.ofNo.trans l3) l4 (fun b o e _ q => by rw [q, hfC1] at e; cases e), .inl ⟨vs.set x (some av'), ?_, rfl, F3.leD l4 fx fun b hb q => hfX (q ▸ hb)⟩⟩
          rw [e1]
          simp only [Out.bind, hs, er, es3]
  | setAttr o i e =>
    obtain ⟨⟨⟨h1, h2⟩, h4⟩, h5⟩ := and4 hm
    have h5 := of_decide_eq_true h5
    have h3 : T.P.attrs[i]? = some (N.at_ i) := by
      unfold Nm.at_
      rw [hN] at h5 ⊢
      rw [List.getElem?_eq_getElem h5]; rfl
    rw [ex_q2] at hn ⊢
    obtain ⟨n1, n2⟩ := Out.bind_ok (nextO_ok hn)
    refine plainObj_wpAny_Assign_Attribute ((E e _ sl A W env vs h2 a F.fm I n1).cps fun av W1 val e1 I1 l1 r1 => ?_) (swaps_no (notComp_emb h1 _) _ _ _)
    obtain ⟨m1, m2⟩ := Out.bind_ok (n2 av W1.σ e1)
    refine (E o _ sl A W1 env vs h4 a (F.fm.le l1) I1 m1).cps fun ax W2 vx e2 I2 l2 r2 => ?_
    have m3 := m2 ax W2.σ e2
    cases hs : setAttrA ax i av W2.σ with
    | none => rw [hs] at m3; exact absurd rfl m3
    | some σ' =>
      refine (does_setAttrA hT I2 r2 (r1.le l2) h3 hs).cps fun _ W3 _ e3 I3 l3 _ => ?_
      have eR : ((ev C e W.σ vs).bind fun v h => (ev C o h vs).bind fun x h => doneO (setAttrA x i v h)) = .ok () W3.σ := by
        rw [e1]; show (ev C o W1.σ vs).bind _ = _; rw [e2]; show doneO (setAttrA ax i av W2.σ) = _; rw [hs]; exact e3
      rw [eR]
      exact ⟨W3, rfl, I3, ((l1.trans l2).trans l3).ofNo, .inl ⟨vs, rfl, rfl, ((F.le l1).le l2).le l3⟩⟩
  | setItem o i e =>
    obtain ⟨⟨⟨h1, h2⟩, h3⟩, h4⟩ := and4 hm
    rw [ex_q3] at hn ⊢
    obtain ⟨n1, n2⟩ := Out.bind_ok (nextO_ok hn)
    refine wpAny_Assign_Subscript ((E e _ sl A W env vs h2 a F.fm I n1).cps fun av W1 val e1 I1 l1 r1 => ?_) (swaps_no (notComp_emb h1 _) _ _ _)
    obtain ⟨m1, m2⟩ := Out.bind_ok (n2 av W1.σ e1)
    refine (E o _ sl A W1 env vs h3 a (F.fm.le l1) I1 m1).cps fun ax W2 vx e2 I2 l2 r2 => ?_
    obtain ⟨k1, k2⟩ := Out.bind_ok (m2 ax W2.σ e2)
    refine (E i _ sl A W2 env vs h4 a (F.fm.le (l1.trans l2)) I2 k1).cps fun ak W3 vk e3 I3 l3 r3 => ?_
    have m3 := k2 ak W3.σ e3
    cases hs : setItemA ax ak av W3.σ with
    | none => rw [hs] at m3; exact absurd rfl m3
    | some σ' =>
      refine (does_setItemA I3 hu (r2.le l3) r3 ((r1.le l2).le l3) hs).cps fun _ W4 _ e4 I4 l4 _ => ?_
      have eR : ((ev C e W.σ vs).bind fun v h => (ev C o h vs).bind fun x h => (ev C i h vs).bind fun k h => doneO (setItemA x k v h)) = .ok () W4.σ := by
        rw [e1]; show (ev C o W1.σ vs).bind _ = _; rw [e2]; show (ev C i W2.σ vs).bind _ = _; rw [e3]; show doneO (setItemA ax ak av W3.σ) = _; rw [hs]; exact e4
      rw [eR]
      exact ⟨W4, rfl, I4, (((l1.trans l2).trans l3).trans l4).ofNo, .inl ⟨vs, rfl, rfl, (((F.le l1).le l2).le l3).le l4⟩⟩
  | expr e =>
    obtain ⟨hm1, hm2⟩ := Bool.and_eq_true_iff.mp hm
    rw [ex_q4] at hn ⊢
    have n1 : ev C e W.σ vs ≠ .fail := fun q => by rw [q] at hn; exact hn rfl
    refine wpAny_Expr_any ((E e _ sl A W env vs hm2 a F.fm I n1).cps fun av W' val e1 I' l' r => ?_) (by unfold interactive; rw [F.fm.kind]; rfl) (swaps_no (notComp_emb hm1 _) _ _ _)
    rw [e1]
    exact ⟨W', rfl, I', l'.ofNo, .inl ⟨vs, rfl, rfl, F.le l'⟩⟩
  | ifs t b c =>
    obtain ⟨⟨h1, h2⟩, h3⟩ := and3 hm
    rw [ex_q5] at hn ⊢
    have n1 : evT C t W.σ vs ≠ .fail := fun q => by
      unfold evT at q
      cases z : ev C t W.σ vs with
      | ok v h =>
        rw [z] at q hn
        simp only [Out.bind] at q hn
        cases y : truth h v with
        | none => rw [y] at hn; exact hn rfl
        | some b => rw [y] at q; cases q
      | fail => rw [z] at hn; exact hn rfl
    refine wpAny_If ((sound_t hT hG hN hP hC t _ sl A W env vs h1 a F.fm I n1).cps fun bb W' b2 e1 I' l' r => ?_)
    cases r
    unfold evT at e1
    cases z : ev C t W.σ vs with
    | fail => rw [z] at e1; cases e1
    | ok v h =>
      rw [z] at e1 hn
      simp only [Out.bind] at e1 hn
      cases y : truth h v with
      | none => rw [y] at e1; cases e1
      | some b3 =>
        rw [y] at e1 hn
        simp only [Out.ok.injEq] at e1
        obtain ⟨rfl, rfl⟩ := e1
        cases b3 with
        | true =>
          simp only [y] at hn ⊢
          exact (does_exs b (fun m' hm' => ih m' (by have := List.sizeOf_lt_of_mem hm'; simp at hk; lia  )) _ sl A W' env vs h2 a (F.le l') I' hn).up l'.ofNo rfl
        | false =>
          simp only [y] at hn ⊢
          exact (does_exs c (fun m' hm' => ih m' (by have := List.sizeOf_lt_of_mem hm'; simp at hk; lia  )) _ sl A W' env vs h3 a (F.le l') I' hn).up l'.ofNo rfl
  | loop x src body =>
    obtain ⟨⟨hx, h3⟩, h4⟩ := and3 hm
    have hx := List.contains_iff_mem.mp hx
    rw [ex_q6] at hn ⊢
    have n1 : ev C src W.σ vs ≠ .fail := fun q => by rw [q] at hn; exact hn rfl
    refine wpAny_For ((E src _ sl A W env vs h3 a F.fm I n1).cps fun av W' val e1 I' l' r => ?_) (folded_no (notSet_emb src _) _)
    rw [e1] at hn
    simp only at hn
    cases hs : srcA W'.σ av with
    | none => rw [hs] at hn; exact absurd rfl hn
    | some sr =>
      rw [hs] at hn
      simp only [iter_eq] at hn
      refine does_iter I' r hs fun J W'' I'' l'' es hJ _ it'' => ?_
      have F'' := (F.le l').le l''
      have hJ' : ¬ frX env J := fun q => by
        have F1 := F.le l'
        rcases q with q | ⟨y, q⟩
        · obtain ⟨m', n'⟩ := F1.ns
          obtain ⟨o, z⟩ := ns_at n'
          rw [← q, hJ] at z; cases z
        · obtain ⟨_, _, _, w, n'⟩ := F1.cell y J q
          obtain ⟨o, z⟩ := cell_at n'
          rw [hJ] at z; cases z
      refine does_loop (src := sr) (vs := vs) (i := 0) (m := srcN sr + 1) a hx (fun W3 vs3 F3 I3 n3 => does_exs body (fun m' hm' => ih m' (by have := List.sizeOf_lt_of_mem hm'; simp at hk; lia  )) _ sl A W3 env vs3 h4 a F3 I3 n3) hn hJ' _ rfl
        (fun W3 fl I3 l3 d => ?_) I'' (.refl _ W'') F'' it'' (by rw [es]; try rfl)
      refine ⟨W3, rfl, I3, l'.ofNo.trans (Le.forget l'' l3 hJ), ?_⟩
      rw [e1]
      simp only [hs, iter_eq]
      exact d
  | ret e =>
    rw [ex_q7] at hn ⊢
    have n1 : ev C e W.σ vs ≠ .fail := fun q => by rw [q] at hn; exact hn rfl
    refine wpAny_Return_some ((E e _ sl A W env vs hm a F.fm I n1).cps fun av W' val e1 I' l' r => ?_)
    rw [e1]
    exact ⟨W', rfl, I', l'.ofNo, .inr ⟨av, val, rfl, rfl, r⟩⟩
  | pass => exact wpAny_Pass ⟨W, rfl, I, .refl _ _, .inl ⟨vs, rfl, rfl, F⟩⟩
  | raise c msg => exact absurd rfl hn

theorem sound_s (hT : T.Ok) (hG : GlOk T G) (hN : N.P = T.P) (hP : C.P = T.P) (hC : CallsOk T n C.call) (m : MS) : SS T G N n C m := by
  have h : ∀ k, ∀ m : MS, sizeOf m < k → SS T G N n C m := fun k => by
    induction k with
    | zero => intro m h; lia  
    | succ k ih => exact fun m hk => sound_s_aux hT hG hN hP hC k ih m hk
  exact h _ m (Nat.lt_succ_self _)
end
end Mine

set_option Elab.async false
namespace Mine
open PySem
theorem zip_lookup : ∀ {names : List Str} {vals : List Value}, names.Nodup → vals.length = names.length → (names.filterMap fun n => ((names.zip vals).lookup n).map (n, ·)) = names.zip vals
  | [], [], _, _ => rfl
  | n :: ns, v :: vs, hd, hl => by
    have hd' := List.nodup_cons.mp hd
    have ih := zip_lookup hd'.2 (by simpa using hl : vs.length = ns.length)
    simp only [List.zip_cons_cons, List.filterMap_cons, List.lookup_cons, BEq.rfl, Option.map_some]
    congr 1
    refine Eq.trans ?_ ih
    have key : ∀ l : List Str, (∀ x ∈ l, x ≠ n) → (l.filterMap fun x => (match x == n with | true => some v | false => List.lookup x (ns.zip vs)).map (x, ·)) = l.filterMap fun x => (List.lookup x (ns.zip vs)).map (x, ·) := by
      intro l
      induction l with
      | nil => intro _; rfl
      | cons y l ihl =>
        intro hy
        have h1 : (y == n) = false := by simpa using hy y (by simp)
        rw [List.filterMap_cons, List.filterMap_cons, ihl fun x hx => hy x (by simp [hx])]
        simp only [h1]
    exact key ns fun x hx e => hd'.1 (e ▸ hx)
  | [], _ :: _, _, h => by simp at h
  | _ :: _, [], _, h => by simp at h
theorem zip_found {names : List Str} {vals : List Value} (hl : vals.length = names.length) : names.filter (fun n => ((names.zip vals).lookup n).isNone) = [] := by
  rw [List.filter_eq_nil_iff]
  intro n hn
  simp only [Option.isNone_iff_eq_none]
  intro h
  rw [List.lookup_eq_none_iff] at h
  obtain ⟨i, hi, rfl⟩ := List.getElem_of_mem hn
  have hv : i < vals.length := by lia  
  have : (names[i], vals[i]) ∈ names.zip vals := by
    rw [List.mem_iff_getElem]
    exact ⟨i, by simp; lia  , by simp⟩
  have := h _ this
  simp at this

theorem bind_simple {fd : FuncData} {as : List Arg} {ds : List Expr} {kd : List (Option Expr)} {vals : List Value} (hp : fd.params = ⟨[], as, none, [], kd, none, ds⟩) (hd : fd.defaults = .none) (hn : (as.map (·.arg)).Nodup)
    (hl : vals.length = as.length) : bindArgs fd ⟨vals, []⟩ = pure ((as.map (·.arg)).zip vals) := by
  have hl' : vals.length = (as.map (·.arg)).length := by simpa using hl
  unfold bindArgs
  rw [hp, hd]
  have hs : seqItems? Value.none = (pure none : Sem (Option (Array Value))) := rfl
  simp only [List.map_nil, List.nil_append, List.append_nil, hs, pure_bind]
  generalize hg : as.map (·.arg) = names at hn hl' ⊢
  simp [hl', zip_found hl', zip_lookup hn hl']
end Mine

/-! Soundness, part 17: calls of the text's defs (typed by hand). -/
set_option Elab.async false
namespace Mine
open PySem PySem.SeqAt PySem.Spec PySem.W PySem.Calls

noncomputable def slots (fn : Fn) : List (Nat × Str) := (fn.names.take fn.nl).zipIdx.map fun p => (p.2, p.1)
theorem mem_slots {fn : Fn} {i : Nat} {x : Str} : (i, x) ∈ slots fn ↔ (fn.names.take fn.nl)[i]? = some x := by
  unfold slots
  simp only [List.mem_map, Prod.mk.injEq, Prod.exists]
  constructor
  · rintro ⟨a, b, h, rfl, rfl⟩
    exact List.mem_zipIdx_iff_getElem?.mp h
  · intro h
    exact ⟨x, i, List.mem_zipIdx_iff_getElem?.mpr h, rfl, rfl⟩

/-- a def of the text as the abstract one says -/
inductive FnOk (T : Tp) (G : Gl) (f : Nat) (fn : Fn) : Prop
  | mk (o : Obj) (fd : FuncData) (as : List Arg) (kd : List (Option Expr)) (ds : List Expr) : T.base.get? (T.fa f) = some o → o.data = .func fd → T.base.CodeRec fd.code fd.qualname → fd.body = .stmts (embSs ⟨T.P, fn.names⟩ fn.body fn.ps).1 → fd.params = ⟨[], as, none, [], kd, none, ds⟩ → fd.defaults = .none → fd.closure = [] →
      fd.globals = mainGlobals → fd.builtins = builtinsNs → fd.scope.kind = .function → fd.scope.isCoroutine = false → fd.scope.isGenerator = false → as.map (·.arg) = fn.names.take fn.np → okMs G ⟨T.P, fn.names⟩ fd.scope (slots fn) fn.body = true →
      (∀ x ∈ fn.names.take fn.nl, fd.scope.names.lookup x = some .local ∨ fd.scope.names.lookup x = some .cell) → fn.np ≤ fn.nl → fn.nl ≤ fn.names.length → (fn.names.take fn.nl).Nodup → FnOk T G f fn

theorem Le.forgetAll {Y : Addr → Prop} {W₀ W₁ W₂ : Wd} (l : Le noX W₀ W₁) (l' : Le Y W₁ W₂) (h : ∀ b, Y b → W₀.h.get? b = none) : Le noX W₀ W₂ :=
  Le.lose l l' fun b o e _ q => by rw [h b q] at e; cases e

theorem bindL_skip {k : Str → Option NameKind} {x : Str} : ∀ {binds : List (Str × Value)} {m : Str → Option Value}, (∀ p ∈ binds, p.1 ≠ x) → bindL k binds m x = m x
  | [], _, _ => rfl
  | (y, v) :: r, m, h => by
    rw [bindL, bindL_skip fun p hp => h p (by simp [hp])]
    have : x ≠ y := fun e => h (y, v) (by simp) e.symm
    split
    · simp [this]
    · rfl
theorem bindC_skip {k : Str → Option NameKind} {x : Str} : ∀ {binds : List (Str × Value)} {m : Str → Option Value}, (∀ p ∈ binds, p.1 ≠ x) → bindC k binds m x = m x
  | [], _, _ => rfl
  | (y, v) :: r, m, h => by
    rw [bindC, bindC_skip fun p hp => h p (by simp [hp])]
    have : x ≠ y := fun e => h (y, v) (by simp) e.symm
    split
    · rfl
    · simp [this]
theorem bindL_at {k : Str → Option NameKind} {x : Str} {v : Value} (hk : k x = some .local) : ∀ {names : List Str} {vals : List Value} {m : Str → Option Value} {i : Nat}, names.Nodup → names[i]? = some x → vals[i]? = some v → bindL k (names.zip vals) m x = some v
  | n :: ns, w :: vs, m, 0, hd, e1, e2 => by
    simp at e1 e2; subst e1 e2
    rw [List.zip_cons_cons, bindL, bindL_skip]
    · rw [if_pos hk]; simp
    · intro p hp e
      exact (List.nodup_cons.mp hd).1 (e ▸ (List.of_mem_zip hp).1)
  | n :: ns, w :: vs, m, i + 1, hd, e1, e2 => by
    rw [List.zip_cons_cons, bindL]
    exact bindL_at hk (List.nodup_cons.mp hd).2 (by simpa using e1) (by simpa using e2)
  | [], _, _, _, _, e1, _ => by simp at e1
  | _ :: _, [], _, _, _, _, e2 => by simp at e2
theorem bindC_at {k : Str → Option NameKind} {x : Str} {v : Value} (hk : k x ≠ some .local) : ∀ {names : List Str} {vals : List Value} {m : Str → Option Value} {i : Nat}, names.Nodup → names[i]? = some x → vals[i]? = some v → bindC k (names.zip vals) m x = some v
  | n :: ns, w :: vs, m, 0, hd, e1, e2 => by
    simp at e1 e2; subst e1 e2
    rw [List.zip_cons_cons, bindC, bindC_skip]
    · rw [if_neg hk]; simp
    · intro p hp e
      exact (List.nodup_cons.mp hd).1 (e ▸ (List.of_mem_zip hp).1)
  | n :: ns, w :: vs, m, i + 1, hd, e1, e2 => by
    rw [List.zip_cons_cons, bindC]
    exact bindC_at hk (List.nodup_cons.mp hd).2 (by simpa using e1) (by simpa using e2)
  | [], _, _, _, _, e1, _ => by simp at e1
  | _ :: _, [], _, _, _, _, e2 => by simp at e2

theorem pairwise_inj {l : List (Str × Addr)} (h : l.Pairwise fun x y => x.2 ≠ y.2) {x y : Str} {c : Addr} (h1 : l.lookup x = some c) (h2 : l.lookup y = some c) : x = y := by
  have m1 : (x, c) ∈ l := by
    obtain ⟨l1, l2, e, _⟩ := List.lookup_eq_some_iff.mp h1
    rw [e]; simp
  have m2 : (y, c) ∈ l := by
    obtain ⟨l1, l2, e, _⟩ := List.lookup_eq_some_iff.mp h2
    rw [e]; simp
  obtain ⟨i, hi, e1⟩ := List.getElem_of_mem m1
  obtain ⟨j, hj, e2⟩ := List.getElem_of_mem m2
  rw [List.pairwise_iff_getElem] at h
  rcases Nat.lt_trichotomy i j with q | q | q
  · exact absurd (by rw [e1, e2]) (h i j hi hj q)
  · subst q; rw [e1] at e2; cases e2; rfl
  · exact absurd (by rw [e1, e2]) (h j i hj hi q)

section
variable {T : Tp} {G : Gl}

theorem calls_step (hT : T.Ok) (hG : GlOk T G) {n : Nat} (hC : CallsOk T n (callF T.P n)) (hF : ∀ f fn, T.P.fns[f]? = some fn → fn.body ≠ [] → FnOk T G f fn) (f : Nat) (as : List AV) (vals : List Value) (A : Around) (W : Wd) (a : AOkC (n + 1) A)
    (I : Inv T W) (r : W.Vs T as vals) (hn : callF T.P (n + 1) f as W.σ ≠ .fail) :
    codeAny T.M A (.call (.ref (T.fa f)) ⟨vals, []⟩) (fun r s' => match r with | .ok (.ret v) => PostE T noX W (callF T.P (n + 1) f as W.σ) (VW T) v s' | _ => False) W.s := by
  rw [callF_q2] at hn ⊢
  cases hf : T.P.fns[f]? with
  | none => rw [hf] at hn; exact absurd rfl hn
  | some fn =>
    rw [hf] at hn
    simp only at hn ⊢
    by_cases hc : as.length = fn.np ∧ fn.body.isEmpty = false
    · rw [if_pos hc] at hn ⊢
      have hnp := hc.1
      obtain ⟨o, fd, ps, kd, ds, h1, h2, h3, h4, h5, h6, h7, h8, h9, h10, h11, h12, h13, h14, h15, npl, nll, ndl⟩ := hF f fn hf (fun q => by rw [q] at hc; exact absurd hc.2 (by simp))
      have hlv : vals.length = ps.length := by
        have e1 := r.length
        have e2 : (ps.map (·.arg)).length = (fn.names.take fn.np).length := by rw [h13]
        simp only [List.length_map, List.length_take] at e2
        have := npl; have := nll
        lia  
      have hnd : (fn.names.take fn.np).Nodup := by
        have e : fn.names.take fn.np = (fn.names.take fn.nl).take fn.np := by rw [List.take_take, Nat.min_eq_left npl]
        rw [e]; exact ndl.sublist (List.take_sublist _ _)
      have hbind := bind_simple (fd := fd) (vals := vals) h5 h6 (by rw [h13]; exact hnd) hlv
      rw [h13] at hbind
      refine codeAny_call_cells (binds := (fn.names.take fn.np).zip vals) (by have := a.depth; omega) (I.base _ _ h1) h2 (hT.nolimit.keeps I.base) ?_ h4 hbind h7 (fun p hp => ?_) (fun s₁ x => ?_) h11 h12 h10
      · obtain ⟨c, o', vs', t, e1, e2, e3⟩ := h3
        exact ⟨c, o', vs', t, e1, I.base _ _ e2, e3⟩
      · have hm := (List.of_mem_zip hp).1
        have hm' : p.1 ∈ fn.names.take fn.nl := by
          have e : fn.names.take fn.np = (fn.names.take fn.nl).take fn.np := by rw [List.take_take, Nat.min_eq_left npl]
          rw [e] at hm; exact List.mem_of_mem_take hm
        rcases h15 p.1 hm' with q | q
        · exact .inl q
        · exact .inr ⟨q, cellsFrom_some _ _ _ (.inl q)⟩
      · obtain ⟨h', tk, es⟩ := x.toInCall.same
        have g := I.grow (s' := s₁) x.toInCall.keep (by rw [es]) (by rw [es])
        have hL : (callEnvC fd W.s.heap.objs.size (T.fa f)).locals = W.s.heap.objs.size := rfl
        have hnone : ∀ b, W.s.heap.objs.size ≤ b → W.s.heap.get? b = none := fun b hb' => by
          cases q : W.s.heap.get? b with
          | none => rfl
          | some o' => exact absurd (Heap.lt_size q) (Nat.not_lt.mpr hb')
        have hbase : ∀ b, W.s.heap.objs.size ≤ b → T.base.get? b = none := fun b hb' => by
          cases q : T.base.get? b with
          | none => rfl
          | some o' => have := I.base b o' q; rw [hnone b hb'] at this; cases this
        have habove : ∀ y c, (callEnvC fd W.s.heap.objs.size (T.fa f)).cells.lookup y = some c → W.s.heap.objs.size < c := fun y c e => by
          have m1 : (y, c) ∈ (callEnvC fd W.s.heap.objs.size (T.fa f)).cells := by
            obtain ⟨l1, l2, e', _⟩ := List.lookup_eq_some_iff.mp e
            rw [e']; simp
          exact x.above y c m1
        have hle : Le noX W { W with s := s₁ } := g.2
        have F : Fs T { W with s := s₁ } (callEnvC fd W.s.heap.objs.size (T.fa f)) (slots fn) (as.map some ++ List.replicate (fn.names.length - fn.np) none) := {
          fm := ⟨h10, h8, h9, fun y q => by
              have := cellsFrom_some (x := y) fd.scope.names (W.s.heap.objs.size + 1) [] (.inl q)
              obtain ⟨c, e⟩ := Option.isSome_iff_exists.mp this
              exact ⟨c, e⟩, fun i y hy av e => by
              have hy' := mem_slots.mp hy
              have hi : i < as.length := by
                rcases Nat.lt_or_ge i as.length with q | q
                · exact q
                · rw [List.getElem?_append_right (by simpa using q)] at e
                  have := List.mem_of_getElem? e
                  simp at this
              rw [List.getElem?_append_left (by simpa using hi), List.getElem?_map] at e
              obtain ⟨av', e1, e2⟩ := Option.map_eq_some_iff.mp e
              cases e2
              obtain ⟨v, ev, rv⟩ := r.get e1
              have hyn : (fn.names.take fn.np)[i]? = some y := by
                rw [List.getElem?_take] at hy' ⊢
                split at hy'
                · rw [if_pos (by lia  )]; exact hy'
                · cases hy'
              refine ⟨v, rv.le hle, ?_⟩
              rcases h15 y (List.mem_of_getElem? hy') with q | q
              · exact .inl ⟨q, own_new I (hnone _ (Nat.le_refl _)), _, x.toInCall.ns, bindL_at q hnd hyn ev⟩
              · have := cellsFrom_some (x := y) fd.scope.names (W.s.heap.objs.size + 1) [] (.inl q)
                obtain ⟨c, ec⟩ := Option.isSome_iff_exists.mp this
                have hc := x.cell y c ec
                rw [bindC_at (by show fd.scope.names.lookup y ≠ _; rw [q]; simp) hnd hyn ev] at hc
                exact .inr ⟨q, c, ec, own_new I (hnone _ (Nat.le_of_lt (habove y c ec))), hc⟩⟩
          ns := ⟨_, x.toInCall.ns⟩
          ownL := own_new I (hnone _ (Nat.le_refl _))
          baseL := hbase _ (Nat.le_refl _)
          kinds := fun i y hy => h15 y (List.mem_of_getElem? (mem_slots.mp hy))
          cell := fun y c e => ⟨own_new I (hnone _ (Nat.le_of_lt (habove y c e))), hbase _ (Nat.le_of_lt (habove y c e)), Nat.ne_of_gt (habove y c e), _, x.cell y c e⟩
          cinj := fun y z c e1 e2 => pairwise_inj x.apart e1 e2
          inj := fun i j y hi hj => by
            have h1 := mem_slots.mp hi; have h2 := mem_slots.mp hj
            exact (List.getElem?_inj (List.getElem?_eq_some_iff.mp h1).1 ndl).mp (h1.trans h2.symm)
          inj2 := fun i y z hi hj => by
            have h1 := mem_slots.mp hi; have h2 := mem_slots.mp hj
            rw [h1] at h2; cases h2; rfl
          len := fun i y hi => by
            have h1 := (List.getElem?_eq_some_iff.mp (mem_slots.mp hi)).1
            simp only [List.length_take] at h1
            simp only [List.length_append, List.length_map, List.length_replicate]
            have := npl; have := nll
            omega }
        have a' : AOk n (A.deeper (callEnvC fd W.s.heap.objs.size (T.fa f))) := ⟨by have := a.depth; show A.depth + 1 + _ + 1 < _; lia  , by have := a.units; show A.units + 3 + _ + _ < _; omega, a.handled⟩
        have n1 : exs ⟨T.P, callF T.P n⟩ fn.body W.σ (as.map some ++ List.replicate (fn.names.length - fn.np) none) ≠ .fail := fun q => by rw [q] at hn; exact hn rfl
        have hd' := does_exs (C := ⟨T.P, callF T.P n⟩) (N := ⟨T.P, fn.names⟩) fn.body (fun m _ => sound_s hT hG rfl rfl hC m) fn.ps (slots fn) _ { W with s := s₁ } _ _ h14 a' F g.1 n1
        have hfg : ∀ b, frX (callEnvC fd W.s.heap.objs.size (T.fa f)) b → W.h.get? b = none := fun b q => by
          rcases q with rfl | ⟨y, q⟩
          · exact hnone _ (Nat.le_refl _)
          · exact hnone _ (Nat.le_of_lt (habove y b q))
        refine wpAny_mono hd' (fun fl _ ⟨W', e, I', l', d⟩ => ?_) fun _ _ q => q.elim
        subst e
        have lf := Le.forgetAll hle l' hfg
        rcases d with ⟨vs', e1, rfl, _⟩ | ⟨av, v, e1, rfl, rv⟩
        · have e1' : exs ⟨T.P, callF T.P n⟩ fn.body W.σ (as.map some ++ List.replicate (fn.names.length - fn.np) none) = .next W'.σ vs' := e1
          exact ⟨.none, W', rfl, by simp only [e1'], I', lf, .none⟩
        · have e1' : exs ⟨T.P, callF T.P n⟩ fn.body W.σ (as.map some ++ List.replicate (fn.names.length - fn.np) none) = .ret av W'.σ := e1
          exact ⟨av, W', rfl, by simp only [e1'], I', lf, rv⟩
    · rw [if_neg hc] at hn; exact absurd rfl hn

theorem calls_ok (hT : T.Ok) (hG : GlOk T G) (hF : ∀ f fn, T.P.fns[f]? = some fn → fn.body ≠ [] → FnOk T G f fn) : ∀ n, CallsOk T n (callF T.P n)
  | 0 => ⟨fun f as vals A W _ _ _ hn => absurd rfl hn⟩
  | n + 1 => ⟨fun f as vals A W a I r hn => calls_step hT hG (calls_ok hT hG hF n) hF f as vals A W a I r hn⟩
end
end Mine

/-! Soundness, part 18: the head's written part answers for the text's defs (typed by hand). -/
set_option Elab.async false
namespace Mine
open PySem PySem.SeqAt PySem.Spec PySem.W PySem.Calls PyProof.Rows

/-- a name of the text: a def or a class, or nobody's -/
noncomputable def gvOf (K : Frag) (x : Str) : Option (Option Value) := match nsIn K mainGlobals x with
  | some (some (.ref a)) => if keepIn K (.ref a) then some (some (.ref a)) else none
  | some (some _) => none
  | some none => some none
  | none => none
noncomputable def asRef : Option (Option Value) → Addr
  | some (some (.ref a)) => a
  | _ => 0
noncomputable def caOf (K : Frag) (P : Pr) (c : Nat) : Addr := match P.cls[c]? with
  | some cl => asRef (nsIn K mainGlobals cl.name)
  | none => 0
/-- the class whose method it is -/
noncomputable def ownerOf (f : Nat) : Nat → List Cl → Option Nat
  | _, [] => none
  | c, cl :: r => if cl.init == some f || cl.meths.any (fun p => p.2 == f) then some c else ownerOf f (c + 1) r
noncomputable def faOf (K : Frag) (P : Pr) (f : Nat) : Addr := match P.fns[f]? with
  | some fn => (match ownerOf f 0 P.cls with
    | some c => asRef (findIn K (.ref (caOf K P c)) fn.name)
    | none => asRef (nsIn K mainGlobals fn.name))
  | none => 0
noncomputable abbrev glOf (K : Frag) (P : Pr) : Gl := ⟨gvOf K, faOf K P, caOf K P⟩
/-- a constant of the text -/
noncomputable def vIs (av : AV) (v : Value) : Bool := match av with
  | .int i => (match v with
    | .int j _ => i == j
    | _ => false)
  | .str s => (match v with
    | .str x _ => x == tS s && okSb s
    | _ => false)
  | _ => false
theorem vIs_ok {T : Tp} {av : AV} {v : Value} (h : vIs av v = true) (own : Addr → Ow) (bt : List Addr) (hp : Heap) : VR T own bt hp av v := by
  cases av with
  | int i =>
    cases v with
    | int j t => rw [eq_of_beq (show (i == j) = true from h)]; exact .int _ _
    | _ => cases h
  | str s =>
    cases v with
    | str x t =>
      obtain ⟨h1, h2⟩ := Bool.and_eq_true_iff.mp (show (x == tS s && okSb s) = true from h)
      rw [eq_of_beq h1]; exact .str _ (okS_of h2)
    | _ => cases h
  | _ => cases h
noncomputable def consOk (K : Frag) : List (Str × AV) → Bool
  | [] => true
  | p :: r => (match nsIn K mainGlobals p.1 with | some (some v) => vIs p.2 v | _ => false) && consOk K r
theorem consOk_get {K : Frag} : ∀ {l : List (Str × AV)}, consOk K l = true → ∀ p ∈ l, ∃ v, nsIn K mainGlobals p.1 = some (some v) ∧ vIs p.2 v = true
  | q :: r, h, p, hp => by
    obtain ⟨h1, h2⟩ := Bool.and_eq_true_iff.mp h
    rcases List.mem_cons.mp hp with rfl | hp
    · split at h1
      · rename_i v e; exact ⟨v, e, h1⟩
      · cases h1
    · exact consOk_get h2 p hp
noncomputable def allB (K : Frag) (P : Pr) : Bool := clsB K P (caOf K P) (faOf K P) 0 P.cls && consOk K P.consts && nodupA P.attrs && (K.lookup cStatics).isSome

noncomputable def plainPs (names : List Str) (p : Arguments) : Bool := p.posonlyargs.isEmpty && p.vararg.isNone && p.kwonlyargs.isEmpty && p.kwarg.isNone && p.args.map (·.arg) == names
noncomputable def isNoneV : Value → Bool
  | .none => true
  | _ => false
noncomputable def nodupS : List Str → Bool
  | [] => true
  | x :: r => !r.contains x && nodupS r
theorem nodupS_of : ∀ {l : List Str}, nodupS l = true → l.Nodup
  | [], _ => .nil
  | x :: r, h => by
    simp only [nodupS, Bool.and_eq_true, Bool.not_eq_true'] at h
    refine List.nodup_cons.mpr ⟨fun q => ?_, nodupS_of h.2⟩
    have h1 := h.1
    rw [List.contains_iff_mem.mpr q] at h1
    exact Bool.noConfusion h1
noncomputable def isFunK : ScopeKind → Bool
  | .function => true
  | _ => false
noncomputable def isLC : Option NameKind → Bool
  | some .local => true
  | some .cell => true
  | _ => false
noncomputable def fdOk (K : Frag) (P : Pr) (fn : Fn) (fd : FuncData) : Bool :=
  codeIn K fd.code fd.qualname && okMs (glOf K P) ⟨P, fn.names⟩ fd.scope (slots fn) fn.body && plainPs (fn.names.take fn.np) fd.params && isNoneV fd.defaults && fd.closure.isEmpty && (fd.globals == mainGlobals) && (fd.builtins == builtinsNs) &&
    isFunK fd.scope.kind && !fd.scope.isCoroutine && !fd.scope.isGenerator && (fn.names.take fn.nl).all (fun x => isLC (fd.scope.names.lookup x)) && decide (fn.np ≤ fn.nl) && decide (fn.nl ≤ fn.names.length) && nodupS (fn.names.take fn.nl)
noncomputable def fnOk (K : Frag) (P : Pr) (f : Nat) (fn : Fn) : Bool := match K.lookup (faOf K P f) with
  | some ⟨_, _, .func fd, _⟩ => fdOk K P fn fd
  | _ => false
noncomputable def fnsOk (K : Frag) (P : Pr) : Nat → List Fn → Bool
  | _, [] => true
  | i, fn :: r => (fn.body.isEmpty || fnOk K P i fn) && fnsOk K P (i + 1) r

/-- the bodies, as they stand and as they are laid out -/
noncomputable def bodyAt (K : Frag) (a : Addr) : Option FuncBody := match K.lookup a with
  | some ⟨_, _, .func fd, _⟩ => some fd.body
  | _ => none
noncomputable def bodies (K : Frag) (P : Pr) : Nat → List Fn → List (Option FuncBody)
  | _, [] => []
  | i, fn :: r => (if fn.body.isEmpty then none else bodyAt K (faOf K P i)) :: bodies K P (i + 1) r
noncomputable def laid (P : Pr) : List Fn → List (Option FuncBody)
  | [] => []
  | fn :: r => (if fn.body.isEmpty then none else some (.stmts (embSs ⟨P, fn.names⟩ fn.body fn.ps).1)) :: laid P r
theorem bodies_get {K : Frag} {P : Pr} : ∀ {l : List Fn} {i : Nat}, bodies K P i l = laid P l → ∀ (j : Nat) (fn : Fn), l[j]? = some fn → fn.body ≠ [] → bodyAt K (faOf K P (i + j)) = some (.stmts (embSs ⟨P, fn.names⟩ fn.body fn.ps).1)
  | fn :: r, i, h, 0, f, e, hb => by
    cases e
    have h1 := (List.cons.inj h).1
    rw [if_neg (fun q => hb (List.isEmpty_iff.mp q)), if_neg (fun q => hb (List.isEmpty_iff.mp q))] at h1
    exact h1
  | fn :: r, i, h, j + 1, f, e, hb => by
    have := bodies_get (List.cons.inj h).2 j f (by simpa using e) hb
    rw [show i + (j + 1) = i + 1 + j by lia  ]; exact this
theorem fnsOk_get {K : Frag} {P : Pr} : ∀ {l : List Fn} {i : Nat}, fnsOk K P i l = true → ∀ j fn, l[j]? = some fn → fn.body ≠ [] → fnOk K P (i + j) fn = true
  | fn :: r, i, h, 0, f, e, hb => by
    cases e
    simp only [fnsOk, Bool.and_eq_true, Bool.or_eq_true, List.isEmpty_iff] at h
    rcases h.1 with q | q
    · exact absurd q hb
    · exact q
  | fn :: r, i, h, j + 1, f, e, hb => by
    simp only [fnsOk, Bool.and_eq_true] at h
    have := fnsOk_get h.2 j f (by simpa using e) hb
    rw [show i + (j + 1) = i + 1 + j by omega]; exact this

theorem fn_of {T : Tp} {K : Frag} (X : K.In T.base) (hfa : T.fa = faOf K T.P) {f : Nat} {fn : Fn} (h : fnOk K T.P f fn = true) (hb : bodyAt K (faOf K T.P f) = some (.stmts (embSs ⟨T.P, fn.names⟩ fn.body fn.ps).1)) : FnOk T (glOf K T.P) f fn := by
  unfold fnOk at h
  unfold bodyAt at hb
  split at h
  · rename_i c d fd sl ho
    rw [ho] at hb
    simp only [Option.some.injEq] at hb
    simp only [fdOk, Bool.and_eq_true, decide_eq_true_eq, Bool.not_eq_true', beq_iff_eq, List.isEmpty_iff, List.all_eq_true] at h
    obtain ⟨⟨⟨⟨⟨⟨⟨⟨⟨⟨⟨⟨⟨h1, h2⟩, h3⟩, h4⟩, h5⟩, h6⟩, h7⟩, h8⟩, h9⟩, h10⟩, h11⟩, h12⟩, h13⟩, h14⟩ := h
    have hp : ∃ as kd ds, fd.params = ⟨[], as, none, [], kd, none, ds⟩ ∧ as.map (·.arg) = fn.names.take fn.np := by
      cases q : fd.params with
      | mk po as va ko kd kw ds =>
        rw [q] at h3
        simp only [plainPs, Bool.and_eq_true, List.isEmpty_iff, Option.isNone_iff_eq_none, beq_iff_eq] at h3
        obtain ⟨⟨⟨⟨rfl, rfl⟩, rfl⟩, rfl⟩, e⟩ := h3
        exact ⟨as, kd, ds, rfl, e⟩
    obtain ⟨as, kd, ds, hp1, hp2⟩ := hp
    have hdn : fd.defaults = .none := by
      cases q : fd.defaults <;> rw [q] at h4 <;> first | rfl | cases h4
    have hk : fd.scope.kind = .function := by
      cases q : fd.scope.kind <;> rw [q] at h8 <;> first | rfl | cases h8
    refine ⟨⟨c, d, .func fd, sl⟩, fd, as, kd, ds, ?_, rfl, codeRec_of X h1, hb, hp1, hdn, h5, h6, h7, hk, h9, h10, hp2, h2, fun x hx => ?_, h12, h13, nodupS_of h14⟩
    · rw [hfa]; exact X _ _ ho
    · have := h11 x hx
      cases q : fd.scope.names.lookup x with
      | none => rw [q] at this; cases this
      | some k => rw [q] at this; cases k <;> first | exact .inl rfl | exact .inr rfl | cases this
  · cases h

theorem gl_of {T : Tp} {K : Frag} (X : K.In T.base) (hT : T.Ok) (hc : consOk K T.P.consts = true) (hfa : T.fa = faOf K T.P) (hca : T.ca = caOf K T.P) : GlOk T (glOf K T.P) where
  sm := fun x v e => by
    simp only [gvOf] at e
    split at e
    · rename_i a q
      split at e
      · cases e; exact mg_of X hT.g q
      · cases e
    · cases e
    · cases e
    · cases e
  nn := fun x e => by
    simp only [gvOf] at e
    split at e
    · split at e <;> cases e
    · cases e
    · rename_i q; exact ns_none_of X hT.g q
    · cases e
  fa := hfa.symm
  ca := hca.symm
  con := fun g p e => let ⟨v, e1, e2⟩ := consOk_get hc p (List.mem_of_getElem? e); ⟨v, mg_of X hT.g e1, vIs_ok e2⟩
  callee := fun x f e => by
    simp only [gvOf] at e
    split at e
    · rename_i a q
      split at e
      · rename_i hi
        injection e with e; injection e with e; injection e with e
        rw [hfa, ← e]
        intro h k
        obtain ⟨kp, hk, l⟩ := looks_keep (M := T.M) hi (X.keeps k)
        exact ⟨kp, hk.imp id .inl, l⟩
      · cases e
    · cases e
    · cases e
    · cases e

/-- the whole law's call -/
theorem law_call {prog : Program} {w : World} {P : Pr} {s₁ : Shared} {mg mb : Str → Option Value} {K : Frag} {loose : List Str} {pv : Program} {fa l : Addr} {lw n : Nat} {x : Str} {ns : List Int} {vs : List Value} {Q : Value → Shared → Prop} {E : Value → Shared → Prop}
    (X : K.In s₁.heap) (TR : TopRead pv loose mg mb s₁.heap) (hf : fnsOk K P 0 P.fns = true) (hbd : bodies K P 0 P.fns = laid P P.fns) (hB : allB K P = true) (hx : mg x = some (.ref fa)) (hl : nsIn K mainGlobals x = some (some (.ref (faOf K P lw))))
    (hL : s₁.heap.IsList l vs.toArray) (hI : IntsAre vs ns) (hn : ns.length ≤ lim) (hA : n ≤ 20) (hc : ∃ hp, callF P n lw [.scr ns] [] = .ok (.bool true) hp)
    (hR : ∀ s', (∀ b o, s₁.heap.get? b = some o → s'.heap.get? b = some o) → s'.os = s₁.os → s'.gens = s₁.gens → Q (.bool true) s') :
    wpAny (model prog w) callerA (PySem.call (.ref fa) [.ref l]) Q E s₁ := by
  obtain ⟨hp, hc⟩ := hc
  simp only [allB, Bool.and_eq_true] at hB
  obtain ⟨⟨⟨b1, b2⟩, b3⟩, b4⟩ := hB
  let T : Tp := { prog, w, P, base := s₁.heap, mg, mb, fa := faOf K P, ca := caOf K P, K := K }
  have hT : T.Ok := ⟨TR.g, TR.b, TR.nolimit, TR.builtins, X, b1, b3⟩
  have hG := gl_of (T := T) X hT b2 rfl rfl
  obtain ⟨oS, hoS⟩ := Option.isSome_iff_exists.mp b4
  have hfa : fa = faOf K P lw := by
    have := mg_of X TR.g hl
    rw [hx] at this
    injection this with this; injection this
  let W : Wd := { own := fun _ => .free, bt := [], σ := [], s := s₁ }
  have I : Inv T W := ⟨rfl, fun l a e => by simp [W] at e, fun a e => absurd rfl e, fun l o a e => by simp [W] at e, fun _ _ e => e, ⟨oS, X _ _ hoS⟩, fun l a e => by simp [W] at e⟩
  have C := calls_ok hT hG (fun f fn e hb => fn_of (T := T) X rfl (by simpa using fnsOk_get hf f fn e hb) (by simpa using bodies_get hbd f fn e hb)) n
  obtain ⟨ob, ho, hcl, n', hda⟩ := hL
  have rv : W.Vs T [.scr ns] [.ref l] := .cons (.scr ho hcl hda hn (fun i x e => by
      obtain ⟨t, e'⟩ := hI.get i x e
      exact ⟨t, by simpa using e'⟩) (by simpa using hI.length)) .nil
  have a : AOkC n callerA := by
    have e1 : callerA.depth = 301 := by decide
    have e2 : callerA.units = 4 := rfl
    have e3 : recursionLimit = 1000 := rfl
    exact ⟨by lia  , by have : 1000 ≤ cLine := by decide
                        lia  , rfl⟩
  have D := C.does lw [.scr ns] [.ref l] callerA W a I rv (by show callF P n lw [.scr ns] [] ≠ _; rw [hc]; simp)
  rw [hfa]
  refine wpAny_mono D ?_ fun e s' q => q.elim
  rintro v s' ⟨av, W', rfl, q, I', l', r⟩
  have q' : callF P n lw [.scr ns] [] = .ok av W'.σ := q
  rw [hc] at q'
  cases q'
  cases r
  exact hR W'.s I'.base l'.os l'.gens
end Mine

/-! The table of law 07 (printed by gen7.lean from the row). -/
set_option Elab.async false
namespace Mine
noncomputable def sc0 : PySem.Scope := { kind := .function, names := [(".0", .local), ("at", .local), ("weight", .globalImplicit), ("text", .free), ("width", .free)], isGenerator := false, isCoroutine := false, more := [] }
noncomputable def sc1 : PySem.Scope := { kind := .function, names := [(".0", .local), ("k", .local), ("ends", .free), ("text", .free)], isGenerator := false, isCoroutine := false, more := [] }
noncomputable def sc2 : PySem.Scope := { kind := .function, names := [(".0", .local), ("sign", .local), ("is_sign", .globalImplicit)], isGenerator := false, isCoroutine := false, more := [] }
noncomputable def sc3 : PySem.Scope := { kind := .function, names := [(".0", .local), ("sign", .local), ("LETTERS", .globalImplicit)], isGenerator := false, isCoroutine := false, more := [] }
noncomputable def sc4 : PySem.Scope := { kind := .function, names := [(".0", .local), ("name", .local), ("len", .globalImplicit), ("self", .free)], isGenerator := false, isCoroutine := false, more := [] }
noncomputable def sc5 : PySem.Scope := { kind := .function, names := [(".0", .local), ("one", .local), ("self", .free)], isGenerator := false, isCoroutine := false, more := [] }
noncomputable def sc6 : PySem.Scope := { kind := .function, names := [(".0", .local), ("_law_place", .local), ("_law_weight", .globalImplicit), ("_law_text", .free), ("_law_width", .free)], isGenerator := false, isCoroutine := false, more := [] }
noncomputable def sc7 : PySem.Scope := { kind := .function, names := [(".0", .local), ("_law_at", .local), ("_law_is_low", .globalImplicit), ("_law_reach", .free), ("_law_row", .free), ("_law_width", .free)], isGenerator := false, isCoroutine := false, more := [] }
noncomputable def sc8 : PySem.Scope := { kind := .function, names := [(".0", .local), ("_law_part", .local), ("_law_held", .free)], isGenerator := false, isCoroutine := false, more := [] }

/-- weight -/
noncomputable def fn_weight : Fn := { name := "weight", ps := 1057170850592478660170026680572179330131539238023487096334051935966369600908045781541593950109005603447017502973000794593057374866588509870982861972796854939324621083629502266529852276664236690271293953384409756076447910741869320985910427596417804236088994563141139435526, np := 1, nl := 3, names := ["signs", "found", "sign"], body := [.set 1 (.int 7),
    .loop 2 (.var 0) [.set 1 (.bin .mod (.bin .add (.bin .mul (.var 1) (.int 131)) (.bi .ord [.var 2])) (.int 65521))],
    .ret (.var 1)] }

/-- cuts -/
noncomputable def fn_cuts : Fn := { name := "cuts", ps := 12355632949921376523013603422107338769114732554987200790889319140878901122728833567904642711807858070443106515839745232171981977250151459434183226403663588152955956426363501917238817399549213834056366443072588353310708397943784712095170164272442291139105301923050621826990832144968375271567105921685547242921907870274483146871729240502057837906814748853452328368885991472786038259182280733886303828897464751833954569695932174014497873846707311511722718509775801133077994533808495450849739048854698612498147565091549675041666816540903070061884352776146459042938052575582209804667360832385325320288582293769038294989128207242255197376487134159588678899243498164053942546529526092789343026246228152705194817757754689870177922675342710798726280877095392704271786096883649953080268913743060570217599367449759437128411184515063152682147824508312852992219551559483631834367785206600816098871952707096505603596213269607629015961442574612347862185061230324581396192606101808549302859551355345949840285668328460747359111473413404660718252248106361667467190333627347667606184944174947593654965189787560589352460820680715, np := 3, nl := 7, names := ["text", "width", "reach", "weights", "found", "place", "at", "at"], body := [.set 3 (.comp (.call 0 [.slice (.var 0) (.var 7) (.bin .add (.var 7) (.var 1)) true true]) 7 (.bi .range [.bin .add (.bin .sub (.bi .len [.var 0]) (.var 1)) (.int 1)]) [] sc0),
    .set 4 (.list []),
    .loop 5 (.bi .range [.bin .add (.var 1) (.var 2), .bin .add (.bin .sub (.bi .len [.var 0]) (.var 2)) (.int 1)]) [.set 6 (.bin .sub (.var 5) (.var 1)),
    .ifs (.cmp (.idx (.var 3) (.var 6)) .lt (.bi .min [.bin .add (.slice (.var 3) (.bin .sub (.var 6) (.var 2)) (.var 6) true true) (.slice (.var 3) (.bin .add (.var 6) (.int 1)) (.bin .add (.bin .add (.var 6) (.var 2)) (.int 1)) true true)])) [.expr (.bm .append (.var 4) [.var 5])] []],
    .ret (.var 4)] }

/-- pieces -/
noncomputable def fn_pieces : Fn := { name := "pieces", ps := 502616446352013057121331293645680030670132482230859043197520052234715528899417914145267609556573644476502789849102929676004531968797636678580616320323528922477523337816138667342468146652968543590471084784326431912683765299191091844492960806427810472030981687299906483992173959998602042169858518046412753792798713343113053668719433847766235560386341089216835776024304210520094526561256514215382472811384688301211658292248510172780564096679635244575379587777737791926495860142779981457674272453184761003484115742559570025491599202837456340712244781035155299787100599329780425460568027367282467270207475731, np := 3, nl := 4, names := ["text", "width", "reach", "ends", "k"], body := [.ifs (.cmp (.var 0) .eq (.str [])) [.ret (.list [])] [],
    .set 3 (.bin .add (.bin .add (.list [.int 0]) (.call 1 [.var 0, .var 1, .var 2])) (.list [.bi .len [.var 0]])),
    .ret (.comp (.slice (.var 0) (.idx (.var 3) (.var 4)) (.idx (.var 3) (.bin .add (.var 4) (.int 1))) true true) 4 (.bi .range [.bin .sub (.bi .len [.var 3]) (.int 1)]) [] sc1)] }

/-- pieces_cutting -/
noncomputable def fn_pieces_cutting : Fn := { fn_pieces with name := "pieces_cutting" }

/-- is_number -/
noncomputable def fn_is_number : Fn := { name := "is_number", ps := 98964591024819710263527527487224181265684322737536577769343794026697637393051116487123486922583000420148074017782427849521049786496883669286170873018978354, np := 1, nl := 1, names := ["thing"], body := [.ret (.and [.inst (.var 0) .int, .not (.inst (.var 0) .bool)])] }

/-- is_sign -/
noncomputable def fn_is_sign : Fn := { name := "is_sign", ps := 747474815804206569344851343091144544188355892885323771757359895844035623115689183204837116749087745687396839711008549893195640770732490418219480057178852415188318330320336031145577134689479744275808842230045610036, np := 1, nl := 1, names := ["sign"], body := [.ret (.or [.cmp (.var 0) .eq (.str [10]), .and [.chain (.str [32]) .le (.var 0) .le (.str [126]), .cmp (.bi .ord [.var 0]) .ne (.gl 1)]])] }

/-- is_text -/
noncomputable def fn_is_text : Fn := { name := "is_text", ps := 2057627858476878105672237706272656346451574327097003229981911036818140222973394204732771677449641116187161312988245480590089756503919721837158178283178258647792206494219815191607584796498619798655030, np := 1, nl := 1, names := ["thing", "sign"], body := [.ret (.and [.inst (.var 0) .str, .bi .all [.comp (.call 5 [.var 1]) 1 (.var 0) [] sc2]])] }

/-- is_name -/
noncomputable def fn_is_name : Fn := { name := "is_name", ps := 1019952618876510717182184082467969355586183787821688230037556027644703859444978271723191182483325796018546405696020518876808786804146873833636520958912356862822692756653007620334533373928848301128793775922491237309931219557425244766729635356880738465659522566280639396215220973888305936446153786735684351633347997740150098081152642050352032822687534638698552, np := 1, nl := 1, names := ["thing", "sign"], body := [.ifs (.or [.not (.inst (.var 0) .str), .not (.chain (.int 1) .le (.bi .len [.var 0]) .le (.gl 2))]) [.ret (.bool false)] [],
    .ret (.bi .all [.comp (.cmp (.var 1) .isin (.gl 0)) 1 (.var 0) [] sc3])] }

/-- are_sizes -/
noncomputable def fn_are_sizes : Fn := { name := "are_sizes", ps := 94340211258986921188701126909385375892919706534798890217102308899742761054258952880266447454839570508064523960987049782018166846032217139363296084392222943510510397673180445137049563030701215881494560502751109306379305198760714685599800392384436669379698682016818191029475935767288646423791355713065199477325303868, np := 2, nl := 2, names := ["width", "reach"], body := [.ifs (.or [.not (.call 4 [.var 0]), .not (.call 4 [.var 1])]) [.ret (.bool false)] [],
    .ret (.and [.chain (.int 1) .le (.var 0) .le (.gl 3), .chain (.int 1) .le (.var 1) .le (.gl 4)])] }

/-- __init__ -/
noncomputable def fn_Stock_init : Fn := { name := "__init__", ps := 74232392778486705156365736170352534134556633604225521115312752138583171666416921826124514571724031742717750116704121594686586186716356809290193217121826437600556380658266160082428204439178570829164357876320375538762195792306243, np := 1, nl := 1, names := ["self"], body := [.setAttr (.var 0) 0 (.dict []),
    .setAttr (.var 0) 1 (.dict []),
    .setAttr (.var 0) 2 (.dict []),
    .setAttr (.var 0) 3 (.int 0)] }

/-- need -/
noncomputable def fn_Stock_need : Fn := { name := "need", ps := 944347484756946562392606599360808413257020758452904317818008439393424526918746113425284489450794862805962158622733214062959425785553888344297103012489745849710785608183998959794785363659045713888942299272643777719441142401212194132482809262216066129593483839981311884000904062605653031714268855835394455976111529423597266101379538610080656027095275810607979737672972407939261816358927225515339292049409889343016355566656137425104799755780204154403978723340712187319510811765585022212142245136217662314724546915970766655129404340264503477993653521688113437592279452184090110262552928856816902649928754747391099515084008708638257343098282555933247947705066283540294776725537214211428915208267219158046439472077825430290009952124075089766877040746569, np := 2, nl := 3, names := ["self", "text", "number"], body := [.ifs (.cmp (.var 1) .notin (.attr (.var 0) 2)) [.setAttr (.var 0) 3 (.bin .add (.attr (.var 0) 3) (.int 1)),
    .setItem (.attr (.var 0) 2) (.var 1) (.attr (.var 0) 3),
    .setItem (.attr (.var 0) 0) (.attr (.var 0) 3) (.var 1),
    .setItem (.attr (.var 0) 1) (.attr (.var 0) 3) (.int 0)] [],
    .set 2 (.idx (.attr (.var 0) 2) (.var 1)),
    .setItem (.attr (.var 0) 1) (.var 2) (.bin .add (.idx (.attr (.var 0) 1) (.var 2)) (.int 1)),
    .ret (.var 2)] }

/-- has -/
noncomputable def fn_Stock_has : Fn := { name := "has", ps := 1080559854594860369853884041875092390792693453655399728787335648875087707477793579635386640516534925533671241689394511819055187, np := 2, nl := 2, names := ["self", "number"], body := [.ret (.and [.call 4 [.var 1], .cmp (.var 1) .isin (.attr (.var 0) 0)])] }

/-- count -/
noncomputable def fn_Stock_count : Fn := { name := "count", ps := 4128125983394303589195676765833451066144365208532085658303632684264113868884842798162325272363382364842646114612520210765467161799042506548362637493611021352756519609297041412498399321, np := 2, nl := 2, names := ["self", "number"], body := [.ifs (.not (.meth (.var 0) 0 [.var 1])) [.ret (.int 0)] [],
    .ret (.idx (.attr (.var 0) 1) (.var 1))] }

/-- piece -/
noncomputable def fn_Stock_piece : Fn := { name := "piece", ps := 327115204904362393725621748868328930375777021796116984658189554831622600863699144100021183144711120581298061660069865577277962828819953550868159876973787236198963607052331724531667541399519328646810970302445002846, np := 2, nl := 2, names := ["self", "number"], body := [.ifs (.not (.meth (.var 0) 0 [.var 1])) [.raise "NotThere" [110, 111, 32, 115, 117, 99, 104, 32, 112, 105, 101, 99, 101]] [],
    .ret (.idx (.attr (.var 0) 0) (.var 1))] }

/-- numbers -/
noncomputable def fn_Stock_numbers : Fn := { name := "numbers", ps := 8302776883313512079548843277504380554210243852644044308644119158486315877906214496307717992882275, np := 1, nl := 1, names := ["self"], body := [.ret (.bi .sorted [.bi .list [.attr (.var 0) 0]])] }

/-- __init__ -/
noncomputable def fn_Shelf_init : Fn := { name := "__init__", ps := 361143009847634468932902871934827193957370567431219710631981395328481199983077625916034015989657182930761773914946954753814055980855456290912924939800796591730622902039681040877353302656794371062094202058780916153632462037150558256239491763239812917438004424178609232686800197073483344104472319045943573264826997451908826613933047112909112681244289555219419234603887747438378828199807638351860675401880373276383706819213216851682871011132842092, np := 3, nl := 3, names := ["self", "width", "reach"], body := [.ifs (.not (.call 8 [.var 1, .var 2])) [.raise "NoSize" [110, 111, 32, 119, 105, 100, 116, 104, 32, 111, 114, 32, 110, 111, 32, 114, 101, 97, 99, 104]] [],
    .setAttr (.var 0) 4 (.var 1),
    .setAttr (.var 0) 5 (.var 2),
    .setAttr (.var 0) 6 (.new 0 []),
    .setAttr (.var 0) 7 (.dict []),
    .setAttr (.var 0) 8 (.dict [])] }

/-- need_name -/
noncomputable def fn_Shelf_need_name : Fn := { name := "need_name", ps := 721667551269501688585086472582646188655191052288959572883754966274199638115426049852330728997464972382699834875264689717125237, np := 2, nl := 2, names := ["self", "name"], body := [.ifs (.not (.call 7 [.var 1])) [.raise "NoName" [110, 111, 32, 110, 97, 109, 101]] []] }

/-- need_version -/
noncomputable def fn_Shelf_need_version : Fn := { name := "need_version", ps := 10350799345181896007881874663398164440399685562888636717087912802651962675845301221371692729108636953273627931409529568801215490466108408546933965558397883256427085968255957460372230179819199381332834160332927946364622326549339360842164836218490921333825657, np := 3, nl := 3, names := ["self", "name", "number"], body := [.ifs (.or [.not (.call 4 [.var 2]), .cmp (.var 2) .notin (.bm .get (.attr (.var 0) 7) [.var 1, .dict []])]) [.raise "NotThere" [110, 111, 32, 115, 117, 99, 104, 32, 118, 101, 114, 115, 105, 111, 110]] []] }

/-- look -/
noncomputable def fn_Shelf_look : Fn := { name := "look", ps := 721832815576915300893117050673718184019590844231254438289952170117150968883439194118237035092104148782674202031709658717102205, np := 2, nl := 2, names := ["self", "told"], body := [.ifs (.not (.call 6 [.var 1])) [.raise "NoText" [110, 111, 32, 116, 101, 120, 116]] []] }

/-- many_versions -/
noncomputable def fn_Shelf_many_versions : Fn := { name := "many_versions", ps := 5062547309357231686372080524310383606200457298707844939615360052135641010014743954820932123821809876529324544748945908968855651546716705878461261317042197674975823282855535944701321345, np := 1, nl := 1, names := ["self", "name"], body := [.ret (.bi .sum [.comp (.bi .len [.idx (.attr (.var 0) 7) (.var 1)]) 1 (.attr (.var 0) 7) [] sc4])] }

/-- put -/
noncomputable def fn_Shelf_put : Fn := { name := "put", ps := 1135454898126310220663775092765815347594851347272968043589776522861320945325228790201099296740996425041445472661137676797807987198802637590048388796845979899883456395330807982070130792066026235388271574390748193327393325152669140791879328331686795068244399532545463452270704936964006720052242717999556617572441067336904419635874559862905802607239962732352120436178897666018654953102359605972316407352536489976624779633794991482574900127091146958208245528286439018862016305914039702481998148776248539051152490286507034755580448205599911196910010778957711270148257274996682432469587382028466407088060383459241416657399246739037311165463662356146523730276160099701240226573243245801668619124332631834510177892434928372247723055077141655592906983977771936525918314249526505217469772739414434581937496529302818438162923067025578400281202953119462708891199104322098244299728607462998022353300431240737822663709325498313858595265401560298413157134307142126761956951227121524270777715409509959910533094465516735385594199441413306741726762198720438246918329625659062586752086312778037712129685677085531410799865068761637639744466031137940621650351087041645372860436393680069167533890982113970555694325417473102744867075307289745867339996584574667885910957054223667130229674670052174959128012765719410778244, np := 3, nl := 7, names := ["self", "name", "told", "row", "known", "part", "number"], body := [.ifs (.cmp (.bi .len [.var 2]) .gt (.gl 5)) [.raise "TooLong" [116, 111, 111, 32, 109, 97, 110, 121, 32, 115, 105, 103, 110, 115]] [],
    .ifs (.cmp (.meth (.var 0) 1 []) .ge (.gl 6)) [.raise "TooMany" [116, 111, 111, 32, 109, 97, 110, 121, 32, 118, 101, 114, 115, 105, 111, 110, 115]] [],
    .set 3 (.list []),
    .set 4 (.dict []),
    .loop 5 (.call 3 [.var 2, .attr (.var 0) 4, .attr (.var 0) 5]) [.ifs (.cmp (.var 5) .notin (.var 4)) [.setItem (.var 4) (.var 5) (.meth (.attr (.var 0) 6) 2 [.var 5])] [],
    .expr (.bm .append (.var 3) [.idx (.var 4) (.var 5)])],
    .set 6 (.bin .add (.bm .get (.attr (.var 0) 8) [.var 1, .int 0]) (.int 1)),
    .setItem (.attr (.var 0) 8) (.var 1) (.var 6),
    .expr (.bm .setdefault (.attr (.var 0) 7) [.var 1, .dict []]),
    .setItem (.idx (.attr (.var 0) 7) (.var 1)) (.var 6) (.bi .tuple [.var 3]),
    .ret (.var 6)] }

/-- keep -/
noncomputable def fn_Shelf_keep : Fn := { name := "keep", ps := 101117401474111157345873223972770842579871816907387470500255484984949540693593408562049117320508893513457057790968874238886527590681873933677217983035486543319243889213523619374331633483828607623759302242286344944827136102375573, np := 3, nl := 3, names := ["self", "name", "text"], body := [.expr (.meth (.var 0) 3 [.var 1]),
    .expr (.meth (.var 0) 4 [.var 2]),
    .ret (.meth (.var 0) 5 [.var 1, .var 2])] }

/-- joined -/
noncomputable def fn_Shelf_joined : Fn := { name := "joined", ps := 36810891212318702452770922563732262332955677767940989261438031884406058901240790993373548063454993920895543015197717304440772603368862271943377630041642442846159229380640415028912780089572981525783814340045390194626827985209517196947186786472, np := 3, nl := 3, names := ["self", "name", "number", "one"], body := [.ret (.bm .join (.str []) [.comp (.meth (.attr (.var 0) 6) 6 [.var 3]) 3 (.idx (.idx (.attr (.var 0) 7) (.var 1)) (.var 2)) [] sc5])] }

/-- text -/
noncomputable def fn_Shelf_text : Fn := { name := "text", ps := 32647439314331061534053625500352135062927877211293337859218838427026486900169513051117060931732819824647663450141618874236252206277395528026351202068369968047670506464323973827691234004746266875648554420720511071860836021709776403294418641067, np := 3, nl := 3, names := ["self", "name", "number"], body := [.expr (.meth (.var 0) 3 [.var 1]),
    .expr (.meth (.var 0) 7 [.var 1, .var 2]),
    .ret (.meth (.var 0) 8 [.var 1, .var 2])] }

/-- row -/
noncomputable def fn_Shelf_row : Fn := { name := "row", ps := 8721362082239561722879087705255170860735643009169584684055699980604266787441526460799474871196831700714260878691314239218107644909125833865613743038707848597561016488796218919190820553183274606059983430600925965513700453278035116577101968050442561189322928, np := 3, nl := 3, names := ["self", "name", "number"], body := [.expr (.meth (.var 0) 3 [.var 1]),
    .expr (.meth (.var 0) 7 [.var 1, .var 2]),
    .ret (.idx (.idx (.attr (.var 0) 7) (.var 1)) (.var 2))] }

/-- names -/
noncomputable def fn_Shelf_names : Fn := { name := "names", ps := 80487330170069818429771594399188025334720165102748973443852588848574231340768882367181059827371080144698348768146157526496588405225645562422663118020476835071407235114909113873388847677362716264882837823550930849984146313846969, np := 1, nl := 1, names := ["self", "name"], body := [.ret (.bi .sorted [.comp (.var 1) 1 (.attr (.var 0) 7) [.cmp (.bi .len [.idx (.attr (.var 0) 7) (.var 1)]) .gt (.int 0)] sc4])] }

/-- pieces -/
noncomputable def fn_Shelf_pieces : Fn := { name := "pieces", ps := 4304524844585696559677564489005243557920817142834728451054712653821297551133921646085963370109123683325479479933988501105892343880149745030378086712490481795605547883004717071326736158310535146501791705364295290600598465149913764961298745005997412514838754432367422611644, np := 1, nl := 1, names := ["self", "one"], body := [.ret (.comp (.tup [.var 1, .meth (.attr (.var 0) 6) 6 [.var 1], .meth (.attr (.var 0) 6) 10 [.var 1]]) 1 (.meth (.attr (.var 0) 6) 9 []) [] sc5)] }

/-- _law_cell_at -/
noncomputable def fn_l_cell_at : Fn := { name := "_law_cell_at", ps := 5756776982303787827266439469180810885289482569309303895921217908811859651216598423798612326751173699512227939727635258479101850744329432444714009923426420338576575697102, np := 2, nl := 2, names := ["_law_script", "_law_k"], body := [.ifs (.cmp (.var 1) .lt (.bi .len [.var 0])) [.ret (.idx (.var 0) (.var 1))] [],
    .ret (.int 0)] }

/-- _law_whole -/
noncomputable def fn_l_whole : Fn := { name := "_law_whole", ps := 109282328310399700715096452552067441916177186943949985095570720375595160913137707398258220538802632019318652306175928993510049771647984308113586703012204754, np := 1, nl := 1, names := ["_law_got"], body := [.ret (.and [.inst (.var 0) .int, .not (.inst (.var 0) .bool)])] }

/-- _law_sign_by -/
noncomputable def fn_l_sign_by : Fn := { name := "_law_sign_by", ps := 1315956239628558748856292626870663732536187597404065466827350734386985916228017482324546431539461841103697034552911486504639007499457309423609778034473725030930426336074863730645101856920028858814676, np := 1, nl := 2, names := ["_law_cell", "_law_some"], body := [.set 1 (.str [32, 33, 34, 35, 36, 38, 39, 40, 41, 42, 43, 44, 45, 46, 47, 48, 49, 50, 51, 52, 53, 54, 55, 56, 57, 58, 59, 60, 61, 62, 63, 64, 65, 66, 67, 68, 69, 70, 71, 72, 73, 74, 75, 76, 77, 78, 79, 80, 81, 82, 83, 84, 85, 86, 87, 88, 89, 90, 91, 92, 93, 94, 95, 96]),
    .set 1 (.bin .add (.var 1) (.str [97, 98, 99, 100, 101, 102, 103, 104, 105, 106, 107, 108, 109, 110, 111, 112, 113, 114, 115, 116, 117, 118, 119, 120, 121, 122, 123, 124, 125, 126, 10])),
    .ret (.idx (.var 1) (.bin .mod (.var 0) (.int 95)))] }

/-- _law_text_by -/
noncomputable def fn_l_text_by : Fn := { name := "_law_text_by", ps := 24638551954863838241457603405930618326377104512913617067983398830731348256678646426713322230334772270375118927913987688747434748364491315535798978140854352212934623477786134882393371350680006649660353746364663488286927928562123144702637884867971683735344246731638258404077663438369339509593031909084381475447216670570193050224366069705938594047373840440174437058078089161592306736125111867075547630056061457558669368975970969052188805355615560401058041656814858468157276463418782532276754983106492068433489416594932792263717357550658689211283528801870118256104127488093228578756063555253074260311534639212585808554461723372552911593647499277821339726020749608907800891231908386145542949850167557267162400349523933713550135429090406128465519691937232629260830388153509506154805594907052608383869145322525728365550942864824624673135760944049398624129536338957289657069200589704897370090717234722336093160040553561752602614119246906393473369384601422775944875861436964808651982407614225892644175353384404843787536976517974325787541281521882791267565358472203580852694466717060555786355087099133695918698538533983399842223797549233885039769260454096679629688853144035265276262238430953153532583219416, np := 2, nl := 7, names := ["_law_cell", "_law_size", "_law_signs", "_law_block", "_law_got", "_law_number", "_law_k"], body := [.set 2 (.idx (.list [.int 2, .int 95, .int 95, .int 1]) (.bin .mod (.var 0) (.int 4))),
    .set 3 (.var 1),
    .ifs (.cmp (.bin .mod (.var 0) (.int 4)) .eq (.int 2)) [.set 3 (.bi .min [.var 1, .bin .add (.int 1) (.bin .mod (.bin .div (.var 0) (.int 4)) (.int 50))])] [],
    .ifs (.cmp (.var 3) .eq (.int 0)) [.ret (.str [])] [],
    .set 4 (.str []),
    .set 5 (.var 0),
    .loop 6 (.bi .range [.var 3]) [.set 5 (.bin .mod (.bin .add (.bin .mul (.var 5) (.int 48271)) (.int 11)) (.int 2147483647)),
    .set 4 (.bin .add (.var 4) (.call 29 [.bin .add (.int 65) (.bin .mod (.bin .div (.var 5) (.int 7)) (.var 2))]))],
    .ret (.slice (.bin .mul (.var 4) (.bin .add (.bin .div (.var 1) (.var 3)) (.int 1))) .none (.var 1) false true)] }

/-- _law_weight -/
noncomputable def fn_l_weight : Fn := { name := "_law_weight", ps := 1467772840881165854888392642619316384991945047962324228804441925349626526354103506656046775519487117742316359155908431600761267218949635689317363076929412708804965206179904619922618710462405098541977716705637218152479769303950155385944942391166149167339998243474188538085, np := 1, nl := 3, names := ["_law_signs", "_law_number", "_law_sign"], body := [.set 1 (.int 7),
    .loop 2 (.var 0) [.set 1 (.bin .mod (.bin .add (.bin .mul (.var 1) (.int 131)) (.bi .ord [.var 2])) (.int 65521))],
    .ret (.var 1)] }

/-- _law_is_low -/
noncomputable def fn_l_is_low : Fn := { name := "_law_is_low", ps := 11155421413978131221103176583257794811940327785552164652073135508622125376766542552904824548682164692765017368090419502178297375667188392891965190842584303987921841255141069861601117899531793581106586554498955717908449920228295358818719350278386738036066884151798419537954638569532366431949095019876191455021134004217017562718581867353171671040868660310244094996467957395984501016179414071528459866346, np := 3, nl := 4, names := ["_law_row", "_law_at", "_law_reach", "_law_other"], body := [.loop 3 (.bi .range [.bin .sub (.var 1) (.var 2), .bin .add (.bin .add (.var 1) (.var 2)) (.int 1)]) [.ifs (.and [.cmp (.var 3) .ne (.var 1), .cmp (.idx (.var 0) (.var 3)) .le (.idx (.var 0) (.var 1))]) [.ret (.bool false)] []],
    .ret (.bool true)] }

/-- _law_cuts -/
noncomputable def fn_l_cuts : Fn := { name := "_law_cuts", ps := 5839042814196616564718856775748916667271782605780619608322461845923505131204783806345444782567710699692429407314760338451367874172344057454189199408244321654318504356579215178702398241685998236243854130928611875672170747445048645292506245571276764210126059231039238424495518610899535353880452169397990442878796974389516645710623631599541981590452082125244812585243151753262776203717225950191118476977424819224771072994417487668803041299078723862648192962281809074065089464905163870611140056332785774794686683376791618143545096640003221168394661338615053091248628962938065135, np := 3, nl := 4, names := ["_law_text", "_law_width", "_law_reach", "_law_row", "_law_place", "_law_at"], body := [.set 3 (.comp (.call 31 [.slice (.var 0) (.bin .sub (.var 4) (.var 1)) (.var 4) true true]) 4 (.bi .range [.var 1, .bin .add (.bi .len [.var 0]) (.int 1)]) [] sc6),
    .ret (.comp (.bin .add (.var 1) (.var 5)) 5 (.bi .range [.var 2, .bin .sub (.bi .len [.var 3]) (.var 2)]) [.call 32 [.var 3, .var 5, .var 2]] sc7)] }

/-- _law_pieces -/
noncomputable def fn_l_pieces : Fn := { name := "_law_pieces", ps := 555287012415810401138484153344372703030721952681990139789623020620348665575622624308073804655403238318160700699497761640882246301828367365213228467177184925028703970142409281731820128020503408127630880158079877259453214962649650184280648218283398405756657243388345577886961642362950309814783032873588703847036751703026571891450574809835452160396595028786999000752073475411166008446326338185586632235588892556929754904870960434230028803360775150651348210078165272241136341882348809614989579613833495609718228546228466, np := 3, nl := 6, names := ["_law_text", "_law_width", "_law_reach", "_law_got", "_law_start", "_law_place"], body := [.set 3 (.list []),
    .set 4 (.int 0),
    .loop 5 (.bin .add (.call 33 [.var 0, .var 1, .var 2]) (.list [.bi .len [.var 0]])) [.ifs (.cmp (.var 5) .gt (.var 4)) [.expr (.bm .append (.var 3) [.slice (.var 0) (.var 4) (.var 5) true true])] [],
    .set 4 (.var 5)],
    .ret (.var 3)] }

/-- _law_alike -/
noncomputable def fn_l_alike : Fn := { name := "_law_alike", ps := 2558500677069289206241462558147194972494617526753754983679407014128759087917379235336840629625884376778660695252581527053454531145734792070821114994709611988337680817836356918872043875003387284595363297668511950412508326021906201997518317815157122439782430633002169920124013471107087470669736731259682672177477188588572203600027602365967765324661347376938028313803564982251409098540152317532416307251913015109430982511341758164251080655530754876011722725460991201561740796431318112391519501032420315535971354983571748575191323460339511421026905283626199328199717749819237777657426147530551041206166555981266127383232675279195967016447534829427859871169681844241251109217121605570525104550054462007662298117706821297238295211262020097940773119465514257190478475287873536536583958107882872500321376572224977342777216360800177872456462778659358296259125847805349347208427882718222957219194651307717647696056800816666103253714669226923514085672081109451620445134655265145492535318047370572766400599022375853693750313380864889965569084760379103799598591925356207289878231610714459145522204730047416692391791126833412619669222168569075379153129028079669063067006384046952683762307766820771288764658208824135987694508679078613694916170650637453843948343675487331973853446534761639745773946777770627928925540548086558523460118469029242727923573800890115774239661453107883290735339063784910347822985921408589085030388567121318514012290058845397979386, np := 2, nl := 3, names := ["_law_got", "_law_due", "_law_k"], body := [.ifs (.isNone (.var 1)) [.ret (.isNone (.var 0))] [],
    .ifs (.isTrue (.var 1)) [.ret (.isTrue (.var 0))] [],
    .ifs (.inst (.var 1) .str) [.ret (.and [.inst (.var 0) .str, .cmp (.var 0) .eq (.var 1)])] [],
    .ifs (.inst (.var 1) .int) [.ret (.and [.call 28 [.var 0], .cmp (.var 0) .eq (.var 1)])] [],
    .ifs (.and [.inst (.var 1) .tup, .not (.inst (.var 0) .tup)]) [.ret (.bool false)] [],
    .ifs (.and [.inst (.var 1) .list, .not (.inst (.var 0) .list)]) [.ret (.bool false)] [],
    .ifs (.cmp (.bi .len [.var 0]) .ne (.bi .len [.var 1])) [.ret (.bool false)] [],
    .loop 2 (.bi .range [.bi .len [.var 1]]) [.ifs (.not (.call 35 [.idx (.var 0) (.var 2), .idx (.var 1) (.var 2)])) [.ret (.bool false)] []],
    .ret (.bool true)] }

/-- _law_size_by -/
noncomputable def fn_l_size_by : Fn := { name := "_law_size_by", ps := 7100398818645788912094324624460205761660120730813477999995759903359506342057708248726451585220109580767446807162731376362163014982710667639788153525167060714380438395447917837420866903207582043726745544938831642999380072791089546105895059699093284542484749, np := 1, nl := 1, names := ["_law_cell"], body := [.ifs (.cmp (.bin .mod (.var 0) (.int 8)) .eq (.int 7)) [.ret (.bin .mod (.bin .div (.var 0) (.int 8)) (.int 300))] [],
    .ret (.bin .mod (.bin .div (.var 0) (.int 8)) (.int 60))] }

/-- _law_width_by -/
noncomputable def fn_l_width_by : Fn := { name := "_law_width_by", ps := 525448701740542103710143251677628717068477916240024100351172961799081419327523550606655453092827958216135344558266063408586544999429399190092176506061640055005140398636933135335606043500089570685565841737830774172117942361990280784113873635761396024418759323486607197098837613803999505, np := 1, nl := 1, names := ["_law_cell"], body := [.ifs (.cmp (.bin .mod (.bin .div (.var 0) (.int 8)) (.int 3)) .eq (.int 0)) [.ret (.bin .add (.int 1) (.bin .mod (.var 0) (.int 8)))] [],
    .ret (.bin .add (.int 1) (.bin .mod (.var 0) (.int 2)))] }

/-- _law_reach_by -/
noncomputable def fn_l_reach_by : Fn := { name := "_law_reach_by", ps := 48999452888286376099395212546415614527186344048424887054084350082699912684979451956533784712356054167334506864426919338620800964312564542349414196293735548226231062671813094528044116048918372204144133909894272617454069389878630253561017370300719773791521505906617690373160720285051305501146309781547595811676754197, np := 1, nl := 1, names := ["_law_cell"], body := [.ifs (.cmp (.bin .mod (.var 0) (.int 9)) .eq (.int 8)) [.ret (.bin .add (.int 1) (.bin .mod (.bin .div (.var 0) (.int 9)) (.int 40)))] [],
    .ret (.bin .add (.int 1) (.bin .mod (.bin .div (.var 0) (.int 9)) (.int 5)))] }

/-- few -/
noncomputable def fn_few : Fn := { name := "few", ps := 180705422683661971399674304558501740599371422611003424368600141491643466826113334843269474841733064748634417558683677923237687740626226711472953260277579158493978767316764506265664914309677838409337222577268452795413158661984281, np := 3, nl := 3, names := ["count", "width", "reach"], body := [.ret (.bin .add (.bin .div (.bin .sub (.bin .add (.bin .add (.var 0) (.bin .mul (.int 3) (.var 2))) (.var 1)) (.int 1)) (.bin .add (.var 2) (.int 1))) (.int 1))] }

/-- is_stretch -/
noncomputable def fn_is_stretch : Fn := { name := "is_stretch", ps := 10503479797894578695344557516484855153230855934949534239359539080505559413624269698781109170108664770905643439601291843499381018075999923750078159739830535284301280812924006654676045928, np := 3, nl := 3, names := ["start", "end", "length"], body := [.ret (.and [.call 4 [.var 0], .call 4 [.var 1], .chain3 (.int 0) .le (.var 0) .le (.var 1) .le (.var 2)])] }

/-- change -/
noncomputable def fn_Shelf_change : Fn := { name := "change", ps := 3558580649893751215242578048048917100047325230024685023214446163375793911263843354397715699425056403199126994495984217177596439019961173031510175521978764248539494564910260008509389641163402773623086988895636851298543017581579113967221499651366171176252259029279083586436972716478377784032388542220144210268383170380852579431551578756995192555565300726216686816707090673349641386166536950720669736159651612408937205278680317860164208959715197534128836540202812938008071955977034817632039342309145573286932668550726088741137293017759868738325368583242232751767994740351206099729067614933452360334508542843225201048566358205578890840528799013098945595372769141465693182298414362945020458843005441660156393632664542598997848865299910969658207230366227661245344595950601333009395715789801041073983389743479917012921836404919402904758619995708846184651490377591271267122978532242209538843269605501491547545333761663606743049071877579822042159497758225593765253464840443582302980153501, np := 6, nl := 9, names := ["self", "name", "number", "start", "end", "text", "old", "before", "found"], body := [.expr (.meth (.var 0) 3 [.var 1]),
    .expr (.meth (.var 0) 7 [.var 1, .var 2]),
    .set 6 (.meth (.var 0) 8 [.var 1, .var 2]),
    .ifs (.not (.call 40 [.var 3, .var 4, .bi .len [.var 6]])) [.raise "NoPlace" [110, 111, 32, 115, 116, 114, 101, 116, 99, 104]] [],
    .expr (.meth (.var 0) 4 [.var 5]),
    .set 7 (.attr (.attr (.var 0) 6) 3),
    .set 8 (.meth (.var 0) 5 [.var 1, .bin .add (.bin .add (.slice (.var 6) .none (.var 3) false true) (.var 5)) (.slice (.var 6) (.var 4) .none true false)]),
    .ret (.tup [.var 8, .bin .sub (.attr (.attr (.var 0) 6) 3) (.var 7)])] }

/-- law -/
noncomputable def fn_law : Fn := { name := "law", ps := 216122937880281833197205865108953384278410384991450915948254698240091743577243557608967738867424538379048874928213870057445715758576808878943803479069994949342868084967754959193561765802900647754630974710520760765494009487712857379191728668486417369547037678225852035847609422143854703164224085940057612836485960984624198621283071002753094344337726215580913463127202159588999165500745874699507283858801896917987927603022335322308981512469668600745020420921413467091894095468293626561174801412658385506178409454238411039983705107009075733732919652201353274786227911885834087818154821729969505077722372377801061488543492767141842982936659504269160805847607980658413597529031154101103367157664021847540337158783689616855550032019181865591519903649056556110605389354056128015132323121558716872647968088163907852269944067047432776138102222576667288849045132707581919445296413679893786716043831401919393674655152455973464092311865571557922545799415246150558800036320010785108337143773246299545570180431542797598740238981146197163510074839769755307899292757216506375626194028858648857938121664822247838143086856690803939643107477988461185292115564865673414676693405831858634754438518933741408499404349990704572938944384000185448611440875270629552633053156395099502237436249362410019782522663325487505708879753265028226746913322635100409378467057421533753594119357791201717612566420792309534074342007262757876754277963943697699578254793116443620088006436602092168883644130028171166336263788778327358673135269998572741059040275077046156666625600629657560335610431272903924292923897527318014548636342082553426666665236176671207101108066545597930093444380046183121890615605840438355280537734176664612526051481481258717508422126173119812880973679105245334827791609116356687003054219841346014817802310520447390655558259295301799698288665357020508252606425041360074884289388710977130529955678988192483996401301588530237836564191118967958302836324687524502827430750058919953233293507022617662961395077039372343247012017536734616937350428973773023006402266411279740520002160785717730300785461248953196294937803586433137577426633361351364621163855167605644316526514120036563751955750596331065210574700469220791996258743714517177067103527382347178509024435935737423334641835417601489262733640128969047516235163231953544948551568840548125893364711076714853403405652692737582792146683988220070294183894049176797846039933149240904008457078820690117142929936183977595012104776342590035212496588751621165861544710000594900072154454614572930197179476239917010039144848436455560498100460707504900620982200458726070536562102739697416871578963235634123212618630110850442784762175370857693264593008184994434050002556967559625264929092235385408507750855289509378276599822614023777620530167870539467145601835142418120096842459305823662673100077332628243083291552359882706380508060072880870071530781498347072263738690094186459637018778864607026015035544682336694447088701822674164833349262135477319661874553350253101081984879734904562991935907465471065260048975949785864087124717618974655735656274816877657743692953377568811781001996776896412168560933251667337921298705357414137301053676272871440128389010723395558160147626032019300196856190800213432933831235798646108704892425698098509333383804429871226611799039075683532714203473578489836276662683627567957822070262431299914494449264442258602503292929322340644562537060037086753571083594273443385935719174536763741370765152568204690021411080745858957698483076091933605268504608189401083305109892363120821082639693896897894242332004473345001448190305514707600114298484738882795773317386766082449548928067903649793909085019801776363318805453403253924970569526808021396554054087161546647520838782143015844850312085332488648606749483429758026803319065, np := 1, nl := 14, names := ["_law_script", "_law_width", "_law_reach", "_law_shelf", "_law_old", "_law_held", "_law_far", "_law_start", "_law_end", "_law_new", "_law_text", "_law_fresh", "_law_got", "_law_turn", "_law_part"], body := [.set 1 (.call 37 [.call 27 [.var 0, .int 0]]),
    .set 2 (.call 38 [.call 27 [.var 0, .int 1]]),
    .set 3 (.new 1 [.var 1, .var 2]),
    .set 4 (.call 30 [.call 27 [.var 0, .int 2], .call 36 [.call 27 [.var 0, .int 3]]]),
    .set 5 (.call 34 [.var 4, .var 1, .var 2]),
    .ifs (.cmp (.bin .mod (.call 27 [.var 0, .int 4]) (.int 2)) .eq (.int 1)) [.set 6 (.call 30 [.call 27 [.var 0, .int 4], .call 36 [.bin .div (.call 27 [.var 0, .int 4]) (.int 2)]]),
    .expr (.meth (.var 3) 11 [.str [102, 97, 114], .var 6]),
    .set 5 (.bin .add (.var 5) (.call 34 [.var 6, .var 1, .var 2]))] [],
    .expr (.meth (.var 3) 11 [.str [110, 97, 109, 101], .var 4]),
    .set 7 (.bin .mod (.bin .div (.call 27 [.var 0, .int 5]) (.int 3)) (.bin .add (.bi .len [.var 4]) (.int 1))),
    .ifs (.cmp (.bin .mod (.call 27 [.var 0, .int 5]) (.int 3)) .eq (.int 2)) [.set 7 (.idx (.list [.int 0, .bi .len [.var 4]]) (.bin .mod (.bin .div (.call 27 [.var 0, .int 5]) (.int 3)) (.int 2)))] [],
    .set 8 (.bin .add (.var 7) (.bin .mod (.call 27 [.var 0, .int 6]) (.bin .add (.bin .sub (.bi .len [.var 4]) (.var 7)) (.int 1)))),
    .set 9 (.call 30 [.call 27 [.var 0, .int 7], .bin .mod (.call 27 [.var 0, .int 8]) (.int 30)]),
    .set 10 (.bin .add (.bin .add (.slice (.var 4) .none (.var 7) false true) (.var 9)) (.slice (.var 4) (.var 8) .none true false)),
    .set 11 (.sset (.comp (.var 14) 14 (.call 34 [.var 10, .var 1, .var 2]) [.cmp (.var 14) .notin (.var 5)] sc8)),
    .set 12 (.meth (.var 3) 16 [.str [110, 97, 109, 101], .int 1, .var 7, .var 8, .var 9]),
    .ifs (.or [.not (.call 35 [.var 12, .tup [.int 2, .bi .len [.var 11]]]), .cmp (.bi .len [.var 11]) .gt (.call 39 [.bi .len [.var 9], .var 1, .var 2])]) [.ret (.bool false)] [],
    .loop 13 (.bi .range [.int 2]) [.ifs (.or [.not (.call 35 [.meth (.var 3) 12 [.str [110, 97, 109, 101], .int 2], .var 10]), .not (.call 35 [.meth (.var 3) 12 [.str [110, 97, 109, 101], .int 1], .var 4])]) [.ret (.bool false)] []],
    .ret (.call 35 [.meth (.var 3) 17 [.str [110, 97, 109, 101]], .list [.int 1, .int 2]])] }

/-- versions -/
noncomputable def fn_Shelf_versions : Fn := { name := "versions", ps := 145625042072172804452313680377431169145377581586336937587421275964677050280057563547047356155873943135146846174561805388293353850733733649919978501768519701943020836411509298826480445880691680121126874729768567559474237684588725, np := 2, nl := 2, names := ["self", "name"], body := [.expr (.meth (.var 0) 3 [.var 1]),
    .ret (.bi .sorted [.bi .list [.bm .get (.attr (.var 0) 7) [.var 1, .dict []]]])] }

noncomputable def prog : Pr := {
  fns := [fn_weight, fn_cuts, fn_pieces, fn_pieces_cutting, fn_is_number, fn_is_sign, fn_is_text, fn_is_name, fn_are_sizes, fn_Stock_init, fn_Stock_need, fn_Stock_has, fn_Stock_count, fn_Stock_piece, fn_Stock_numbers, fn_Shelf_init, fn_Shelf_need_name, fn_Shelf_need_version, fn_Shelf_look, fn_Shelf_many_versions, fn_Shelf_put, fn_Shelf_keep, fn_Shelf_joined, fn_Shelf_text, fn_Shelf_row, fn_Shelf_names, fn_Shelf_pieces, fn_l_cell_at, fn_l_whole, fn_l_sign_by, fn_l_text_by, fn_l_weight, fn_l_is_low, fn_l_cuts, fn_l_pieces, fn_l_alike, fn_l_size_by, fn_l_width_by, fn_l_reach_by, fn_few, fn_is_stretch, fn_Shelf_change, fn_law, fn_Shelf_versions],
  cls := [{ name := "Stock", init := some 9, meths := [(2, 10), (0, 11), (10, 12), (6, 13), (9, 14)] }, { name := "Shelf", init := some 15, meths := [(3, 16), (7, 17), (4, 18), (1, 19), (5, 20), (11, 21), (16, 41), (8, 22), (12, 23), (13, 24), (17, 43), (14, 25), (15, 26)] }],
  consts := [("LETTERS", .str [97, 98, 99, 100, 101, 102, 103, 104, 105, 106, 107, 108, 109, 110, 111, 112, 113, 114, 115, 116, 117, 118, 119, 120, 121, 122]), ("PERCENT", .int 37), ("MOST_LETTERS", .int 12), ("MOST_WIDTH", .int 8), ("MOST_REACH", .int 40), ("MOST_SIGNS", .int 3000), ("MOST_VERSIONS", .int 100)],
  attrs := ["kept", "many", "known", "greatest", "width", "reach", "stock", "rows", "last"], methNames := ["has", "many_versions", "need", "need_name", "look", "put", "piece", "need_version", "joined", "numbers", "count", "keep", "text", "row", "names", "pieces", "change", "versions"] }
noncomputable def law07 : Nat := 42
end Mine

/-! The top on the tree heap, in one check (typed by hand). -/
set_option Elab.async false
namespace Mine
open PySem PySem.W PySem.Calls

noncomputable def topRunT (tb : String → Option Builtin) (p : Program) (w : World) (n₀ : Nat) (ann : Option Value) : Nat → SharedT → Thread → Option SharedT
  | 0, _, _ => none
  | n + 1, s, t => match through t with
    | true => some s
    | false => match stepOk n₀ ann t with
      | false => none
      | true => match stepT (denote tb) p w s t with
        | some (s', t') => topRunT tb p w n₀ ann n s' t'
        | none => none
theorem topRun_of {tb : String → Option Builtin} {p : Program} {w : World} {n₀ : Nat} {ann : Option Value} : ∀ {n : Nat} {s s' : SharedT} {t : Thread}, topRunT tb p w n₀ ann n s t = some s' → topRun tb p w n₀ ann n s.abs t = some s'.abs
  | 0, _, _, _, h => nomatch h
  | n + 1, s, s', t, h => by
    unfold topRunT at h
    unfold topRun
    cases he : through t with
    | true => rw [he] at h; cases h; rfl
    | false =>
      rw [he] at h
      cases hk : stepOk n₀ ann t with
      | false => rw [hk] at h; cases h
      | true =>
        rw [hk] at h
        cases hs : stepT (denote tb) p w s t with
        | none => rw [hs] at h; cases h
        | some r => obtain ⟨s₂, t₂⟩ := r; rw [hs] at h; rw [stepT_spec hs]; exact topRun_of h
noncomputable def btOf : Nat → List Obj → BT → BT
  | _, [], t => t
  | n, o :: r, t => btOf (n + 1) r (t.ins n o)
noncomputable abbrev boot0 (w : World) (os : OsState) : SharedT := ⟨btOf 0 (boot_heap w.params).objs.toList .nil, (boot_heap w.params).objs.size, (boot_heap w.params).life, #[], boot_drawn, boot_toks, os⟩
theorem boot_abs (w : World) (os : OsState) : (boot0 w os).abs = ⟨boot_heap w.params, #[], boot_drawn, boot_toks, os⟩ := by
  show Shared.mk (absHeap _ _ _) _ _ _ _ = _
  have : absHeap (btOf 0 (boot_heap w.params).objs.toList .nil) (boot_heap w.params).objs.size (boot_heap w.params).life = boot_heap w.params := by kernel_rfl
  rw [this]
theorem boot_size (w : World) : ((boot_heap w.params).isNs mainGlobals && (#[] : Array GenState).size == 0, (boot_heap w.params).objs.size, (boot_heap w.params).nsMap mainGlobals "__annotations__") = (true, 11, some (.ref 6)) := by kernel_rfl
/-- the top's end, looked at on the tree -/
theorem left_of_tree {p q : Program} {loose : List Str} {Xt : Shared → Bool} {α : Type} {Yf : Shared → α} {Ya : World → α} {N : Nat} (e : opening p = plainProg p.main.scope.names) (hN : Nat.ble 600 N = true) (f : ∀ s, fenceModules? p s = some s)
    (run : ∀ w : World, (fun os => (topRunT treeTable p w 11 (some (.ref 6)) N (boot0 w os) (topStub p)).map fun s =>
      ((staticsOk (importedModules p.main.body) (boot_heap w.params) s.abs.heap && namesBound p s.abs.heap && gensDone s.abs && laidKept (boot_heap w.params) s.abs.heap), openSeen q loose (importedModules p.main.body) Xt true s.abs, Yf s.abs)) = fun _ => some (true, openGood q loose, Ya w)) :
    LeftO p q loose Xt Yf Ya N := fun w => by
  obtain ⟨⟨h, gs, d, k, os⟩, e1, e2⟩ := Option.map_eq_some_iff.mp (boot_open (N := N) e hN f w)
  obtain ⟨rfl, rfl, rfl, rfl⟩ : h = boot_heap w.params ∧ gs = Array.mk [] ∧ d = boot_drawn ∧ k = boot_toks := by simpa using e2
  obtain ⟨s', r, l⟩ := Option.map_eq_some_iff.mp (congrFun (run w) os)
  obtain ⟨l1, l2, l3⟩ : _ ∧ _ ∧ _ := by simpa only [Prod.mk.injEq] using l
  obtain ⟨z1, z2, z3⟩ : _ ∧ _ ∧ _ := by simpa only [Prod.mk.injEq] using boot_size w
  have r := topRun_of r
  rw [boot_abs] at r
  have t : topFrom treeTable p w N ⟨boot_heap w.params, #[], boot_drawn, boot_toks, os⟩ = some s'.abs := by
    unfold topFrom
    dsimp only
    rw [z1, z2, z3, r]
    show (match staticsOk (importedModules p.main.body) (boot_heap w.params) s'.abs.heap && namesBound p s'.abs.heap && gensDone s'.abs && laidKept (boot_heap w.params) s'.abs.heap with | true => _ | false => _) = _
    rw [l1]
  unfold openEnds
  rw [e1]
  show (topFrom treeTable p w N _).map _ = _
  rw [t]
  exact congrArg some (Prod.ext l2 l3)
end Mine

/-! Plain lemmas on the abstract interpreter: equations that simp can run (typed by hand). -/
set_option Elab.async false
namespace Mine.PL

noncomputable def fin : OutS → Out AV
  | .next h _ => .ok .none h
  | .ret v h => .ok v h
  | .fail => .fail
noncomputable def bindS (o : Out AV) (vs : Vs) (k : AV → Hp → OutS) : OutS := match o with
  | .ok v h => k v h
  | .fail => .fail
noncomputable def seqS (o : OutS) (k : Hp → Vs → OutS) : OutS := match o with
  | .next h vs => k h vs
  | o => o
noncomputable def pickS (t : Option Bool) (a b : Unit → OutS) : OutS := match t with
  | some true => a ()
  | some false => b ()
  | none => .fail
noncomputable def notO (t : Option Bool) (h : Hp) : Out AV := match t with
  | some b => .ok (.bool (!b)) h
  | none => .fail
noncomputable def look (o : Option (Option AV)) (h : Hp) : Out AV := match o with
  | some (some v) => .ok v h
  | _ => .fail
noncomputable def slotO (vs : Vs) (x : Nat) (h : Hp) : Out AV := match vs[x]? with
  | some (some v) => .ok v h
  | _ => .fail
noncomputable def boolO (o : Option Bool) (h : Hp) : Out AV := match o with
  | some b => .ok (.bool b) h
  | none => .fail
/-- one turn of a loop -/
noncomputable def turn (C : Cx) (x : Nat) (body : List MS) (v : AV) (st : Hp × Vs) : It (Hp × Vs) OutS := match exs C body st.1 (st.2.set x (some v)) with
  | .next h vs => .go (h, vs)
  | .ret v h => .stop (.ret v h)
  | _ => .stop .fail
noncomputable def ended : It (Hp × Vs) OutS → OutS
  | .go st => .next st.1 st.2
  | .stop o => o
noncomputable def loopS (src : Option Src) (f : AV → Hp × Vs → It (Hp × Vs) OutS) (st : Hp × Vs) : OutS := match src with
  | some src => ended (iter src OutS.fail f st)
  | none => .fail


@[simp] theorem bind_ok {α β : Type} (a : α) (h : Hp) (f : α → Hp → Out β) : (Out.ok a h).bind f = f a h := rfl
@[simp] theorem bindS_ok (v : AV) (h : Hp) (vs : Vs) (k : AV → Hp → OutS) : bindS (.ok v h) vs k = k v h := rfl
@[simp] theorem seqS_next (h : Hp) (vs : Vs) (k : Hp → Vs → OutS) : seqS (.next h vs) k = k h vs := rfl
@[simp] theorem seqS_ret (h : Hp) (v : AV) (k : Hp → Vs → OutS) : seqS (.ret v h) k = .ret v h := rfl
@[simp] theorem pickS_true (a b : Unit → OutS) : pickS (some true) a b = a () := rfl
@[simp] theorem pickS_false (a b : Unit → OutS) : pickS (some false) a b = b () := rfl
@[simp] theorem notO_some (b : Bool) (h : Hp) : notO (some b) h = .ok (.bool (!b)) h := rfl
@[simp] theorem look_some (v : AV) (h : Hp) : look (some (some v)) h = .ok v h := rfl
@[simp] theorem slot0 (a : AV) (r : Vs) (h : Hp) : slotO (some a :: r) 0 h = .ok a h := rfl
@[simp] theorem slot1 (a0 : Option AV) (a : AV) (r : Vs) (h : Hp) : slotO (a0 :: some a :: r) 1 h = .ok a h := rfl
@[simp] theorem slot2 (a0 a1 : Option AV) (a : AV) (r : Vs) (h : Hp) : slotO (a0 :: a1 :: some a :: r) 2 h = .ok a h := rfl
@[simp] theorem slot3 (a0 a1 a2 : Option AV) (a : AV) (r : Vs) (h : Hp) : slotO (a0 :: a1 :: a2 :: some a :: r) 3 h = .ok a h := rfl
@[simp] theorem slot4 (a0 a1 a2 a3 : Option AV) (a : AV) (r : Vs) (h : Hp) : slotO (a0 :: a1 :: a2 :: a3 :: some a :: r) 4 h = .ok a h := rfl
@[simp] theorem slot5 (a0 a1 a2 a3 a4 : Option AV) (a : AV) (r : Vs) (h : Hp) : slotO (a0 :: a1 :: a2 :: a3 :: a4 :: some a :: r) 5 h = .ok a h := rfl
@[simp] theorem slot6 (a0 a1 a2 a3 a4 a5 : Option AV) (a : AV) (r : Vs) (h : Hp) : slotO (a0 :: a1 :: a2 :: a3 :: a4 :: a5 :: some a :: r) 6 h = .ok a h := rfl
@[simp] theorem slot7 (a0 a1 a2 a3 a4 a5 a6 : Option AV) (a : AV) (r : Vs) (h : Hp) : slotO (a0 :: a1 :: a2 :: a3 :: a4 :: a5 :: a6 :: some a :: r) 7 h = .ok a h := rfl
@[simp] theorem slot8 (a0 a1 a2 a3 a4 a5 a6 a7 : Option AV) (a : AV) (r : Vs) (h : Hp) : slotO (a0 :: a1 :: a2 :: a3 :: a4 :: a5 :: a6 :: a7 :: some a :: r) 8 h = .ok a h := rfl
@[simp] theorem slot9 (a0 a1 a2 a3 a4 a5 a6 a7 a8 : Option AV) (a : AV) (r : Vs) (h : Hp) : slotO (a0 :: a1 :: a2 :: a3 :: a4 :: a5 :: a6 :: a7 :: a8 :: some a :: r) 9 h = .ok a h := rfl
@[simp] theorem slot10 (a0 a1 a2 a3 a4 a5 a6 a7 a8 a9 : Option AV) (a : AV) (r : Vs) (h : Hp) : slotO (a0 :: a1 :: a2 :: a3 :: a4 :: a5 :: a6 :: a7 :: a8 :: a9 :: some a :: r) 10 h = .ok a h := rfl
@[simp] theorem slot11 (a0 a1 a2 a3 a4 a5 a6 a7 a8 a9 a10 : Option AV) (a : AV) (r : Vs) (h : Hp) : slotO (a0 :: a1 :: a2 :: a3 :: a4 :: a5 :: a6 :: a7 :: a8 :: a9 :: a10 :: some a :: r) 11 h = .ok a h := rfl
@[simp] theorem someA_some (v : AV) (h : Hp) : someA (some v) h = .ok v h := rfl
@[simp] theorem boolO_some (b : Bool) (h : Hp) : boolO (some b) h = .ok (.bool b) h := rfl
@[simp] theorem fin_ret (v : AV) (h : Hp) : fin (.ret v h) = .ok v h := rfl
@[simp] theorem fin_next (vs : Vs) (h : Hp) : fin (.next h vs) = .ok .none h := rfl

theorem callF_def {P : Pr} {n : Nat} {f : Nat} {args : List AV} {h : Hp} {fn : Fn} (e : P.fns[f]? = some fn) (l : args.length = fn.np) (b : fn.body.isEmpty = false) :
    callF P (n + 1) f args h = fin (exs ⟨P, callF P n⟩ fn.body h (args.map some ++ List.replicate (fn.names.length - fn.np) none)) := by
  rw [callF_q2, e]
  simp only [l, b, and_self, if_true]
  cases exs ⟨P, callF P n⟩ fn.body h (args.map some ++ List.replicate (fn.names.length - fn.np) none) <;> rfl

section
variable {C : Cx} {h : Hp} {vs : Vs}
@[simp] theorem ev_none : ev C .none h vs = .ok .none h := rfl
@[simp] theorem ev_bool (b : Bool) : ev C (.bool b) h vs = .ok (.bool b) h := rfl
@[simp] theorem ev_int (i : Int) : ev C (.int i) h vs = .ok (.int i) h := rfl
@[simp] theorem ev_str (s : List Nat) : ev C (.str s) h vs = .ok (.str s) h := rfl
@[simp] theorem ev_var (x : Nat) : ev C (.var x) h vs = slotO vs x h := rfl
@[simp] theorem ev_and (es : List ME) : ev C (.and es) h vs = evAnd C es h vs := rfl
@[simp] theorem ev_or (es : List ME) : ev C (.or es) h vs = evOr C es h vs := rfl
@[simp] theorem evAnd_one (e : ME) : evAnd C [e] h vs = ev C e h vs := rfl
@[simp] theorem evOr_one (e : ME) : evOr C [e] h vs = ev C e h vs := rfl
theorem ev_cmp (l : ME) (op : COp) (r : ME) : ev C (.cmp l op r) h vs = (ev C l h vs).bind fun x h => (ev C r h vs).bind fun y h => boolO (cmpA op x y h) h := rfl
theorem ev_list (es : List ME) : ev C (.list es) h vs = (evs C es h vs).bind fun xs h => newList xs h := rfl
@[simp] theorem evs_nil : evs C [] h vs = .ok [] h := rfl
theorem ev_idx (o i : ME) : ev C (.idx o i) h vs = (ev C o h vs).bind fun x h => (ev C i h vs).bind fun y h => someA (idxA x y h) h := rfl
@[simp] theorem ev_dict (es : List ME) : ev C (.dict es) h vs = (evs C es (h ++ [.dict (some 0) []]) vs).bind fun xs h' => match pairs xs with | some kv => putDict h.length kv h' | none => .fail := rfl
@[simp] theorem ev_new (c : Nat) (args : List ME) : ev C (.new c args) h vs = if (initAt C.P c).isSome then (evs C args h vs).bind fun xs h => newA C c xs h else .fail := rfl
noncomputable def isN : AV → Bool
  | .none => true
  | _ => false
noncomputable def isT : AV → Bool
  | .bool true => true
  | _ => false
@[simp] theorem ev_gl (g : Nat) : ev C (.gl g) h vs = (match C.P.consts[g]? with | some p => .ok p.2 h | none => .fail) := rfl
noncomputable def compE (src : Option Src) (f : AV → Hp × List AV → It (Hp × List AV) (Out AV)) (h : Hp) : Out AV := match src with
  | some src => (match iter src Out.fail f (h, []) with
    | .go st => newList st.2 st.1
    | .stop o => o)
  | none => .fail
theorem ev_comp (elt : ME) (x : Nat) (src : ME) (conds : List ME) (sc : PySem.Scope) : ev C (.comp elt x src conds sc) h vs = (ev C src h vs).bind fun s h => compE (srcA h s) (compF (evConds C conds) (ev C elt) x vs) h := rfl
/-- a comprehension that leaves the heap alone -/

@[simp] theorem evConds_nil : evConds C [] h vs = .ok true h := rfl
@[simp] theorem exs_nil : exs C [] h vs = .next h vs := rfl
theorem exs_cons (s : MS) (r : List MS) : exs C (s :: r) h vs = seqS (ex C s h vs) fun h vs => exs C r h vs := rfl
theorem exs_append (a b : List MS) : ∀ {h : Hp} {vs : Vs}, exs C (a ++ b) h vs = seqS (exs C a h vs) fun h vs => exs C b h vs := by
  induction a with
  | nil => intro h vs; rfl
  | cons s r ih =>
    intro h vs
    rw [List.cons_append, exs_cons, exs_cons]
    cases ex C s h vs with
    | next h vs => exact ih
    | _ => rfl
theorem exs_split (k : Nat) (l : List MS) : exs C l h vs = seqS (exs C (l.take k) h vs) fun h vs => exs C (l.drop k) h vs := by
  rw [← exs_append, List.take_append_drop]
theorem ex_set (x : Nat) (e : ME) : ex C (.set x e) h vs = bindS (ev C e h vs) vs fun v h => .next h (vs.set x (some v)) := rfl
theorem ex_ret (e : ME) : ex C (.ret e) h vs = bindS (ev C e h vs) vs fun v h => .ret v h := rfl
theorem ex_ifs (t : ME) (a b : List MS) : ex C (.ifs t a b) h vs = bindS (ev C t h vs) vs fun v h => pickS (truth h v) (fun _ => exs C a h vs) (fun _ => exs C b h vs) := rfl
theorem ex_loop (x : Nat) (src : ME) (body : List MS) : ex C (.loop x src body) h vs = bindS (ev C src h vs) vs fun s h => loopS (srcA h s) (turn C x body) (h, vs) := rfl
@[simp] theorem doneO_some (h : Hp) : doneO (some h) = .ok () h := rfl
@[simp] theorem nextO_ok (vs : Vs) (u : Unit) (h : Hp) : nextO vs (.ok u h) = .next h vs := rfl
@[simp] theorem ex_pass : ex C .pass h vs = .next h vs := rfl

theorem turn_next {x : Nat} {body : List MS} {v : AV} {h' : Hp} {vs' : Vs} (e : exs C body h (vs.set x (some v)) = .next h' vs') : turn C x body v (h, vs) = .go (h', vs') := by
  simp only [turn, e]
theorem loopS_go {l : List AV} {f : AV → Hp × Vs → It (Hp × Vs) OutS} {st : Hp × Vs} (e : iterL f l (h, vs) = .go st) : loopS (some (.fixed l)) f (h, vs) = .next st.1 st.2 := by
  simp only [loopS, iter, e]; rfl
end

/-! ### the same, one small step at a time: no function stands in the terms -/
noncomputable def kBin1 (o : Out AV) (C : Cx) (op : BOp) (b : ME) (vs : Vs) : Out AV := o.bind fun x h => (ev C b h vs).bind fun y h => binA op x y h
noncomputable def kBin2 (o : Out AV) (op : BOp) (x : AV) : Out AV := o.bind fun y h => binA op x y h
noncomputable def kCmp1 (o : Out AV) (C : Cx) (op : COp) (b : ME) (vs : Vs) : Out AV := o.bind fun x h => (ev C b h vs).bind fun y h => boolO (cmpA op x y h) h
noncomputable def kCmp2 (o : Out AV) (op : COp) (x : AV) : Out AV := o.bind fun y h => boolO (cmpA op x y h) h
noncomputable def kIdx1 (o : Out AV) (C : Cx) (b : ME) (vs : Vs) : Out AV := o.bind fun x h => (ev C b h vs).bind fun y h => someA (idxA x y h) h
noncomputable def kIdx2 (o : Out AV) (x : AV) : Out AV := o.bind fun y h => someA (idxA x y h) h
noncomputable def kNot (o : Out AV) : Out AV := o.bind fun x h => notO (truth h x) h
noncomputable def kAnd2 (t : Option Bool) (C : Cx) (r : List ME) (vs : Vs) (x : AV) (h : Hp) : Out AV := match t with
  | some false => .ok x h
  | some true => evAnd C r h vs
  | none => .fail
noncomputable def kAnd (o : Out AV) (C : Cx) (r : List ME) (vs : Vs) : Out AV := o.bind fun x h => kAnd2 (truth h x) C r vs x h
noncomputable def kOr2 (t : Option Bool) (C : Cx) (r : List ME) (vs : Vs) (x : AV) (h : Hp) : Out AV := match t with
  | some true => .ok x h
  | some false => evOr C r h vs
  | none => .fail
noncomputable def kOr (o : Out AV) (C : Cx) (r : List ME) (vs : Vs) : Out AV := o.bind fun x h => kOr2 (truth h x) C r vs x h
noncomputable def kCond2 (t : Option Bool) (C : Cx) (r : List ME) (vs : Vs) (h : Hp) : Out Bool := match t with
  | some true => evConds C r h vs
  | some false => .ok false h
  | none => .fail
noncomputable def kCond (o : Out AV) (C : Cx) (r : List ME) (vs : Vs) : Out Bool := o.bind fun x h => kCond2 (truth h x) C r vs h
noncomputable def kIsN (o : Out AV) : Out AV := o.bind fun x h => match x with
  | .none => .ok (.bool true) h
  | _ => .ok (.bool false) h
noncomputable def kIsT (o : Out AV) : Out AV := o.bind fun x h => match x with
  | .bool true => .ok (.bool true) h
  | _ => .ok (.bool false) h
noncomputable def kList (o : Out (List AV)) : Out AV := o.bind fun xs h => newList xs h
noncomputable def kTup (o : Out (List AV)) : Out AV := o.bind fun xs h => tupA xs h
noncomputable def kSl1 (o : Out AV) (C : Cx) (lo hi : ME) (vs : Vs) : Out AV := o.bind fun x h => (ev C lo h vs).bind fun a h => (ev C hi h vs).bind fun b h => sliceA x a b h
noncomputable def kSl2 (o : Out AV) (C : Cx) (x : AV) (hi : ME) (vs : Vs) : Out AV := o.bind fun a h => (ev C hi h vs).bind fun b h => sliceA x a b h
noncomputable def kSl3 (o : Out AV) (x a : AV) : Out AV := o.bind fun b h => sliceA x a b h
noncomputable def kCall (o : Out (List AV)) (C : Cx) (f : Nat) : Out AV := o.bind fun xs h => C.call f xs h
noncomputable def kAttr (o : Out AV) (a : Nat) : Out AV := o.bind fun x h => someA (attrA h x a) h
noncomputable def kMeth2 (t : Option Nat) (C : Cx) (args : List ME) (vs : Vs) (x : AV) (h : Hp) : Out AV := match t with
  | some f => (evs C args h vs).bind fun xs h => C.call f (x :: xs) h
  | none => .fail
noncomputable def kMeth1 (o : Out AV) (C : Cx) (m : Nat) (args : List ME) (vs : Vs) : Out AV := o.bind fun x h => kMeth2 (methF C.P h x m) C args vs x h
noncomputable def kMeth3 (o : Out (List AV)) (C : Cx) (f : Nat) (x : AV) : Out AV := o.bind fun xs h => C.call f (x :: xs) h
noncomputable def kBi (o : Out (List AV)) (C : Cx) (b : Bi) : Out AV := o.bind fun xs h => biA b xs h
noncomputable def kBm2 (t : Bool) (C : Cx) (m : Bm) (args : List ME) (vs : Vs) (x : AV) (h : Hp) : Out AV := if t then (evs C args h vs).bind fun xs h => bmA m x xs h else .fail
noncomputable def kBm1 (o : Out AV) (C : Cx) (m : Bm) (args : List ME) (vs : Vs) : Out AV := o.bind fun x h => kBm2 (bmKd m x h) C m args vs x h
noncomputable def kBm3 (o : Out (List AV)) (m : Bm) (x : AV) : Out AV := o.bind fun xs h => bmA m x xs h
noncomputable def kInst (o : Out AV) (k : Kd) : Out AV := o.bind fun x h => boolO (instA h x k) h
noncomputable def kEvs1 (o : Out AV) (C : Cx) (r : List ME) (vs : Vs) : Out (List AV) := o.bind fun x h => (evs C r h vs).bind fun xs h => .ok (x :: xs) h
noncomputable def kEvs2 (o : Out (List AV)) (x : AV) : Out (List AV) := o.bind fun xs h => .ok (x :: xs) h
noncomputable def kSet (o : Out AV) (x : Nat) (vs : Vs) : OutS := bindS o vs fun v h => .next h (vs.set x (some v))
noncomputable def kExpr (o : Out AV) (vs : Vs) : OutS := bindS o vs fun _ h => .next h vs
noncomputable def kRet (o : Out AV) (vs : Vs) : OutS := bindS o vs fun v h => .ret v h
noncomputable def kIf2 (t : Option Bool) (C : Cx) (a b : List MS) (h : Hp) (vs : Vs) : OutS := match t with
  | some true => exs C a h vs
  | some false => exs C b h vs
  | none => .fail
noncomputable def kIf (o : Out AV) (C : Cx) (a b : List MS) (vs : Vs) : OutS := bindS o vs fun v h => kIf2 (truth h v) C a b h vs
noncomputable def kLoop (o : Out AV) (C : Cx) (x : Nat) (body : List MS) (vs : Vs) : OutS := bindS o vs fun s h => loopS (srcA h s) (turn C x body) (h, vs)
noncomputable def kSA1 (o : Out AV) (C : Cx) (ob : ME) (a : Nat) (vs : Vs) : OutS := nextO vs (o.bind fun v h => (ev C ob h vs).bind fun x h => doneO (setAttrA x a v h))
noncomputable def kSA2 (o : Out AV) (a : Nat) (v : AV) (vs : Vs) : OutS := nextO vs (o.bind fun x h => doneO (setAttrA x a v h))
noncomputable def kSI1 (o : Out AV) (C : Cx) (ob i : ME) (vs : Vs) : OutS := nextO vs (o.bind fun v h => (ev C ob h vs).bind fun x h => (ev C i h vs).bind fun k h => doneO (setItemA x k v h))
noncomputable def kSI2 (o : Out AV) (C : Cx) (i : ME) (v : AV) (vs : Vs) : OutS := nextO vs (o.bind fun x h => (ev C i h vs).bind fun k h => doneO (setItemA x k v h))
noncomputable def kSI3 (o : Out AV) (x v : AV) (vs : Vs) : OutS := nextO vs (o.bind fun k h => doneO (setItemA x k v h))
noncomputable def kSeq (o : OutS) (C : Cx) (r : List MS) : OutS := match o with
  | .next h vs => exs C r h vs
  | o => o
section
variable {C : Cx} {h : Hp} {vs : Vs} {xs : List AV} {x y : AV} {P : Pr} 
@[simp] theorem ev_bin' (op : BOp) (a b : ME) : ev C (.bin op a b) h vs = kBin1 (ev C a h vs) C op b vs := rfl
@[simp] theorem kBin1_ok (op : BOp) (b : ME) : kBin1 (.ok x h) C op b vs = kBin2 (ev C b h vs) op x := rfl
@[simp] theorem kBin2_ok (op : BOp) : kBin2 (.ok y h) op x = binA op x y h := rfl
@[simp] theorem ev_cmp' (op : COp) (a b : ME) : ev C (.cmp a op b) h vs = kCmp1 (ev C a h vs) C op b vs := rfl
@[simp] theorem kCmp1_ok (op : COp) (b : ME) : kCmp1 (.ok x h) C op b vs = kCmp2 (ev C b h vs) op x := rfl
@[simp] theorem kCmp2_ok (op : COp) : kCmp2 (.ok y h) op x = boolO (cmpA op x y h) h := rfl
@[simp] theorem ev_idx' (a b : ME) : ev C (.idx a b) h vs = kIdx1 (ev C a h vs) C b vs := rfl
@[simp] theorem kIdx1_ok (b : ME) : kIdx1 (.ok x h) C b vs = kIdx2 (ev C b h vs) x := rfl
@[simp] theorem kIdx2_ok : kIdx2 (.ok y h) x = someA (idxA x y h) h := rfl
@[simp] theorem ev_not' (e : ME) : ev C (.not e) h vs = kNot (ev C e h vs) := rfl
@[simp] theorem kNot_ok : kNot (.ok x h) = notO (truth h x) h := rfl
@[simp] theorem evAnd_cons' (e e' : ME) (r : List ME) : evAnd C (e :: e' :: r) h vs = kAnd (ev C e h vs) C (e' :: r) vs := rfl
@[simp] theorem kAnd_ok (r : List ME) : kAnd (.ok x h) C r vs = kAnd2 (truth h x) C r vs x h := rfl
@[simp] theorem kAnd2_true (r : List ME) : kAnd2 (some true) C r vs x h = evAnd C r h vs := rfl
@[simp] theorem kAnd2_false (r : List ME) : kAnd2 (some false) C r vs x h = .ok x h := rfl
@[simp] theorem evOr_cons' (e e' : ME) (r : List ME) : evOr C (e :: e' :: r) h vs = kOr (ev C e h vs) C (e' :: r) vs := rfl
@[simp] theorem kOr_ok (r : List ME) : kOr (.ok x h) C r vs = kOr2 (truth h x) C r vs x h := rfl
@[simp] theorem kOr2_true (r : List ME) : kOr2 (some true) C r vs x h = .ok x h := rfl
@[simp] theorem kOr2_false (r : List ME) : kOr2 (some false) C r vs x h = evOr C r h vs := rfl
@[simp] theorem evConds_cons' (e : ME) (r : List ME) : evConds C (e :: r) h vs = kCond (ev C e h vs) C r vs := rfl
@[simp] theorem kCond_ok (r : List ME) : kCond (.ok x h) C r vs = kCond2 (truth h x) C r vs h := rfl
@[simp] theorem kCond2_true (r : List ME) : kCond2 (some true) C r vs h = evConds C r h vs := rfl
@[simp] theorem kCond2_false (r : List ME) : kCond2 (some false) C r vs h = .ok false h := rfl
@[simp] theorem ev_isN (e : ME) : ev C (.isNone e) h vs = kIsN (ev C e h vs) := rfl
@[simp] theorem kIsN_none : kIsN (.ok .none h) = .ok (.bool true) h := rfl
@[simp] theorem kIsN_bool (b : Bool) : kIsN (.ok (.bool b) h) = .ok (.bool false) h := rfl
@[simp] theorem kIsN_int (i : Int) : kIsN (.ok (.int i) h) = .ok (.bool false) h := rfl
@[simp] theorem kIsN_str (t : List Nat) : kIsN (.ok (.str t) h) = .ok (.bool false) h := rfl
@[simp] theorem kIsN_tup (t : List AV) : kIsN (.ok (.tup t) h) = .ok (.bool false) h := rfl
@[simp] theorem kIsN_ref (l : Nat) : kIsN (.ok (.ref l) h) = .ok (.bool false) h := rfl
@[simp] theorem ev_isT (e : ME) : ev C (.isTrue e) h vs = kIsT (ev C e h vs) := rfl
@[simp] theorem kIsT_true : kIsT (.ok (.bool true) h) = .ok (.bool true) h := rfl
@[simp] theorem kIsT_false : kIsT (.ok (.bool false) h) = .ok (.bool false) h := rfl
@[simp] theorem kIsT_none : kIsT (.ok .none h) = .ok (.bool false) h := rfl
@[simp] theorem kIsT_int (i : Int) : kIsT (.ok (.int i) h) = .ok (.bool false) h := rfl
@[simp] theorem kIsT_str (t : List Nat) : kIsT (.ok (.str t) h) = .ok (.bool false) h := rfl
@[simp] theorem kIsT_tup (t : List AV) : kIsT (.ok (.tup t) h) = .ok (.bool false) h := rfl
@[simp] theorem kIsT_ref (l : Nat) : kIsT (.ok (.ref l) h) = .ok (.bool false) h := rfl
@[simp] theorem ev_list' (es : List ME) : ev C (.list es) h vs = kList (evs C es h vs) := rfl
@[simp] theorem kList_ok : kList (.ok xs h) = newList xs h := rfl
@[simp] theorem ev_tup' (es : List ME) : ev C (.tup es) h vs = kTup (evs C es h vs) := rfl
@[simp] theorem kTup_ok : kTup (.ok xs h) = tupA xs h := rfl
@[simp] theorem ev_slice' (a lo hi : ME) (bl bh : Bool) : ev C (.slice a lo hi bl bh) h vs = kSl1 (ev C a h vs) C lo hi vs := rfl
@[simp] theorem kSl1_ok (lo hi : ME) : kSl1 (.ok x h) C lo hi vs = kSl2 (ev C lo h vs) C x hi vs := rfl
@[simp] theorem kSl2_ok (hi : ME) : kSl2 (.ok y h) C x hi vs = kSl3 (ev C hi h vs) x y := rfl
@[simp] theorem kSl3_ok (b : AV) : kSl3 (.ok b h) x y = sliceA x y b h := rfl
@[simp] theorem ev_call' (f : Nat) (args : List ME) : ev C (.call f args) h vs = kCall (evs C args h vs) C f := rfl
@[simp] theorem kCall_ok (f : Nat) : kCall (.ok xs h) C f = C.call f xs h := rfl
@[simp] theorem ev_attr' (e : ME) (a : Nat) : ev C (.attr e a) h vs = kAttr (ev C e h vs) a := rfl
@[simp] theorem kAttr_ok (a : Nat) : kAttr (.ok x h) a = someA (attrA h x a) h := rfl
@[simp] theorem ev_meth' (e : ME) (m : Nat) (args : List ME) : ev C (.meth e m args) h vs = kMeth1 (ev C e h vs) C m args vs := rfl
@[simp] theorem kMeth1_ok (m : Nat) (args : List ME) : kMeth1 (.ok x h) C m args vs = kMeth2 (methF C.P h x m) C args vs x h := rfl
@[simp] theorem kMeth2_ok (f : Nat) (args : List ME) : kMeth2 (some f) C args vs x h = kMeth3 (evs C args h vs) C f x := rfl
@[simp] theorem kMeth3_ok (f : Nat) : kMeth3 (.ok xs h) C f x = C.call f (x :: xs) h := rfl
@[simp] theorem ev_bi' (b : Bi) (args : List ME) : ev C (.bi b args) h vs = kBi (evs C args h vs) C b := rfl
@[simp] theorem kBi_ok (b : Bi) : kBi (.ok xs h) C b = biA b xs h := rfl
@[simp] theorem ev_bm' (m : Bm) (e : ME) (args : List ME) : ev C (.bm m e args) h vs = kBm1 (ev C e h vs) C m args vs := rfl
@[simp] theorem kBm1_ok (m : Bm) (args : List ME) : kBm1 (.ok x h) C m args vs = kBm2 (bmKd m x h) C m args vs x h := rfl
@[simp] theorem kBm2_ok (m : Bm) (args : List ME) : kBm2 true C m args vs x h = kBm3 (evs C args h vs) m x := rfl
@[simp] theorem kBm3_ok (m : Bm) : kBm3 (.ok xs h) m x = bmA m x xs h := rfl
@[simp] theorem ev_inst' (e : ME) (k : Kd) : ev C (.inst e k) h vs = kInst (ev C e h vs) k := rfl
@[simp] theorem kInst_ok (k : Kd) : kInst (.ok x h) k = boolO (instA h x k) h := rfl
@[simp] theorem evs_cons' (e : ME) (r : List ME) : evs C (e :: r) h vs = kEvs1 (ev C e h vs) C r vs := rfl
@[simp] theorem kEvs1_ok (r : List ME) : kEvs1 (.ok x h) C r vs = kEvs2 (evs C r h vs) x := rfl
@[simp] theorem kEvs2_ok : kEvs2 (.ok xs h) x = .ok (x :: xs) h := rfl
@[simp] theorem ex_set' (i : Nat) (e : ME) : ex C (.set i e) h vs = kSet (ev C e h vs) i vs := rfl
@[simp] theorem kSet_ok (i : Nat) : kSet (.ok x h) i vs = .next h (vs.set i (some x)) := rfl
@[simp] theorem ex_expr' (e : ME) : ex C (.expr e) h vs = kExpr (ev C e h vs) vs := rfl
@[simp] theorem kExpr_ok : kExpr (.ok x h) vs = .next h vs := rfl
@[simp] theorem ex_ret' (e : ME) : ex C (.ret e) h vs = kRet (ev C e h vs) vs := rfl
@[simp] theorem kRet_ok : kRet (.ok x h) vs = .ret x h := rfl
@[simp] theorem ex_ifs' (t : ME) (a b : List MS) : ex C (.ifs t a b) h vs = kIf (ev C t h vs) C a b vs := rfl
@[simp] theorem kIf_ok (a b : List MS) : kIf (.ok x h) C a b vs = kIf2 (truth h x) C a b h vs := rfl
@[simp] theorem kIf2_true (a b : List MS) : kIf2 (some true) C a b h vs = exs C a h vs := rfl
@[simp] theorem kIf2_false (a b : List MS) : kIf2 (some false) C a b h vs = exs C b h vs := rfl
@[simp] theorem ex_loop' (i : Nat) (src : ME) (body : List MS) : ex C (.loop i src body) h vs = kLoop (ev C src h vs) C i body vs := rfl
@[simp] theorem kLoop_ok (i : Nat) (body : List MS) : kLoop (.ok x h) C i body vs = loopS (srcA h x) (turn C i body) (h, vs) := rfl
@[simp] theorem ex_setAttr' (o : ME) (a : Nat) (e : ME) : ex C (.setAttr o a e) h vs = kSA1 (ev C e h vs) C o a vs := rfl
@[simp] theorem kSA1_ok (o : ME) (a : Nat) : kSA1 (.ok x h) C o a vs = kSA2 (ev C o h vs) a x vs := rfl
@[simp] theorem kSA2_ok (a : Nat) : kSA2 (.ok y h) a x vs = nextO vs (doneO (setAttrA y a x h)) := rfl
@[simp] theorem ex_setItem' (o i e : ME) : ex C (.setItem o i e) h vs = kSI1 (ev C e h vs) C o i vs := rfl
@[simp] theorem kSI1_ok (o i : ME) : kSI1 (.ok x h) C o i vs = kSI2 (ev C o h vs) C i x vs := rfl
@[simp] theorem kSI2_ok (i : ME) : kSI2 (.ok y h) C i x vs = kSI3 (ev C i h vs) y x vs := rfl
@[simp] theorem kSI3_ok (k : AV) : kSI3 (.ok k h) y x vs = nextO vs (doneO (setItemA y k x h)) := rfl
@[simp] theorem exs_cons' (s : MS) (r : List MS) : exs C (s :: r) h vs = kSeq (ex C s h vs) C r := rfl
@[simp] theorem kSeq_next (r : List MS) : kSeq (.next h vs) C r = exs C r h vs := rfl
@[simp] theorem kSeq_ret (r : List MS) : kSeq (.ret x h) C r = .ret x h := rfl
end

section
variable (h : Hp)
@[simp] theorem add_int (a b : Int) : binA .add (.int a) (.int b) h = .ok (.int (a + b)) h := rfl
@[simp] theorem sub_int (a b : Int) : binA .sub (.int a) (.int b) h = .ok (.int (a - b)) h := rfl
@[simp] theorem mul_small (a b : Int) (q : b.natAbs < 18446744073709551616 ∨ a.natAbs < 18446744073709551616) : binA .mul (.int a) (.int b) h = .ok (.int (a * b)) h := by
  have : (small a || small b) = true := by unfold small; rcases q with q | q <;> simp [q]
  show (if (small a || small b) = true then _ else _) = _
  rw [if_pos this]
@[simp] theorem mod_int (a b : Int) (q : 0 < b) : binA .mod (.int a) (.int b) h = .ok (.int (a % b)) h := if_pos q
@[simp] theorem div_int (a b : Int) (q : 0 < b) (q' : b < 18446744073709551616) : binA .div (.int a) (.int b) h = .ok (.int (a / b)) h := if_pos ⟨q, q'⟩
@[simp] theorem add_str (a b : List Nat) (q : a.length + b.length ≤ lim) : binA .add (.str a) (.str b) h = .ok (.str (a ++ b)) h := if_pos q
@[simp] theorem mul_str (a : List Nat) (b : Int) (q : -lim ≤ b) (q1 : b ≤ lim) (q2 : a.length * b.toNat ≤ lim) : binA .mul (.str a) (.int b) h = .ok (.str (rep b.toNat a)) h := if_pos ⟨q, q1, q2⟩
@[simp] theorem eq_int (a b : Int) : cmpA .eq (.int a) (.int b) h = some (decide (a = b)) := rfl
@[simp] theorem ne_int (a b : Int) : cmpA .ne (.int a) (.int b) h = some (!decide (a = b)) := rfl
@[simp] theorem lt_int (a b : Int) : cmpA .lt (.int a) (.int b) h = some (decide (a < b)) := rfl
@[simp] theorem le_int (a b : Int) : cmpA .le (.int a) (.int b) h = some (decide (a ≤ b)) := rfl
@[simp] theorem gt_int (a b : Int) : cmpA .gt (.int a) (.int b) h = some (decide (a > b)) := rfl
@[simp] theorem ge_int (a b : Int) : cmpA .ge (.int a) (.int b) h = some (decide (a ≥ b)) := rfl
@[simp] theorem eq_str (a b : List Nat) : cmpA .eq (.str a) (.str b) h = some (decide (a = b)) := by
  show some (tS a == tS b) = _
  congr 1
  by_cases q : a = b
  · rw [q]; simp
  · have : tS a ≠ tS b := fun z => q (by have := congrArg (fun s : PySem.Str => s.cps.toList) z; simpa [tS] using this)
    rw [beq_eq_false_iff_ne.mpr this, decide_eq_false q]
@[simp] theorem truth_bool (b : Bool) : truth h (.bool b) = some b := rfl
@[simp] theorem truth_int (i : Int) : truth h (.int i) = some (decide (i ≠ 0)) := rfl
@[simp] theorem truth_str (s : List Nat) : truth h (.str s) = some (!s.isEmpty) := rfl
@[simp] theorem newList_eq (xs : List AV) (q : xs.length ≤ lim) : newList xs h = .ok (.ref h.length) (h ++ [.list xs]) := if_pos q
@[simp] theorem len_str (s : List Nat) : biA .len [.str s] h = .ok (.int s.length) h := rfl
@[simp] theorem len_scr (s : List Int) : biA .len [.scr s] h = .ok (.int s.length) h := rfl
@[simp] theorem range1 (b : Int) (q : -lim ≤ b) (q1 : b ≤ lim) : biA .range [.int b] h = .ok (.rng 0 b) h := if_pos ⟨by decide, by decide, q, q1⟩
@[simp] theorem min2 (a b : Int) : biA .min [.int a, .int b] h = .ok (.int (if b < a then b else a)) h := rfl
@[simp] theorem inst_int (i : Int) : instA h (.int i) .int = some true := rfl
@[simp] theorem inst_int_bool (i : Int) : instA h (.int i) .bool = some false := rfl
@[simp] theorem src_rng (a b : Int) : srcA h (.rng a b) = some (.fixed (ups a (b - a).toNat)) := rfl
theorem listAt_of {h : Hp} {l : Nat} {xs : List AV} (e : h[l]? = some (.list xs)) : listAt h (.ref l) = some xs := by
  show lst h[l]? = _; rw [e]; rfl
theorem len_list {l : Nat} {xs : List AV} (e : h[l]? = some (.list xs)) : biA .len [.ref l] h = .ok (.int xs.length) h := by
  show (match listAt h (.ref l) with | some xs => Out.ok (AV.int xs.length) h | none => (match dictAt h (.ref l) with | some p => .ok (.int p.2.length) h | none => .fail)) = _; rw [listAt_of e]
theorem kd_append {l : Nat} {xs : List AV} (e : h[l]? = some (.list xs)) : bmKd .append (.ref l) h = true := by show (listAt h (.ref l)).isSome = true; rw [listAt_of e]; rfl
theorem append_list {l : Nat} {xs : List AV} (e : h[l]? = some (.list xs)) (q : xs.length < lim) (v : AV) : bmA .append (.ref l) [v] h = .ok .none (h.set l (.list (xs ++ [v]))) := by
  show (match lst h[l]? with | some xs => if xs.length < lim then Out.ok AV.none (h.set l (.list (xs ++ [v]))) else .fail | none => .fail) = _; rw [e]; exact if_pos q
theorem bound_at {n k : Nat} (d : Nat) (h : k ≤ n) : bound n d (.int (k : Int)) = some k := by
  show some (if 0 ≤ (k : Int) then min (k : Int).toNat n else ((k : Int) + n).toNat) = _
  rw [if_pos (by lia  )]
  congr 1
  lia  
theorem slice_nat (s : List Nat) {a b : Nat} (ha : a ≤ s.length) (hb : b ≤ s.length) : sliceA (.str s) (.int (a : Int)) (.int (b : Int)) h = .ok (.str ((s.drop a).take (b - a))) h := by
  show (match bound s.length 0 (.int (a : Int)) with | some a => (match bound s.length s.length (.int (b : Int)) with | some b => Out.ok (AV.str (cut s a b)) h | none => .fail) | none => .fail) = _
  simp only [bound_at 0 ha, bound_at s.length hb]
  rfl
theorem place_at {n k : Nat} (q : k < n) : place n (k : Int) = some k := by simp [place, q]
theorem idx_str {s : List Nat} {i : Int} {k c : Nat} (e : place s.length i = some k) (q : s[k]? = some c) : idxA (.str s) (.int i) h = some (.str [c]) := by
  show ((place s.length i).bind fun k => (s[k]?).map fun c => AV.str [c]) = _; rw [e, Option.bind_some, q]; rfl
theorem idx_list {l : Nat} {xs : List AV} {i : Int} {k : Nat} {c : AV} (e : h[l]? = some (.list xs)) (e1 : place xs.length i = some k) (q : xs[k]? = some c) : idxA (.ref l) (.int i) h = some c := by
  have e0 : dictAt h (.ref l) = none := by show dct h[l]? = none; rw [e]; rfl
  unfold idxA
  rw [e0]
  show (match lst h[l]? with | some xs => (place xs.length i).bind fun k => xs[k]? | none => none) = _; rw [e]; simp only [lst, e1, Option.bind_some, q]
end

/-- a loop over a range -/
theorem ups_inv {σ ρ : Type} {f : AV → σ → It σ ρ} (J : Nat → σ → Prop) (a : Int) (n : Nat) (step : ∀ (i : Nat) s, i < n → J i s → ∃ s', f (.int (a + i)) s = .go s' ∧ J (i + 1) s') : ∀ (m k : Nat) (s : σ), k + m = n → J k s → ∃ s', iterL f (ups (a + k) m) s = .go s' ∧ J n s'
  | 0, k, s, e, j => ⟨s, rfl, by rw [← e]; exact j⟩
  | m + 1, k, s, e, j => by
    obtain ⟨s', q, j'⟩ := step k s (by lia  ) j
    obtain ⟨s'', q', j''⟩ := ups_inv J a n step m (k + 1) s' (by lia  ) j'
    refine ⟨s'', ?_, j''⟩
    rw [ups, iterL, q]
    have : a + (k : Int) + 1 = a + ((k + 1 : Nat) : Int) := by lia  
    rw [this]; exact q'
theorem range_inv {σ ρ : Type} {f : AV → σ → It σ ρ} (J : Nat → σ → Prop) (n : Nat) {s : σ} (j : J 0 s) (step : ∀ (i : Nat) s, i < n → J i s → ∃ s', f (.int i) s = .go s' ∧ J (i + 1) s') : ∃ s', iterL f (ups 0 n) s = .go s' ∧ J n s' := by
  have := ups_inv J 0 n (fun i s hi hj => by rw [Int.zero_add]; exact step i s hi hj) n 0 s (by lia  ) j
  simpa using this
/-- a loop that may return early -/
theorem iterL_all {σ ρ : Type} {f : AV → σ → It σ ρ} (p : AV → Bool) (J : σ → Prop) (bad : ρ) : ∀ (l : List AV) (s : σ), J s → (∀ v ∈ l, ∀ s, J s → if p v then ∃ s', f v s = .go s' ∧ J s' else f v s = .stop bad) →
    if l.all p then ∃ s', iterL f l s = .go s' ∧ J s' else iterL f l s = .stop bad
  | [], s, j, _ => ⟨s, rfl, j⟩
  | v :: r, s, j, h => by
    have h1 := h v (by simp) s j
    cases hp : p v with
    | false =>
      rw [hp] at h1
      simp only [Bool.false_eq_true, if_false] at h1
      simp [hp, iterL, h1]
    | true =>
      rw [hp] at h1
      simp only [if_true] at h1
      obtain ⟨s', e, j'⟩ := h1
      have := iterL_all p J bad r s' j' fun w hw => h w (by simp [hw])
      simp only [List.all_cons, hp, Bool.true_and, iterL, e]
      exact this
theorem mem_ups {v : AV} : ∀ {n : Nat} {a : Int}, v ∈ ups a n → ∃ i : Nat, i < n ∧ v = .int (a + i)
  | 0, a, h => by simp [ups] at h
  | n + 1, a, h => by
    rw [ups] at h
    rcases List.mem_cons.mp h with rfl | h
    · exact ⟨0, by lia  , by simp⟩
    · obtain ⟨i, hi, e⟩ := mem_ups h
      refine ⟨i + 1, by lia  , ?_⟩
      rw [e]; congr 1; lia  
theorem ups_len : ∀ (n : Nat) (a : Int), (ups a n).length = n
  | 0, _ => rfl
  | n + 1, a => by simp [ups, ups_len n]
theorem ups_map : ∀ (n : Nat) (a : Int), ups a n = (List.range n).map fun i : Nat => .int (a + (i : Int))
  | 0, _ => rfl
  | n + 1, a => by
    rw [ups, ups_map n (a + 1), List.range_succ_eq_map, List.map_cons, List.map_map]
    simp only [Int.natCast_zero, Int.add_zero]
    congr 1
    apply List.map_congr_left
    intro i _
    simp only [Function.comp]
    congr 1
    lia  
/-- heaps that grow -/
noncomputable def Grow (h h' : Hp) : Prop := h.length ≤ h'.length ∧ ∀ i, i < h.length → h'[i]? = h[i]?
theorem Grow.refl (h : Hp) : Grow h h := ⟨Nat.le_refl _, fun _ _ => rfl⟩
theorem Grow.trans {a b c : Hp} (x : Grow a b) (y : Grow b c) : Grow a c := ⟨Nat.le_trans x.1 y.1, fun i hi => (y.2 i (Nat.lt_of_lt_of_le hi x.1)).trans (x.2 i hi)⟩
theorem Grow.app (h e : Hp) : Grow h (h ++ e) := ⟨by simp, fun i hi => by rw [List.getElem?_append_left hi]⟩
theorem Grow.get {h h' : Hp} (g : Grow h h') {l : Nat} {o : AO} (e : h[l]? = some o) : h'[l]? = some o := by
  rw [g.2 l (List.getElem?_eq_some_iff.mp e).1]; exact e
end Mine.PL

/-! Law 06, plain: the texts (typed by hand). -/
set_option Elab.async false
namespace Mine.PL

noncomputable def signs : List Nat := [32, 33, 34, 35, 36, 38, 39, 40, 41, 42, 43, 44, 45, 46, 47, 48, 49, 50, 51, 52, 53, 54, 55, 56, 57, 58, 59, 60, 61, 62, 63, 64, 65, 66, 67, 68, 69, 70, 71, 72, 73, 74, 75, 76, 77, 78, 79, 80, 81, 82, 83, 84, 85, 86, 87, 88, 89, 90, 91, 92, 93, 94, 95, 96, 97, 98, 99, 100, 101, 102, 103, 104, 105, 106, 107, 108, 109, 110, 111, 112, 113, 114, 115, 116, 117, 118, 119, 120, 121, 122, 123, 124, 125, 126, 10]
noncomputable def signBy (c : Int) : Nat := (signs[(c % 95).toNat]?).getD 0
theorem sign_by {n : Nat} {h : Hp} (c : Int) : callF prog (n + 1) 29 [.int c] h = .ok (.str [signBy c]) h := by
  rw [callF_def (fn := fn_l_sign_by) rfl rfl rfl]
  have hs : signs.length = 95 := rfl
  have h1 : 0 ≤ c % 95 := by lia  
  have h2 : c % 95 < 95 := by lia  
  have h3 : (c % 95).toNat < signs.length := by lia  
  have h4 : signs[(c % 95).toNat]? = some (signBy c) := by
    unfold signBy; rw [List.getElem?_eq_getElem h3]; rfl
  have h5 : place signs.length (c % 95) = some (c % 95).toNat := by
    unfold place; rw [if_pos h1, if_pos (by lia  )]
  have hl : 64 + 31 ≤ lim := by decide
  have key := idx_str h h5 h4
  have hl' : ([32, 33, 34, 35, 36, 38, 39, 40, 41, 42, 43, 44, 45, 46, 47, 48, 49, 50, 51, 52, 53, 54, 55, 56, 57, 58, 59, 60, 61, 62, 63, 64, 65, 66, 67, 68, 69, 70, 71, 72, 73, 74, 75, 76, 77, 78, 79, 80, 81, 82, 83, 84, 85, 86, 87, 88, 89, 90, 91, 92, 93, 94, 95, 96] : List Nat).length + ([97, 98, 99, 100, 101, 102, 103, 104, 105, 106, 107, 108, 109, 110, 111, 112, 113, 114, 115, 116, 117, 118, 119, 120, 121, 122, 123, 124, 125, 126, 10] : List Nat).length ≤ lim := by decide
  have hd : binA .add (.str [32, 33, 34, 35, 36, 38, 39, 40, 41, 42, 43, 44, 45, 46, 47, 48, 49, 50, 51, 52, 53, 54, 55, 56, 57, 58, 59, 60, 61, 62, 63, 64, 65, 66, 67, 68, 69, 70, 71, 72, 73, 74, 75, 76, 77, 78, 79, 80, 81, 82, 83, 84, 85, 86, 87, 88, 89, 90, 91, 92, 93, 94, 95, 96]) (.str [97, 98, 99, 100, 101, 102, 103, 104, 105, 106, 107, 108, 109, 110, 111, 112, 113, 114, 115, 116, 117, 118, 119, 120, 121, 122, 123, 124, 125, 126, 10]) h = .ok (.str signs) h := add_str h _ _ hl'
  simp [fn_l_sign_by, hd, key, -add_str]

/-- a sign of a text -/
noncomputable def good (x : Nat) : Prop := x = 10 ∨ (32 ≤ x ∧ x ≤ 126 ∧ x ≠ 37)
theorem signBy_good (c : Int) : good (signBy c) := by
  have : ∀ k < 95, (signs[k]?).getD 0 = 10 ∨ (32 ≤ (signs[k]?).getD 0 ∧ (signs[k]?).getD 0 ≤ 126 ∧ (signs[k]?).getD 0 ≠ 37) := by decide
  exact this _ (by lia  )

/-! ### the text -/
theorem rep_length (n : Nat) (s : List Nat) : (rep n s).length = n * s.length := by
  induction n with
  | zero => simp [rep]
  | succ n ih => simp [rep, ih, Nat.succ_mul]; lia  
theorem rep_mem {n : Nat} {s : List Nat} {c : Nat} (h : c ∈ rep n s) : c ∈ s := by
  induction n with
  | zero => simp [rep] at h
  | succ n ih => simp only [rep, List.mem_append] at h; exact h.elim id ih

theorem text_tail {n : Nat} {h : Hp} (c z g b : Int) (z1 : z < 300) (b0 : 0 < b) (b1 : b ≤ z) (g0 : 0 < g) (g1 : g ≤ 95) :
    ∃ s, exs ⟨prog, callF prog (n + 1)⟩ (fn_l_text_by.body.drop 4) h [some (.int c), some (.int z), some (.int g), some (.int b), none, none, none] = .ret (.str s) h ∧ (∀ x ∈ s, good x) ∧ s.length = z.toNat := by
  have hl : (300 : Int) * 300 ≤ lim := by decide
  obtain ⟨k, rfl⟩ : ∃ k : Nat, b = k := ⟨b.toNat, by lia  ⟩
  obtain ⟨st, q, got, num, y, rfl, j1, j2⟩ := range_inv (f := turn ⟨prog, callF prog (n + 1)⟩ 6 [.set 5 (.bin .mod (.bin .add (.bin .mul (.var 5) (.int 48271)) (.int 11)) (.int 2147483647)),
      .set 4 (.bin .add (.var 4) (.call 29 [.bin .add (.int 65) (.bin .mod (.bin .div (.var 5) (.int 7)) (.var 2))]))])
    (fun i st => ∃ (got : List Nat) (num : Int) (y : Option AV), st = (h, [some (.int c), some (.int z), some (.int g), some (.int (k : Int)), some (.str got), some (.int num), y]) ∧ (∀ x ∈ got, good x) ∧ got.length = i) k
    (s := (h, [some (.int c), some (.int z), some (.int g), some (.int (k : Int)), some (.str []), some (.int c), none]))
    ⟨[], c, none, rfl, by simp, rfl⟩ (by
      rintro i _ hi ⟨got, num, y, rfl, j1, j2⟩
      refine ⟨_, turn_next (h' := h) (vs' := [some (.int c), some (.int z), some (.int g), some (.int (k : Int)), some (.str (got ++ [signBy (65 + (num * 48271 + 11) % 2147483647 / 7 % g)])), some (.int ((num * 48271 + 11) % 2147483647)), some (.int i)]) ?_, _, _, _, rfl, ?_, ?_⟩
      · have hq : got.length + 1 ≤ lim := by lia  
        simp [g0, sign_by, hq]
      · intro x hx
        rcases List.mem_append.mp hx with q | q
        · exact j1 x q
        · rw [List.mem_singleton.mp q]; exact signBy_good _
      · simp [j2])
  have d0 : 0 ≤ z / (k : Int) := Int.ediv_nonneg (by lia  ) (by lia  )
  have d1 : z / (k : Int) ≤ z := Int.ediv_le_self _ (by lia  )
  have d2 : z < (k : Int) * (z / (k : Int) + 1) := by
    have := Int.lt_mul_ediv_self_add (x := z) (k := (k : Int)) (by omega)
    rw [Int.mul_add]; lia  
  have d4 : got.length * (z / (k : Int) + 1).toNat ≤ lim := by
    have : got.length * (z / (k : Int) + 1).toNat ≤ 300 * 300 := Nat.mul_le_mul (by lia  ) (by lia  )
    have : 300 * 300 ≤ lim := by decide
    lia  
  have d5 : z.toNat ≤ (rep (z / (k : Int) + 1).toNat got).length := by
    rw [rep_length, j2]
    have : (((z / (k : Int) + 1).toNat * k : Nat) : Int) = (k : Int) * (z / (k : Int) + 1) := by
      rw [Int.natCast_mul, Int.toNat_of_nonneg (by lia  ), Int.mul_comm]
    lia  
  have hm := mul_str h got (z / (k : Int) + 1) (by lia  ) (by lia  ) d4
  refine ⟨(rep (z / (k : Int) + 1).toNat got).take z.toNat, ?_, fun x hx => j1 x (rep_mem (List.mem_of_mem_take hx)), by rw [List.length_take]; lia  ⟩
  have hsl : sliceA (.str (rep (z / (k : Int) + 1).toNat got)) .none (.int z) h = .ok (.str ((rep (z / (k : Int) + 1).toNat got).take z.toNat)) h := by
    simp only [sliceA, bound, cut]
    rw [if_pos (by lia  ), Nat.min_eq_left d5]; simp
  have r1 : -(lim : Int) ≤ (k : Int) := by lia  
  have r2 : (k : Int) ≤ lim := by lia  
  have r3 : 0 < (k : Int) := by omega
  have r4 : (k : Int) < 18446744073709551616 := by lia  
  have hdv := div_int h z k r3 r4
  simp [fn_l_text_by, loopS_go q, hm, hsl, r1, r2, hdv, -mul_str, -div_int]

theorem text_by {n : Nat} {h : Hp} (c z : Int) (z0 : 0 ≤ z) (z1 : z < 300) :
    ∃ s, callF prog (n + 2) 30 [.int c, .int z] h = .ok (.str s) (h ++ [.list [.int 2, .int 95, .int 95, .int 1]]) ∧ (∀ x ∈ s, good x) ∧ s.length = z.toNat := by
  rw [callF_def (fn := fn_l_text_by) rfl rfl rfl]
  obtain ⟨g, hg0, hg1, hg⟩ : ∃ g : Int, 0 < g ∧ g ≤ 95 ∧ idxA (.ref h.length) (.int (c % 4)) (h ++ [.list [.int 2, .int 95, .int 95, .int 1]]) = some (.int g) := by
    have q : c % 4 = ((c % 4).toNat : Int) := by lia  
    have q1 : (c % 4).toNat < 4 := by lia  
    rw [q]
    generalize (c % 4).toNat = k at q1
    have : ∀ j : Nat, j < 4 → ∃ g : Int, 0 < g ∧ g ≤ 95 ∧ ([.int 2, .int 95, .int 95, .int 1] : List AV)[j]? = some (.int g) := by
      intro j hj
      match j, hj with
      | 0, _ => exact ⟨2, by decide, by decide, rfl⟩
      | 1, _ => exact ⟨95, by decide, by decide, rfl⟩
      | 2, _ => exact ⟨95, by decide, by decide, rfl⟩
      | 3, _ => exact ⟨1, by decide, by decide, rfl⟩
    obtain ⟨g, g0, g1, e⟩ := this k q1
    exact ⟨g, g0, g1, idx_list (xs := [.int 2, .int 95, .int 95, .int 1]) _ (by simp) (place_at (n := 4) q1) e⟩
  have hl : 4 ≤ lim := by decide
  rw [exs_split 3]
  obtain ⟨b, b0, b1, b2, hb⟩ : ∃ b : Int, 0 ≤ b ∧ b ≤ z ∧ (b = 0 → z = 0) ∧ exs ⟨prog, callF prog (n + 1)⟩ (fn_l_text_by.body.take 3) h ([AV.int c, AV.int z].map some ++ List.replicate (fn_l_text_by.names.length - fn_l_text_by.np) none) =
      .next (h ++ [.list [.int 2, .int 95, .int 95, .int 1]]) [some (.int c), some (.int z), some (.int g), some (.int b), none, none, none] := by
    by_cases q : c % 4 = 2
    · refine ⟨if 1 + c / 4 % 50 < z then 1 + c / 4 % 50 else z, by split <;> lia  , by split <;> lia  , by split <;> lia  , ?_⟩
      rw [q] at hg
      simp [fn_l_text_by, hg, q, hl]
    · refine ⟨z, z0, by lia  , fun e => e, ?_⟩
      simp [fn_l_text_by, hg, q, hl]
  rw [hb, seqS_next]
  by_cases q : b = 0
  · refine ⟨[], ?_, by simp, by rw [b2 q]; rfl⟩
    simp [fn_l_text_by, q]
  · obtain ⟨s, e, h1, h2⟩ := text_tail (n := n) (h := h ++ [.list [.int 2, .int 95, .int 95, .int 1]]) c z g b z1 (by lia  ) b1 hg0 hg1
    refine ⟨s, ?_, h1, h2⟩
    have : fn_l_text_by.body.drop 3 = (.ifs (.cmp (.var 3) .eq (.int 0)) [.ret (.str [])] []) :: fn_l_text_by.body.drop 4 := rfl
    rw [this, exs_cons]
    have : ex ⟨prog, callF prog (n + 1)⟩ (.ifs (.cmp (.var 3) .eq (.int 0)) [.ret (.str [])] []) (h ++ [.list [.int 2, .int 95, .int 95, .int 1]]) [some (.int c), some (.int z), some (.int g), some (.int b), none, none, none] =
      .next (h ++ [.list [.int 2, .int 95, .int 95, .int 1]]) [some (.int c), some (.int z), some (.int g), some (.int b), none, none, none] := by simp [q]
    rw [this, seqS_next, e, fin_ret]
end Mine.PL

/-! Law 06, plain: what is alike (typed by hand). -/
set_option Elab.async false
namespace Mine.PL
variable {n : Nat} {h : Hp}
@[simp] theorem inst_tup_int (xs : List AV) : instA h (.tup xs) .int = some false := rfl
@[simp] theorem inst_str_int (s : List Nat) : instA h (.str s) .int = some false := rfl
@[simp] theorem inst_tup_str (xs : List AV) : instA h (.tup xs) .str = some false := rfl
@[simp] theorem inst_str_str (s : List Nat) : instA h (.str s) .str = some true := rfl
@[simp] theorem inst_tup_bool (xs : List AV) : instA h (.tup xs) .bool = some false := rfl
@[simp] theorem inst_str_bool (s : List Nat) : instA h (.str s) .bool = some false := rfl
@[simp] theorem inst_tup_tup (xs : List AV) : instA h (.tup xs) .tup = some true := rfl
@[simp] theorem inst_str_tup (s : List Nat) : instA h (.str s) .tup = some false := rfl
@[simp] theorem inst_tup_list (xs : List AV) : instA h (.tup xs) .list = some false := rfl
@[simp] theorem inst_str_list (s : List Nat) : instA h (.str s) .list = some false := rfl
theorem alike_int (a b : Int) : callF prog (n + 2) 35 [.int a, .int b] h = .ok (.bool (decide (a = b))) h := by kernel_rfl
theorem alike_str (a b : List Nat) : callF prog (n + 1) 35 [.str a, .str b] h = .ok (.bool (decide (a = b))) h := by
  have e : callF prog (n + 1) 35 [.str a, .str b] h = boolO (cmpA .eq (.str a) (.str b) h) h := by kernel_rfl
  rw [e, eq_str]; rfl
theorem alike_tail {m : Nat} (g d : AV) (len : Nat) (hlen : biA .len [d] h = .ok (.int len) h) (hl : len ≤ 100000) (H : ∀ k < len, ∃ x y, idxA g (.int (k : Int)) h = some x ∧ idxA d (.int (k : Int)) h = some y ∧ callF prog m 35 [x, y] h = .ok (.bool true) h) :
    exs ⟨prog, callF prog m⟩ (fn_l_alike.body.drop 7) h [some g, some d, none] = .ret (.bool true) h := by
  have hlim : (100000 : Int) ≤ lim := by decide
  obtain ⟨st, q, y, rfl⟩ := range_inv (f := turn ⟨prog, callF prog m⟩ 2 [.ifs (.not (.call 35 [.idx (.var 0) (.var 2), .idx (.var 1) (.var 2)])) [.ret (.bool false)] []])
    (fun i st => ∃ y : Option AV, st = (h, [some g, some d, y])) len (s := (h, [some g, some d, none])) ⟨none, rfl⟩ (by
      rintro i _ hi ⟨y, rfl⟩
      obtain ⟨a, b, e1, e2, e3⟩ := H i hi
      refine ⟨_, turn_next (h' := h) (vs' := [some g, some d, some (.int i)]) ?_, _, rfl⟩
      simp [e1, e2, e3])
  have r1 : -(lim : Int) ≤ (len : Int) := by lia  
  have r2 : (len : Int) ≤ lim := by lia  
  simp [fn_l_alike, hlen, r1, r2, loopS_go q]
theorem alike_tup {m : Nat} (xs ys : List AV) (hl : xs.length = ys.length) (h2 : ys.length ≤ 100000) (H : ∀ (k : Nat) x y, xs[k]? = some x → ys[k]? = some y → callF prog m 35 [x, y] h = .ok (.bool true) h) : callF prog (m + 1) 35 [.tup xs, .tup ys] h = .ok (.bool true) h := by
  rw [callF_def (fn := fn_l_alike) rfl rfl rfl]
  rw [exs_split 7]
  have l1 : biA .len [.tup ys] h = .ok (.int ys.length) h := rfl
  have l2 : biA .len [.tup xs] h = .ok (.int ys.length) h := by rw [← hl]; rfl
  have e : exs ⟨prog, callF prog m⟩ (fn_l_alike.body.take 7) h ([AV.tup xs, AV.tup ys].map some ++ List.replicate (fn_l_alike.names.length - fn_l_alike.np) none) = .next h [some (.tup xs), some (.tup ys), none] := by
    simp [fn_l_alike, isN, isT, l1, l2]
  rw [e, seqS_next, alike_tail (.tup xs) (.tup ys) ys.length l1 h2 fun k hk => ?_, fin_ret]
  have k1 : k < xs.length := by lia  
  refine ⟨xs[k], ys[k], ?_, ?_, H k _ _ (List.getElem?_eq_getElem k1) (List.getElem?_eq_getElem hk)⟩
  · show ((place xs.length (k : Int)).bind fun k => xs[k]?) = _
    rw [place_at k1, Option.bind_some, List.getElem?_eq_getElem k1]
  · show ((place ys.length (k : Int)).bind fun k => ys[k]?) = _
    rw [place_at hk, Option.bind_some, List.getElem?_eq_getElem hk]
theorem inst_list {a : Nat} {xs : List AV} (e : h[a]? = some (.list xs)) (k : Kd) : instA h (.ref a) k = some (k == Kd.list) := by
  show (match listAt h (.ref a) with | some _ => some (k == Kd.list) | none => none) = _
  rw [listAt_of e]
theorem alike_list {m : Nat} {a b : Nat} {xs ys : List AV} (ea : h[a]? = some (.list xs)) (eb : h[b]? = some (.list ys)) (hl : xs.length = ys.length) (h2 : ys.length ≤ 100000) (H : ∀ (k : Nat) x y, xs[k]? = some x → ys[k]? = some y → callF prog m 35 [x, y] h = .ok (.bool true) h) :
    callF prog (m + 1) 35 [.ref a, .ref b] h = .ok (.bool true) h := by
  rw [callF_def (fn := fn_l_alike) rfl rfl rfl]
  rw [exs_split 7]
  have l1 : biA .len [.ref b] h = .ok (.int ys.length) h := len_list h eb
  have l2 : biA .len [.ref a] h = .ok (.int ys.length) h := by rw [← hl]; exact len_list h ea
  have i1 : instA h (.ref b) .str = some false := inst_list eb .str
  have i2 : instA h (.ref b) .int = some false := inst_list eb .int
  have i3 : instA h (.ref b) .tup = some false := inst_list eb .tup
  have i4 : instA h (.ref b) .list = some true := inst_list eb .list
  have i5 : instA h (.ref a) .list = some true := inst_list ea .list
  have e : exs ⟨prog, callF prog m⟩ (fn_l_alike.body.take 7) h ([AV.ref a, AV.ref b].map some ++ List.replicate (fn_l_alike.names.length - fn_l_alike.np) none) = .next h [some (.ref a), some (.ref b), none] := by
    simp [fn_l_alike, isN, isT, l1, l2, i1, i2, i3, i4, i5]
  rw [e, seqS_next, alike_tail (.ref a) (.ref b) ys.length l1 h2 fun k hk => ?_, fin_ret]
  have k1 : k < xs.length := by omega
  exact ⟨xs[k], ys[k], idx_list h ea (place_at k1) (List.getElem?_eq_getElem k1), idx_list h eb (place_at hk) (List.getElem?_eq_getElem hk), H k _ _ (List.getElem?_eq_getElem k1) (List.getElem?_eq_getElem hk)⟩
end Mine.PL

/-! Law 06, plain: cells, weights, cuts by the law (typed by hand). -/
set_option Elab.async false
namespace Mine.PL
section
variable {C : Cx} {h : Hp} {vs : Vs} {x : AV}
noncomputable def kComp (o : Out AV) (C : Cx) (elt : ME) (i : Nat) (conds : List ME) (vs : Vs) : Out AV := o.bind fun s h => compE (srcA h s) (compF (evConds C conds) (ev C elt) i vs) h
@[simp] theorem ev_comp' (elt : ME) (i : Nat) (src : ME) (conds : List ME) (sc : PySem.Scope) : ev C (.comp elt i src conds sc) h vs = kComp (ev C src h vs) C elt i conds vs := rfl
@[simp] theorem kComp_ok (elt : ME) (i : Nat) (conds : List ME) : kComp (.ok x h) C elt i conds vs = compE (srcA h x) (compF (evConds C conds) (ev C elt) i vs) h := rfl
theorem comp_pure (cs : Hp → Vs → Out Bool) (el : Hp → Vs → Out AV) (x : Nat) (p : AV → Bool) (f : AV → AV) : ∀ (l acc : List AV), (∀ v ∈ l, cs h (vs.set x (some v)) = .ok (p v) h) → (∀ v ∈ l, p v = true → el h (vs.set x (some v)) = .ok (f v) h) → acc.length + l.length ≤ lim →
    iterL (compF cs el x vs) l (h, acc) = .go (h, acc ++ (l.filter p).map f)
  | [], acc, _, _, _ => by simp [iterL]
  | v :: r, acc, hc, he, hl => by
    simp only [List.length_cons] at hl
    rw [iterL]
    have h1 := hc v (by simp)
    cases hp : p v with
    | false =>
      simp only [compF, h1, hp]
      rw [comp_pure cs el x p f r acc (fun w hw => hc w (by simp [hw])) (fun w hw => he w (by simp [hw])) (by lia  )]
      simp [hp]
    | true =>
      simp only [compF, h1, hp, he v (by simp) hp]
      rw [if_pos (by lia  )]
      simp only
      rw [comp_pure cs el x p f r (acc ++ [f v]) (fun w hw => hc w (by simp [hw])) (fun w hw => he w (by simp [hw])) (by simp; lia  )]
      simp [hp]
theorem compE_pure {l : List AV} {cs : Hp → Vs → Out Bool} {el : Hp → Vs → Out AV} {x : Nat} (p : AV → Bool) (f : AV → AV) (hc : ∀ v ∈ l, cs h (vs.set x (some v)) = .ok (p v) h) (he : ∀ v ∈ l, p v = true → el h (vs.set x (some v)) = .ok (f v) h) (hl : l.length ≤ lim) :
    compE (some (.fixed l)) (compF cs el x vs) h = .ok (.ref h.length) (h ++ [.list ((l.filter p).map f)]) := by
  simp only [compE, iter]
  rw [comp_pure cs el x p f l [] hc he (by simpa using hl)]
  simp only [List.nil_append]
  unfold newList
  rw [if_pos]
  rw [List.length_map]
  exact Nat.le_trans (List.length_filter_le _ _) hl
/-- without a condition -/
theorem compE_all {l : List AV} {C : Cx} {el : Hp → Vs → Out AV} {x : Nat} (f : AV → AV) (he : ∀ v ∈ l, el h (vs.set x (some v)) = .ok (f v) h) (hl : l.length ≤ lim) :
    compE (some (.fixed l)) (compF (evConds C []) el x vs) h = .ok (.ref h.length) (h ++ [.list (l.map f)]) := by
  rw [compE_pure (fun _ => true) f (fun _ _ => rfl) (fun v hv _ => he v hv) hl, List.filter_eq_self.mpr fun _ _ => rfl]
end
section
variable (h : Hp)
@[simp] theorem src_str (s : List Nat) : srcA h (.str s) = some (.fixed (s.map fun c => .str [c])) := rfl
@[simp] theorem src_tup (s : List AV) : srcA h (.tup s) = some (.fixed s) := rfl
@[simp] theorem ord_str (c : Nat) : biA .ord [.str [c]] h = .ok (.int c) h := rfl
@[simp] theorem range2 (a b : Int) (q1 : -lim ≤ a) (q2 : a ≤ lim) (q3 : -lim ≤ b) (q4 : b ≤ lim) : biA .range [.int a, .int b] h = .ok (.rng a b) h := if_pos ⟨q1, q2, q3, q4⟩
theorem slice_str (s : List Nat) {a b : Nat} (hb : a + b ≤ s.length) : sliceA (.str s) (.int a) (.int (a + b)) h = .ok (.str ((s.drop a).take b)) h := by
  have e := slice_nat h s (a := a) (b := a + b) (by lia  ) hb
  rw [Int.natCast_add, Nat.add_sub_cancel_left] at e
  exact e
theorem slice_list {l : Nat} {xs : List AV} (e : h[l]? = some (.list xs)) {a b : Nat} (ha : a ≤ xs.length) (hb : b ≤ xs.length) (hl : xs.length ≤ lim) : sliceA (.ref l) (.int a) (.int b) h = .ok (.ref h.length) (h ++ [.list ((xs.drop a).take (b - a))]) := by
  show (match listAt h (.ref l) with | some xs => (match bound xs.length 0 (.int a) with | some a => (match bound xs.length xs.length (.int b) with | some b => newList (cut xs a b) h | none => .fail) | none => .fail) | none => .fail) = _
  rw [listAt_of e]
  simp only [bound_at 0 ha, bound_at xs.length hb]
  exact if_pos (by rw [cut, List.length_take, List.length_drop]; omega)
theorem add_list {a b : Nat} {xs ys : List AV} (e1 : h[a]? = some (.list xs)) (e2 : h[b]? = some (.list ys)) (hl : xs.length + ys.length ≤ lim) : binA .add (.ref a) (.ref b) h = .ok (.ref h.length) (h ++ [.list (xs ++ ys)]) := by
  show (match lst h[a]? with | some xs => (match lst h[b]? with | some ys => newList (xs ++ ys) h | none => .fail) | none => .fail) = _
  rw [e1, e2]
  exact if_pos (by rw [List.length_append]; exact hl)
theorem min_list {l : Nat} {xs : List AV} {a : Int} {r : List Int} (e : h[l]? = some (.list xs)) (q : intsA xs = some (a :: r)) : biA .min [.ref l] h = .ok (.int (minL a r)) h := by
  show (match (listAt h (.ref l)).bind intsA with | some ns => (match ns with | a :: r => Out.ok (AV.int (minL a r)) h | [] => .fail) | none => .fail) = _
  rw [listAt_of e, Option.bind_some, q]
theorem idx_scr {s : List Int} {i : Int} {k : Nat} {c : Int} (e : place s.length i = some k) (q : s[k]? = some c) : idxA (.scr s) (.int i) h = some (.int c) := by
  show ((place s.length i).bind fun k => (s[k]?).map AV.int) = _; rw [e, Option.bind_some, q]; rfl
theorem get_new (h : Hp) (o : AO) : (h ++ [o])[h.length]? = some o := by simp
end
variable {n : Nat} {h : Hp}
noncomputable def cellAt (ns : List Int) (k : Nat) : Int := (ns[k]?).getD 0
theorem cell_at (ns : List Int) (k : Nat) : callF prog (n + 1) 27 [.scr ns, .int k] h = .ok (.int (cellAt ns k)) h := by
  rw [callF_def (fn := fn_l_cell_at) rfl rfl rfl]
  by_cases q : k < ns.length
  · have h1 : ns[k]? = some (cellAt ns k) := by simp [cellAt, q]
    simp [fn_l_cell_at, q, idx_scr h (place_at q) h1]
  · have : cellAt ns k = 0 := by simp [cellAt, List.getElem?_eq_none (Nat.le_of_not_lt q)]
    simp [fn_l_cell_at, q, this]
noncomputable def sizeBy (c : Int) : Int := if c % 8 = 7 then c / 8 % 300 else c / 8 % 60
theorem size_by (c : Int) : callF prog (n + 1) 36 [.int c] h = .ok (.int (sizeBy c)) h := by
  rw [callF_def (fn := fn_l_size_by) rfl rfl rfl]
  by_cases q : c % 8 = 7
  · simp [fn_l_size_by, q, sizeBy]
  · simp [fn_l_size_by, q, sizeBy]
theorem sizeBy_lt (c : Int) : 0 ≤ sizeBy c ∧ sizeBy c < 300 := by
  unfold sizeBy; split <;> lia  
theorem width_by (c : Int) : ∃ w : Nat, callF prog (n + 1) 37 [.int c] h = .ok (.int w) h ∧ 1 ≤ w ∧ w ≤ 8 := by
  rw [callF_def (fn := fn_l_width_by) rfl rfl rfl]
  by_cases q : c / 8 % 3 = 0
  · refine ⟨(1 + c % 8).toNat, ?_, by lia  , by lia  ⟩
    rw [Int.toNat_of_nonneg (by lia  )]
    simp [fn_l_width_by, q]
  · refine ⟨(1 + c % 2).toNat, ?_, by omega, by omega⟩
    rw [Int.toNat_of_nonneg (by omega)]
    simp [fn_l_width_by, q]
theorem reach_by (c : Int) : ∃ r : Nat, callF prog (n + 1) 38 [.int c] h = .ok (.int r) h ∧ 1 ≤ r ∧ r ≤ 40 := by
  rw [callF_def (fn := fn_l_reach_by) rfl rfl rfl]
  by_cases q : c % 9 = 8
  · refine ⟨(1 + c / 9 % 40).toNat, ?_, by lia  , by lia  ⟩
    rw [Int.toNat_of_nonneg (by lia  )]
    simp [fn_l_reach_by, q]
  · refine ⟨(1 + c / 9 % 5).toNat, ?_, by lia  , by lia  ⟩
    rw [Int.toNat_of_nonneg (by lia  )]
    simp [fn_l_reach_by, q]
noncomputable def weigh (f : Int) : List Nat → Int
  | [] => f
  | c :: r => weigh ((f * 131 + c) % 65521) r
theorem weight_is (s : List Nat) : callF prog (n + 1) 0 [.str s] h = .ok (.int (weigh 7 s)) h := by
  rw [callF_def (fn := fn_weight) rfl rfl rfl]
  have key : ∀ (t : List Nat) (f : Int) (x : Option AV), ∃ y, iterL (turn ⟨prog, callF prog n⟩ 2 [.set 1 (.bin .mod (.bin .add (.bin .mul (.var 1) (.int 131)) (.bi .ord [.var 2])) (.int 65521))]) (t.map fun c => .str [c]) (h, [some (.str s), some (.int f), x]) =
      .go (h, [some (.str s), some (.int (weigh f t)), y]) := by
    intro t
    induction t with
    | nil => intro f x; exact ⟨x, rfl⟩
    | cons c r ih =>
      intro f x
      obtain ⟨y, q⟩ := ih ((f * 131 + c) % 65521) (some (.str [c]))
      refine ⟨y, ?_⟩
      rw [List.map_cons, iterL, turn_next (h' := h) (vs' := [some (.str s), some (.int ((f * 131 + c) % 65521)), some (.str [c])]) (by simp)]
      exact q
  obtain ⟨y, q⟩ := key s 7 none
  simp [fn_weight, loopS_go q]
theorem l_weight_is (s : List Nat) : callF prog (n + 1) 31 [.str s] h = .ok (.int (weigh 7 s)) h := by
  rw [callF_def (fn := fn_l_weight) rfl rfl rfl]
  have := weight_is (n := n) (h := h) s
  rw [callF_def (fn := fn_weight) rfl rfl rfl] at this
  exact this

noncomputable def at0 (ws : List Int) (i : Nat) : Int := (ws[i]?).getD 0
noncomputable def wts (s : List Nat) (w : Nat) : List Int := (List.range (s.length + 1 - w)).map fun a => weigh 7 ((s.drop a).take w)
noncomputable def low (ws : List Int) (a r : Nat) : Bool := (List.range (2 * r + 1)).all fun j => decide (j = r) || decide (at0 ws a < at0 ws (a - r + j))
noncomputable def cutsN (s : List Nat) (w r : Nat) : List Nat := ((List.range ((wts s w).length - 2 * r)).filter fun i => low (wts s w) (r + i) r).map fun i => w + r + i
noncomputable abbrev intsV (l : List Int) : List AV := l.map .int
noncomputable abbrev natsV (l : List Nat) : List AV := l.map fun i : Nat => .int (i : Int)
theorem wts_len (s : List Nat) (w : Nat) : (wts s w).length = s.length + 1 - w := by simp [wts]
theorem at0_get {ws : List Int} {i : Nat} (h : i < ws.length) : ws[i]? = some (at0 ws i) := by simp [at0, h]
theorem idx_ints {l : Nat} {ws : List Int} (e : h[l]? = some (.list (intsV ws))) {i : Nat} (hi : i < ws.length) : idxA (.ref l) (.int (i : Int)) h = some (.int (at0 ws i)) :=
  idx_list h e (place_at (by simpa using hi)) (by simp [at0_get hi])
theorem is_low {l : Nat} {ws : List Int} (e : h[l]? = some (.list (intsV ws))) {a r : Nat} (h1 : r ≤ a) (h2 : a + r < ws.length) (hl : ws.length ≤ 1000) :
    callF prog (n + 1) 32 [.ref l, .int a, .int r] h = .ok (.bool (low ws a r)) h := by
  rw [callF_def (fn := fn_l_is_low) rfl rfl rfl]
  have hlim : (lim : Int) = 16777216 := rfl
  have key := iterL_all (f := turn ⟨prog, callF prog n⟩ 3 [.ifs (.and [.cmp (.var 3) .ne (.var 1), .cmp (.idx (.var 0) (.var 3)) .le (.idx (.var 0) (.var 1))]) [.ret (.bool false)] []])
    (fun v => match v with | .int o => decide (o = a) || decide (at0 ws a < at0 ws o.toNat) | _ => false) (fun st => ∃ y, st = (h, [some (.ref l), some (.int a), some (.int r), y])) (.ret (.bool false) h)
    (ups ((a : Int) - r) (2 * r + 1)) (h, [some (.ref l), some (.int a), some (.int r), none]) ⟨none, rfl⟩ (by
      rintro v hv _ ⟨y, rfl⟩
      obtain ⟨j, hj, rfl⟩ := mem_ups hv
      have ek : (a : Int) - r + j = ((a - r + j : Nat) : Int) := by omega
      rw [ek]
      obtain ⟨k, hk⟩ : ∃ k, k = a - r + j := ⟨_, rfl⟩
      rw [← hk]
      have i1 := idx_ints (h := h) e (i := k) (by lia  )
      have i2 := idx_ints (h := h) e (i := a) (by lia  )
      simp only [Int.toNat_natCast]
      by_cases q : k = a
      · have : ((k : Int) = (a : Int)) := by lia  
        simp only [this, decide_true, Bool.true_or, if_true]
        refine ⟨_, turn_next (h' := h) (vs' := [some (.ref l), some (.int a), some (.int r), some (.int a)]) (by simp), _, rfl⟩
      · have q' : ¬ ((k : Int) = (a : Int)) := by lia  
        simp only [q', decide_false, Bool.false_or]
        by_cases z : at0 ws a < at0 ws k
        · simp only [z, decide_true, if_true]
          have z' : ¬ at0 ws k ≤ at0 ws a := by lia  
          exact ⟨_, turn_next (h' := h) (vs' := [some (.ref l), some (.int a), some (.int r), some (.int (k : Int))]) (by simp [q', i1, i2, z', -decide_not]), _, rfl⟩
        · simp only [z, decide_false, Bool.false_eq_true, if_false]
          have z' : at0 ws k ≤ at0 ws a := by lia  
          simp [turn, q', i1, i2, z'])
  have ea : (ups ((a : Int) - r) (2 * r + 1)).all (fun v => match v with | .int o => decide (o = a) || decide (at0 ws a < at0 ws o.toNat) | _ => false) = low ws a r := by
    rw [ups_map, List.all_map]
    unfold low
    congr 1
    funext j
    simp only [Function.comp]
    have e1 : (a : Int) - r + j = ((a - r + j : Nat) : Int) := by omega
    rw [e1, Int.toNat_natCast]
    congr 1
    simp only [decide_eq_decide]
    lia  
  rw [ea] at key
  have en : ((a : Int) + r + 1 - (a - r)).toNat = 2 * r + 1 := by omega
  have r1 := range2 h ((a : Int) - r) ((a : Int) + r + 1) (by lia  ) (by omega) (by lia  ) (by omega)
  cases q : low ws a r with
  | true =>
    rw [q] at key
    simp only [if_true] at key
    obtain ⟨st, k, y, rfl⟩ := key
    simp [fn_l_is_low, r1, en, loopS_go k, -range2]
  | false =>
    rw [q] at key
    simp only [Bool.false_eq_true, if_false] at key
    simp [fn_l_is_low, r1, en, loopS, iter, key, ended, -range2]

theorem l_cuts_is {s : List Nat} {w r : Nat} (hs : s.length ≤ 900) (hw : w ≤ 8) (hr : r ≤ 40) :
    callF prog (n + 2) 33 [.str s, .int w, .int r] h = .ok (.ref (h.length + 1)) (h ++ [.list (intsV (wts s w)), .list (natsV (cutsN s w r))]) := by
  rw [callF_def (fn := fn_l_cuts) rfl rfl rfl]
  have hlim : (lim : Int) = 16777216 := rfl
  have hwl := wts_len s w
  have c1 : compE (some (.fixed (ups (w : Int) (s.length + 1 - w)))) (compF (evConds ⟨prog, callF prog (n + 1)⟩ []) (ev ⟨prog, callF prog (n + 1)⟩ (.call 31 [.slice (.var 0) (.bin .sub (.var 4) (.var 1)) (.var 4) true true])) 4
      [some (.str s), some (.int w), some (.int r), none, none, none]) h = .ok (.ref h.length) (h ++ [.list (intsV (wts s w))]) := by
    rw [compE_all (fun v => match v with | .int p => .int (weigh 7 ((s.drop (p - w).toNat).take w)) | v => v) ?_ (by rw [ups_len]; omega)]
    · congr 4
      rw [ups_map, List.map_map]
      simp only [intsV, wts, List.map_map]
      apply List.map_congr_left
      intro i _
      simp only [Function.comp]
      congr 4
      lia  
    · intro v hv
      obtain ⟨i, hi, rfl⟩ := mem_ups hv
      have e1 : (w : Int) + i - w = (i : Int) := by lia  
      have e2 : (w : Int) + i = (i : Int) + w := by lia  
      have sl := slice_str h s (a := i) (b := w) (by omega)
      have lw := l_weight_is (n := n) (h := h) ((s.drop i).take w)
      simp only [e1, Int.toNat_natCast]
      rw [← lw]
      have sl' : sliceA (.str s) (.int ((w : Int) + i - w)) (.int ((w : Int) + i)) h = .ok (.str ((s.drop i).take w)) h := by rw [e1, e2]; exact sl
      simp [sl']
  have hget := get_new h (.list (intsV (wts s w)))
  have c2 : compE (some (.fixed (ups (r : Int) ((wts s w).length - r - r)))) (compF (evConds ⟨prog, callF prog (n + 1)⟩ [.call 32 [.var 3, .var 5, .var 2]]) (ev ⟨prog, callF prog (n + 1)⟩ (.bin .add (.var 1) (.var 5))) 5
      [some (.str s), some (.int w), some (.int r), some (.ref h.length), none, none]) (h ++ [.list (intsV (wts s w))]) = .ok (.ref (h.length + 1)) (h ++ [.list (intsV (wts s w)), .list (natsV (cutsN s w r))]) := by
    rw [compE_pure (fun v => match v with | .int a => low (wts s w) a.toNat r | _ => false) (fun v => match v with | .int a => .int (w + a) | v => v) ?_ ?_ (by rw [ups_len]; omega)]
    · simp only [List.length_append, List.length_cons, List.length_nil, List.append_assoc, List.cons_append, List.nil_append, Nat.zero_add]
      congr 5
      rw [ups_map, List.filter_map, List.map_map]
      have : (wts s w).length - r - r = (wts s w).length - 2 * r := by lia  
      rw [this]
      simp only [natsV, cutsN, List.map_map]
      have e1 : ((fun v => match v with | .int a => low (wts s w) a.toNat r | _ => false : AV → Bool) ∘ fun i : Nat => .int ((r : Int) + i)) = fun i => low (wts s w) (r + i) r := by
        funext i
        simp only [Function.comp]
        congr 1
      rw [e1]
      apply List.map_congr_left
      intro i _
      simp only [Function.comp]
      congr 1
      lia  
    · intro v hv
      obtain ⟨i, hi, rfl⟩ := mem_ups hv
      have e1 : (r : Int) + i = ((r + i : Nat) : Int) := by lia  
      rw [e1]
      have := is_low (n := n) hget (a := r + i) (r := r) (by lia  ) (by omega) (by omega)
      simp only [Int.toNat_natCast]
      cases z : low (wts s w) (r + i) r <;> rw [z] at this <;> simp [this, -Int.natCast_add]
    · intro v hv _
      obtain ⟨i, hi, rfl⟩ := mem_ups hv
      simp
  have r1 := range2 h (w : Int) ((s.length : Int) + 1) (by lia  ) (by lia  ) (by lia  ) (by lia  )
  have r2 := range2 (h ++ [.list (intsV (wts s w))]) (r : Int) (((wts s w).length : Int) - r) (by lia  ) (by lia  ) (by lia  ) (by omega)
  have ln := len_list (h ++ [.list (intsV (wts s w))]) hget
  rw [List.length_map] at ln
  have en1 : ((s.length : Int) + 1 - w).toNat = s.length + 1 - w := by omega
  have en2 : (((wts s w).length : Int) - r - r).toNat = (wts s w).length - r - r := by omega
  simp [fn_l_cuts, r1, en1, c1, ln, r2, en2, c2, -range2]
end Mine.PL

/-! Law 06, plain: cuts (typed by hand). -/
set_option Elab.async false
namespace Mine.PL

theorem minL_lt (x : Int) : ∀ (r : List Int) (a : Int), x < minL a r ↔ ∀ y ∈ a :: r, x < y
  | [], a => by simp [minL]
  | b :: r, a => by
    rw [minL, minL_lt x r]
    constructor
    · intro h y hy
      have h0 := h _ (by simp : (if b < a then b else a) ∈ (if b < a then b else a) :: r)
      rcases List.mem_cons.mp hy with rfl | hy
      · split at h0 <;> omega
      · rcases List.mem_cons.mp hy with rfl | hy
        · split at h0 <;> lia  
        · exact h y (by simp [hy])
    · intro h y hy
      rcases List.mem_cons.mp hy with rfl | hy
      · split
        · exact h b (by simp)
        · exact h a (by simp)
      · exact h y (by simp [hy])
theorem intsA_intsV : ∀ l : List Int, intsA (intsV l) = some l
  | [] => rfl
  | a :: r => by
    have := intsA_intsV r
    show mapO asInt (.int a :: intsV r) = _
    rw [mapO_cons]
    have e : mapO asInt (intsV r) = some r := this
    rw [e]
    rfl

noncomputable def around (ws : List Int) (i r : Nat) : List Int := (ws.drop i).take r ++ (ws.drop (r + i + 1)).take r
theorem around_low {ws : List Int} {i r : Nat} (h : r + i + r < ws.length) : (∀ y ∈ around ws i r, at0 ws (r + i) < y) ↔ low ws (r + i) r = true := by
  unfold around low
  simp only [List.all_eq_true, List.mem_range, Bool.or_eq_true, decide_eq_true_eq]
  have g : ∀ k, k < ws.length → ws[k]? = some (at0 ws k) := fun k hk => at0_get hk
  constructor
  · intro q j hj
    by_cases hjr : j = r
    · exact .inl hjr
    · right
      have e0 : r + i - r + j = i + j := by lia  
      rw [e0]
      refine q _ ?_
      rw [List.mem_append]
      by_cases hlt : j < r
      · left
        refine List.mem_of_getElem? (i := j) ?_
        rw [List.getElem?_take, if_pos hlt, List.getElem?_drop]
        exact g _ (by lia  )
      · right
        refine List.mem_of_getElem? (i := j - r - 1) ?_
        rw [List.getElem?_take, if_pos (by lia  ), List.getElem?_drop]
        have : r + i + 1 + (j - r - 1) = i + j := by lia  
        rw [this]; exact g _ (by lia  )
  · intro q y hy
    rw [List.mem_append] at hy
    rcases hy with hy | hy
    · obtain ⟨j, hj⟩ := List.mem_iff_getElem?.mp hy
      rw [List.getElem?_take] at hj
      split at hj
      · rename_i hlt
        rw [List.getElem?_drop, g _ (by lia  )] at hj
        cases hj
        rcases q j (by lia  ) with z | z
        · lia  
        · have e0 : r + i - r + j = i + j := by omega
          rw [e0] at z; exact z
      · cases hj
    · obtain ⟨j, hj⟩ := List.mem_iff_getElem?.mp hy
      rw [List.getElem?_take] at hj
      split at hj
      · rename_i hlt
        rw [List.getElem?_drop, g _ (by lia  )] at hj
        cases hj
        rcases q (r + 1 + j) (by lia  ) with z | z
        · lia  
        · have e0 : r + i - r + (r + 1 + j) = r + i + 1 + j := by lia  
          rw [e0] at z; exact z
      · cases hj

noncomputable def cutsTo (s : List Nat) (w r i : Nat) : List Nat := ((List.range i).filter fun i => low (wts s w) (r + i) r).map fun i => w + r + i
theorem cutsTo_succ (s : List Nat) (w r i : Nat) : cutsTo s w r (i + 1) = cutsTo s w r i ++ (if low (wts s w) (r + i) r then [w + r + i] else []) := by
  unfold cutsTo
  rw [List.range_succ, List.filter_append, List.map_append]
  congr 1
  cases h : low (wts s w) (r + i) r <;> simp [h]
theorem cutsTo_len (s : List Nat) (w r i : Nat) : (cutsTo s w r i).length ≤ i := by
  unfold cutsTo
  rw [List.length_map]
  exact Nat.le_trans (List.length_filter_le _ _) (by simp)

theorem getElem?_set_other {h : Hp} {l k : Nat} {o : AO} (q : l ≠ k) : (h.set l o)[k]? = h[k]? := by simp [List.getElem?_set, q]

theorem cuts_is {n : Nat} {h : Hp} {s : List Nat} {w r : Nat} (hs : s.length ≤ 900) (hw : w ≤ 8) (hr1 : 1 ≤ r) (hr : r ≤ 40) :
    ∃ h', callF prog (n + 2) 1 [.str s, .int w, .int r] h = .ok (.ref (h.length + 1)) h' ∧ Grow h h' ∧ h'[h.length + 1]? = some (.list (natsV (cutsN s w r))) := by
  rw [callF_def (fn := fn_cuts) rfl rfl rfl]
  have hlim : (lim : Int) = 16777216 := rfl
  have hlimN : lim = 16777216 := rfl
  have hwl := wts_len s w
  have c1 : compE (some (.fixed (ups 0 (s.length + 1 - w)))) (compF (evConds ⟨prog, callF prog (n + 1)⟩ []) (ev ⟨prog, callF prog (n + 1)⟩ (.call 0 [.slice (.var 0) (.var 7) (.bin .add (.var 7) (.var 1)) true true])) 7
      [some (.str s), some (.int w), some (.int r), none, none, none, none, none]) h = .ok (.ref h.length) (h ++ [.list (intsV (wts s w))]) := by
    rw [compE_all (fun v => match v with | .int p => .int (weigh 7 ((s.drop p.toNat).take w)) | v => v) ?_ (by rw [ups_len]; lia  )]
    · congr 4
      rw [ups_map, List.map_map]
      simp only [intsV, wts, List.map_map]
      apply List.map_congr_left
      intro i _
      simp only [Function.comp]
      congr 4
      lia  
    · intro v hv
      obtain ⟨i, hi, rfl⟩ := mem_ups hv
      have sl := slice_str h s (a := i) (b := w) (by omega)
      have lw := weight_is (n := n) (h := h) ((s.drop i).take w)
      simp [sl, lw]
  have loop := ups_inv (f := turn ⟨prog, callF prog (n + 1)⟩ 5 [.set 6 (.bin .sub (.var 5) (.var 1)),
      .ifs (.cmp (.idx (.var 3) (.var 6)) .lt (.bi .min [.bin .add (.slice (.var 3) (.bin .sub (.var 6) (.var 2)) (.var 6) true true) (.slice (.var 3) (.bin .add (.var 6) (.int 1)) (.bin .add (.bin .add (.var 6) (.var 2)) (.int 1)) true true)])) [.expr (.bm .append (.var 4) [.var 5])] []])
    (fun i st => ∃ hh y z, st = (hh, [some (.str s), some (.int w), some (.int r), some (.ref h.length), some (.ref (h.length + 1)), y, z, none]) ∧ Grow h hh ∧ hh[h.length]? = some (.list (intsV (wts s w))) ∧ hh[h.length + 1]? = some (.list (natsV (cutsTo s w r i))))
    ((w : Int) + r) ((wts s w).length - 2 * r) (by
      rintro i _ hi ⟨hh, y, z, rfl, g, g1, g2⟩
      have hil : r + i + r < (wts s w).length := by omega
      have ew : (w : Int) + r + i - w = ((r + i : Nat) : Int) := by lia  
      obtain ⟨a, ha⟩ : ∃ a, a = r + i := ⟨_, rfl⟩
      rw [← ha] at ew
      have e1 : (a : Int) - r = (i : Int) := by lia  
      have e2 : (a : Int) + 1 = ((a + 1 : Nat) : Int) := by lia  
      have e3 : (a : Int) + r + 1 = ((a + r + 1 : Nat) : Int) := by lia  
      have i1 := idx_ints (h := hh) g1 (i := a) (by lia  )
      have s1 := slice_list hh g1 (a := i) (b := a) (by simp; lia  ) (by simp; lia  ) (by simp; lia  )
      have s2 := slice_list (hh ++ [.list (((intsV (wts s w)).drop i).take (a - i))]) ((Grow.app _ _).get g1) (a := a + 1) (b := a + r + 1) (by simp; lia  ) (by simp; lia  ) (by simp; omega)
      obtain ⟨A, hA⟩ : ∃ A, A = ((intsV (wts s w)).drop i).take (a - i) := ⟨_, rfl⟩
      obtain ⟨B, hB⟩ : ∃ B, B = ((intsV (wts s w)).drop (a + 1)).take (a + r + 1 - (a + 1)) := ⟨_, rfl⟩
      rw [← hA] at s1 s2
      rw [← hB] at s2
      have hAB : A ++ B = intsV (around (wts s w) i r) := by
        rw [hA, hB]
        unfold around
        have q1 : a - i = r := by lia  
        have q2 : a + r + 1 - (a + 1) = r := by lia  
        rw [q1, q2, ha]
        simp [intsV, List.map_append, List.map_take, List.map_drop]
      have hlen : A.length + B.length ≤ lim := by
        rw [hA, hB]; simp; omega
      have s3 := add_list ((hh ++ [AO.list A]) ++ [AO.list B]) (a := hh.length) (b := (hh ++ [AO.list A]).length) (xs := A) (ys := B) ((Grow.app _ _).get (get_new _ _)) (get_new _ _) hlen
      rw [hAB] at s3
      have hC : ∃ c C', around (wts s w) i r = c :: C' := by
        cases q : around (wts s w) i r with
        | nil =>
          have : (around (wts s w) i r).length = 0 := by rw [q]; rfl
          unfold around at this
          simp at this
          lia  
        | cons c C' => exact ⟨c, C', rfl⟩
      obtain ⟨c, C', hC⟩ := hC
      have s4 := min_list (((hh ++ [.list A]) ++ [.list B]) ++ [.list (intsV (around (wts s w) i r))]) (get_new _ _) (a := c) (r := C') (by rw [intsA_intsV, hC])
      obtain ⟨h3, hh3⟩ : ∃ h3, h3 = ((hh ++ [.list A]) ++ [.list B]) ++ [.list (intsV (around (wts s w) i r))] := ⟨_, rfl⟩
      have g3 : Grow hh h3 := by rw [hh3]; exact ((Grow.app _ _).trans (Grow.app _ _)).trans (Grow.app _ _)
      have hcond : at0 (wts s w) a < minL c C' ↔ low (wts s w) (r + i) r = true := by
        rw [minL_lt, ← hC, ha]; exact around_low hil
      rw [← hh3] at s3 s4
      by_cases hlow : low (wts s w) (r + i) r = true
      · have cnd := hcond.mpr hlow
        have ap := append_list h3 (g3.get g2) (by have := cutsTo_len s w r i; simp; lia  ) (.int ((w : Int) + r + i))
        have kd := kd_append h3 (g3.get g2)
        refine ⟨_, turn_next (h' := h3.set (h.length + 1) (.list (natsV (cutsTo s w r i) ++ [.int ((w : Int) + r + i)]))) (vs' := [some (.str s), some (.int w), some (.int r), some (.ref h.length), some (.ref (h.length + 1)), some (.int ((w : Int) + r + i)), some (.int a), none]) ?_, _, _, _, rfl, ⟨?_, ?_⟩, ?_, ?_⟩
        · simp [ew, e1, e2, e3, i1, s1, s2, s3, s4, cnd, kd, ap, -Int.natCast_add, -List.length_append, -List.append_assoc]
        · rw [List.length_set]; exact (g.trans g3).1
        · intro j hj
          rw [getElem?_set_other (by lia  )]
          exact (g.trans g3).2 j hj
        · rw [getElem?_set_other (by lia  )]; exact g3.get g1
        · have : h.length + 1 < h3.length := (List.getElem?_eq_some_iff.mp (g3.get g2)).1
          rw [List.getElem?_set_self this, cutsTo_succ, if_pos hlow]
          simp [natsV]
      · have cnd : ¬ at0 (wts s w) a < minL c C' := fun q => hlow (hcond.mp q)
        refine ⟨_, turn_next (h' := h3) (vs' := [some (.str s), some (.int w), some (.int r), some (.ref h.length), some (.ref (h.length + 1)), some (.int ((w : Int) + r + i)), some (.int a), none]) ?_, _, _, _, rfl, g.trans g3, g3.get g1, ?_⟩
        · simp [ew, e1, e2, e3, i1, s1, s2, s3, s4, cnd, -Int.natCast_add, -List.length_append, -List.append_assoc]
        · rw [cutsTo_succ, if_neg hlow, List.append_nil]; exact g3.get g2)
    ((wts s w).length - 2 * r) 0 ((h ++ [.list (intsV (wts s w))]) ++ [.list []], [some (.str s), some (.int w), some (.int r), some (.ref h.length), some (.ref (h.length + 1)), none, none, none]) (by lia  )
    ⟨_, none, none, rfl, (Grow.app _ _).trans (Grow.app _ _), (Grow.app _ _).get (get_new _ _), by
      have := get_new (h ++ [.list (intsV (wts s w))]) (.list [])
      rw [List.length_append] at this
      exact this⟩
  obtain ⟨st, k, hh, y, z, rfl, g, _, g2⟩ := loop
  refine ⟨hh, ?_, g, g2⟩
  have r1 := range1 h ((s.length : Int) - w + 1) (by lia  ) (by lia  )
  have r2 := range2 ((h ++ [.list (intsV (wts s w))]) ++ [.list []]) ((w : Int) + r) ((s.length : Int) - r + 1) (by lia  ) (by lia  ) (by lia  ) (by lia  )
  have n1 : ((s.length : Int) - w + 1).toNat = s.length + 1 - w := by lia  
  have n2 : ((s.length : Int) - r + 1 - (w + r)).toNat = (wts s w).length - 2 * r := by lia  
  have nl := newList_eq (h ++ [.list (intsV (wts s w))]) [] (by simp)
  rw [List.length_append] at nl
  simp only [Int.natCast_zero, Int.add_zero] at k
  simp [fn_cuts, r1, n1, c1, nl, r2, n2, loopS_go k, -range2, -range1, -List.length_append, -List.append_assoc, -newList_eq]
end Mine.PL

/-! Law 06, plain: pieces (typed by hand). -/
set_option Elab.async false
namespace Mine.PL
theorem cutsTo_eq (s : List Nat) (w r : Nat) : cutsN s w r = cutsTo s w r ((wts s w).length - 2 * r) := rfl
theorem cuts_mem {s : List Nat} {w r p : Nat} (h : p ∈ cutsN s w r) : ∃ i, i < (wts s w).length - 2 * r ∧ p = w + r + i ∧ low (wts s w) (r + i) r = true := by
  unfold cutsN at h
  obtain ⟨i, hi, rfl⟩ := List.mem_map.mp h
  obtain ⟨h1, h2⟩ := List.mem_filter.mp hi
  exact ⟨i, List.mem_range.mp h1, rfl, h2⟩
/-! ### loops over a list that stays -/
theorem iterR_inv {σ ρ : Type} {get : σ → Option (List AV)} {bad : ρ} {f : AV → σ → It σ ρ} (xs : List AV) (J : Nat → σ → Prop) (hg : ∀ i s, J i s → get s = some xs)
    (step : ∀ (i : Nat) v s, xs[i]? = some v → J i s → ∃ s', f v s = .go s' ∧ J (i + 1) s') : ∀ (n k : Nat) (s : σ), k ≤ xs.length → k + n = xs.length + 1 → J k s → ∃ s', iterR get bad f n k s = .go s' ∧ J xs.length s'
  | 0, k, s, c, e, j => by lia  
  | n + 1, k, s, c, e, j => by
    rw [iterR, hg k s j]
    cases q : xs[k]? with
    | none =>
      have : xs.length ≤ k := List.getElem?_eq_none_iff.mp q
      have : k = xs.length := by lia  
      subst this
      exact ⟨s, by simp only [q], j⟩
    | some v =>
      obtain ⟨s', e', j'⟩ := step k v s q j
      obtain ⟨s'', e'', j''⟩ := iterR_inv xs J hg step n (k + 1) s' (by have := (List.getElem?_eq_some_iff.mp q).1; lia  ) (by lia  ) j'
      refine ⟨s'', ?_, j''⟩
      simp only [q, e']
      exact e''

theorem src_list {h : Hp} {l : Nat} {xs : List AV} (e : h[l]? = some (.list xs)) : srcA h (.ref l) = some (.list l xs.length) := by
  show (match lst h[l]? with | some xs => some (Src.list l xs.length) | none => _) = _
  rw [e]; rfl
theorem getL_eq {h : Hp} {l : Nat} {xs : List AV} (e : h[l]? = some (.list xs)) : getL l h = some xs := by show lst h[l]? = _; rw [e]; rfl
theorem loop_list {a x : Nat} {xs : List AV} {C : Cx} {body : List MS} {h : Hp} {vs : Vs} (e : h[a]? = some (.list xs)) (J : Nat → Hp → Vs → Prop) (hg : ∀ i h vs, J i h vs → h[a]? = some (.list xs)) (j : J 0 h vs)
    (step : ∀ (i : Nat) (v : AV) h vs, xs[i]? = some v → J i h vs → ∃ h' vs', exs C body h (vs.set x (some v)) = .next h' vs' ∧ J (i + 1) h' vs') :
    ∃ h' vs', loopS (srcA h (.ref a)) (turn C x body) (h, vs) = .next h' vs' ∧ J xs.length h' vs' := by
  obtain ⟨s, e1, j1⟩ := iterR_inv (get := fun s : Hp × Vs => getL a s.1) (bad := OutS.fail) (f := turn C x body) xs (fun i s => J i s.1 s.2) (fun i s j => getL_eq (hg i _ _ j)) (fun i v s hv j => by
    obtain ⟨h', vs', e1, j1⟩ := step i v s.1 s.2 hv j
    exact ⟨(h', vs'), turn_next e1, j1⟩) (xs.length + 1) 0 (h, vs) (by lia  ) (by lia  ) j
  refine ⟨s.1, s.2, ?_, j1⟩
  rw [src_list e]
  simp only [loopS, iter, e1, ended]
/-! ### pieces -/
noncomputable def gaps : Nat → List Nat → List (Nat × Nat)
  | _, [] => []
  | a, b :: r => (a, b) :: gaps b r
noncomputable def bit (s : List Nat) (g : Nat × Nat) : List Nat := (s.drop g.1).take (g.2 - g.1)
noncomputable def endsN (s : List Nat) (w r : Nat) : List Nat := cutsN s w r ++ [s.length]
noncomputable def piecesN (s : List Nat) (w r : Nat) : List (List Nat) := if s = [] then [] else (gaps 0 (endsN s w r)).map (bit s)
noncomputable abbrev txtV (l : List (List Nat)) : List AV := l.map .str
/-- rising from a place on -/
noncomputable def Rise : Nat → List Nat → Prop
  | _, [] => True
  | a, b :: r => a < b ∧ Rise b r
theorem rise_of : ∀ (l : List Nat) (a : Nat), (∀ x ∈ l, a < x) → l.Pairwise (· < ·) → Rise a l
  | [], _, _, _ => trivial
  | b :: r, a, h, p => by
    rw [List.pairwise_cons] at p
    exact ⟨h b (by simp), rise_of r b p.1 p.2⟩
theorem Rise.lt : ∀ {l : List Nat} {a : Nat}, Rise a l → ∀ x ∈ l, a < x
  | b :: r, a, h, x, hx => by
    rcases List.mem_cons.mp hx with rfl | hx
    · exact h.1
    · exact Nat.lt_trans h.1 (h.2.lt x hx)
theorem cuts_sorted (s : List Nat) (w r : Nat) : (cutsN s w r).Pairwise (· < ·) := by
  unfold cutsN
  exact List.Pairwise.map _ (fun a b (h : a < b) => by lia  ) ((List.pairwise_lt_range (n := (wts s w).length - 2 * r)).filter _)
theorem cuts_in {s : List Nat} {w r p : Nat} (h : p ∈ cutsN s w r) : w + r ≤ p ∧ p + r ≤ s.length := by
  obtain ⟨i, hi, rfl, _⟩ := cuts_mem h
  rw [wts_len] at hi
  omega
theorem ends_rise {s : List Nat} {w r : Nat} (hr : 1 ≤ r) (hs : s ≠ []) : Rise 0 (endsN s w r) := by
  have hl : 0 < s.length := List.length_pos_iff.mpr hs
  refine rise_of _ _ (fun x hx => ?_) ?_
  · rcases List.mem_append.mp hx with q | q
    · have := cuts_in q; lia  
    · rw [List.mem_singleton.mp q]; exact hl
  · unfold endsN
    rw [List.pairwise_append]
    refine ⟨cuts_sorted s w r, List.pairwise_singleton _ _, fun a ha b hb => ?_⟩
    rw [List.mem_singleton.mp hb]
    have := cuts_in ha
    lia  
theorem gaps_map {α : Type} (f : Nat → Nat → α) : ∀ (cs : List Nat) (a : Nat), (List.range cs.length).map (fun k => f ((a :: cs)[k]?.getD 0) ((a :: cs)[k + 1]?.getD 0)) = (gaps a cs).map fun g => f g.1 g.2
  | [], _ => rfl
  | b :: r, a => by
    rw [List.length_cons, List.range_succ_eq_map, List.map_cons, List.map_map, gaps, List.map_cons]
    simp only [List.getElem?_cons_zero, List.getElem?_cons_succ, Option.getD_some, Nat.zero_add]
    congr 1
    rw [← gaps_map f r b]
    apply List.map_congr_left
    intro k _
    simp only [Function.comp, Nat.succ_eq_add_one, List.getElem?_cons_succ]
theorem cuts_len {s : List Nat} {w r : Nat} : (cutsN s w r).length ≤ s.length + 1 := by
  rw [cutsTo_eq]
  have := cutsTo_len s w r ((wts s w).length - 2 * r)
  have := wts_len s w
  omega
theorem ends_le {s : List Nat} {w r k : Nat} : (0 :: endsN s w r)[k]?.getD 0 ≤ s.length := by
  cases q : (0 :: endsN s w r)[k]? with
  | none => simp
  | some x =>
    simp only [Option.getD_some]
    rcases List.mem_cons.mp (List.mem_of_getElem? q) with rfl | q
    · lia  
    · rcases List.mem_append.mp q with q | q
      · have := cuts_in q; lia  
      · rw [List.mem_singleton.mp q]; lia  

theorem pieces_is {n : Nat} {h : Hp} {s : List Nat} {w r : Nat} (hs : s.length ≤ 900) (hw : w ≤ 8) (hr1 : 1 ≤ r) (hr : r ≤ 40) :
    ∃ l h', callF prog (n + 3) 3 [.str s, .int w, .int r] h = .ok (.ref l) h' ∧ Grow h h' ∧ h.length ≤ l ∧ h'[l]? = some (.list (txtV (piecesN s w r))) := by
  rw [callF_def (fn := fn_pieces_cutting) rfl rfl rfl]
  have hlim : lim = 16777216 := rfl
  by_cases q : s = []
  · subst q
    refine ⟨h.length, h ++ [.list []], ?_, Grow.app _ _, Nat.le_refl _, get_new _ _⟩
    simp [fn_pieces_cutting, fn_pieces]
  · have hcl := cuts_len (s := s) (w := w) (r := r)
    obtain ⟨h1, hh1⟩ : ∃ h1, h1 = h ++ [.list [.int 0]] := ⟨_, rfl⟩
    have n1 := newList_eq h [.int 0] (by simp; lia  )
    rw [← hh1] at n1
    have g1 : Grow h h1 := by rw [hh1]; exact Grow.app _ _
    have a1 : h1[h.length]? = some (.list [.int 0]) := by rw [hh1]; exact get_new _ _
    obtain ⟨h2, k2, g2, a2⟩ := cuts_is (n := n) (h := h1) (s := s) (w := w) (r := r) hs hw hr1 hr
    have ad := add_list h2 (g2.get a1) a2 (by simp; lia  )
    obtain ⟨h3, hh3⟩ : ∃ h3, h3 = h2 ++ [.list ([.int 0] ++ natsV (cutsN s w r))] := ⟨_, rfl⟩
    rw [← hh3] at ad
    have g3 : Grow h2 h3 := by rw [hh3]; exact Grow.app _ _
    have a3 : h3[h2.length]? = some (.list ([.int 0] ++ natsV (cutsN s w r))) := by rw [hh3]; exact get_new _ _
    have n4 := newList_eq h3 [.int (s.length : Int)] (by simp; lia  )
    obtain ⟨h4, hh4⟩ : ∃ h4, h4 = h3 ++ [.list [.int (s.length : Int)]] := ⟨_, rfl⟩
    rw [← hh4] at n4
    have g4 : Grow h3 h4 := by rw [hh4]; exact Grow.app _ _
    have a4 : h4[h3.length]? = some (.list [.int (s.length : Int)]) := by rw [hh4]; exact get_new _ _
    have ad5 := add_list h4 (g4.get a3) a4 (by simp; lia  )
    obtain ⟨h5, hh5⟩ : ∃ h5, h5 = h4 ++ [.list ([.int 0] ++ natsV (cutsN s w r) ++ [.int (s.length : Int)])] := ⟨_, rfl⟩
    rw [← hh5] at ad5
    have g5 : Grow h4 h5 := by rw [hh5]; exact Grow.app _ _
    have el : ([.int 0] ++ natsV (cutsN s w r) ++ [.int (s.length : Int)] : List AV) = natsV (0 :: endsN s w r) := by simp [natsV, endsN]
    have a5 : h5[h4.length]? = some (.list (natsV (0 :: endsN s w r))) := by rw [hh5, ← el]; exact get_new _ _
    have lene : (endsN s w r).length = (cutsN s w r).length + 1 := by simp [endsN]
    have c6 : compE (some (.fixed (ups 0 (endsN s w r).length))) (compF (evConds ⟨prog, callF prog (n + 2)⟩ []) (ev ⟨prog, callF prog (n + 2)⟩ (.slice (.var 0) (.idx (.var 3) (.var 4)) (.idx (.var 3) (.bin .add (.var 4) (.int 1))) true true)) 4
        [some (.str s), some (.int w), some (.int r), some (.ref h4.length), none]) h5 = .ok (.ref h5.length) (h5 ++ [.list (txtV (piecesN s w r))]) := by
      rw [compE_all (fun v => match v with | .int p => .str (bit s ((0 :: endsN s w r)[p.toNat]?.getD 0, (0 :: endsN s w r)[p.toNat + 1]?.getD 0)) | v => v) ?_ (by rw [ups_len]; lia  )]
      · congr 4
        rw [ups_map, List.map_map]
        unfold piecesN
        rw [if_neg q]
        simp only [txtV, List.map_map]
        rw [show ((.str ∘ bit s : Nat × Nat → AV)) = fun g => .str (bit s (g.1, g.2)) from rfl, ← gaps_map (fun a b => AV.str (bit s (a, b))) (endsN s w r) 0]
        apply List.map_congr_left
        intro i _
        simp only [Function.comp, Int.zero_add, Int.toNat_natCast]
      · intro v hv
        obtain ⟨i, hi, rfl⟩ := mem_ups hv
        have gt : ∀ j, j < (0 :: endsN s w r).length → idxA (.ref h4.length) (.int (j : Int)) h5 = some (.int (((0 :: endsN s w r)[j]?.getD 0 : Nat) : Int)) := fun j hj => by
          refine idx_list h5 a5 (place_at (by rw [List.length_map]; exact hj)) ?_
          rw [List.getElem?_map, List.getElem?_eq_getElem hj]; rfl
        have i1 := gt i (by rw [List.length_cons]; lia  )
        have i2 := gt (i + 1) (by rw [List.length_cons]; lia  )
        have e1 : (i : Int) + 1 = ((i + 1 : Nat) : Int) := by lia  
        have sl := slice_nat h5 s (ends_le (s := s) (w := w) (r := r) (k := i)) (ends_le (s := s) (w := w) (r := r) (k := i + 1))
        simp only [Int.zero_add, Int.toNat_natCast]
        generalize ((0 :: endsN s w r)[i]?).getD 0 = x at i1 sl ⊢
        generalize ((0 :: endsN s w r)[i + 1]?).getD 0 = y at i2 sl ⊢
        simp [i1, e1, i2, sl, bit, -Int.natCast_add]
    refine ⟨h5.length, h5 ++ [.list (txtV (piecesN s w r))], ?_, ((((g1.trans g2).trans g3).trans g4).trans g5).trans (Grow.app _ _), ((((g1.trans g2).trans g3).trans g4).trans g5).1, get_new _ _⟩
    have ln := len_list h5 a5
    rw [List.length_map, List.length_cons] at ln
    have r1 := range1 h5 ((((endsN s w r).length + 1 : Nat) : Int) - 1) (by lia  ) (by lia  )
    have nn : ((((endsN s w r).length + 1 : Nat) : Int) - 1).toNat = (endsN s w r).length := by lia  
    simp [fn_pieces_cutting, fn_pieces, q, n1, k2, ad, n4, ad5, ln, r1, nn, c6, -range1, -newList_eq, -Int.natCast_add]
theorem flat_gaps (s : List Nat) : ∀ (cs : List Nat) (a : Nat), Rise a (cs ++ [s.length]) → ((gaps a (cs ++ [s.length])).map (bit s)).flatten = s.drop a
  | [], a, h => by
    simp only [List.nil_append, gaps, List.map_cons, List.map_nil, List.flatten_cons, List.flatten_nil, List.append_nil, bit]
    rw [List.take_of_length_le (by simp)]
  | b :: r, a, h => by
    rw [List.cons_append, gaps, List.map_cons, List.flatten_cons, flat_gaps s r b h.2]
    simp only [bit]
    have hb : a < b := h.1
    have : s.drop b = (s.drop a).drop (b - a) := by rw [List.drop_drop]; congr 1; lia  
    rw [this, List.take_append_drop]
theorem gaps_get : ∀ (cs : List Nat) (a i : Nat) (g : Nat × Nat), (gaps a cs)[i]? = some g → (a :: cs)[i]? = some g.1 ∧ cs[i]? = some g.2
  | [], _, _, _, h => by simp [gaps] at h
  | b :: r, a, 0, g, h => by simp only [gaps, List.getElem?_cons_zero, Option.some.injEq] at h; subst h; exact ⟨rfl, rfl⟩
  | b :: r, a, i + 1, g, h => by
    rw [gaps, List.getElem?_cons_succ] at h
    have := gaps_get r b i g h
    exact ⟨by rw [List.getElem?_cons_succ]; exact this.1, by rw [List.getElem?_cons_succ]; exact this.2⟩
theorem gaps_lt : ∀ (cs : List Nat) (a : Nat), Rise a cs → ∀ g ∈ gaps a cs, g.1 < g.2
  | [], _, _, g, h => by simp [gaps] at h
  | b :: r, a, q, g, h => by
    rw [gaps] at h
    rcases List.mem_cons.mp h with rfl | h
    · exact q.1
    · exact gaps_lt r b q.2 g h
theorem gaps_len : ∀ (cs : List Nat) (a : Nat), (gaps a cs).length = cs.length
  | [], _ => rfl
  | b :: r, a => by rw [gaps, List.length_cons, gaps_len r b, List.length_cons]

/-- what the pieces are -/
theorem pieces_ends (s : List Nat) (w r : Nat) (hr : 1 ≤ r) : ∃ es, piecesN s w r = (gaps 0 es).map (bit s) ∧ Rise 0 es ∧ (∀ x ∈ es, x ≤ s.length) ∧ (piecesN s w r).flatten = s ∧ (s ≠ [] → es = endsN s w r) ∧ es.length ≤ s.length + 2 := by
  by_cases q : s = []
  · subst q
    exact ⟨[], rfl, trivial, by simp, rfl, fun h => absurd rfl h, by simp⟩
  · have e : piecesN s w r = (gaps 0 (endsN s w r)).map (bit s) := by unfold piecesN; rw [if_neg q]
    refine ⟨endsN s w r, e, ends_rise hr q, fun x hx => ?_, ?_, fun _ => rfl, ?_⟩
    · rcases List.mem_append.mp hx with z | z
      · have := cuts_in z; lia  
      · rw [List.mem_singleton.mp z]; lia  
    · rw [e]
      exact (flat_gaps s (cutsN s w r) 0 (ends_rise hr q)).trans (by simp)
    · have := cuts_len (s := s) (w := w) (r := r)
      simp [endsN]; omega
end Mine.PL

/-! Law 06, plain: the law's own pieces (typed by hand). -/
set_option Elab.async false
namespace Mine.PL
theorem get_ne {h : Hp} {l l' : Nat} {x : AO} (q : l ≠ l') : (h.set l x)[l']? = h[l']? := List.getElem?_set_ne q
theorem get_eq {h : Hp} {l : Nat} {x o : AO} (q : h[l]? = some o) : (h.set l x)[l]? = some x := List.getElem?_set_self (List.getElem?_eq_some_iff.mp q).1
noncomputable def up2 (g : Nat × Nat) : Bool := decide (g.1 < g.2)
theorem pieces_up (s : List Nat) (w r : Nat) (hw : 1 ≤ w) (hr : 1 ≤ r) : ((gaps 0 (endsN s w r)).filter up2).map (bit s) = piecesN s w r := by
  unfold piecesN
  by_cases q : s = []
  · rw [if_pos q]
    subst q
    have : cutsN [] w r = [] := by
      unfold cutsN
      have : (wts [] w).length - 2 * r = 0 := by rw [wts_len]; simp; omega
      rw [this]; rfl
    unfold endsN
    rw [this]
    rfl
  · rw [if_neg q]
    congr 1
    exact List.filter_eq_self.mpr fun g hg => by simpa [up2] using gaps_lt _ 0 (ends_rise hr q) g hg
noncomputable abbrev bPc : List MS := [.ifs (.cmp (.var 5) .gt (.var 4)) [.expr (.bm .append (.var 3) [.slice (.var 0) (.var 4) (.var 5) true true])] [],
    .set 4 (.var 5)]
theorem l_pieces_is {n : Nat} {h : Hp} {s : List Nat} {w r : Nat} (hs : s.length ≤ 900) (hw1 : 1 ≤ w) (hw : w ≤ 8) (hr1 : 1 ≤ r) (hr : r ≤ 40) :
    ∃ h', callF prog (n + 3) 34 [.str s, .int w, .int r] h = .ok (.ref h.length) h' ∧ Grow h h' ∧ h'[h.length]? = some (.list (txtV (piecesN s w r))) := by
  rw [callF_def (fn := fn_l_pieces) rfl rfl rfl]
  have hlim : lim = 16777216 := rfl
  have hcl := cuts_len (s := s) (w := w) (r := r)
  have n1 := newList_eq h [] (by simp)
  have g1 : Grow h (h ++ [.list []]) := Grow.app _ _
  have a1 := get_new h (.list [])
  have len1 : (h ++ [AO.list []]).length = h.length + 1 := by simp
  generalize h ++ [AO.list []] = h1 at n1 g1 a1 len1
  have k2 := l_cuts_is (n := n) (h := h1) hs hw hr
  have g2 : Grow h1 (h1 ++ [.list (intsV (wts s w)), .list (natsV (cutsN s w r))]) := Grow.app _ _
  have a2 : (h1 ++ [AO.list (intsV (wts s w)), AO.list (natsV (cutsN s w r))])[h1.length + 1]? = some (.list (natsV (cutsN s w r))) := by simp
  generalize h1 ++ [AO.list (intsV (wts s w)), AO.list (natsV (cutsN s w r))] = h2 at k2 g2 a2
  have n3 := newList_eq h2 [.int (s.length : Int)] (by simp; lia  )
  have g3 : Grow h2 (h2 ++ [.list [.int (s.length : Int)]]) := Grow.app _ _
  have a3 := get_new h2 (.list [.int (s.length : Int)])
  generalize h2 ++ [AO.list [.int (s.length : Int)]] = h3 at n3 g3 a3
  have n4 := add_list h3 (g3.get a2) a3 (by simp; lia  )
  have el : natsV (cutsN s w r) ++ [.int (s.length : Int)] = natsV (endsN s w r) := by simp [natsV, endsN]
  rw [el] at n4
  have g4 : Grow h3 (h3 ++ [.list (natsV (endsN s w r))]) := Grow.app _ _
  have a4 := get_new h3 (.list (natsV (endsN s w r)))
  generalize h3 ++ [AO.list (natsV (endsN s w r))] = h4 at n4 g4 a4
  have G := ((g1.trans g2).trans g3).trans g4
  have b4 := g4.get (g3.get (g2.get a1))
  have ne : h.length ≠ h3.length := by have := g2.1; have := g3.1; lia  
  obtain ⟨h5, vs5, e5, G5, _, c5, y, rfl⟩ := loop_list (C := ⟨prog, callF prog (n + 2)⟩) (x := 5) (body := bPc) (vs := [some (.str s), some (.int w), some (.int r), some (.ref h.length), some (.int 0), none]) a4
    (fun i h' vs => Grow h h' ∧ h'[h3.length]? = some (.list (natsV (endsN s w r))) ∧ h'[h.length]? = some (.list (txtV ((((gaps 0 (endsN s w r)).take i).filter up2).map (bit s)))) ∧
      ∃ y, vs = [some (.str s), some (.int w), some (.int r), some (.ref h.length), some (.int (((0 :: endsN s w r)[i]?.getD 0 : Nat) : Int)), y])
    (fun i h vs j => j.2.1) ⟨G, a4, b4, none, rfl⟩ (by
      rintro i v h' vs hv ⟨G', e1, e2, y, rfl⟩
      rw [List.getElem?_map] at hv
      cases hb : (endsN s w r)[i]? with
      | none => rw [hb] at hv; simp at hv
      | some b =>
        rw [hb] at hv
        cases hv
        have hi := (List.getElem?_eq_some_iff.mp hb).1
        have hi' : i < (gaps 0 (endsN s w r)).length := by rw [gaps_len]; exact hi
        obtain ⟨g1, g2⟩ := gaps_get (endsN s w r) 0 i _ (List.getElem?_eq_getElem hi')
        rw [hb] at g2
        obtain ⟨g, hg⟩ : ∃ g, g = (gaps 0 (endsN s w r))[i] := ⟨_, rfl⟩
        rw [← hg] at g1 g2
        cases g2
        have t1 : (gaps 0 (endsN s w r)).take (i + 1) = (gaps 0 (endsN s w r)).take i ++ [g] := by rw [List.take_add_one, List.getElem?_eq_getElem hi', hg]; rfl
        have l1 := ends_le (s := s) (w := w) (r := r) (k := i)
        have l2 := ends_le (s := s) (w := w) (r := r) (k := i + 1)
        rw [g1] at l1
        rw [List.getElem?_cons_succ, hb] at l2
        have sl := slice_nat h' s (a := g.1) (b := g.2) l1 l2
        rw [t1, g1, List.getElem?_cons_succ, hb]
        simp only [Option.getD_some] at sl ⊢
        have hlen : (txtV ((((gaps 0 (endsN s w r)).take i).filter up2).map (bit s))).length < lim := by
          rw [List.length_map, List.length_map]
          have := List.length_filter_le up2 ((gaps 0 (endsN s w r)).take i)
          rw [List.length_take, gaps_len] at this
          have : (endsN s w r).length = (cutsN s w r).length + 1 := by simp [endsN]
          lia  
        by_cases q : g.1 < g.2
        · have ap := append_list h' e2 hlen (.str ((s.drop g.1).take (g.2 - g.1)))
          have kd := kd_append h' e2
          have q' : (g.2 : Int) > g.1 := by lia  
          refine ⟨h'.set h.length (.list (txtV ((((gaps 0 (endsN s w r)).take i).filter up2).map (bit s)) ++ [.str ((s.drop g.1).take (g.2 - g.1))])), _, ?_, ⟨by rw [List.length_set]; exact G'.1, fun j hj => ?_⟩, (get_ne ne).trans e1, ?_, some (.int g.2), rfl⟩
          · simp [q', kd, sl, ap]
          · rw [get_ne (by lia  )]; exact G'.2 j hj
          · rw [get_eq e2]
            simp [up2, q, bit]
        · have q' : ¬ (g.2 : Int) > g.1 := by lia  
          refine ⟨h', _, ?_, G', e1, ?_, some (.int g.2), rfl⟩
          · simp [q']
          · rw [e2]
            simp [up2, q])
  rw [List.length_map, ← gaps_len (endsN s w r) 0, List.take_length, pieces_up s w r hw1 hr1] at c5
  refine ⟨h5, ?_, G5, c5⟩
  simp [fn_l_pieces, n1, k2, n3, n4, e5, -newList_eq]
end Mine.PL

/-! Law 06, plain: names and what is a name, a text, a size (typed by hand). -/
set_option Elab.async false
namespace Mine.PL
section
variable {C : Cx} {h : Hp} {vs : Vs} {x y z : AV}
noncomputable def kCh3 (o : Out AV) (op' : COp) (y : AV) : Out AV := o.bind fun z h => boolO (cmpA op' y z h) h
noncomputable def kCh2 (t : Option Bool) (C : Cx) (op' : COp) (r : ME) (vs : Vs) (y : AV) (h : Hp) : Out AV := match t with
  | some b => if b then kCh3 (ev C r h vs) op' y else .ok (.bool false) h
  | none => .fail
noncomputable def kCh1 (o : Out AV) (C : Cx) (op op' : COp) (r : ME) (vs : Vs) (x : AV) : Out AV := o.bind fun y h => kCh2 (cmpA op x y h) C op' r vs y h
noncomputable def kCh0 (o : Out AV) (C : Cx) (op op' : COp) (m r : ME) (vs : Vs) : Out AV := o.bind fun x h => kCh1 (ev C m h vs) C op op' r vs x
@[simp] theorem ev_chain' (l m r : ME) (op op' : COp) : ev C (.chain l op m op' r) h vs = kCh0 (ev C l h vs) C op op' m r vs := rfl
@[simp] theorem kCh0_ok (op op' : COp) (m r : ME) : kCh0 (.ok x h) C op op' m r vs = kCh1 (ev C m h vs) C op op' r vs x := rfl
@[simp] theorem kCh1_ok (op op' : COp) (r : ME) : kCh1 (.ok y h) C op op' r vs x = kCh2 (cmpA op x y h) C op' r vs y h := rfl
@[simp] theorem kCh2_true (op' : COp) (r : ME) : kCh2 (some true) C op' r vs y h = kCh3 (ev C r h vs) op' y := rfl
@[simp] theorem kCh2_false (op' : COp) (r : ME) : kCh2 (some false) C op' r vs y h = .ok (.bool false) h := rfl
@[simp] theorem kCh3_ok (op' : COp) : kCh3 (.ok z h) op' y = boolO (cmpA op' y z h) h := rfl
end
noncomputable abbrev letters : List Nat := [97, 98, 99, 100, 101, 102, 103, 104, 105, 106, 107, 108, 109, 110, 111, 112, 113, 114, 115, 116, 117, 118, 119, 120, 121, 122]
section
variable {cl : Nat → List AV → Hp → Out AV} {h : Hp} {vs : Vs}
theorem gl0 : ev ⟨prog, cl⟩ (.gl 0) h vs = .ok (.str letters) h := rfl
theorem gl1 : ev ⟨prog, cl⟩ (.gl 1) h vs = .ok (.int 37) h := rfl
theorem gl2 : ev ⟨prog, cl⟩ (.gl 2) h vs = .ok (.int 12) h := rfl
theorem gl3 : ev ⟨prog, cl⟩ (.gl 3) h vs = .ok (.int 8) h := rfl
theorem gl4 : ev ⟨prog, cl⟩ (.gl 4) h vs = .ok (.int 40) h := rfl
theorem gl5 : ev ⟨prog, cl⟩ (.gl 5) h vs = .ok (.int 3000) h := rfl
theorem gl6 : ev ⟨prog, cl⟩ (.gl 6) h vs = .ok (.int 100) h := rfl
end
variable {n : Nat} {h : Hp}
theorem le_str (a b : List Nat) : cmpA .le (.str a) (.str b) h = some (!decide (b < a)) := rfl
theorem lt_one (a b : Nat) : ([a] < [b]) ↔ a < b := by
  constructor
  · intro q; cases q with
    | rel q => exact q
    | cons q => cases q
  · intro q; exact .rel q
theorem is_sign {c : Nat} (q : good c) : callF prog (n + 1) 5 [.str [c]] h = .ok (.bool true) h := by
  rw [callF_def (fn := fn_is_sign) rfl rfl rfl]
  by_cases q1 : c = 10
  · subst q1
    simp [fn_is_sign]
  · rcases q with q | ⟨q2, q3, q4⟩
    · exact absurd q q1
    · have l1 : cmpA .le (.str [32]) (.str [c]) h = some true := by rw [le_str, decide_eq_false (by rw [lt_one]; lia  )]; rfl
      have l2 : cmpA .le (.str [c]) (.str [126]) h = some true := by rw [le_str, decide_eq_false (by rw [lt_one]; lia  )]; rfl
      have l3 : ¬ ((c : Int) = 37) := by lia  
      simp [fn_is_sign, q1, l1, l2, l3, gl1, -ev_gl]
theorem all_true {α : Type} {l : Nat} (s : List α) (e : h[l]? = some (.list (s.map fun _ => AV.bool true))) : biA .all [.ref l] h = .ok (.bool true) h := by
  have key : ∀ s : List α, mapO asBoolV (s.map fun _ => AV.bool true) = some (s.map fun _ => true) := by
    intro s
    induction s with
    | nil => rfl
    | cons a r ih => rw [List.map_cons, mapO_cons, ih]; rfl
  have k2 : ∀ s : List α, (s.map fun _ => true).all id = true := by
    intro s
    induction s with
    | nil => rfl
    | cons a r ih => exact ih
  show (match (listAt h (.ref l)).bind (mapO asBoolV) with | some bs => Out.ok (AV.bool (bs.all id)) h | none => .fail) = _
  rw [listAt_of e, Option.bind_some, key]
  simp only [k2]
theorem is_text {s : List Nat} (q : ∀ x ∈ s, good x) (hs : s.length ≤ 900) : ∃ xs, callF prog (n + 2) 6 [.str s] h = .ok (.bool true) (h ++ xs) := by
  rw [callF_def (fn := fn_is_text) rfl rfl rfl]
  have hl : 900 ≤ lim := by decide
  have c := compE_all (C := ⟨prog, callF prog (n + 1)⟩) (el := ev ⟨prog, callF prog (n + 1)⟩ (.call 5 [.var 1])) (x := 1) (h := h) (vs := [some (.str s), none]) (l := s.map fun c => .str [c]) (fun _ => .bool true) (by
    intro v hv
    obtain ⟨c, hc, rfl⟩ := List.mem_map.mp hv
    simp [is_sign (q c hc)]) (by rw [List.length_map]; lia  )
  rw [List.map_map] at c
  have a := all_true (h := h ++ [.list (s.map fun _ => AV.bool true)]) s (get_new _ _)
  refine ⟨[.list (s.map fun _ => AV.bool true)], ?_⟩
  simp only [Function.comp_def] at c
  simp [fn_is_text, c, a]
theorem are_sizes {w r : Nat} (w1 : 1 ≤ w) (w8 : w ≤ 8) (r1 : 1 ≤ r) (r40 : r ≤ 40) : callF prog (n + 2) 8 [.int w, .int r] h = .ok (.bool true) h := by
  rw [callF_def (fn := fn_are_sizes) rfl rfl rfl]
  have a1 : callF prog (n + 1) 4 [.int w] h = .ok (.bool true) h := rfl
  have a2 : callF prog (n + 1) 4 [.int r] h = .ok (.bool true) h := rfl
  have w1 : (1 : Int) ≤ w := by lia  
  have w8 : (w : Int) ≤ 8 := by lia  
  have r1 : (1 : Int) ≤ r := by lia  
  have r40 : (r : Int) ≤ 40 := by lia  
  simp only [fn_are_sizes]
  simp [a1, a2, gl3, gl4, w1, w8, r1, r40, -ev_gl]
/-- a name -/
noncomputable def okName (x : List Nat) : Prop := 1 ≤ x.length ∧ x.length ≤ 12 ∧ ∀ c ∈ x, 97 ≤ c ∧ c ≤ 122
theorem in_letters {c : Nat} (q : 97 ≤ c ∧ c ≤ 122) : cmpA .isin (.str [c]) (.str letters) h = some true := by
  have : (List.range 26).all (fun k => PySem.Txt.contains (tS letters) (tS [97 + k])) = true := by kernel_rfl
  have := List.all_eq_true.mp this (c - 97) (List.mem_range.mpr (by omega))
  rw [show 97 + (c - 97) = c by omega] at this
  exact congrArg some this
theorem is_name {x : List Nat} (q : okName x) : ∃ xs, callF prog (n + 1) 7 [.str x] h = .ok (.bool true) (h ++ xs) := by
  rw [callF_def (fn := fn_is_name) rfl rfl rfl]
  have hl : 12 ≤ lim := by decide
  have c := compE_all (C := ⟨prog, callF prog n⟩) (el := ev ⟨prog, callF prog n⟩ (.cmp (.var 1) .isin (.gl 0))) (x := 1) (h := h) (vs := [some (.str x), none]) (l := x.map fun c => .str [c]) (fun _ => .bool true) (by
    intro v hv
    obtain ⟨c, hc, rfl⟩ := List.mem_map.mp hv
    have := in_letters (h := h) (q.2.2 c hc)
    simp [this, gl0, -ev_gl]) (by rw [List.length_map]; exact Nat.le_trans q.2.1 hl)
  rw [List.map_map] at c
  have a := all_true (h := h ++ [.list (x.map fun _ => AV.bool true)]) x (get_new _ _)
  refine ⟨[.list (x.map fun _ => AV.bool true)], ?_⟩
  simp only [Function.comp_def] at c
  have q1 : (1 : Int) ≤ x.length := by have := q.1; lia  
  have q2 : (x.length : Int) ≤ 12 := by have := q.2.1; lia  
  simp [fn_is_name, gl2, q1, q2, c, a, -ev_gl]
end Mine.PL

/-! Law 06, plain: dicts and the stock (typed by hand). -/
set_option Elab.async false
namespace Mine.PL
/-! ### entries made from a list -/
section
variable {α : Type} (κ f : α → AV) (k : AV)
theorem dget_no : ∀ l : List α, (∀ x ∈ l, keq (κ x) k = false) → dget (l.map fun x => (κ x, f x)) k = none
  | [], _ => rfl
  | a :: r, q => by
    show (if keq (κ a) k then some (f a) else dget (r.map fun x => (κ x, f x)) k) = _
    rw [q a (by simp), dget_no r fun x hx => q x (by simp [hx])]; rfl
theorem dget_kd (y : α) (hy : keq (κ y) k = true) : ∀ l : List α, y ∈ l → (∀ x ∈ l, keq (κ x) k = true → x = y) → dget (l.map fun x => (κ x, f x)) k = some (f y)
  | [], m, _ => (nomatch m)
  | a :: r, m, q => by
    show (if keq (κ a) k then some (f a) else dget (r.map fun x => (κ x, f x)) k) = _
    cases z : keq (κ a) k with
    | true => rw [q a (by simp) z]; rfl
    | false =>
      rcases List.mem_cons.mp m with rfl | m
      · rw [hy] at z; cases z
      · exact dget_kd y hy r m fun x hx => q x (by simp [hx])
theorem dput_no (w : AV) : ∀ l : List α, (∀ x ∈ l, keq (κ x) k = false) → dput (l.map fun x => (κ x, f x)) k w = (l.map fun x => (κ x, f x)) ++ [(k, w)]
  | [], _ => rfl
  | a :: r, q => by
    show (if keq (κ a) k then (κ a, w) :: r.map (fun x => (κ x, f x)) else (κ a, f a) :: dput (r.map fun x => (κ x, f x)) k w) = _
    rw [q a (by simp), dput_no w r fun x hx => q x (by simp [hx])]; rfl
theorem dput_kd (f' : α → AV) (y : α) (hy : keq (κ y) k = true) (w : AV) (hw : f' y = w) : ∀ l : List α, l.Nodup → y ∈ l → (∀ x ∈ l, keq (κ x) k = true → x = y) → (∀ x ∈ l, x ≠ y → f' x = f x) → dput (l.map fun x => (κ x, f x)) k w = l.map fun x => (κ x, f' x)
  | [], _, m, _, _ => (nomatch m)
  | a :: r, nd, m, q, e => by
    rw [List.nodup_cons] at nd
    show (if keq (κ a) k then (κ a, w) :: r.map (fun x => (κ x, f x)) else (κ a, f a) :: dput (r.map fun x => (κ x, f x)) k w) = _
    cases z : keq (κ a) k with
    | true =>
      have := q a (by simp) z
      subst this
      rw [if_pos rfl, List.map_cons, hw]
      congr 1
      exact List.map_congr_left fun x hx => by rw [e x (by simp [hx]) fun q => nd.1 (q ▸ hx)]
    | false =>
      have ya : a ≠ y := fun q => by rw [q, hy] at z; cases z
      rcases List.mem_cons.mp m with rfl | m
      · exact absurd rfl ya
      · rw [if_neg (by simp), List.map_cons, e a (by simp) ya, dput_kd f' y hy w hw r nd.2 m (fun x hx => q x (by simp [hx])) fun x hx => e x (by simp [hx])]
end
/-! keys that are texts -/
noncomputable abbrev Txt1 := List Nat
theorem keq_str (a b : Txt1) : keq (.str a) (.str b) = true ↔ a = b := by
  show (a == b) = true ↔ _
  simp
theorem keq_int (a b : Int) : keq (.int a) (.int b) = true ↔ a = b := by
  show (a == b) = true ↔ _
  simp
noncomputable def addt (T : List Txt1) (t : Txt1) : List Txt1 := if t ∈ T then T else T ++ [t]
theorem addt_mem {T : List Txt1} {t : Txt1} (q : t ∈ T) : addt T t = T := if_pos q
theorem addt_new {T : List Txt1} {t : Txt1} (q : t ∉ T) : addt T t = T ++ [t] := if_neg q
theorem mem_addt {T : List Txt1} {t x : Txt1} : x ∈ addt T t ↔ x ∈ T ∨ x = t := by
  unfold addt
  split
  · exact ⟨.inl, fun q => q.elim id fun e => e ▸ ‹_›⟩
  · simp
theorem addt_nodup {T : List Txt1} {t : Txt1} (nd : T.Nodup) : (addt T t).Nodup := by
  unfold addt
  split
  · exact nd
  · rw [List.nodup_append]
    exact ⟨nd, by simp, fun a ha b hb q => ‹t ∉ T› (by rw [← List.mem_singleton.mp hb, ← q]; exact ha)⟩
theorem addt_pre (T : List Txt1) (t : Txt1) : ∃ X, addt T t = T ++ X := by
  unfold addt
  split
  · exact ⟨[], by simp⟩
  · exact ⟨_, rfl⟩
theorem dget_str (f : Txt1 → AV) (T : List Txt1) (t : Txt1) : dget (T.map fun x => (.str x, f x)) (.str t) = if t ∈ T then some (f t) else none := by
  split
  · exact dget_kd _ f _ t ((keq_str t t).mpr rfl) T ‹_› fun x _ q => (keq_str x t).mp q
  · exact dget_no _ f _ T fun x hx => by
      cases z : keq (.str x) (.str t) with
      | false => rfl
      | true => exact absurd ((keq_str x t).mp z ▸ hx) ‹_›
theorem dput_str (f : Txt1 → AV) (T : List Txt1) (nd : T.Nodup) (t : Txt1) (w : AV) : dput (T.map fun x => (.str x, f x)) (.str t) w = (addt T t).map fun x => (.str x, if x = t then w else f x) := by
  unfold addt
  split
  · exact dput_kd _ f _ _ t ((keq_str t t).mpr rfl) w (if_pos rfl) T nd ‹_› (fun x _ q => (keq_str x t).mp q) fun x _ q => if_neg q
  · rename_i q
    rw [dput_no _ f _ w T fun x hx => by
      cases z : keq (.str x) (.str t) with
      | false => rfl
      | true => exact absurd ((keq_str x t).mp z ▸ hx) q, List.map_append]
    congr 1
    · exact List.map_congr_left fun x hx => by rw [if_neg (fun e : x = t => q (e ▸ hx))]
    · simp
/-! the number of a text -/
noncomputable def posT (T : List Txt1) (t : Txt1) : Int := (T.idxOf t : Int) + 1
theorem pos_inj {T : List Txt1} {x y : Txt1} (hx : x ∈ T) (q : posT T x = posT T y) : x = y := by
  unfold posT at q
  have q : T.idxOf x = T.idxOf y := by lia  
  have l := List.idxOf_lt_length_of_mem hx
  have e1 := List.getElem_idxOf l
  have e2 := List.getElem_idxOf (q ▸ l : T.idxOf y < T.length)
  rw [← e1, ← e2]
  congr 1
theorem pos_pre {T X : List Txt1} {x : Txt1} (hx : x ∈ T) : posT (T ++ X) x = posT T x := by
  unfold posT; rw [List.idxOf_append, if_pos hx]
theorem pos_new {T : List Txt1} {t : Txt1} (q : t ∉ T) : posT (T ++ [t]) t = T.length + 1 := by
  unfold posT; rw [List.idxOf_append, if_neg q]; simp
theorem pos_le {T : List Txt1} {x : Txt1} (hx : x ∈ T) : posT T x ≤ T.length := by
  have := List.idxOf_lt_length_of_mem hx
  unfold posT; lia  
theorem dget_pos (f : Txt1 → AV) (T : List Txt1) {t : Txt1} (q : t ∈ T) : dget (T.map fun x => (.int (posT T x), f x)) (.int (posT T t)) = some (f t) :=
  dget_kd _ f _ t ((keq_int _ _).mpr rfl) T q fun x hx z => pos_inj hx ((keq_int _ _).mp z)
theorem dput_pos (f f' : Txt1 → AV) (T : List Txt1) (nd : T.Nodup) {t : Txt1} (q : t ∈ T) (w : AV) (hw : f' t = w) (e : ∀ x, x ≠ t → f' x = f x) : dput (T.map fun x => (.int (posT T x), f x)) (.int (posT T t)) w = T.map fun x => (.int (posT T x), f' x) :=
  dput_kd _ f _ f' t ((keq_int _ _).mpr rfl) w hw T nd q (fun x hx z => pos_inj hx ((keq_int _ _).mp z)) fun x _ => e x
theorem dput_pos_new (f : Txt1 → AV) (T : List Txt1) {t : Txt1} (q : t ∉ T) (w : AV) (hw : f t = w) : dput (T.map fun x => (.int (posT T x), f x)) (.int (T.length + 1)) w = (T ++ [t]).map fun x => (.int (posT (T ++ [t]) x), f x) := by
  rw [dput_no _ f _ w T fun x hx => by
    cases z : keq (.int (posT T x)) (.int (T.length + 1)) with
    | false => rfl
    | true =>
      have := (keq_int _ _).mp z
      have := pos_le hx
      lia  , List.map_append]
  congr 1
  · exact List.map_congr_left fun x hx => by rw [pos_pre hx]
  · simp [pos_new q, hw]
theorem dput_txt_new (T : List Txt1) (nd : T.Nodup) {t : Txt1} (q : t ∉ T) : dput (T.map fun x => (.str x, .int (posT T x))) (.str t) (.int (T.length + 1)) = (T ++ [t]).map fun x => (.str x, .int (posT (T ++ [t]) x)) := by
  rw [dput_str _ T nd, addt_new q]
  apply List.map_congr_left
  intro x hx
  split
  · rw [‹x = t›, pos_new q]
  · rcases List.mem_append.mp hx with z | z
    · rw [pos_pre z]
    · exact absurd (List.mem_singleton.mp z) ‹_›
end Mine.PL

/-! Law 06, plain: the stock (typed by hand). -/
set_option Elab.async false
namespace Mine.PL
/-! ### the heap -/
/-- all but some places stands -/
noncomputable def Kg (S : Nat → Prop) (h h' : Hp) : Prop := h.length ≤ h'.length ∧ ∀ l, l < h.length → ¬ S l → h'[l]? = h[l]?
theorem Kg.refl (S : Nat → Prop) (h : Hp) : Kg S h h := ⟨Nat.le_refl _, fun _ _ _ => rfl⟩
theorem Kg.trans {S : Nat → Prop} {a b c : Hp} (x : Kg S a b) (y : Kg S b c) : Kg S a c := ⟨Nat.le_trans x.1 y.1, fun l hl q => (y.2 l (Nat.lt_of_lt_of_le hl x.1) q).trans (x.2 l hl q)⟩
theorem Kg.mono {S S' : Nat → Prop} {a b : Hp} (x : Kg S a b) (q : ∀ l, l < a.length → S l → S' l) : Kg S' a b := ⟨x.1, fun l hl z => x.2 l hl fun y => z (q l hl y)⟩
theorem Kg.get {S : Nat → Prop} {h h' : Hp} (g : Kg S h h') {l : Nat} {o : AO} (e : h[l]? = some o) (q : ¬ S l) : h'[l]? = some o := (g.2 l (List.getElem?_eq_some_iff.mp e).1 q).trans e
theorem Kg.set {S : Nat → Prop} (h : Hp) (l : Nat) (o : AO) (q : S l) : Kg S h (h.set l o) := ⟨by rw [List.length_set]; exact Nat.le_refl _, fun l' _ z => get_ne fun e => z (e ▸ q)⟩
theorem Kg.app (S : Nat → Prop) (h xs : Hp) : Kg S h (h ++ xs) := ⟨by simp, fun _ hl _ => List.getElem?_append_left hl⟩
theorem Kg.of {S : Nat → Prop} {h h' : Hp} (g : Grow h h') : Kg S h h' := ⟨g.1, fun l hl _ => g.2 l hl⟩
section
variable {h : Hp}
theorem attr_at {s a c : Nat} {fs : List (Option AV)} {v : AV} (e : h[s]? = some (.inst c fs)) (q : fs[a]? = some (some v)) : attrA h (.ref s) a = some v := by
  show (ins h[s]?).bind _ = _
  rw [e]
  show (fs[a]?).bind id = _
  rw [q]; rfl
theorem dictAt_of {k : Nat} {ep : Option Nat} {es : List (AV × AV)} (e : h[k]? = some (.dict ep es)) : dictAt h (.ref k) = some (ep, es) := by show dct h[k]? = _; rw [e]; rfl
theorem in_dict {k : Nat} {ep : Option Nat} {es : List (AV × AV)} {v : AV} (e : h[k]? = some (.dict ep es)) (q : isKey v = true) : cmpA .isin v (.ref k) h = some (dget es v).isSome := by
  show inA h v (.ref k) = _
  unfold inA
  rw [dictAt_of e]
  simp only [q, if_true]
theorem notin_dict {k : Nat} {ep : Option Nat} {es : List (AV × AV)} {v : AV} (e : h[k]? = some (.dict ep es)) (q : isKey v = true) : cmpA .notin v (.ref k) h = some (!(dget es v).isSome) := by
  show (inA h v (.ref k)).map _ = _
  rw [show inA h v (.ref k) = _ from in_dict e q]; rfl
theorem idx_dict {k : Nat} {ep : Option Nat} {es : List (AV × AV)} {v : AV} (e : h[k]? = some (.dict ep es)) (q : isKey v = true) : idxA (.ref k) v h = dget es v := by
  unfold idxA
  rw [dictAt_of e]
  simp only [q, if_true]
theorem get_dict {k : Nat} {ep : Option Nat} {es : List (AV × AV)} {v d : AV} (e : h[k]? = some (.dict ep es)) (q : isKey v = true) : bmA .get (.ref k) [v, d] h = .ok ((dget es v).getD d) h := by
  show getA (.ref k) v d h = _
  unfold getA
  rw [dictAt_of e]
  simp only [q, if_true]
theorem kd_get {k : Nat} {ep : Option Nat} {es : List (AV × AV)} (e : h[k]? = some (.dict ep es)) : bmKd .get (.ref k) h = true := by show (dictAt h (.ref k)).isSome = true; rw [dictAt_of e]; rfl
theorem kd_setd {k : Nat} {ep : Option Nat} {es : List (AV × AV)} (e : h[k]? = some (.dict ep es)) : bmKd .setdefault (.ref k) h = true := by show (dictAt h (.ref k)).isSome = true; rw [dictAt_of e]; rfl
theorem set_dict {k : Nat} {ep : Option Nat} {es : List (AV × AV)} {i v : AV} (e : h[k]? = some (.dict ep es)) (q : isKey i = true) (l : es.length < lim) : setItemA (.ref k) i v h = some (h.set k (.dict (if (dget es i).isSome then ep else ep.map (· + 1)) (dput es i v))) := by
  show (match dct h[k]? with | some p => if isKey i && decide (p.2.length < lim) then some (h.set k (.dict (if (dget p.2 i).isSome then p.1 else p.1.map (· + 1)) (dput p.2 i v))) else none | none => none) = _
  rw [e]
  simp only [dct, q, Bool.true_and, decide_eq_true l, if_true]
theorem set_attr {s a c : Nat} {fs : List (Option AV)} {v : AV} (e : h[s]? = some (.inst c fs)) (q : a < fs.length) : setAttrA (.ref s) a v h = some (h.set s (.inst c (fs.set a (some v)))) := by
  show (match ins h[s]? with | some p => if a < p.2.length then some (h.set s (.inst p.1 (p.2.set a (some v)))) else none | none => none) = _
  rw [e]
  simp only [ins, q, if_true]
theorem meth_at {s m f c : Nat} {fs : List (Option AV)} (e : h[s]? = some (.inst c fs)) (q : ((prog.cls[c]?).bind fun cl => cl.meths.lookup m) = some f) : methF prog h (.ref s) m = some f := by
  show (ins h[s]?).bind _ = _
  rw [e]
  exact q
end
/-- a stock: its texts in order, how often each is needed -/
structure St (h : Hp) (o : Nat) (T : List Txt1) (c : Txt1 → Int) : Prop where
  inst : h[o + 1]? = some (.inst 0 [some (.ref (o + 2)), some (.ref (o + 3)), some (.ref (o + 4)), some (.int T.length), none, none, none, none, none])
  kept : ∃ ep, h[o + 2]? = some (.dict ep (T.map fun x => (.int (posT T x), .str x)))
  many : ∃ ep, h[o + 3]? = some (.dict ep (T.map fun x => (.int (posT T x), .int (c x))))
  known : ∃ ep, h[o + 4]? = some (.dict ep (T.map fun x => (.str x, .int (posT T x))))
noncomputable abbrev inSt (o : Nat) (l : Nat) : Prop := o + 1 ≤ l ∧ l ≤ o + 4
variable {n : Nat} {h : Hp} {o : Nat} {T : List Txt1} {c : Txt1 → Int}
theorem St.keep {S : Nat → Prop} {h' : Hp} (s : St h o T c) (K : Kg S h h') (q : ∀ l, inSt o l → ¬ S l) : St h' o T c := by
  obtain ⟨e1, k1⟩ := s.kept
  obtain ⟨e2, k2⟩ := s.many
  obtain ⟨e3, k3⟩ := s.known
  exact ⟨K.get s.inst (q _ ⟨by lia  , by lia  ⟩), ⟨e1, K.get k1 (q _ ⟨by lia  , by lia  ⟩)⟩, ⟨e2, K.get k2 (q _ ⟨by lia  , by lia  ⟩)⟩, ⟨e3, K.get k3 (q _ ⟨by omega, by lia  ⟩)⟩⟩
theorem need_head (S : St h o T c) (nd : T.Nodup) (hT : T.length < 100000) (t : Txt1) (hc : t ∉ T → c t = 0) :
    ∃ h', exs ⟨prog, callF prog n⟩ (fn_Stock_need.body.take 1) h [some (.ref (o + 1)), some (.str t), none] = .next h' [some (.ref (o + 1)), some (.str t), none] ∧ St h' o (addt T t) c ∧ Kg (inSt o) h h' := by
  obtain ⟨ew, hw⟩ := S.known
  obtain ⟨em, hm⟩ := S.many
  obtain ⟨ek, hk⟩ := S.kept
  have a2 := attr_at (a := 2) (v := .ref (o + 4)) S.inst rfl
  have n1 := notin_dict (v := .str t) hw rfl
  rw [dget_str] at n1
  have hl : ∀ {α : Type} (f : Txt1 → α), (T.map f).length < lim := fun f => by rw [List.length_map]; exact Nat.lt_trans hT (by decide)
  by_cases q : t ∈ T
  · rw [if_pos q] at n1
    rw [addt_mem q]
    exact ⟨h, by simp [fn_Stock_need, a2, n1], S, Kg.refl _ _⟩
  · rw [if_neg q] at n1
    rw [addt_new q]
    have a3 := attr_at (a := 3) (v := .int T.length) S.inst rfl
    -- the last number
    have s1 : setAttrA (.ref (o + 1)) 3 (.int (T.length + 1)) h = some (h.set (o + 1) (.inst 0 [some (.ref (o + 2)), some (.ref (o + 3)), some (.ref (o + 4)), some (.int (T.length + 1)), none, none, none, none, none])) := set_attr S.inst (show (3 : Nat) < 9 by decide)
    have I1 : (h.set (o + 1) (.inst 0 [some (.ref (o + 2)), some (.ref (o + 3)), some (.ref (o + 4)), some (.int (T.length + 1)), none, none, none, none, none]))[o + 1]? = _ := get_eq S.inst
    have K1 := Kg.set (S := inSt o) h (o + 1) (.inst 0 [some (.ref (o + 2)), some (.ref (o + 3)), some (.ref (o + 4)), some (.int (T.length + 1)), none, none, none, none, none]) ⟨by lia  , by lia  ⟩
    have hw := (get_ne (h := h) (l := o + 1) (l' := o + 4) (x := .inst 0 [some (.ref (o + 2)), some (.ref (o + 3)), some (.ref (o + 4)), some (.int (T.length + 1)), none, none, none, none, none]) (by lia  )).trans hw
    have hk := (get_ne (h := h) (l := o + 1) (l' := o + 2) (x := .inst 0 [some (.ref (o + 2)), some (.ref (o + 3)), some (.ref (o + 4)), some (.int (T.length + 1)), none, none, none, none, none]) (by lia  )).trans hk
    have hm := (get_ne (h := h) (l := o + 1) (l' := o + 3) (x := .inst 0 [some (.ref (o + 2)), some (.ref (o + 3)), some (.ref (o + 4)), some (.int (T.length + 1)), none, none, none, none, none]) (by lia  )).trans hm
    generalize h.set (o + 1) (.inst 0 [some (.ref (o + 2)), some (.ref (o + 3)), some (.ref (o + 4)), some (.int (T.length + 1)), none, none, none, none, none]) = h1 at s1 I1 K1 hw hk hm
    have b2 := attr_at (a := 2) (v := .ref (o + 4)) I1 rfl
    have b3 := attr_at (a := 3) (v := .int (T.length + 1)) I1 rfl
    -- known
    have s2 := set_dict (i := .str t) (v := .int (T.length + 1)) hw rfl (hl _)
    rw [dput_txt_new T nd q] at s2
    generalize (if (dget (T.map fun x => (AV.str x, AV.int (posT T x))) (.str t)).isSome then ew else ew.map (· + 1)) = ew' at s2
    generalize hX : AO.dict ew' ((T ++ [t]).map fun x => (AV.str x, AV.int (posT (T ++ [t]) x))) = X at s2
    have W2 : (h1.set (o + 4) X)[o + 4]? = _ := get_eq hw
    have K2 := K1.trans (Kg.set (S := inSt o) h1 (o + 4) X ⟨by lia  , by lia  ⟩)
    have I2 := (get_ne (h := h1) (l := o + 4) (l' := o + 1) (x := X) (by lia  )).trans I1
    have hk := (get_ne (h := h1) (l := o + 4) (l' := o + 2) (x := X) (by lia  )).trans hk
    have hm := (get_ne (h := h1) (l := o + 4) (l' := o + 3) (x := X) (by lia  )).trans hm
    generalize h1.set (o + 4) X = h2 at s2 W2 K2 I2 hk hm
    have c0 := attr_at (a := 0) (v := .ref (o + 2)) I2 rfl
    have c3 := attr_at (a := 3) (v := .int (T.length + 1)) I2 rfl
    -- kept
    have s3 := set_dict (i := .int (T.length + 1)) (v := .str t) hk rfl (hl _)
    rw [dput_pos_new (fun x => .str x) T q _ rfl] at s3
    generalize (if (dget (T.map fun x => (AV.int (posT T x), AV.str x)) (.int (T.length + 1))).isSome then ek else ek.map (· + 1)) = ek' at s3
    generalize hY : AO.dict ek' ((T ++ [t]).map fun x => (AV.int (posT (T ++ [t]) x), AV.str x)) = Y at s3
    have Y3 : (h2.set (o + 2) Y)[o + 2]? = _ := get_eq hk
    have K3 := K2.trans (Kg.set (S := inSt o) h2 (o + 2) Y ⟨by lia  , by lia  ⟩)
    have I3 := (get_ne (h := h2) (l := o + 2) (l' := o + 1) (x := Y) (by lia  )).trans I2
    have W3 := (get_ne (h := h2) (l := o + 2) (l' := o + 4) (x := Y) (by lia  )).trans W2
    have hm := (get_ne (h := h2) (l := o + 2) (l' := o + 3) (x := Y) (by lia  )).trans hm
    generalize h2.set (o + 2) Y = h3 at s3 Y3 K3 I3 W3 hm
    have d1 := attr_at (a := 1) (v := .ref (o + 3)) I3 rfl
    have d3 := attr_at (a := 3) (v := .int (T.length + 1)) I3 rfl
    -- many
    have s4 := set_dict (i := .int (T.length + 1)) (v := .int 0) hm rfl (hl _)
    rw [dput_pos_new (fun x => .int (c x)) T q _ (by rw [hc q])] at s4
    generalize (if (dget (T.map fun x => (AV.int (posT T x), AV.int (c x))) (.int (T.length + 1))).isSome then em else em.map (· + 1)) = em' at s4
    generalize hZ : AO.dict em' ((T ++ [t]).map fun x => (AV.int (posT (T ++ [t]) x), AV.int (c x))) = Z at s4
    have K4 := K3.trans (Kg.set (S := inSt o) h3 (o + 3) Z ⟨by lia  , by lia  ⟩)
    have e : ((T ++ [t]).length : Int) = T.length + 1 := by simp
    refine ⟨h3.set (o + 3) Z, by simp [fn_Stock_need, a2, n1, a3, s1, b2, b3, s2, c0, c3, s3, d1, d3, s4], ⟨?_, ⟨ek', ?_⟩, ⟨em', ?_⟩, ⟨ew', ?_⟩⟩, K4⟩
    · rw [e]; exact (get_ne (by lia  )).trans I3
    · rw [hY]; exact (get_ne (by lia  )).trans Y3
    · rw [hZ]; exact get_eq hm
    · rw [hX]; exact (get_ne (by lia  )).trans W3
noncomputable def bump (c : Txt1 → Int) (t : Txt1) : Txt1 → Int := fun x => if x = t then c x + 1 else c x
theorem need_tail (S : St h o T c) (nd : T.Nodup) (hT : T.length < 100000) {t : Txt1} (q : t ∈ T) :
    ∃ h', exs ⟨prog, callF prog n⟩ (fn_Stock_need.body.drop 1) h [some (.ref (o + 1)), some (.str t), none] = .ret (.int (posT T t)) h' ∧ St h' o T (bump c t) ∧ Kg (inSt o) h h' := by
  obtain ⟨ew, hw⟩ := S.known
  obtain ⟨em, hm⟩ := S.many
  obtain ⟨ek, hk⟩ := S.kept
  have a2 := attr_at (a := 2) (v := .ref (o + 4)) S.inst rfl
  have a1 := attr_at (a := 1) (v := .ref (o + 3)) S.inst rfl
  have i1 := idx_dict (v := .str t) hw rfl
  rw [dget_str, if_pos q] at i1
  have i2 := idx_dict (v := .int (posT T t)) hm rfl
  rw [dget_pos (fun x => .int (c x)) T q] at i2
  have s1 := set_dict (i := .int (posT T t)) (v := .int (c t + 1)) hm rfl (by rw [List.length_map]; exact Nat.lt_trans hT (by decide))
  rw [dput_pos (fun x => .int (c x)) (fun x => .int (bump c t x)) T nd q _ (by simp only [bump, if_true]) (fun x z => by simp only [bump, z, if_false])] at s1
  generalize (if (dget (T.map fun x => (AV.int (posT T x), AV.int (c x))) (.int (posT T t))).isSome then em else em.map (· + 1)) = em' at s1
  refine ⟨_, by simp [fn_Stock_need, a2, a1, i1, i2, s1], ⟨(get_ne (by lia  )).trans S.inst, ⟨ek, (get_ne (by lia  )).trans hk⟩, ⟨em', get_eq hm⟩, ⟨ew, (get_ne (by lia  )).trans hw⟩⟩, Kg.set _ _ _ ⟨by lia  , by lia  ⟩⟩
theorem addt_len (T : List Txt1) (t : Txt1) : (addt T t).length ≤ T.length + 1 := by
  unfold addt; split <;> simp
theorem need_is (S : St h o T c) (nd : T.Nodup) (hT : T.length < 99999) (t : Txt1) (hc : t ∉ T → c t = 0) :
    ∃ h', callF prog (n + 1) 10 [.ref (o + 1), .str t] h = .ok (.int (posT (addt T t) t)) h' ∧ St h' o (addt T t) (bump c t) ∧ Kg (inSt o) h h' := by
  rw [callF_def (fn := fn_Stock_need) rfl rfl rfl, exs_split 1]
  obtain ⟨h1, e1, S1, K1⟩ := need_head (n := n) S nd (by lia  ) t hc
  have := addt_len T t
  obtain ⟨h2, e2, S2, K2⟩ := need_tail (n := n) S1 (addt_nodup nd) (by lia  ) (t := t) (mem_addt.mpr (.inr rfl))
  refine ⟨h2, ?_, S2, K1.trans K2⟩
  have e1' : exs ⟨prog, callF prog n⟩ (fn_Stock_need.body.take 1) h ([AV.ref (o + 1), .str t].map some ++ List.replicate (fn_Stock_need.names.length - fn_Stock_need.np) none) = _ := e1
  rw [e1', seqS_next, e2, fin_ret]
theorem has_is (S : St h o T c) {t : Txt1} (q : t ∈ T) : callF prog (n + 2) 11 [.ref (o + 1), .int (posT T t)] h = .ok (.bool true) h := by
  rw [callF_def (fn := fn_Stock_has) rfl rfl rfl]
  obtain ⟨ep, hk⟩ := S.kept
  have ha := attr_at (a := 0) (v := .ref (o + 2)) S.inst rfl
  have hi := in_dict (v := .int (posT T t)) hk rfl
  rw [dget_pos (fun x => .str x) T q] at hi
  have hN : callF prog (n + 1) 4 [.int (posT T t)] h = .ok (.bool true) h := rfl
  simp [fn_Stock_has, hN, ha, hi]
theorem piece_is (S : St h o T c) {t : Txt1} (q : t ∈ T) : callF prog (n + 3) 13 [.ref (o + 1), .int (posT T t)] h = .ok (.str t) h := by
  rw [callF_def (fn := fn_Stock_piece) rfl rfl rfl]
  obtain ⟨ep, hk⟩ := S.kept
  have hm := meth_at (m := 0) (f := 11) S.inst rfl
  have ha := attr_at (a := 0) (v := .ref (o + 2)) S.inst rfl
  have hh := has_is (n := n) S q
  have hi := idx_dict (v := .int (posT T t)) hk rfl
  rw [dget_pos (fun x => .str x) T q] at hi
  simp [fn_Stock_piece, hm, hh, ha, hi]
end Mine.PL

/-! Law 06, plain: sorted lists, texts added, rows (typed by hand). -/
set_option Elab.async false
namespace Mine.PL
/-! ### sorted -/
theorem asInt_map {α : Type} (f : α → Int) : ∀ l : List α, mapO asInt (l.map fun x => .int (f x)) = some (l.map f)
  | [] => rfl
  | a :: r => by rw [List.map_cons, mapO_cons, asInt_map f r]; rfl
section
variable {h : Hp}
theorem keys_list {l : Nat} {xs : List AV} (e : h[l]? = some (.list xs)) : keysAt h (.ref l) = some xs := by
  unfold keysAt; rw [listAt_of e]
theorem keys_dict {l : Nat} {ep : Option Nat} {es : List (AV × AV)} (e : h[l]? = some (.dict ep es)) : keysAt h (.ref l) = some (es.map (·.1)) := by
  unfold keysAt
  have e0 : listAt h (.ref l) = none := by show lst h[l]? = none; rw [e]; rfl
  rw [e0, dictAt_of e]
theorem list_of {l : Nat} {xs : List AV} (e : keysAt h (.ref l) = some xs) (q : xs.length ≤ lim) : biA .list [.ref l] h = .ok (.ref h.length) (h ++ [.list xs]) := by
  show (match keysAt h (.ref l) with | some xs => newList xs h | none => .fail) = _
  rw [e]
  exact if_pos q
theorem sorted_of {l : Nat} {xs ys : List AV} (e : keysAt h (.ref l) = some xs) (s : sortX xs = some ys) (q : ys.length ≤ lim) : biA .sorted [.ref l] h = .ok (.ref h.length) (h ++ [.list ys]) := by
  show sortedA (.ref l) h = _
  unfold sortedA
  rw [e, Option.bind_some, s]
  exact if_pos q
end
/-! ### texts added -/
noncomputable def addT (T : List Txt1) (ps : List Txt1) : List Txt1 := ps.foldl addt T
theorem addT_nodup : ∀ (ps T : List Txt1), T.Nodup → (addT T ps).Nodup
  | [], _, nd => nd
  | _ :: r, _, nd => addT_nodup r _ (addt_nodup nd)
theorem addT_pre : ∀ ps T : List Txt1, ∃ X, addT T ps = T ++ X
  | [], T => ⟨[], by simp [addT]⟩
  | p :: r, T => by
    obtain ⟨X, e⟩ := addt_pre T p
    obtain ⟨Y, e'⟩ := addT_pre r (addt T p)
    exact ⟨X ++ Y, by show addT (addt T p) r = _; rw [e', e, List.append_assoc]⟩
theorem mem_addT {x : Txt1} : ∀ {ps T : List Txt1}, x ∈ addT T ps ↔ x ∈ T ∨ x ∈ ps
  | [], T => by simp [addT]
  | p :: r, T => by
    show x ∈ addT (addt T p) r ↔ _
    rw [mem_addT, mem_addt, List.mem_cons, or_assoc]
theorem addT_len : ∀ ps T : List Txt1, (addT T ps).length ≤ T.length + ps.length
  | [], T => by simp [addT]
  | p :: r, T => by
    have := addT_len r (addt T p)
    have := addt_len T p
    show (addT (addt T p) r).length ≤ _
    simp; lia  
theorem addT_app (T ps qs : List Txt1) : addT T (ps ++ qs) = addT (addT T ps) qs := by unfold addT; rw [List.foldl_append]
theorem addT_succ {T ps : List Txt1} {i : Nat} {p : Txt1} (e : ps[i]? = some p) : addT T (ps.take (i + 1)) = addt (addT T (ps.take i)) p := by
  rw [List.take_add_one, e, addT_app]; rfl
theorem pos_addT {T ps : List Txt1} {x : Txt1} (hx : x ∈ T) : posT (addT T ps) x = posT T x := by
  obtain ⟨X, e⟩ := addT_pre ps T
  rw [e, pos_pre hx]
theorem pos_take {T ps : List Txt1} {i : Nat} {x : Txt1} (hx : x ∈ addT T (ps.take i)) : posT (addT T (ps.take i)) x = posT (addT T ps) x := by
  have : addT T ps = addT (addT T (ps.take i)) (ps.drop i) := by rw [← addT_app, List.take_append_drop]
  rw [this, pos_addT hx]
/-! ### rows: what is kept -/
structure Rw where
  name : Txt1
  ver : Nat
  parts : List Txt1
  adr : Nat
noncomputable def cN (R : List Rw) (x : Txt1) : Nat := (R.filter fun r => decide (r.name = x)).length
noncomputable def cT (R : List Rw) (t : Txt1) : Int := ((R.filter fun r => decide (t ∈ r.parts)).length : Nat)
theorem cN_add (R : List Rw) (q : Rw) (x : Txt1) : cN (R ++ [q]) x = if x = q.name then cN R x + 1 else cN R x := by
  unfold cN
  rw [List.filter_append, List.length_append]
  by_cases z : q.name = x
  · rw [if_pos z.symm, List.filter_cons_of_pos (by simpa using z)]; rfl
  · rw [if_neg (Ne.symm z), List.filter_cons_of_neg (by simpa using z)]; rfl
theorem cT_add (R : List Rw) (q : Rw) (t : Txt1) : cT (R ++ [q]) t = if t ∈ q.parts then cT R t + 1 else cT R t := by
  unfold cT
  rw [List.filter_append, List.length_append]
  by_cases z : t ∈ q.parts
  · rw [if_pos z, List.filter_cons_of_pos (by simpa using z)]; simp
  · rw [if_neg z, List.filter_cons_of_neg (by simpa using z)]; simp
/-- what is kept is in order -/
structure Rok (R : List Rw) (T NM : List Txt1) : Prop where
  ndT : T.Nodup
  ndN : NM.Nodup
  parts : ∀ r ∈ R, ∀ p ∈ r.parts, p ∈ T
  nm : ∀ x, x ∈ NM ↔ 0 < cN R x
  name : ∀ r ∈ R, okName r.name
  ver : ∀ r ∈ R, 1 ≤ r.ver ∧ r.ver ≤ cN R r.name
  uniq : ∀ r ∈ R, ∀ r' ∈ R, r.name = r'.name → r.ver = r'.ver → r = r'
  plen : ∀ r ∈ R, r.parts.length ≤ 402
  tlen : T.length ≤ 402 * R.length
  nlen : NM.length ≤ R.length
  psum : ∀ r ∈ R, (r.parts.map (·.length)).sum ≤ 1000
theorem cN_pos {R : List Rw} {r : Rw} (h : r ∈ R) : 0 < cN R r.name := List.length_pos_iff.mpr fun q => by
  have : r ∈ R.filter fun x => decide (x.name = r.name) := List.mem_filter.mpr ⟨h, by simp⟩
  rw [q] at this; cases this
theorem cN_le (R : List Rw) (x : Txt1) : cN R x ≤ R.length := List.length_filter_le _ _
theorem Rok.add {R : List Rw} {T NM : List Txt1} (k : Rok R T NM) (q : Rw) (h1 : okName q.name) (h2 : q.ver = cN R q.name + 1) (h3 : q.parts.length ≤ 402) (h4 : (q.parts.map (·.length)).sum ≤ 1000) : Rok (R ++ [q]) (addT T q.parts) (addt NM q.name) where
  ndT := addT_nodup _ _ k.ndT
  ndN := addt_nodup k.ndN
  parts r hr p hp := by
    rcases List.mem_append.mp hr with z | z
    · exact mem_addT.mpr (.inl (k.parts r z p hp))
    · rw [List.mem_singleton.mp z] at hp; exact mem_addT.mpr (.inr hp)
  nm x := by
    rw [mem_addt, cN_add, k.nm x]
    split
    · exact ⟨fun _ => by lia  , fun _ => .inr ‹_›⟩
    · exact ⟨fun z => z.elim id fun z => absurd z ‹_›, .inl⟩
  name r hr := by
    rcases List.mem_append.mp hr with z | z
    · exact k.name r z
    · rw [List.mem_singleton.mp z]; exact h1
  ver r hr := by
    rw [cN_add]
    rcases List.mem_append.mp hr with z | z
    · have := k.ver r z
      split <;> lia  
    · rw [List.mem_singleton.mp z, if_pos rfl]; lia  
  uniq r hr r' hr' e e' := by
    rcases List.mem_append.mp hr with z | z <;> rcases List.mem_append.mp hr' with z' | z'
    · exact k.uniq r z r' z' e e'
    · rw [List.mem_singleton.mp z'] at e e'
      have := (k.ver r z).2
      rw [e] at this; lia  
    · rw [List.mem_singleton.mp z] at e e'
      have := (k.ver r' z').2
      rw [← e] at this; lia  
    · rw [List.mem_singleton.mp z, List.mem_singleton.mp z']
  plen r hr := by
    rcases List.mem_append.mp hr with z | z
    · exact k.plen r z
    · rw [List.mem_singleton.mp z]; exact h3
  tlen := by
    have := addT_len q.parts T
    have := k.tlen
    rw [List.length_append]
    simp only [List.length_cons, List.length_nil]
    lia  
  psum r hr := by
    rcases List.mem_append.mp hr with z | z
    · exact k.psum r z
    · rw [List.mem_singleton.mp z]; exact h4
  nlen := by
    have := addt_len NM q.name
    have := k.nlen
    rw [List.length_append]
    simp only [List.length_cons, List.length_nil]
    lia  
end Mine.PL

/-! Law 07, plain: slices, tuples (typed by hand; from 06). -/
set_option Elab.async false
namespace Mine.PL
variable {n : Nat} {h : Hp}
theorem slice_to (s : List Nat) {b : Nat} (hb : b ≤ s.length) : sliceA (.str s) .none (.int (b : Int)) h = .ok (.str (s.take b)) h := by
  show (match bound s.length 0 .none with | some a => (match bound s.length s.length (.int (b : Int)) with | some b => Out.ok (AV.str (cut s a b)) h | none => .fail) | none => .fail) = _
  simp only [bound_at s.length hb]
  rfl
theorem slice_from (s : List Nat) {a : Nat} (ha : a ≤ s.length) : sliceA (.str s) (.int (a : Int)) .none h = .ok (.str (s.drop a)) h := by
  show (match bound s.length 0 (.int (a : Int)) with | some a => (match bound s.length s.length .none with | some b => Out.ok (AV.str (cut s a b)) h | none => .fail) | none => .fail) = _
  simp only [bound_at 0 ha]
  show Out.ok (AV.str ((s.drop a).take (s.length - a))) h = _
  rw [List.take_of_length_le (by simp)]
theorem tup2 (a b : AV) : tupA [a, b] h = .ok (.tup [a, b]) h := if_pos (by show 2 ≤ lim; decide)
variable {R : List Rw} {T NM : List Txt1}
noncomputable def givE (R : List Rw) (NM : List Txt1) : List (AV × AV) := NM.map fun x => (.str x, .int (cN R x))
theorem givE_add (k : Rok R T NM) (q : Rw) : dput (givE R NM) (.str q.name) (.int ((cN R q.name : Int) + 1)) = givE (R ++ [q]) (addt NM q.name) := by
  unfold givE
  rw [dput_str _ NM k.ndN]
  apply List.map_congr_left
  intro x _
  rw [cN_add]
  split
  · rw [‹x = q.name›, Int.natCast_add]; rfl
  · rfl
theorem givE_get (k : Rok R T NM) (x : Txt1) : (dget (givE R NM) (.str x)).getD (.int 0) = .int (cN R x) := by
  unfold givE
  rw [dget_str]
  split
  · rfl
  · have : ¬ 0 < cN R x := fun z => ‹x ∉ NM› ((k.nm x).mpr z)
    have : cN R x = 0 := by lia  
    rw [this]; rfl
end Mine.PL

/-! Law 06, plain: the shelf, how many versions (typed by hand). -/
set_option Elab.async false
namespace Mine.PL
theorem iterR_pure {α ρ : Type} {l : List α} {κ : α → AV} {get : Hp × List AV → Option (List AV)} {bad : ρ} {f : AV → Hp × List AV → It (Hp × List AV) ρ} (p : α → Bool) (g : α → AV) (h : Hp) (hg : ∀ acc, get (h, acc) = some (l.map κ))
    (hf : ∀ a ∈ l, ∀ acc, acc.length < lim → f (κ a) (h, acc) = .go (h, if p a then acc ++ [g a] else acc)) : ∀ (k i : Nat) (acc : List AV), i + k = l.length → acc.length + k ≤ lim → iterR get bad f (k + 1) i (h, acc) = .go (h, acc ++ ((l.drop i).filter p).map g) := by
  intro k
  induction k with
  | zero =>
    intro i acc e _
    have : l.length ≤ i := by lia  
    rw [iterR, hg]
    simp only
    rw [List.getElem?_eq_none (by rw [List.length_map]; exact this), List.drop_eq_nil_of_le this]
    simp
  | succ k ih =>
    intro i acc e hl
    have hi : i < l.length := by lia  
    rw [iterR, hg]
    simp only
    rw [List.getElem?_map, List.getElem?_eq_getElem hi, Option.map_some]
    simp only
    rw [hf _ (List.getElem_mem hi) acc (by lia  )]
    simp only
    rw [List.drop_eq_getElem_cons hi]
    cases hp : p l[i] with
    | false =>
      simp only [hp, Bool.false_eq_true, if_false]
      rw [ih (i + 1) acc (by lia  ) (by lia  ), List.filter_cons_of_neg (by simp [hp])]
    | true =>
      simp only [hp, if_true]
      rw [ih (i + 1) (acc ++ [g l[i]]) (by lia  ) (by rw [List.length_append]; simp; lia  ), List.filter_cons_of_pos hp]
      simp
theorem compF_pure {cs : Hp → Vs → Out Bool} {el : Hp → Vs → Out AV} {x : Nat} {vs : Vs} {h : Hp} {v w : AV} {b : Bool} (hc : cs h (vs.set x (some v)) = .ok b h) (he : b = true → el h (vs.set x (some v)) = .ok w h) (acc : List AV) (hl : acc.length < lim) : compF cs el x vs v (h, acc) = .go (h, if b then acc ++ [w] else acc) := by
  cases b with
  | false => simp only [compF, hc, Bool.false_eq_true, if_false]
  | true => simp only [compF, hc, he rfl, hl, if_true]
theorem lst_dct {o : Option AO} {p : Option Nat × List (AV × AV)} (e : dct o = some p) : lst o = none := by
  cases o with
  | none => cases e
  | some o => cases o <;> first | rfl | cases e
theorem src_dict {h : Hp} {t ep : Nat} {es : List (AV × AV)} (e : dct h[t]? = some (some ep, es)) : srcA h (.ref t) = some (.dict t ep es.length) := by
  show (match lst h[t]? with | some xs => some (Src.list t xs.length) | none => (match dct h[t]? with | some p => p.1.map fun ep => Src.dict t ep p.2.length | none => none)) = _
  rw [lst_dct e, e]; rfl
theorem getD_eq {h : Hp} {t ep : Nat} {es : List (AV × AV)} (e : dct h[t]? = some (some ep, es)) : getD t ep es.length h = some (es.map (·.1)) := by
  unfold getD
  rw [e]
  exact if_pos ⟨rfl, rfl⟩
/-- a comprehension over a dict's keys -/
theorem comp_dict {α : Type} {cs : Hp → Vs → Out Bool} {el : Hp → Vs → Out AV} {x : Nat} {vs : Vs} {h : Hp} {t ep : Nat} (l : List α) (κ f : α → AV) (e : dct h[t]? = some (some ep, l.map fun a => (κ a, f a))) (hl : l.length ≤ 100000) (p : α → Bool) (g : α → AV) (hc : ∀ a ∈ l, cs h (vs.set x (some (κ a))) = .ok (p a) h)
    (he : ∀ a ∈ l, p a = true → el h (vs.set x (some (κ a))) = .ok (g a) h) : compE (srcA h (.ref t)) (compF cs el x vs) h = .ok (.ref h.length) (h ++ [.list ((l.filter p).map g)]) := by
  have lim1 : (100000 : Nat) ≤ lim := by decide
  have gd := getD_eq e
  have sd := src_dict e
  rw [List.length_map] at gd sd
  rw [List.map_map] at gd
  have key := iterR_pure (ρ := Out AV) (bad := Out.fail) (κ := κ) (get := fun st => getD t ep l.length st.1) (f := compF cs el x vs) p g h (l := l) (fun acc => gd) (fun v hv acc ha => compF_pure (hc v hv) (he v hv) acc ha) l.length 0 [] (by lia  ) (by simp; lia  )
  rw [sd]
  simp only [compE, iter]
  rw [key]
  simp only [List.drop_zero, List.nil_append]
  exact if_pos (by rw [List.length_map]; exact Nat.le_trans (List.length_filter_le _ _) (by omega))
/-- a comprehension over a list -/
theorem comp_list {α : Type} {cs : Hp → Vs → Out Bool} {el : Hp → Vs → Out AV} {x : Nat} {vs : Vs} {h : Hp} {t : Nat} (l : List α) (κ : α → AV) (e : h[t]? = some (.list (l.map κ))) (hl : l.length ≤ 100000) (p : α → Bool) (g : α → AV) (hc : ∀ a ∈ l, cs h (vs.set x (some (κ a))) = .ok (p a) h)
    (he : ∀ a ∈ l, p a = true → el h (vs.set x (some (κ a))) = .ok (g a) h) : compE (srcA h (.ref t)) (compF cs el x vs) h = .ok (.ref h.length) (h ++ [.list ((l.filter p).map g)]) := by
  have lim1 : (100000 : Nat) ≤ lim := by decide
  have sd := src_list e
  rw [List.length_map] at sd
  have key := iterR_pure (ρ := Out AV) (bad := Out.fail) (κ := κ) (get := fun st => getL t st.1) (f := compF cs el x vs) p g h (l := l) (fun acc => getL_eq e) (fun v hv acc ha => compF_pure (hc v hv) (he v hv) acc ha) l.length 0 [] (by omega) (by simp; omega)
  rw [sd]
  simp only [compE, iter]
  rw [key]
  simp only [List.drop_zero, List.nil_append]
  exact if_pos (by rw [List.length_map]; exact Nat.le_trans (List.length_filter_le _ _) (by lia  ))
/-- all of a tuple -/
theorem comp_fix {α : Type} {C : Cx} {el : Hp → Vs → Out AV} {x : Nat} {vs : Vs} {h : Hp} (l : List α) (κ : α → AV) (hl : l.length ≤ 100000) (g : α → AV) (he : ∀ a ∈ l, el h (vs.set x (some (κ a))) = .ok (g a) h) :
    compE (some (.fixed (l.map κ))) (compF (evConds C []) el x vs) h = .ok (.ref h.length) (h ++ [.list (l.map g)]) := by
  have lim1 : (100000 : Nat) ≤ lim := by decide
  have key : ∀ (l : List α) (acc : List AV), (∀ a ∈ l, el h (vs.set x (some (κ a))) = .ok (g a) h) → acc.length + l.length ≤ lim → iterL (compF (evConds C []) el x vs) (l.map κ) (h, acc) = .go (h, acc ++ l.map g) := by
    intro l
    induction l with
    | nil => intro acc _ _; rw [List.map_nil, List.map_nil, List.append_nil]; rfl
    | cons a r ih =>
      intro acc q hl
      rw [List.length_cons] at hl
      rw [List.map_cons, iterL, compF_pure (b := true) rfl (fun _ => q a (by simp)) acc (by lia  )]
      simp only [if_true]
      rw [ih _ (fun a ha => q a (by simp [ha])) (by rw [List.length_append]; simp; lia  ), List.map_cons, List.append_assoc]
      rfl
  simp only [compE, iter]
  rw [key l [] he (by simp; omega)]
  exact if_pos (by rw [List.nil_append, List.length_map]; lia  )
/-! ### the shelf -/
noncomputable def ddE (dd : Txt1 → Nat) (NM : List Txt1) : List (AV × AV) := NM.map fun x => (.str x, .ref (dd x))
noncomputable def vE (T : List Txt1) (l : List Rw) : List (AV × AV) := l.map fun q => (.int q.ver, .tup (q.parts.map fun p => .int (posT T p)))
noncomputable def byN (R : List Rw) (x : Txt1) : List Rw := R.filter fun r => decide (r.name = x)
structure Sh (h : Hp) (o w r B : Nat) (R : List Rw) (T NM : List Txt1) (dd : Txt1 → Nat) : Prop where
  inst : h[o]? = some (.inst 1 [none, none, none, none, some (.int w), some (.int r), some (.ref (o + 1)), some (.ref (o + 5)), some (.ref (o + 6))])
  st : St h o T (cT R)
  rows : ∃ ep, h[o + 5]? = some (.dict (some ep) (ddE dd NM))
  last : ∃ ep, h[o + 6]? = some (.dict ep (givE R NM))
  inner : ∀ x ∈ NM, B ≤ dd x ∧ ∃ ep, h[dd x]? = some (.dict ep (vE T (byN R x)))
  inj : ∀ x ∈ NM, ∀ y ∈ NM, dd x = dd y → x = y
variable {n : Nat} {h : Hp} {o w r B : Nat} {R : List Rw} {T NM : List Txt1} {dd : Txt1 → Nat}
theorem Sh.keep {S : Nat → Prop} {h' : Hp} (s : Sh h o w r B R T NM dd) (K : Kg S h h') (q : ∀ l, o ≤ l → l ≤ o + 6 → ¬ S l) (q' : ∀ x ∈ NM, ¬ S (dd x)) : Sh h' o w r B R T NM dd := by
  obtain ⟨e1, k1⟩ := s.rows
  obtain ⟨e2, k2⟩ := s.last
  refine ⟨K.get s.inst (q _ (by lia  ) (by lia  )), s.st.keep K fun l hl => q l (by have := hl.1; lia  ) (by have := hl.2; lia  ), ⟨e1, K.get k1 (q _ (by lia  ) (by lia  ))⟩, ⟨e2, K.get k2 (q _ (by omega) (by lia  ))⟩, fun x hx => ?_, s.inj⟩
  obtain ⟨z, ep, e⟩ := s.inner x hx
  exact ⟨z, ep, K.get e (q' x hx)⟩
theorem len_dict {k : Nat} {ep : Option Nat} {es : List (AV × AV)} (e : h[k]? = some (.dict ep es)) : biA .len [.ref k] h = .ok (.int es.length) h := by
  have e0 : listAt h (.ref k) = none := by show lst h[k]? = none; rw [e]; rfl
  show (match listAt h (.ref k) with | some xs => Out.ok (AV.int xs.length) h | none => (match dictAt h (.ref k) with | some p => .ok (.int p.2.length) h | none => .fail)) = _
  rw [e0, dictAt_of e]
theorem Sh.idx (s : Sh h o w r B R T NM dd) {x : Txt1} (hx : x ∈ NM) : idxA (.ref (o + 5)) (.str x) h = some (.ref (dd x)) := by
  obtain ⟨ep, e⟩ := s.rows
  rw [idx_dict e rfl]
  unfold ddE
  rw [dget_str, if_pos hx]
theorem Sh.len (s : Sh h o w r B R T NM dd) {x : Txt1} (hx : x ∈ NM) : biA .len [.ref (dd x)] h = .ok (.int (cN R x)) h := by
  obtain ⟨_, ep, e⟩ := s.inner x hx
  rw [len_dict e]
  unfold vE byN cN
  rw [List.length_map]
theorem sum_le : ∀ (l : List Txt1) (f : Txt1 → Int) (m : Nat), (∀ x ∈ l, f x ≤ m) → (l.map f).sum ≤ l.length * m
  | [], _, _, _ => by simp
  | a :: r, f, m, q => by
    have h1 := q a (by simp)
    have h2 := sum_le r f m fun x hx => q x (by simp [hx])
    rw [List.map_cons, List.sum_cons, List.length_cons, Int.natCast_add, Int.add_mul]
    lia  
theorem versions_is (s : Sh h o w r B R T NM dd) (k : Rok R T NM) (hR : R.length ≤ 6) : ∃ i xs, callF prog (n + 1) 19 [.ref o] h = .ok (.int i) (h ++ xs) ∧ i < 100 := by
  rw [callF_def (fn := fn_Shelf_many_versions) rfl rfl rfl]
  have a7 := attr_at (a := 7) (v := .ref (o + 5)) s.inst rfl
  obtain ⟨ep, e⟩ := s.rows
  have nl := k.nlen
  have c := comp_dict (cs := evConds ⟨prog, callF prog n⟩ []) (el := ev ⟨prog, callF prog n⟩ (.bi .len [.idx (.attr (.var 0) 7) (.var 1)])) (x := 1) (vs := [some (.ref o), none]) NM (fun x => .str x) (fun x => .ref (dd x)) (show dct h[o + 5]? = some (some ep, ddE dd NM) by rw [e]; rfl) (by lia  ) (fun _ => true) (fun x => .int (cN R x)) (fun _ _ => rfl) (fun x hx _ => by
    simp [a7, s.idx hx, s.len hx])
  rw [List.filter_eq_self.mpr fun _ _ => rfl] at c
  have sm : biA .sum [.ref h.length] (h ++ [.list (NM.map fun x => .int (cN R x))]) = .ok (.int (NM.map fun x => (cN R x : Int)).sum) (h ++ [.list (NM.map fun x => .int (cN R x))]) := by
    show (match (listAt (h ++ [AO.list (NM.map fun x => AV.int (cN R x))]) (.ref h.length)).bind intsA with | some ns => Out.ok (AV.int ns.sum) _ | none => .fail) = _
    rw [listAt_of (get_new _ _), Option.bind_some]
    unfold intsA
    rw [asInt_map]
  have bd := sum_le NM (fun x => (cN R x : Int)) 6 fun x _ => by have := cN_le R x; lia  
  refine ⟨_, [.list (NM.map fun x => .int (cN R x))], ?_, (by lia   : (NM.map fun x => (cN R x : Int)).sum < 100)⟩
  simp [fn_Shelf_many_versions, a7, c, sm]
end Mine.PL

/-! Law 06, plain: the pieces are needed (typed by hand). -/
set_option Elab.async false
namespace Mine.PL
variable {n : Nat} {h : Hp} {o w r B : Nat} {R : List Rw} {T NM : List Txt1} {dd : Txt1 → Nat}
noncomputable abbrev bPut : List MS := [.ifs (.cmp (.var 5) .notin (.var 4)) [.setItem (.var 4) (.var 5) (.meth (.attr (.var 0) 6) 2 [.var 5])] [],
    .expr (.bm .append (.var 3) [.idx (.var 4) (.var 5)])]
noncomputable def addC (c : Txt1 → Int) (ps : List Txt1) : Txt1 → Int := fun x => if x ∈ ps then c x + 1 else c x
theorem addC_old {c : Txt1 → Int} {ps : List Txt1} {i : Nat} {p : Txt1} (e : ps[i]? = some p) (q : p ∈ ps.take i) : addC c (ps.take (i + 1)) = addC c (ps.take i) := by
  funext x
  unfold addC
  rw [List.take_add_one, e]
  have : x ∈ ps.take i ++ (some p).toList ↔ x ∈ ps.take i := by
    rw [List.mem_append]
    exact ⟨fun z => z.elim id fun z => by rw [List.mem_singleton.mp z]; exact q, .inl⟩
  simp only [this]
theorem addC_new {c : Txt1 → Int} {ps : List Txt1} {i : Nat} {p : Txt1} (e : ps[i]? = some p) (q : p ∉ ps.take i) : bump (addC c (ps.take i)) p = addC c (ps.take (i + 1)) := by
  funext x
  unfold addC bump
  rw [List.take_add_one, e]
  by_cases z : x = p
  · subst z
    have : x ∈ ps.take i ++ (some x).toList := List.mem_append.mpr (.inr (List.mem_singleton.mpr rfl))
    simp only [if_true, if_neg q, if_pos this]
  · have : x ∈ ps.take i ++ (some p).toList ↔ x ∈ ps.take i := by
      rw [List.mem_append]
      exact ⟨fun y => y.elim id fun y => absurd (List.mem_singleton.mp y) z, .inl⟩
    rw [if_neg z]
    simp only [this]
theorem put_loop {c : Txt1 → Int} {fs : List (Option AV)} {nm tx : AV} {a1 a2 a3 : Nat} {ps : List Txt1} (hi : h[o]? = some (.inst 1 fs)) (hf : fs[6]? = some (some (.ref (o + 1)))) (S : St h o T c) (nd : T.Nodup) (hT : T.length + ps.length < 99000) (hc : ∀ t, t ∉ T → c t = 0)
    (h1 : h[a1]? = some (.list [])) (h2 : h[a2]? = some (.dict (some 0) [])) (h3 : h[a3]? = some (.list (txtV ps))) (l1 : o + 7 ≤ a1) (l2 : o + 7 ≤ a2) (l3 : o + 7 ≤ a3) (n12 : a1 ≠ a2) (n13 : a1 ≠ a3) (n23 : a2 ≠ a3) :
    ∃ h' y, loopS (srcA h (.ref a3)) (turn ⟨prog, callF prog (n + 1)⟩ 5 bPut) (h, [some (.ref o), some nm, some tx, some (.ref a1), some (.ref a2), none, none]) = .next h' [some (.ref o), some nm, some tx, some (.ref a1), some (.ref a2), y, none] ∧
      Kg (fun l => inSt o l ∨ l = a1 ∨ l = a2) h h' ∧ St h' o (addT T ps) (addC c ps) ∧ h'[a1]? = some (.list (ps.map fun p => .int (posT (addT T ps) p))) := by
  obtain ⟨ν, hν⟩ : ∃ ν, ν = posT (addT T ps) := ⟨_, rfl⟩
  obtain ⟨h', vs', e, K, S', r1, _, _, y, rfl⟩ := loop_list (C := ⟨prog, callF prog (n + 1)⟩) (x := 5) (body := bPut) (vs := [some (.ref o), some nm, some tx, some (.ref a1), some (.ref a2), none, none]) h3
    (fun i h' vs => Kg (fun l => inSt o l ∨ l = a1 ∨ l = a2) h h' ∧ St h' o (addT T (ps.take i)) (addC c (ps.take i)) ∧ h'[a1]? = some (.list ((ps.take i).map fun p => .int (ν p))) ∧ (∃ ep, h'[a2]? = some (.dict ep ((addT [] (ps.take i)).map fun p => (.str p, .int (ν p))))) ∧ h'[a3]? = some (.list (txtV ps)) ∧
      ∃ y, vs = [some (.ref o), some nm, some tx, some (.ref a1), some (.ref a2), y, none])
    (fun i h' vs j => j.2.2.2.2.1) ⟨Kg.refl _ _, (by
      have : addC c (ps.take 0) = c := by funext x; unfold addC; simp
      rw [this]; exact S), h1, ⟨some 0, h2⟩, h3, none, rfl⟩ (by
    rintro i v h' _ hv ⟨K, S', r1, ⟨ep, k1⟩, s1, y, rfl⟩
    rw [List.getElem?_map] at hv
    cases z : ps[i]? with
    | none => rw [z] at hv; cases hv
    | some p =>
      rw [z] at hv
      cases hv
      have hip := (List.getElem?_eq_some_iff.mp z).1
      have mp : p ∈ addT T (ps.take (i + 1)) := mem_addT.mpr (.inr (by rw [List.take_add_one, z]; simp))
      have vp : posT (addT T (ps.take (i + 1))) p = ν p := by rw [hν]; exact pos_take mp
      have ll : ((ps.take i).map fun p => AV.int (ν p)).length < lim := by
        rw [List.length_map, List.length_take]
        have : 99000 < lim := by decide
        lia  
      have tk : ps.take (i + 1) = ps.take i ++ [p] := by rw [List.take_add_one, z]; rfl
      have hiK := K.get hi (by have : ¬ inSt o o := by unfold inSt; lia  
                               lia  )
      have nn := notin_dict (v := .str p) k1 rfl
      rw [dget_str] at nn
      by_cases q : p ∈ ps.take i
      · rw [if_pos (mem_addT.mpr (.inr q))] at nn
        have e1 : addT T (ps.take (i + 1)) = addT T (ps.take i) := by rw [addT_succ z, addt_mem (mem_addT.mpr (.inr q))]
        have e2 : addT [] (ps.take (i + 1)) = addT [] (ps.take i) := by rw [addT_succ z, addt_mem (mem_addT.mpr (.inr q))]
        rw [e1, e2, addC_old z q]
        have ix := idx_dict (v := .str p) k1 rfl
        rw [dget_str, if_pos (mem_addT.mpr (.inr q))] at ix
        have kd := kd_append h' r1
        have ap := append_list h' r1 ll (.int (ν p))
        refine ⟨h'.set a1 (.list ((ps.take i).map (fun p => .int (ν p)) ++ [.int (ν p)])), [some (.ref o), some nm, some tx, some (.ref a1), some (.ref a2), some (.str p), none], by simp [nn, kd, ix, ap, -List.map_take], K.trans (Kg.set _ _ _ (.inr (.inl rfl))), S'.keep (Kg.set (S := fun l => l = a1) _ _ _ rfl) (by unfold inSt; lia  ), ?_, ⟨ep, (get_ne n12).trans k1⟩, (get_ne n13).trans s1, _, rfl⟩
        rw [get_eq r1, tk, List.map_append]; rfl
      · have q' : p ∉ addT [] (ps.take i) := fun z => q ((mem_addT.mp z).elim (fun y => by cases y) id)
        rw [if_neg q'] at nn
        have a6 := attr_at (a := 6) (v := .ref (o + 1)) hiK hf
        have mt := meth_at (m := 2) (f := 10) S'.inst rfl
        have ln := addT_len (ps.take i) T
        rw [List.length_take] at ln
        obtain ⟨h4, e4, S4, K4⟩ := need_is (n := n) S' (addT_nodup _ _ nd) (by lia  ) p (fun z => by
          have z1 : p ∉ T := fun y => z (mem_addT.mpr (.inl y))
          unfold addC
          rw [if_neg q]; exact hc p z1)
        rw [← addT_succ z, addC_new z q] at S4
        rw [← addT_succ z, vp] at e4
        have r4 := K4.get r1 (by unfold inSt; lia  )
        have k4 := K4.get k1 (by unfold inSt; lia  )
        have s4 := K4.get s1 (by unfold inSt; lia  )
        have K4' := K.trans (K4.mono (S' := fun l => inSt o l ∨ l = a1 ∨ l = a2) fun l _ z => .inl z)
        have st := set_dict (i := .str p) (v := .int (ν p)) k4 rfl (by
          rw [List.length_map]
          have := addT_len (ps.take i) []
          rw [List.length_take] at this
          have : 99000 < lim := by decide
          simp only [List.length_nil] at *
          lia  )
        have dp : dput ((addT [] (ps.take i)).map fun p => (AV.str p, AV.int (ν p))) (.str p) (.int (ν p)) = (addT [] (ps.take (i + 1))).map fun p => (AV.str p, AV.int (ν p)) := by
          rw [dput_str _ _ (addT_nodup _ _ List.nodup_nil), ← addT_succ z]
          apply List.map_congr_left
          intro x _
          split
          · rw [‹x = p›]
          · rfl
        rw [dp] at st
        generalize (if (dget ((addT [] (ps.take i)).map fun p => (AV.str p, AV.int (ν p))) (.str p)).isSome then ep else ep.map (· + 1)) = ep' at st
        generalize hX : AO.dict ep' ((addT [] (ps.take (i + 1))).map fun p => (AV.str p, AV.int (ν p))) = X at st
        have k5 := get_eq (x := X) k4
        have r5 := (get_ne (h := h4) (l := a2) (x := X) (Ne.symm n12)).trans r4
        have s5 := (get_ne (h := h4) (l := a2) (x := X) n23).trans s4
        have K5 := K4'.trans (Kg.set h4 a2 X (.inr (.inr rfl)))
        have S5 := S4.keep (Kg.set (S := fun l => l = a2) h4 a2 X rfl) (by unfold inSt; lia  )
        generalize h4.set a2 X = h5 at st k5 r5 s5 K5 S5
        rw [← hX] at k5
        have ix := idx_dict (v := .str p) k5 rfl
        rw [dget_str, if_pos (mem_addT.mpr (.inr (by rw [tk]; simp)))] at ix
        have kd := kd_append h5 r5
        have ap := append_list h5 r5 ll (.int (ν p))
        refine ⟨h5.set a1 (.list ((ps.take i).map (fun p => .int (ν p)) ++ [.int (ν p)])), [some (.ref o), some nm, some tx, some (.ref a1), some (.ref a2), some (.str p), none], by simp [nn, a6, mt, e4, st, kd, ix, ap, -List.map_take], K5.trans (Kg.set _ _ _ (.inr (.inl rfl))), S5.keep (Kg.set (S := fun l => l = a1) _ _ _ rfl) (by unfold inSt; lia  ), ?_, ⟨ep', (get_ne n12).trans k5⟩, (get_ne n13).trans s5, _, rfl⟩
        rw [get_eq r5, tk, List.map_append]; rfl)
  rw [List.length_map, List.take_length] at S' r1
  rw [hν] at r1
  exact ⟨h', y, e, K, S', r1⟩
end Mine.PL

/-! Law 06, plain: put (typed by hand). -/
set_option Elab.async false
namespace Mine.PL
variable {n : Nat} {h : Hp} {o w r B : Nat} {R : List Rw} {T NM : List Txt1} {dd : Txt1 → Nat}
theorem Kg.trans' {S S' : Nat → Prop} {a b c : Hp} (x : Kg S a b) (y : Kg S' b c) (q : ∀ l, l < a.length → S' l → S l) : Kg S a c := ⟨Nat.le_trans x.1 y.1, fun l hl z => (y.2 l (Nat.lt_of_lt_of_le hl x.1) fun z' => z (q l hl z')).trans (x.2 l hl z)⟩
theorem new_dict (C : Cx) (vs : Vs) : ev C (.dict []) h vs = .ok (.ref h.length) (h ++ [.dict (some 0) []]) := by
  show putDict h.length [] (h ++ [.dict (some 0) []]) = _
  unfold putDict emptyAt
  rw [get_new]
  rfl
theorem setd_old {k : Nat} {ep : Option Nat} {es : List (AV × AV)} {i v d : AV} (e : h[k]? = some (.dict ep es)) (q : isKey i = true) (l : es.length < lim) (g : dget es i = some v) : bmA .setdefault (.ref k) [i, d] h = .ok v h := by
  show (match dct h[k]? with | some p => if isKey i && decide (p.2.length < lim) then (match dget p.2 i with | some v => Out.ok v h | none => .ok d (h.set k (.dict (p.1.map (· + 1)) (dput p.2 i d)))) else .fail | none => .fail) = _
  rw [e]
  simp only [dct, q, Bool.true_and, decide_eq_true l, if_true, g]
theorem setd_new {k : Nat} {ep : Option Nat} {es : List (AV × AV)} {i d : AV} (e : h[k]? = some (.dict ep es)) (q : isKey i = true) (l : es.length < lim) (g : dget es i = none) : bmA .setdefault (.ref k) [i, d] h = .ok d (h.set k (.dict (ep.map (· + 1)) (dput es i d))) := by
  show (match dct h[k]? with | some p => if isKey i && decide (p.2.length < lim) then (match dget p.2 i with | some v => Out.ok v h | none => .ok d (h.set k (.dict (p.1.map (· + 1)) (dput p.2 i d)))) else .fail | none => .fail) = _
  rw [e]
  simp only [dct, q, Bool.true_and, decide_eq_true l, if_true, g]
theorem vE_pre {ps : List Txt1} {l : List Rw} (q : ∀ r ∈ l, ∀ p ∈ r.parts, p ∈ T) : vE (addT T ps) l = vE T l := by
  unfold vE
  apply List.map_congr_left
  intro r hr
  congr 2
  apply List.map_congr_left
  intro p hp
  rw [pos_addT (q r hr p hp)]
theorem byN_add (R : List Rw) (q : Rw) (x : Txt1) : byN (R ++ [q]) x = if x = q.name then byN R x ++ [q] else byN R x := by
  unfold byN
  rw [List.filter_append]
  by_cases z : q.name = x
  · rw [if_pos z.symm, List.filter_cons_of_pos (by simpa using z)]; rfl
  · rw [if_neg (Ne.symm z), List.filter_cons_of_neg (by simpa using z)]; simp
theorem byN_mem {R : List Rw} {x : Txt1} {q : Rw} (z : q ∈ byN R x) : q ∈ R ∧ q.name = x := by
  have := List.mem_filter.mp z
  exact ⟨this.1, by simpa using this.2⟩
/-- what a new version may change -/
noncomputable abbrev inPut (h : Hp) (o B : Nat) (l : Nat) : Prop := (o + 1 ≤ l ∧ l ≤ o + 6) ∨ (B ≤ l ∧ ∃ ep es, h[l]? = some (.dict ep es))
/-- the version is written: place d of the name -/
theorem put_tail {c : Txt1 → Int} {x : Txt1} {tx : AV} {a1 a2 : Nat} {ps : List Txt1} (k : Rok R T NM) (hi : h[o]? = some (.inst 1 [none, none, none, none, some (.int w), some (.int r), some (.ref (o + 1)), some (.ref (o + 5)), some (.ref (o + 6))])) (hB : o + 7 ≤ B) (hBl : B ≤ h.length)
    (hR : R.length ≤ 6) (hp : ps.length ≤ 402) (S : St h o (addT T ps) c) (rows : ∃ ep, h[o + 5]? = some (.dict (some ep) (ddE dd NM))) (last : ∃ ep, h[o + 6]? = some (.dict ep (givE R NM))) (inner : ∀ x ∈ NM, B ≤ dd x ∧ ∃ ep, h[dd x]? = some (.dict ep (vE T (byN R x)))) (inj : ∀ x ∈ NM, ∀ y ∈ NM, dd x = dd y → x = y)
    (h1 : h[a1]? = some (.list (ps.map fun p => .int (posT (addT T ps) p)))) (l1 : o + 7 ≤ a1) (y : Option AV) (a : Nat) (hc : c = cT (R ++ [⟨x, cN R x + 1, ps, a⟩])) :
    ∃ h' dd', exs ⟨prog, callF prog n⟩ (fn_Shelf_put.body.drop 5) h [some (.ref o), some (.str x), some tx, some (.ref a1), some (.ref a2), y, none] = .ret (.int ((cN R x : Int) + 1)) h' ∧
      Sh h' o w r B (R ++ [⟨x, cN R x + 1, ps, a⟩]) (addT T ps) (addt NM x) dd' ∧ Kg (inPut h o B) h h' := by
  have lim1 : 1000 < lim := by decide
  have nl := k.nlen
  obtain ⟨e6, v0⟩ := last
  obtain ⟨e5, r0⟩ := rows
  -- last
  have a8 := attr_at (a := 8) (v := .ref (o + 6)) hi rfl
  have kd := kd_get v0
  have gt := get_dict (v := .str x) (d := .int 0) v0 rfl
  rw [givE_get k] at gt
  have s1 := set_dict (i := .str x) (v := .int ((cN R x : Int) + 1)) v0 rfl (by unfold givE; rw [List.length_map]; lia  )
  rw [givE_add k ⟨x, cN R x + 1, ps, a⟩] at s1
  generalize (if (dget (givE R NM) (.str x)).isSome then e6 else e6.map (· + 1)) = e7 at s1
  generalize hX : AO.dict e7 (givE (R ++ [⟨x, cN R x + 1, ps, a⟩]) (addt NM x)) = X at s1
  have v1 := get_eq (x := X) v0
  have K1 : Kg (inPut h o B) h (h.set (o + 6) X) := Kg.set h (o + 6) X (.inl ⟨by lia  , by lia  ⟩)
  have i1 := (get_ne (h := h) (l := o + 6) (x := X) (by lia  )).trans hi
  have r1 := (get_ne (h := h) (l := o + 6) (x := X) (by lia  )).trans r0
  have w1 := (get_ne (h := h) (l := o + 6) (x := X) (by lia  )).trans h1
  have S1 := S.keep (Kg.set (S := fun l => l = o + 6) h (o + 6) X rfl) (by unfold inSt; lia  )
  have in1 : ∀ x ∈ NM, B ≤ dd x ∧ ∃ ep, (h.set (o + 6) X)[dd x]? = some (.dict ep (vE T (byN R x))) := fun x hx => by
    obtain ⟨z, ep, e⟩ := inner x hx
    exact ⟨z, ep, (get_ne (by lia  )).trans e⟩
  have len1 : (h.set (o + 6) X).length = h.length := List.length_set ..
  generalize h.set (o + 6) X = h1 at s1 v1 K1 i1 r1 w1 S1 in1 len1
  -- the new dict
  have a7 := attr_at (a := 7) (v := .ref (o + 5)) i1 rfl
  have kd1 := kd_setd r1
  have nd := new_dict (h := h1) ⟨prog, callF prog n⟩ [some (.ref o), some (.str x), some tx, some (.ref a1), some (.ref a2), y, some (.int ((cN R x : Int) + 1))]
  have G2 : Grow h1 (h1 ++ [.dict (some 0) []]) := Grow.app _ _
  have d2 := get_new h1 (.dict (some 0) [])
  have len2 : (h1 ++ [AO.dict (some 0) []]).length = h1.length + 1 := by simp
  generalize h1 ++ [AO.dict (some 0) []] = h2 at nd G2 d2 len2
  have i2 := G2.get i1
  have r2 := G2.get r1
  have v2 := G2.get v1
  have w2 := G2.get w1
  have S2 := S1.keep (S := fun _ => False) (Kg.of G2) (fun _ _ => id)
  have K2 := K1.trans (Kg.of G2)
  have in2 : ∀ x ∈ NM, B ≤ dd x ∧ dd x < h1.length ∧ ∃ ep, h2[dd x]? = some (.dict ep (vE T (byN R x))) := fun x hx => by
    obtain ⟨z, ep, e⟩ := in1 x hx
    exact ⟨z, (List.getElem?_eq_some_iff.mp e).1, ep, G2.get e⟩
  clear v0 r0 G2 S S1 v1 r1 w1 in1
  have lr : (ddE dd NM).length < lim := by unfold ddE; rw [List.length_map]; lia  
  -- the version itself, at place d
  have fin : ∀ (h3 : Hp) (dd' : Txt1 → Nat) (ev5 : Nat), Kg (inPut h o B) h h3 → h3[o]? = some (.inst 1 [none, none, none, none, some (.int w), some (.int r), some (.ref (o + 1)), some (.ref (o + 5)), some (.ref (o + 6))]) → h3[o + 5]? = some (.dict (some ev5) (ddE dd' (addt NM x))) → h3[o + 6]? = some X →
      h3[a1]? = some (.list (ps.map fun p => .int (posT (addT T ps) p))) → St h3 o (addT T ps) c → (∀ y ∈ addt NM x, B ≤ dd' y ∧ ∃ ep, h3[dd' y]? = some (.dict ep (vE T (byN R y)))) → (∀ x' ∈ addt NM x, ∀ y ∈ addt NM x, dd' x' = dd' y → x' = y) → (dd' x < h.length → ∃ ep es, h[dd' x]? = some (.dict ep es)) →
      ∃ h', exs ⟨prog, callF prog n⟩ (fn_Shelf_put.body.drop 8) h3 [some (.ref o), some (.str x), some tx, some (.ref a1), some (.ref a2), y, some (.int ((cN R x : Int) + 1))] = .ret (.int ((cN R x : Int) + 1)) h' ∧ Sh h' o w r B (R ++ [⟨x, cN R x + 1, ps, a⟩]) (addT T ps) (addt NM x) dd' ∧ Kg (inPut h o B) h h' := by
    intro h3 dd' ev5 K3 i3 r3 v3 w3 S3 in3 inj3 old
    have mx : x ∈ addt NM x := mem_addt.mpr (.inr rfl)
    obtain ⟨zB, ep, e⟩ := in3 x mx
    have a7 := attr_at (a := 7) (v := .ref (o + 5)) i3 rfl
    have ix := idx_dict (v := .str x) r3 rfl
    have gx : dget (ddE dd' (addt NM x)) (.str x) = some (.ref (dd' x)) := by unfold ddE; rw [dget_str, if_pos mx]
    rw [gx] at ix
    have tu : biA .tuple [.ref a1] h3 = .ok (.tup (ps.map fun p => .int (posT (addT T ps) p))) h3 := by
      show (match listAt h3 (.ref a1) with | some xs => if xs.length ≤ lim then Out.ok (AV.tup xs) h3 else .fail | none => .fail) = _
      rw [listAt_of w3]
      exact if_pos (by rw [List.length_map]; lia  )
    have bl : (vE T (byN R x)).length < lim := by
      unfold vE byN
      rw [List.length_map]
      have := cN_le R x
      unfold cN at this
      lia  
    have st := set_dict (i := .int ((cN R x : Int) + 1)) (v := .tup (ps.map fun p => .int (posT (addT T ps) p))) e rfl bl
    have dp : dput (vE T (byN R x)) (.int ((cN R x : Int) + 1)) (.tup (ps.map fun p => .int (posT (addT T ps) p))) = vE (addT T ps) (byN (R ++ [⟨x, cN R x + 1, ps, a⟩]) x) := by
      rw [byN_add, if_pos rfl]
      have e1 := vE_pre (T := T) (ps := ps) (l := byN R x) fun r hr => k.parts r (byN_mem hr).1
      rw [← e1]
      unfold vE
      rw [dput_no, List.map_append]
      · rw [List.map_cons, Int.natCast_add]; rfl
      · intro q hq
        cases z : keq (.int q.ver) (.int ((cN R x : Int) + 1)) with
        | false => rfl
        | true =>
          have z := (keq_int _ _).mp z
          obtain ⟨q1, q2⟩ := byN_mem hq
          have := (k.ver q q1).2
          rw [q2] at this
          lia  
    rw [dp] at st
    generalize (if (dget (vE T (byN R x)) (.int ((cN R x : Int) + 1))).isSome then ep else ep.map (· + 1)) = ep' at st
    have ne : ∀ l, l ≤ o + 6 → dd' x ≠ l := fun l hl z => by lia  
    refine ⟨_, by simp [fn_Shelf_put, tu, a7, ix, st]; rfl, ⟨(get_ne (ne _ (by lia  ))).trans i3, ?_, ⟨ev5, (get_ne (ne _ (by lia  ))).trans r3⟩, ⟨e7, (get_ne (ne _ (by lia  ))).trans (v3.trans (by rw [hX]))⟩, fun z hz => ?_, inj3⟩, K3.trans' (Kg.set (S := fun l => l = dd' x) h3 (dd' x) _ rfl) fun l hl z => .inr ?_⟩
    · rw [← hc]; exact S3.keep (Kg.set (S := fun l => l = dd' x) h3 (dd' x) _ rfl) (by unfold inSt; lia  )
    · by_cases zx : z = x
      · subst zx; exact ⟨zB, ep', get_eq e⟩
      · obtain ⟨y1, ep2, y2⟩ := in3 z hz
        refine ⟨y1, ep2, (get_ne fun q => zx (inj3 z hz x mx q.symm)).trans ?_⟩
        rw [byN_add, if_neg zx, vE_pre fun r hr => k.parts r (byN_mem hr).1]; exact y2
    · subst z; exact ⟨zB, old hl⟩
  have sp : fn_Shelf_put.body.drop 5 = (fn_Shelf_put.body.drop 5).take 3 ++ fn_Shelf_put.body.drop 8 := rfl
  rw [sp, exs_append]
  by_cases q : x ∈ NM
  · have sd := setd_old (i := .str x) (v := .ref (dd x)) (d := .ref h1.length) r2 rfl lr (by unfold ddE; rw [dget_str, if_pos q])
    have ea : exs ⟨prog, callF prog n⟩ ((fn_Shelf_put.body.drop 5).take 3) h [some (.ref o), some (.str x), some tx, some (.ref a1), some (.ref a2), y, none] = .next h2 [some (.ref o), some (.str x), some tx, some (.ref a1), some (.ref a2), y, some (.int ((cN R x : Int) + 1))] := by
      simp [fn_Shelf_put, a8, kd, gt, s1, a7, kd1, nd, sd, -ev_dict]
    obtain ⟨h', e', F, K⟩ := fin h2 dd e5 K2 i2 (by rw [addt_mem q]; exact r2) v2 w2 S2 (by rw [addt_mem q]; exact fun y hy => ⟨(in2 y hy).1, (in2 y hy).2.2⟩) (by rw [addt_mem q]; exact inj) (fun _ => by
      obtain ⟨_, ep, e⟩ := inner x q
      exact ⟨_, _, e⟩)
    exact ⟨h', dd, by rw [ea, seqS_next, e'], F, K⟩
  · have sd := setd_new (i := .str x) (d := .ref h1.length) r2 rfl lr (by unfold ddE; rw [dget_str, if_neg q])
    obtain ⟨dd', hd'⟩ : ∃ dd' : Txt1 → Nat, dd' = fun y => if y = x then h1.length else dd y := ⟨_, rfl⟩
    have dx : dd' x = h1.length := by rw [hd']; exact if_pos rfl
    have dy : ∀ y ∈ NM, dd' y = dd y := fun y hy => by rw [hd']; exact if_neg (fun e : y = x => q (e ▸ hy))
    have dp : dput (ddE dd NM) (.str x) (.ref h1.length) = ddE dd' (addt NM x) := by
      unfold ddE
      rw [dput_str _ NM k.ndN, hd']
      apply List.map_congr_left
      intro y _
      show (AV.str y, if y = x then AV.ref h1.length else AV.ref (dd y)) = (AV.str y, AV.ref (if y = x then h1.length else dd y))
      split <;> rfl
    rw [dp] at sd
    have ea : exs ⟨prog, callF prog n⟩ ((fn_Shelf_put.body.drop 5).take 3) h [some (.ref o), some (.str x), some tx, some (.ref a1), some (.ref a2), y, none] = .next (h2.set (o + 5) (.dict ((some e5).map (· + 1)) (ddE dd' (addt NM x)))) [some (.ref o), some (.str x), some tx, some (.ref a1), some (.ref a2), y, some (.int ((cN R x : Int) + 1))] := by
      simp [fn_Shelf_put, a8, kd, gt, s1, a7, kd1, nd, sd, -ev_dict]
    have mem : ∀ y ∈ addt NM x, y ∈ NM ∨ y = x := fun y hy => mem_addt.mp hy
    have bx : byN R x = [] := List.eq_nil_iff_length_eq_zero.mpr (by
      have : ¬ 0 < cN R x := fun z => q ((k.nm x).mpr z)
      unfold cN at this; unfold byN; lia  )
    obtain ⟨h', e', F, K⟩ := fin (h2.set (o + 5) (.dict ((some e5).map (· + 1)) (ddE dd' (addt NM x)))) dd' (e5 + 1) (K2.trans (Kg.set _ _ _ (.inl ⟨by lia  , by lia  ⟩))) ((get_ne (by lia  )).trans i2) (get_eq r2) ((get_ne (by lia  )).trans v2) ((get_ne (by lia  )).trans w2)
      (S2.keep (Kg.set (S := fun l => l = o + 5) _ _ _ rfl) (by unfold inSt; lia  )) (fun y hy => by
        rcases mem y hy with z | z
        · rw [dy y z]
          obtain ⟨z1, z2, ep, z3⟩ := in2 y z
          exact ⟨z1, ep, (get_ne (by lia  )).trans z3⟩
        · rw [z, dx, bx]
          exact ⟨by lia  , some 0, (get_ne (by lia  )).trans d2⟩) (fun x' hx' y hy z => by
        rcases mem x' hx' with u | u <;> rcases mem y hy with v | v
        · rw [dy _ u, dy _ v] at z; exact inj _ u _ v z
        · rw [dy _ u, v, dx] at z; have := (in2 _ u).2.1; lia  
        · rw [dy _ v, u, dx] at z; have := (in2 _ v).2.1; lia  
        · rw [u, v]) (fun z => by lia  )
    exact ⟨h', dd', by rw [ea, seqS_next, e'], F, K⟩
end Mine.PL

/-! Law 06, plain: keep (typed by hand). -/
set_option Elab.async false
namespace Mine.PL
variable {n : Nat} {h : Hp} {o w r B : Nat} {R : List Rw} {T NM : List Txt1} {dd : Txt1 → Nat}
theorem put_is {x t : Txt1} (s : Sh h o w r B R T NM dd) (k : Rok R T NM) (hB : o + 7 ≤ B) (hBl : B ≤ h.length) (hR : R.length ≤ 6) (ht : t.length ≤ 399) (w8 : w ≤ 8) (r1 : 1 ≤ r) (r40 : r ≤ 40) (hp : (piecesN t w r).length ≤ 402) (a : Nat) :
    ∃ h' dd', callF prog (n + 4) 20 [.ref o, .str x, .str t] h = .ok (.int ((cN R x : Int) + 1)) h' ∧ Sh h' o w r B (R ++ [⟨x, cN R x + 1, piecesN t w r, a⟩]) (addT T (piecesN t w r)) (addt NM x) dd' ∧ Kg (inPut h o B) h h' := by
  rw [callF_def (fn := fn_Shelf_put) rfl rfl rfl, exs_split 5]
  obtain ⟨i, xs, e1, i1⟩ := versions_is (n := n + 2) s k hR
  have mv := meth_at (m := 1) (f := 19) s.inst rfl
  have G1 : Grow h (h ++ xs) := Grow.app _ _
  generalize h ++ xs = h1 at e1 G1
  have n2 := newList_eq h1 [] (by show 0 ≤ lim; decide)
  have G2 : Grow h1 (h1 ++ [.list []]) := Grow.app _ _
  have d2 := get_new h1 (.list [])
  have len2 : (h1 ++ [AO.list []]).length = h1.length + 1 := by simp
  generalize h1 ++ [AO.list []] = h2 at n2 G2 d2 len2
  have n3 := new_dict (h := h2) ⟨prog, callF prog (n + 3)⟩ [some (.ref o), some (.str x), some (.str t), some (.ref h1.length), none, none, none]
  have G3 : Grow h2 (h2 ++ [.dict (some 0) []]) := Grow.app _ _
  have d3 := get_new h2 (.dict (some 0) [])
  have len3 : (h2 ++ [AO.dict (some 0) []]).length = h2.length + 1 := by simp
  generalize h2 ++ [AO.dict (some 0) []] = h3 at n3 G3 d3 len3
  obtain ⟨l, h4, e4, G4, l4, d4⟩ := pieces_is (n := n) (h := h3) (s := t) (w := w) (r := r) (by lia  ) w8 r1 r40
  have GA := ((G1.trans G2).trans G3).trans G4
  have KA : Kg (fun _ => False) h h4 := Kg.of GA
  have s4 := s.keep KA (fun _ _ _ => id) (fun _ _ => id)
  have s3 := s.keep (S := fun _ => False) (Kg.of ((G1.trans G2).trans G3)) (fun _ _ _ => id) (fun _ _ => id)
  have a4 := attr_at (a := 4) (v := .int w) s3.inst rfl
  have a5 := attr_at (a := 5) (v := .int r) s3.inst rfl
  have tl := k.tlen
  have g1 := G1.1
  obtain ⟨h5, y, e5, K5, S5, r5⟩ := put_loop (n := n + 2) (nm := .str x) (tx := .str t) (ps := piecesN t w r) s4.inst rfl s4.st k.ndT (by lia  ) (fun t ht => by
      unfold cT
      rw [List.filter_eq_nil_iff.mpr fun q hq => by simpa using fun z => ht (k.parts q hq t z)]; rfl)
    ((G3.trans G4).get d2) (G4.get d3) d4 (a1 := h1.length) (a2 := h2.length) (by lia  ) (by lia  ) (by lia  ) (by lia  ) (by lia  ) (by lia  )
  have cnt : addC (cT R) (piecesN t w r) = cT (R ++ [⟨x, cN R x + 1, piecesN t w r, a⟩]) := by
    funext z; rw [cT_add]; rfl
  have g5 := K5.1
  have g4 := GA.1
  have nS : ∀ l, l ≤ o ∨ (o + 5 ≤ l ∧ l < h.length) → ¬ (inSt o l ∨ l = h1.length ∨ l = h2.length) := fun l z => by unfold inSt; lia  
  obtain ⟨e6, v4⟩ := s4.last
  obtain ⟨e7, w4⟩ := s4.rows
  have inr : ∀ x ∈ NM, B ≤ dd x ∧ ∃ ep, h5[dd x]? = some (.dict ep (vE T (byN R x))) := fun x hx => by
    obtain ⟨z, ep, e⟩ := s.inner x hx
    have := (List.getElem?_eq_some_iff.mp e).1
    exact ⟨z, ep, K5.get (GA.get e) (nS _ (.inr ⟨by lia  , this⟩))⟩
  obtain ⟨h6, dd', e6, S6, K6⟩ := put_tail (n := n + 3) (x := x) (tx := .str t) (a2 := h2.length) k (K5.get s4.inst (nS _ (.inl (Nat.le_refl _)))) hB (by lia  ) hR hp S5 ⟨e7, K5.get w4 (nS _ (.inr ⟨by lia  , by lia  ⟩))⟩ ⟨e6, K5.get v4 (nS _ (.inr ⟨by lia  , by lia  ⟩))⟩ inr s.inj r5 (by lia  ) y a cnt
  refine ⟨h6, dd', ?_, S6, ?_⟩
  · have ea : exs ⟨prog, callF prog (n + 3)⟩ (fn_Shelf_put.body.take 5) h ([AV.ref o, .str x, .str t].map some ++ List.replicate (fn_Shelf_put.names.length - fn_Shelf_put.np) none) = .next h5 [some (.ref o), some (.str x), some (.str t), some (.ref h1.length), some (.ref h2.length), y, none] := by
      have q1 : ¬ (t.length : Int) > 3000 := by lia  
      have q2 : ¬ i ≥ 100 := by lia  
      simp [fn_Shelf_put, gl5, gl6, q1, mv, e1, q2, n2, n3, a4, a5, e4, e5, -ev_gl, -ev_dict, -newList_eq, -gt_iff_lt, -ge_iff_le]
    rw [ea, seqS_next, e6, fin_ret]
  · have KB : Kg (inPut h o B) h h5 := (Kg.of GA).trans' K5 fun l hl z => by
      rcases z with z | z | z
      · exact .inl ⟨z.1, by have := z.2; lia  ⟩
      · lia  
      · lia  
    refine KB.trans' K6 fun l hl z => ?_
    rcases z with z | ⟨z, ep, es, e⟩
    · exact .inl z
    · refine .inr ⟨z, ep, es, ?_⟩
      rw [← GA.2 l hl, ← K5.2 l (by lia  ) (nS _ (.inr ⟨by lia  , hl⟩))]; exact e
theorem need_name {x : Txt1} (q : okName x) : ∃ xs, callF prog (n + 2) 16 [.ref o, .str x] h = .ok .none (h ++ xs) := by
  rw [callF_def (fn := fn_Shelf_need_name) rfl rfl rfl]
  obtain ⟨xs, e⟩ := is_name (n := n) (h := h) q
  exact ⟨xs, by simp [fn_Shelf_need_name, e]⟩
theorem look_is {t : Txt1} (q : ∀ x ∈ t, good x) (ht : t.length ≤ 900) : ∃ xs, callF prog (n + 3) 18 [.ref o, .str t] h = .ok .none (h ++ xs) := by
  rw [callF_def (fn := fn_Shelf_look) rfl rfl rfl]
  obtain ⟨xs, e⟩ := is_text (n := n) (h := h) q ht
  exact ⟨xs, by simp [fn_Shelf_look, e]⟩
theorem keep_is {x t : Txt1} (s : Sh h o w r B R T NM dd) (k : Rok R T NM) (hB : o + 7 ≤ B) (hBl : B ≤ h.length) (hR : R.length ≤ 6) (hx : okName x) (tg : ∀ x ∈ t, good x) (ht : t.length ≤ 399) (w8 : w ≤ 8) (r1 : 1 ≤ r) (r40 : r ≤ 40) (hp : (piecesN t w r).length ≤ 402) (a : Nat) :
    ∃ h' dd', callF prog (n + 5) 21 [.ref o, .str x, .str t] h = .ok (.int ((cN R x : Int) + 1)) h' ∧ Sh h' o w r B (R ++ [⟨x, cN R x + 1, piecesN t w r, a⟩]) (addT T (piecesN t w r)) (addt NM x) dd' ∧ Kg (inPut h o B) h h' := by
  rw [callF_def (fn := fn_Shelf_keep) rfl rfl rfl]
  obtain ⟨xs, e1⟩ := need_name (n := n + 2) (o := o) (h := h) hx
  obtain ⟨ys, e2⟩ := look_is (n := n + 1) (o := o) (h := h ++ xs) tg (by lia  )
  have G : Grow h ((h ++ xs) ++ ys) := (Grow.app _ _).trans (Grow.app _ _)
  have s1 := s.keep (S := fun _ => False) (Kg.of (Grow.app h xs)) (fun _ _ _ => id) (fun _ _ => id)
  have s2 := s.keep (S := fun _ => False) (Kg.of G) (fun _ _ _ => id) (fun _ _ => id)
  have m1 := meth_at (m := 3) (f := 16) s.inst rfl
  have m2 := meth_at (m := 4) (f := 18) s1.inst rfl
  have m3 := meth_at (m := 5) (f := 20) s2.inst rfl
  generalize (h ++ xs) ++ ys = h2 at *
  have := G.1
  obtain ⟨h', dd', e3, S3, K3⟩ := put_is (n := n) (x := x) (t := t) s2 k hB (by lia  ) hR ht w8 r1 r40 hp a
  refine ⟨h', dd', by simp [fn_Shelf_keep, m1, e1, m2, e2, m3, e3], S3, (Kg.of G).trans' K3 fun l hl z => ?_⟩
  rcases z with z | ⟨z, ep, es, e⟩
  · exact .inl z
  · exact .inr ⟨z, ep, es, by rw [← G.2 l hl]; exact e⟩
end Mine.PL

/-! Law 06, plain: what the shelf tells (typed by hand). -/
set_option Elab.async false
namespace Mine.PL
variable {n : Nat} {h : Hp} {o w r B : Nat} {R : List Rw} {T NM : List Txt1} {dd : Txt1 → Nat}
noncomputable abbrev nums (T : List Txt1) (ps : List Txt1) : List AV := ps.map fun p => .int (posT T p)
theorem vE_get (k : Rok R T NM) {q : Rw} (hq : q ∈ R) : dget (vE T (byN R q.name)) (.int q.ver) = some (.tup (nums T q.parts)) :=
  dget_kd _ _ _ q ((keq_int _ _).mpr rfl) _ (List.mem_filter.mpr ⟨hq, by simp⟩) fun x hx z => by
    obtain ⟨x1, x2⟩ := byN_mem hx
    have := (keq_int _ _).mp z
    exact k.uniq x x1 q hq x2 (by lia  )
theorem Sh.row (s : Sh h o w r B R T NM dd) (k : Rok R T NM) {q : Rw} (hq : q ∈ R) : idxA (.ref (dd q.name)) (.int q.ver) h = some (.tup (nums T q.parts)) ∧ cmpA .notin (.int q.ver) (.ref (dd q.name)) h = some false := by
  obtain ⟨_, ep, e⟩ := s.inner q.name ((k.nm _).mpr (cN_pos hq))
  rw [idx_dict e rfl, notin_dict e rfl, vE_get k hq]
  exact ⟨rfl, rfl⟩
theorem need_version (s : Sh h o w r B R T NM dd) (k : Rok R T NM) {q : Rw} (hq : q ∈ R) : callF prog (n + 2) 17 [.ref o, .str q.name, .int q.ver] h = .ok .none (h ++ [.dict (some 0) []]) := by
  rw [callF_def (fn := fn_Shelf_need_version) rfl rfl rfl]
  have a1 : callF prog (n + 1) 4 [.int q.ver] h = .ok (.bool true) h := rfl
  have a7 := attr_at (a := 7) (v := .ref (o + 5)) s.inst rfl
  have hx := (k.nm _).mpr (cN_pos hq)
  obtain ⟨ep, e⟩ := s.rows
  have kd := kd_get e
  have nd := new_dict (h := h) ⟨prog, callF prog (n + 1)⟩ [some (.ref o), some (.str q.name), some (.int q.ver)]
  have G : Grow h (h ++ [.dict (some 0) []]) := Grow.app _ _
  generalize h ++ [AO.dict (some 0) []] = h1 at nd G
  have s1 := s.keep (S := fun _ => False) (Kg.of G) (fun _ _ _ => id) (fun _ _ => id)
  have gt := get_dict (v := .str q.name) (d := .ref h.length) (G.get e) rfl
  unfold ddE at gt
  rw [dget_str, if_pos hx] at gt
  have ni := (s1.row k hq).2
  simp [fn_Shelf_need_version, a1, a7, kd, nd, gt, ni, -ev_dict]
theorem asStr_map : ∀ l : List Txt1, mapO asStr (txtV l) = some l
  | [] => rfl
  | a :: r => by
    show mapO asStr (.str a :: txtV r) = _
    rw [mapO_cons, asStr_map r]; rfl
theorem join_list {a : Nat} {ps : List Txt1} (e : h[a]? = some (.list (txtV ps))) (q : (ps.map (·.length)).sum ≤ 1000) : bmA .join (.str []) [.ref a] h = .ok (.str (joinT [] ps)) h := by
  show (match (listAt h (.ref a)).bind textsA with | some ts => if (ts.map (fun s : List Nat => s.length)).sum + ts.length * 0 ≤ lim then Out.ok (AV.str (joinT [] ts)) h else .fail | none => .fail) = _
  rw [listAt_of e, Option.bind_some]
  unfold textsA
  rw [asStr_map]
  exact if_pos (by rw [Nat.mul_zero]; exact Nat.le_trans q (by decide))
theorem joined_is (s : Sh h o w r B R T NM dd) (k : Rok R T NM) {q : Rw} (hq : q ∈ R) : ∃ xs, callF prog (n + 4) 22 [.ref o, .str q.name, .int q.ver] h = .ok (.str (joinT [] q.parts)) (h ++ xs) := by
  rw [callF_def (fn := fn_Shelf_joined) rfl rfl rfl]
  have a7 := attr_at (a := 7) (v := .ref (o + 5)) s.inst rfl
  have a6 := attr_at (a := 6) (v := .ref (o + 1)) s.inst rfl
  have m6 := meth_at (m := 6) (f := 13) s.st.inst rfl
  have hx := (k.nm _).mpr (cN_pos hq)
  have ir := (s.row k hq).1
  have pl := k.plen q hq
  have c := comp_fix (C := ⟨prog, callF prog (n + 3)⟩) (el := ev ⟨prog, callF prog (n + 3)⟩ (.meth (.attr (.var 0) 6) 6 [.var 3])) (x := 3) (vs := [some (.ref o), some (.str q.name), some (.int q.ver), none]) (h := h) q.parts (fun p => .int (posT T p)) (by lia  ) (fun p => .str p) (fun p hp => by
    have := piece_is (n := n) s.st (k.parts q hq p hp)
    simp [a6, m6, this])
  have j := join_list (get_new h (.list (txtV q.parts))) (k.psum q hq)
  refine ⟨[.list (txtV q.parts)], ?_⟩
  have kd : bmKd .join (.str []) h = true := rfl
  simp [fn_Shelf_joined, kd, a7, s.idx hx, ir, c, j]
theorem text_is (s : Sh h o w r B R T NM dd) (k : Rok R T NM) {q : Rw} (hq : q ∈ R) : ∃ xs, callF prog (n + 5) 23 [.ref o, .str q.name, .int q.ver] h = .ok (.str (joinT [] q.parts)) (h ++ xs) := by
  rw [callF_def (fn := fn_Shelf_text) rfl rfl rfl]
  obtain ⟨xs, e1⟩ := need_name (n := n + 2) (o := o) (h := h) (k.name q hq)
  have s1 := s.keep (S := fun _ => False) (Kg.of (Grow.app h xs)) (fun _ _ _ => id) (fun _ _ => id)
  have e2 := need_version (n := n + 2) s1 k hq
  have s2 := s1.keep (S := fun _ => False) (Kg.of (Grow.app _ [.dict (some 0) []])) (fun _ _ _ => id) (fun _ _ => id)
  obtain ⟨ys, e3⟩ := joined_is (n := n) s2 k hq
  have m1 := meth_at (m := 3) (f := 16) s.inst rfl
  have m2 := meth_at (m := 7) (f := 17) s1.inst rfl
  have m3 := meth_at (m := 8) (f := 22) s2.inst rfl
  refine ⟨xs ++ [.dict (some 0) []] ++ ys, ?_⟩
  rw [← List.append_assoc, ← List.append_assoc]
  simp [fn_Shelf_text, m1, e1, m2, e2, m3, e3, -List.append_assoc]
/-! ### names -/
theorem insT_len (x : Txt1) : ∀ l : List Txt1, (insT x l).length = l.length + 1
  | [] => rfl
  | y :: r => by
    show (if y < x then y :: insT x r else x :: y :: r).length = _
    split
    · rw [List.length_cons, insT_len x r, List.length_cons]
    · rfl
theorem sortT_len : ∀ l : List Txt1, (sortT l).length = l.length
  | [] => rfl
  | x :: r => by show (insT x (sortT r)).length = _; rw [insT_len, sortT_len r, List.length_cons]
end Mine.PL

/-! Law 07, plain: how many pieces are new (typed by hand; from law 04). -/
set_option Elab.async false
namespace Mine.PL

/-! ### where a text is cut, by the signs around -/
noncomputable def win (s : List Nat) (w a : Nat) : List Nat := (s.drop a).take w
noncomputable def Low (s : List Nat) (w r i : Nat) : Prop := ∀ j, j < 2 * r + 1 → j = r ∨ weigh 7 (win s w (r + i)) < weigh 7 (win s w (i + j))
theorem at0_wts {s : List Nat} {w a : Nat} (h : a + w ≤ s.length) (hw : 1 ≤ w) : at0 (wts s w) a = weigh 7 (win s w a) := by
  have : a < s.length + 1 - w := by omega
  simp [at0, wts, win, this]
theorem low_iff {s : List Nat} {w r i : Nat} (hw : 1 ≤ w) (h : i + 2 * r + w ≤ s.length) : low (wts s w) (r + i) r = true ↔ Low s w r i := by
  unfold low Low
  simp only [List.all_eq_true, List.mem_range, Bool.or_eq_true, decide_eq_true_eq]
  have key : ∀ j, j < 2 * r + 1 → at0 (wts s w) (r + i - r + j) = weigh 7 (win s w (i + j)) := fun j hj => by
    rw [show r + i - r + j = i + j by lia  ]
    exact at0_wts (by lia  ) hw
  have k0 : at0 (wts s w) (r + i) = weigh 7 (win s w (r + i)) := at0_wts (by lia  ) hw
  constructor
  · intro q j hj
    have := q j hj
    rw [k0, key j hj] at this
    exact this
  · intro q j hj
    rw [k0, key j hj]
    exact q j hj
theorem cuts_iff {s : List Nat} {w r p : Nat} (hw : 1 ≤ w) : p ∈ cutsN s w r ↔ w + r ≤ p ∧ p + r ≤ s.length ∧ Low s w r (p - w - r) := by
  constructor
  · intro h
    have h1 := cuts_in h
    obtain ⟨i, hi, rfl, hl⟩ := cuts_mem h
    refine ⟨h1.1, h1.2, ?_⟩
    rw [show w + r + i - w - r = i by lia  ]
    exact (low_iff hw (by lia  )).mp hl
  · rintro ⟨h1, h2, h3⟩
    unfold cutsN
    refine List.mem_map.mpr ⟨p - w - r, List.mem_filter.mpr ⟨List.mem_range.mpr (by rw [wts_len]; lia  ), (low_iff hw (by lia  )).mpr h3⟩, by omega⟩
theorem win_ahead {A X : List Nat} {w a : Nat} (h : a + w ≤ A.length) : win (A ++ X) w a = win A w a := by
  unfold win
  rw [List.drop_append_of_le_length (by lia  ), List.take_append_of_le_length (by rw [List.length_drop]; omega)]
theorem win_behind (C B : List Nat) (w a : Nat) : win (C ++ B) w (C.length + a) = win B w a := by
  unfold win
  rw [List.drop_append, List.drop_eq_nil_of_le (by lia  ), List.nil_append, Nat.add_sub_cancel_left]
theorem cuts_ahead {A X : List Nat} {w r p : Nat} (hw : 1 ≤ w) (h : p + r ≤ A.length) : p ∈ cutsN (A ++ X) w r ↔ p ∈ cutsN A w r := by
  rw [cuts_iff hw, cuts_iff hw]
  have key : w + r ≤ p → (Low (A ++ X) w r (p - w - r) ↔ Low A w r (p - w - r)) := fun h1 => by
    unfold Low
    rw [win_ahead (by lia  )]
    constructor <;> intro q j hj
    · have := q j hj
      rwa [win_ahead (by lia  )] at this
    · rw [win_ahead (by omega)]; exact q j hj
  constructor
  · rintro ⟨h1, _, h3⟩; exact ⟨h1, h, (key h1).mp h3⟩
  · rintro ⟨h1, h2, h3⟩; exact ⟨h1, by rw [List.length_append]; lia  , (key h1).mpr h3⟩
theorem cuts_behind {C B : List Nat} {w r p : Nat} (hw : 1 ≤ w) (h : w + r ≤ p) : C.length + p ∈ cutsN (C ++ B) w r ↔ p ∈ cutsN B w r := by
  rw [cuts_iff hw, cuts_iff hw]
  have e : C.length + p - w - r = C.length + (p - w - r) := by lia  
  have key : Low (C ++ B) w r (C.length + p - w - r) ↔ Low B w r (p - w - r) := by
    rw [e]
    unfold Low
    rw [show r + (C.length + (p - w - r)) = C.length + (r + (p - w - r)) by lia  , win_behind]
    constructor <;> intro q j hj
    · have := q j hj
      rwa [show C.length + (p - w - r) + j = C.length + (p - w - r + j) by lia  , win_behind] at this
    · rw [show C.length + (p - w - r) + j = C.length + (p - w - r + j) by omega, win_behind]; exact q j hj
  rw [key, List.length_append]
  constructor
  · rintro ⟨h1, h2, h3⟩; exact ⟨h, by lia  , h3⟩
  · rintro ⟨h1, h2, h3⟩; exact ⟨by lia  , by lia  , h3⟩

/-- two cuts stand more than the reach apart -/
theorem cuts_apart {s : List Nat} {w r k : Nat} {p q : Nat} (hr : 1 ≤ r) (hp : (cutsN s w r)[k]? = some p) (hq : (cutsN s w r)[k + 1]? = some q) : p + r < q := by
  have sorted : (cutsN s w r).Pairwise (· < ·) := by
    unfold cutsN
    refine List.Pairwise.map _ (fun a b (h : a < b) => by lia  ) ((List.pairwise_lt_range (n := (wts s w).length - 2 * r)).filter _)
  have hlt : p < q := by
    obtain ⟨k1, e1⟩ := List.getElem?_eq_some_iff.mp hp
    obtain ⟨k2, e2⟩ := List.getElem?_eq_some_iff.mp hq
    rw [← e1, ← e2]
    exact List.pairwise_iff_getElem.mp sorted k (k + 1) k1 k2 (by lia  )
  obtain ⟨i, hi, rfl, li⟩ := cuts_mem (List.mem_of_getElem? hp)
  obtain ⟨j, hj, rfl, lj⟩ := cuts_mem (List.mem_of_getElem? hq)
  rcases Nat.lt_or_ge (i + r) j with z | z
  · lia  
  · exfalso
    unfold low at li lj
    simp only [List.all_eq_true, List.mem_range, Bool.or_eq_true, decide_eq_true_eq] at li lj
    have h1 := li (r + (j - i)) (by lia  )
    have h2 := lj (r - (j - i)) (by lia  )
    have e1 : r + i - r + (r + (j - i)) = r + j := by lia  
    have e2 : r + j - r + (r - (j - i)) = r + i := by lia  
    rw [e1] at h1
    rw [e2] at h2
    lia  
/-! ### pieces that stay -/
theorem mem_gaps : ∀ {cs : List Nat} {x : Nat}, Rise x cs → ∀ {a b : Nat}, (a, b) ∈ gaps x cs ↔ a ∈ x :: cs ∧ b ∈ cs ∧ a < b ∧ ∀ c ∈ cs, ¬ (a < c ∧ c < b)
  | [], x, _, a, b => by simp [gaps]
  | y :: r, x, h, a, b => by
    have hxy : x < y := h.1
    have hr : ∀ z ∈ r, y < z := h.2.lt
    rw [gaps, List.mem_cons, mem_gaps h.2]
    constructor
    · rintro (q | ⟨q1, q2, q3, q4⟩)
      · cases q
        refine ⟨by simp, by simp, hxy, fun c hc z => ?_⟩
        rcases List.mem_cons.mp hc with rfl | hc
        · lia  
        · have := hr c hc; lia  
      · refine ⟨List.mem_cons_of_mem _ q1, List.mem_cons_of_mem _ q2, q3, fun c hc z => ?_⟩
        rcases List.mem_cons.mp hc with rfl | hc
        · rcases List.mem_cons.mp q1 with rfl | q1
          · lia  
          · have := hr a q1; lia  
        · exact q4 c hc z
    · rintro ⟨q1, q2, q3, q4⟩
      rcases List.mem_cons.mp q1 with rfl | q1
      · left
        have : ¬ (y < b) := fun z => q4 y (by simp) ⟨hxy, z⟩
        rcases List.mem_cons.mp q2 with rfl | q2
        · rfl
        · have := hr b q2; lia  
      · right
        refine ⟨q1, ?_, q3, fun c hc => q4 c (List.mem_cons_of_mem _ hc)⟩
        rcases List.mem_cons.mp q2 with rfl | q2
        · rcases List.mem_cons.mp q1 with rfl | q1
          · lia  
          · have := hr a q1; lia  
        · exact q2
theorem bit_ahead {A X : List Nat} {g : Nat × Nat} (h : g.2 ≤ A.length) (h1 : g.1 ≤ g.2) : bit (A ++ X) g = bit A g :=
  win_ahead (w := g.2 - g.1) (a := g.1) (by lia  )
theorem bit_behind (C B : List Nat) (a b : Nat) : bit (C ++ B) (C.length + a, C.length + b) = bit B (a, b) := by
  have := win_behind C B (b - a) a
  unfold win at this
  unfold bit
  simp only
  rw [show C.length + b - (C.length + a) = b - a by lia  ]
  exact this

theorem stays {A X Y B : List Nat} {w r : Nat} (hw : 1 ≤ w) (hr : 1 ≤ r) (ht : A ++ Y ++ B ≠ []) {a b : Nat} (hg : (a, b) ∈ gaps 0 (endsN (A ++ Y ++ B) w r)) (q : b + r ≤ A.length ∨ A.length + Y.length + r + w ≤ a) :
    bit (A ++ Y ++ B) (a, b) ∈ piecesN (A ++ X ++ B) w r := by
  obtain ⟨g1, g2, g3, g4⟩ := (mem_gaps (ends_rise hr ht)).mp hg
  have tl : (A ++ Y ++ B).length = A.length + Y.length + B.length := by simp; lia  
  have sl : (A ++ X ++ B).length = A.length + X.length + B.length := by simp; lia  
  have hb : b ≤ (A ++ Y ++ B).length := by
    rcases List.mem_append.mp g2 with z | z
    · have := cuts_in z; lia  
    · rw [List.mem_singleton.mp z]; lia  
  have ha : a = 0 ∨ a ∈ cutsN (A ++ Y ++ B) w r := by
    rcases List.mem_cons.mp g1 with z | z
    · exact .inl z
    · rcases List.mem_append.mp z with z | z
      · exact .inr z
      · have := List.mem_singleton.mp z; lia  
  have mv : ∀ (Y X : List Nat) (p : Nat), p + r ≤ A.length → (p ∈ cutsN (A ++ Y ++ B) w r → p ∈ cutsN (A ++ X ++ B) w r) := fun Y X p hp hc => by
    rw [List.append_assoc] at hc ⊢
    exact (cuts_ahead hw hp).mpr ((cuts_ahead hw hp).mp hc)
  rcases q with q | q
  · have hs : A ++ X ++ B ≠ [] := fun z => by rw [z] at sl; simp at sl; lia  
    have hmem : (a, b) ∈ gaps 0 (endsN (A ++ X ++ B) w r) := by
      refine (mem_gaps (ends_rise hr hs)).mpr ⟨?_, ?_, g3, fun c hc z => ?_⟩
      · rcases ha with rfl | ha
        · simp
        · exact List.mem_cons_of_mem _ (List.mem_append_left _ (mv Y X a (by lia  ) ha))
      · rcases List.mem_append.mp g2 with z | z
        · exact List.mem_append_left _ (mv Y X b q z)
        · have := List.mem_singleton.mp z; lia  
      · rcases List.mem_append.mp hc with y | y
        · exact g4 c (List.mem_append_left _ (mv X Y c (by lia  ) y)) z
        · have := List.mem_singleton.mp y; lia  
    unfold piecesN
    rw [if_neg hs]
    refine List.mem_map.mpr ⟨_, hmem, ?_⟩
    rw [List.append_assoc, List.append_assoc, bit_ahead (by simp; lia  ) (by simp; lia  ), bit_ahead (by simp; lia  ) (by simp; lia  )]
  · have ha' : a ∈ cutsN (A ++ Y ++ B) w r := by
      rcases ha with z | z
      · lia  
      · exact z
    obtain ⟨a', rfl⟩ : ∃ a', a = (A ++ Y).length + a' := ⟨a - (A ++ Y).length, by rw [List.length_append]; lia  ⟩
    obtain ⟨b', rfl⟩ : ∃ b', b = (A ++ Y).length + b' := ⟨b - (A ++ Y).length, by rw [List.length_append] at g3 ⊢; lia  ⟩
    rw [List.length_append] at q
    have hs : A ++ X ++ B ≠ [] := fun z => by
      have hi := (cuts_in ha').2
      rw [tl, List.length_append] at hi
      rw [z] at sl; simp at sl; lia  
    have hmem : ((A ++ X).length + a', (A ++ X).length + b') ∈ gaps 0 (endsN (A ++ X ++ B) w r) := by
      have a1 := (cuts_behind (C := A ++ Y) (B := B) (p := a') (r := r) hw (by lia  )).mp ha'
      refine (mem_gaps (ends_rise hr hs)).mpr ⟨?_, ?_, by lia  , fun c hc z => ?_⟩
      · exact List.mem_cons_of_mem _ (List.mem_append_left _ ((cuts_behind hw (by lia  )).mpr a1))
      · rcases List.mem_append.mp g2 with z | z
        · exact List.mem_append_left _ ((cuts_behind hw (by lia  )).mpr ((cuts_behind hw (by omega)).mp z))
        · refine List.mem_append_right _ (List.mem_singleton.mpr ?_)
          have := List.mem_singleton.mp z
          rw [tl, List.length_append] at this
          rw [sl, List.length_append]
          lia  
      · obtain ⟨c', rfl⟩ : ∃ c', c = (A ++ X).length + c' := ⟨c - (A ++ X).length, by lia  ⟩
        refine g4 ((A ++ Y).length + c') ?_ ⟨by lia  , by lia  ⟩
        rcases List.mem_append.mp hc with y | y
        · exact List.mem_append_left _ ((cuts_behind hw (by lia  )).mpr ((cuts_behind hw (by lia  )).mp y))
        · have := List.mem_singleton.mp y
          rw [sl] at this
          rw [tl, List.length_append] at hb
          rw [List.length_append] at z this
          lia  
    unfold piecesN
    rw [if_neg hs]
    refine List.mem_map.mpr ⟨_, hmem, ?_⟩
    rw [bit_behind, bit_behind]

/-! ### how many do not stay -/
noncomputable def Far (r : Nat) : Nat → List Nat → Prop
  | _, [] => True
  | _, [_] => True
  | a, b :: c :: l => a + r < b ∧ Far r b (c :: l)
noncomputable def cnt (lo r hi a : Nat) (cs : List Nat) : Nat := (gaps a cs).countP fun g => decide (lo < g.2 + r) && decide (g.1 < hi)
theorem cnt_over {lo r hi : Nat} : ∀ {cs : List Nat} {a : Nat}, Rise a cs → hi ≤ a → cnt lo r hi a cs = 0
  | [], _, _, _ => rfl
  | b :: l, a, h, q => by
    have := cnt_over (lo := lo) (r := r) (hi := hi) h.2 (by have := h.1; lia  )
    unfold cnt at this ⊢
    rw [gaps, List.countP_cons, this, if_neg (by simp; lia  )]
theorem cnt_near {lo r hi : Nat} : ∀ {cs : List Nat} {a : Nat}, Rise a cs → Far r a cs → a < hi → cnt lo r hi a cs ≤ (hi - 1 - a) / (r + 1) + 1
  | [], _, _, _, _ => by simp [cnt, gaps]
  | [b], a, _, _, _ => by
    have := List.countP_le_length (p := fun g : Nat × Nat => decide (lo < g.2 + r) && decide (g.1 < hi)) (l := gaps a [b])
    simp only [gaps, List.length_cons, List.length_nil] at this
    unfold cnt
    simp only [gaps]
    generalize (hi - 1 - a) / (r + 1) = d
    omega
  | b :: c :: l, a, h, f, q => by
    have h1 : cnt lo r hi a (b :: c :: l) ≤ 1 + cnt lo r hi b (c :: l) := by
      unfold cnt
      rw [gaps, List.countP_cons]
      split <;> lia  
    have hf : a + r < b := f.1
    rcases Nat.lt_or_ge b hi with z | z
    · have h2 := cnt_near (lo := lo) h.2 f.2 z
      have h3 : (hi - 1 - b) / (r + 1) + 1 ≤ (hi - 1 - a) / (r + 1) := by
        rw [← Nat.add_div_right _ (by lia  )]
        exact Nat.div_le_div_right (by omega)
      lia  
    · have := cnt_over (lo := lo) (r := r) h.2 z
      generalize (hi - 1 - a) / (r + 1) = d
      lia  
theorem cnt_all {lo r hi m : Nat} (hm : hi + r ≤ lo + m + 2) : ∀ {cs : List Nat} {a : Nat}, Rise a cs → Far r a cs → cnt lo r hi a cs ≤ m / (r + 1) + 2
  | [], _, _, _ => by simp [cnt, gaps]
  | b :: l, a, h, f => by
    have hf : Far r b l := by cases l with | nil => trivial | cons c l => exact f.2
    by_cases q : lo < b + r
    · have h1 : cnt lo r hi a (b :: l) ≤ 1 + cnt lo r hi b l := by
        unfold cnt
        rw [gaps, List.countP_cons]
        split <;> lia  
      rcases Nat.lt_or_ge b hi with z | z
      · have h2 := cnt_near (lo := lo) h.2 hf z
        have h3 : (hi - 1 - b) / (r + 1) ≤ m / (r + 1) := Nat.div_le_div_right (by omega)
        lia  
      · have := cnt_over (lo := lo) (r := r) h.2 z
        generalize m / (r + 1) = d
        lia  
    · have h1 : cnt lo r hi a (b :: l) = cnt lo r hi b l := by
        unfold cnt
        rw [gaps, List.countP_cons, if_neg (by simp; lia  )]
        rfl
      rw [h1]
      exact cnt_all hm h.2 hf
theorem far_of {r : Nat} : ∀ (cs : List Nat) (a e : Nat), (∀ k p q, (a :: cs)[k]? = some p → (a :: cs)[k + 1]? = some q → p + r < q) → Far r a (cs ++ [e])
  | [], _, _, _ => trivial
  | [b], a, e, h => ⟨h 0 a b rfl rfl, trivial⟩
  | b :: c :: l, a, e, h => ⟨h 0 a b rfl rfl, far_of (c :: l) b e fun k p q hp hq => h (k + 1) p q hp hq⟩
theorem ends_far {s : List Nat} {w r : Nat} (hw : 1 ≤ w) (hr : 1 ≤ r) : Far r 0 (endsN s w r) := by
  refine far_of _ _ _ fun k p q hp hq => ?_
  cases k with
  | zero =>
    simp only [List.getElem?_cons_zero, Option.some.injEq] at hp
    simp only [Nat.zero_add, List.getElem?_cons_succ] at hq
    have := cuts_in (List.mem_of_getElem? hq)
    lia  
  | succ k =>
    rw [List.getElem?_cons_succ] at hp hq
    exact cuts_apart hr hp hq
theorem few_new {A X Y B : List Nat} {w r : Nat} (hw : 1 ≤ w) (hr : 1 ≤ r) :
    ((piecesN (A ++ Y ++ B) w r).filter (fun x => !decide (x ∈ piecesN (A ++ X ++ B) w r))).length ≤ (Y.length + 3 * r + w - 1) / (r + 1) + 1 := by
  by_cases ht : A ++ Y ++ B = []
  · rw [show piecesN (A ++ Y ++ B) w r = [] from by unfold piecesN; rw [if_pos ht]]
    simp
  · have e : piecesN (A ++ Y ++ B) w r = (gaps 0 (endsN (A ++ Y ++ B) w r)).map (bit (A ++ Y ++ B)) := by unfold piecesN; rw [if_neg ht]
    rw [e, List.filter_map, List.length_map, ← List.countP_eq_length_filter]
    have h1 := cnt_all (lo := A.length) (r := r) (hi := A.length + Y.length + r + w) (m := Y.length + 2 * r + w - 2) (by lia  ) (ends_rise (w := w) hr ht) (ends_far (s := A ++ Y ++ B) hw hr)
    have h2 : (Y.length + 2 * r + w - 2) / (r + 1) + 2 = (Y.length + 3 * r + w - 1) / (r + 1) + 1 := by
      rw [show Y.length + 3 * r + w - 1 = Y.length + 2 * r + w - 2 + (r + 1) by lia  , Nat.add_div_right _ (by lia  )]
    rw [← h2]
    refine Nat.le_trans (List.countP_mono_left fun g hg hn => ?_) h1
    obtain ⟨a, b⟩ := g
    simp only [Function.comp, Bool.not_eq_true', decide_eq_false_iff_not] at hn
    rw [Bool.and_eq_true, decide_eq_true_eq, decide_eq_true_eq]
    refine ⟨?_, ?_⟩
    · rcases Nat.lt_or_ge A.length (b + r) with z | z
      · exact z
      · exact absurd (stays hw hr ht hg (.inl z)) hn
    · rcases Nat.lt_or_ge a (A.length + Y.length + r + w) with z | z
      · exact z
      · exact absurd (stays hw hr ht hg (.inr z)) hn
end Mine.PL

/-! Law 07, plain: few, change, versions (typed by hand). -/
set_option Elab.async false
namespace Mine.PL
variable {n : Nat} {h : Hp} {o w r B : Nat} {R : List Rw} {T NM : List Txt1} {dd : Txt1 → Nat}
/-! ### what is new -/
theorem addU_eq (us : List Txt1) (x : Txt1) : addU us x = addt us x := by
  unfold addU addt
  by_cases q : x ∈ us
  · rw [if_pos (List.contains_iff_mem.mpr q), if_pos q]
  · rw [if_neg fun z => q (List.contains_iff_mem.mp z), if_neg q]
theorem onceT_eq (ts : List Txt1) : onceT ts = addT [] ts := by
  have : addU = addt := by funext us x; exact addU_eq us x
  unfold onceT addT
  rw [this]
theorem addT_part (T : List Txt1) : ∀ ps U : List Txt1, addT (T ++ U) ps = T ++ addT U (ps.filter fun p => !decide (p ∈ T))
  | [], U => rfl
  | p :: r, U => by
    show addT (addt (T ++ U) p) r = _
    by_cases q : p ∈ T
    · rw [addt_mem (List.mem_append_left _ q), List.filter_cons_of_neg (by simpa using q)]
      exact addT_part T r U
    · rw [List.filter_cons_of_pos (by simpa using q)]
      show _ = T ++ addT (addt U p) _
      rw [← addT_part T r (addt U p)]
      congr 1
      by_cases z : p ∈ U
      · rw [addt_mem (List.mem_append_right _ z), addt_mem z]
      · rw [addt_new fun y => (List.mem_append.mp y).elim q z, addt_new z, List.append_assoc]
theorem addT_new (T ps : List Txt1) : addT T ps = T ++ onceT (ps.filter fun p => !decide (p ∈ T)) := by
  rw [onceT_eq, ← addT_part, List.append_nil]
theorem once_len (ts : List Txt1) : (onceT ts).length ≤ ts.length := by
  rw [onceT_eq]
  have := addT_len ts []
  simpa using this
/-! ### the code -/
theorem few_is (c : Int) {w r : Nat} (hr : r ≤ 40) : callF prog (n + 1) 39 [.int c, .int w, .int r] h = .ok (.int ((c + 3 * r + w - 1) / (r + 1) + 1)) h := by
  rw [callF_def (fn := fn_few) rfl rfl rfl]
  have m := mul_small h 3 (r : Int) (.inr (by decide))
  have d := div_int h (c + 3 * r + w - 1) ((r : Int) + 1) (by lia  ) (by lia  )
  simp [fn_few, m, d]
theorem stretch_is {a b c : Nat} (h1 : a ≤ b) (h2 : b ≤ c) : callF prog (n + 2) 40 [.int a, .int b, .int c] h = .ok (.bool true) h := by
  rw [callF_def (fn := fn_is_stretch) rfl rfl rfl]
  have a1 : callF prog (n + 1) 4 [.int a] h = .ok (.bool true) h := rfl
  have b1 : callF prog (n + 1) 4 [.int b] h = .ok (.bool true) h := rfl
  have c1 : ev ⟨prog, callF prog (n + 1)⟩ (.chain3 (.int 0) .le (.var 0) .le (.var 1) .le (.var 2)) h [some (.int a), some (.int b), some (.int c)] = .ok (.bool true) h := by
    rw [ev_q29]
    have d1 : (0 : Int) ≤ (a : Int) := by lia  
    have d2 : (a : Int) ≤ (b : Int) := by lia  
    have d3 : (b : Int) ≤ (c : Int) := by lia  
    simp only [ev_int, ev_var, slot0, slot1, slot2, bind_ok, le_int, decide_eq_true d1, decide_eq_true d2, decide_eq_true d3, if_true]
  simp [fn_is_stretch, a1, b1, c1]
theorem text3 (s y : Txt1) {st en : Nat} (h1 : st ≤ s.length) (h2 : en ≤ s.length) (h3 : s.length + y.length ≤ 10000) (C : Cx) {v4 v7 v8 v9 : Nat} {vs : Vs} (e4 : ∀ h, slotO vs v4 h = .ok (.str s) h) (e7 : ∀ h, slotO vs v7 h = .ok (.int st) h) (e8 : ∀ h, slotO vs v8 h = .ok (.int en) h) (e9 : ∀ h, slotO vs v9 h = .ok (.str y) h) :
    ev C (.bin .add (.bin .add (.slice (.var v4) .none (.var v7) false true) (.var v9)) (.slice (.var v4) (.var v8) .none true false)) h vs = .ok (.str (s.take st ++ y ++ s.drop en)) h := by
  have hl : 20000 ≤ lim := by decide
  have s1 := slice_to (h := h) s h1
  have s2 := slice_from (h := h) s h2
  have a1 := add_str h (s.take st) y (by rw [List.length_take]; lia  )
  have a2 := add_str h (s.take st ++ y) (s.drop en) (by rw [List.length_append, List.length_take, List.length_drop]; lia  )
  simp [e4, e7, e8, e9, s1, s2, a1, a2, -add_str, -List.append_assoc]
theorem change_is {q : Rw} {y : Txt1} {st en : Nat} (s : Sh h o w r B R T NM dd) (k : Rok R T NM) (hq : q ∈ R) (hB : o + 7 ≤ B) (hBl : B ≤ h.length) (hR : R.length ≤ 6) {t : Txt1} (ht : t = (joinT [] q.parts).take st ++ y ++ (joinT [] q.parts).drop en) (q1 : st ≤ en) (q2 : en ≤ (joinT [] q.parts).length)
    (q3 : (joinT [] q.parts).length + y.length ≤ 399) (yg : ∀ x ∈ y, good x) (w8 : w ≤ 8) (r1 : 1 ≤ r) (r40 : r ≤ 40) (hp : (piecesN t w r).length ≤ 402) (a : Nat) :
    ∃ h' dd', callF prog (n + 5) 41 [.ref o, .str q.name, .int q.ver, .int st, .int en, .str y] h = .ok (.tup [.int ((cN R q.name : Int) + 1), .int (((addT T (piecesN t w r)).length : Int) - T.length)]) h' ∧
      Sh h' o w r B (R ++ [⟨q.name, cN R q.name + 1, piecesN t w r, a⟩]) (addT T (piecesN t w r)) (addt NM q.name) dd' ∧ Kg (inPut h o B) h h' := by
  rw [callF_def (fn := fn_Shelf_change) rfl rfl rfl]
  obtain ⟨xs, e1⟩ := need_name (n := n + 2) (o := o) (h := h) (k.name q hq)
  have s1 := s.keep (S := fun _ => False) (Kg.of (Grow.app h xs)) (fun _ _ _ => id) (fun _ _ => id)
  have e2 := need_version (n := n + 2) s1 k hq
  have s2 := s1.keep (S := fun _ => False) (Kg.of (Grow.app _ [.dict (some 0) []])) (fun _ _ _ => id) (fun _ _ => id)
  obtain ⟨ys, e3⟩ := joined_is (n := n) s2 k hq
  have s3 := s2.keep (S := fun _ => False) (Kg.of (Grow.app _ ys)) (fun _ _ _ => id) (fun _ _ => id)
  have m1 := meth_at (m := 3) (f := 16) s.inst rfl
  have m2 := meth_at (m := 7) (f := 17) s1.inst rfl
  have m3 := meth_at (m := 8) (f := 22) s2.inst rfl
  have G3 : Grow h (h ++ xs ++ [.dict (some 0) []] ++ ys) := ((Grow.app _ _).trans (Grow.app _ _)).trans (Grow.app _ _)
  generalize h ++ xs ++ [AO.dict (some 0) []] ++ ys = h3 at *
  generalize h ++ xs ++ [AO.dict (some 0) []] = h2 at *
  generalize h ++ xs = h1 at *
  have e4 := stretch_is (n := n + 2) (h := h3) q1 q2
  obtain ⟨zs, e5⟩ := look_is (n := n + 1) (o := o) (h := h3) yg (by lia  )
  have m4 := meth_at (m := 4) (f := 18) s3.inst rfl
  have G4 : Grow h (h3 ++ zs) := G3.trans (Grow.app _ _)
  have s4 := s3.keep (S := fun _ => False) (Kg.of (Grow.app _ zs)) (fun _ _ _ => id) (fun _ _ => id)
  generalize h3 ++ zs = h4 at *
  have a6 := attr_at (a := 6) (v := .ref (o + 1)) s4.inst rfl
  have b3 := attr_at (a := 3) (v := .int T.length) s4.st.inst rfl
  have m5 := meth_at (m := 5) (f := 20) s4.inst rfl
  have tl : t.length ≤ 399 := by rw [ht, List.length_append, List.length_append, List.length_take, List.length_drop]; lia  
  have := G4.1
  obtain ⟨h', dd', e6, S6, K6⟩ := put_is (n := n) (x := q.name) (t := t) s4 k hB (by lia  ) hR tl w8 r1 r40 hp a
  have a6' := attr_at (a := 6) (v := .ref (o + 1)) S6.inst rfl
  have b3' := attr_at (a := 3) (v := .int (addT T (piecesN t w r)).length) S6.st.inst rfl
  have tx := text3 (h := h4) (joinT [] q.parts) y (by lia  ) q2 (by lia  ) ⟨prog, callF prog (n + 4)⟩ (v4 := 6) (v7 := 3) (v8 := 4) (v9 := 5)
    (vs := [some (.ref o), some (.str q.name), some (.int q.ver), some (.int st), some (.int en), some (.str y), some (.str (joinT [] q.parts)), some (.int T.length), none]) (fun _ => rfl) (fun _ => rfl) (fun _ => rfl) (fun _ => rfl)
  rw [← ht] at tx
  refine ⟨h', dd', ?_, S6, (Kg.of G4).trans' K6 fun l hl z => ?_⟩
  · rw [exs_split 6]
    have p1 : exs ⟨prog, callF prog (n + 4)⟩ (fn_Shelf_change.body.take 6) h ([AV.ref o, .str q.name, .int q.ver, .int st, .int en, .str y].map some ++ List.replicate (fn_Shelf_change.names.length - fn_Shelf_change.np) none) =
        .next h4 [some (.ref o), some (.str q.name), some (.int q.ver), some (.int st), some (.int en), some (.str y), some (.str (joinT [] q.parts)), some (.int T.length), none] := by
      simp [fn_Shelf_change, m1, e1, m2, e2, m3, e3, e4, m4, e5, a6, b3]
    rw [p1, seqS_next]
    have d : fn_Shelf_change.body.drop 6 = [.set 8 (.meth (.var 0) 5 [.var 1, .bin .add (.bin .add (.slice (.var 6) .none (.var 3) false true) (.var 5)) (.slice (.var 6) (.var 4) .none true false)]),
      .ret (.tup [.var 8, .bin .sub (.attr (.attr (.var 0) 6) 3) (.var 7)])] := rfl
    rw [d]
    generalize hE : ME.bin .add (.bin .add (.slice (.var 6) .none (.var 3) false true) (.var 5)) (.slice (.var 6) (.var 4) .none true false) = X at tx
    simp [m5, tx, e6, a6', b3', tup2]
  · rcases z with z | ⟨z, ep, es, e⟩
    · exact .inl z
    · exact .inr ⟨z, ep, es, by rw [← G4.2 l hl]; exact e⟩
end Mine.PL

/-! Law 07, plain: versions; texts not in a list; the set (typed by hand). -/
set_option Elab.async false
namespace Mine.PL
variable {n : Nat} {h : Hp} {o w r B : Nat} {R : List Rw} {T NM : List Txt1} {dd : Txt1 → Nat}
theorem vers_is {x : Txt1} (s : Sh h o w r B R T NM dd) (hx : x ∈ NM) (ok : okName x) (q : (byN R x).map (fun q => AV.int q.ver) = [.int 1, .int 2]) : ∃ h' l, callF prog (n + 3) 43 [.ref o, .str x] h = .ok (.ref l) h' ∧ Grow h h' ∧ h'[l]? = some (.list [.int 1, .int 2]) := by
  rw [callF_def (fn := fn_Shelf_versions) rfl rfl rfl]
  obtain ⟨xs, e1⟩ := need_name (n := n) (o := o) (h := h) ok
  have s1 := s.keep (S := fun _ => False) (Kg.of (Grow.app h xs)) (fun _ _ _ => id) (fun _ _ => id)
  have m1 := meth_at (m := 3) (f := 16) s.inst rfl
  have G1 : Grow h (h ++ xs) := Grow.app _ _
  generalize h ++ xs = h1 at *
  have a7 := attr_at (a := 7) (v := .ref (o + 5)) s1.inst rfl
  obtain ⟨ep, e⟩ := s1.rows
  have kd := kd_get e
  have nd := new_dict (h := h1) ⟨prog, callF prog (n + 2)⟩ [some (.ref o), some (.str x)]
  have G2 : Grow h1 (h1 ++ [.dict (some 0) []]) := Grow.app _ _
  generalize h1 ++ [AO.dict (some 0) []] = h2 at nd G2
  have s2 := s1.keep (S := fun _ => False) (Kg.of G2) (fun _ _ _ => id) (fun _ _ => id)
  have gt := get_dict (v := .str x) (d := .ref h1.length) (G2.get e) rfl
  unfold ddE at gt
  rw [dget_str, if_pos hx] at gt
  obtain ⟨_, ep2, e2⟩ := s2.inner x hx
  have k1 := keys_dict e2
  have e3 : (vE T (byN R x)).map (·.1) = [.int 1, .int 2] := by
    unfold vE
    rw [List.map_map]
    exact q
  rw [e3] at k1
  have b1 := list_of k1 (by show 2 ≤ lim; decide)
  have b2 := sorted_of (keys_list (get_new h2 (.list [.int 1, .int 2]))) (show sortX [.int 1, .int 2] = some [.int 1, .int 2] from rfl) (by show 2 ≤ lim; decide)
  refine ⟨h2 ++ [.list [.int 1, .int 2]] ++ [.list [.int 1, .int 2]], _, ?_, ((G1.trans G2).trans (Grow.app _ _)).trans (Grow.app _ _), get_new _ _⟩
  simp [fn_Shelf_versions, m1, e1, a7, kd, nd, gt, b1, b2, -ev_dict, -List.append_assoc]
/-- texts that a list lacks -/
theorem notin_txt {l : Nat} {us : List Txt1} (e : h[l]? = some (.list (txtV us))) (t : Txt1) : cmpA .notin (.str t) (.ref l) h = some (!decide (t ∈ us)) := by
  show (inA h (.str t) (.ref l)).map _ = _
  have e0 : dictAt h (.ref l) = none := by show dct h[l]? = none; rw [e]; rfl
  unfold inA
  rw [e0]
  show (inT h t (.ref l)).map _ = _
  show ((match (listAt h (.ref l)).bind (mapO asStr) with | some ts => some (ts.contains t) | none => none).map (! ·)) = _
  rw [listAt_of e, Option.bind_some, asStr_map]
  show some (! us.contains t) = _
  congr 2
  rw [Bool.eq_iff_iff, List.contains_iff_mem, decide_eq_true_eq]
theorem sset_is {l : Nat} {ts : List Txt1} (e : h[l]? = some (.list (txtV ts))) (h1 : ts.length < 64) : ssetA (.ref l) h = .ok (.ref h.length) (h ++ [.list (txtV (sortT (onceT ts)))]) := by
  unfold ssetA
  rw [listAt_of e, Option.bind_some]
  unfold textsA
  rw [asStr_map]
  have := once_len ts
  simp only
  rw [if_pos ⟨by lia  , by lia  ⟩]
  exact newList_eq _ _ (by rw [List.length_map, sortT_len]; exact Nat.le_trans (by lia   : (onceT ts).length ≤ 64) (by decide))
end Mine.PL

/-! Law 07, plain: the start (typed by hand). -/
set_option Elab.async false
namespace Mine.PL
theorem joinT_flat : ∀ l : List Txt1, joinT [] l = l.flatten
  | [] => rfl
  | [x] => by simp [joinT]
  | x :: y :: r => by rw [joinT, joinT_flat (y :: r)]; simp
theorem pieces_small {s : Txt1} {w r : Nat} (hr : 1 ≤ r) (hs : s.length ≤ 399) : (piecesN s w r).length ≤ 402 ∧ ((piecesN s w r).map (·.length)).sum ≤ 1000 ∧ joinT [] (piecesN s w r) = s := by
  obtain ⟨es, e, _, _, f, _, l⟩ := pieces_ends s w r hr
  refine ⟨?_, ?_, ?_⟩
  · rw [e, List.length_map, gaps_len]; lia  
  · rw [← List.length_flatten, f]; lia  
  · rw [joinT_flat, f]
noncomputable abbrev CL : Cx := ⟨prog, callF prog 7⟩
/-- a new shelf's objects -/
noncomputable def newSh (o w r : Nat) : Hp := [.inst 1 [none, none, none, none, some (.int w), some (.int r), some (.ref (o + 1)), some (.ref (o + 5)), some (.ref (o + 6))], .inst 0 [some (.ref (o + 2)), some (.ref (o + 3)), some (.ref (o + 4)), some (.int 0), none, none, none, none, none],
  .dict (some 0) [], .dict (some 0) [], .dict (some 0) [], .dict (some 0) [], .dict (some 0) []]
theorem new_shelf (h : Hp) {w r : Nat} (w1 : 1 ≤ w) (w8 : w ≤ 8) (r1 : 1 ≤ r) (r40 : r ≤ 40)
    (q : exs ⟨prog, callF prog 6⟩ (fn_Shelf_init.body.drop 1) (h ++ [.inst 1 (List.replicate 9 none)]) [some (.ref h.length), some (.int w), some (.int r)] = .next (h ++ newSh h.length w r) [some (.ref h.length), some (.int w), some (.int r)]) :
    newA CL 1 [.int w, .int r] h = .ok (.ref h.length) (h ++ newSh h.length w r) := by
  have e : callF prog 7 15 [.ref h.length, .int w, .int r] (h ++ [.inst 1 (List.replicate 9 none)]) = .ok .none (h ++ newSh h.length w r) := by
    rw [callF_def (fn := fn_Shelf_init) rfl rfl rfl, exs_split 1]
    have a := are_sizes (n := 4) (h := h ++ [.inst 1 (List.replicate 9 none)]) w1 w8 r1 r40
    generalize h ++ [AO.inst 1 (List.replicate 9 none)] = H at a q ⊢
    have a : callF prog 6 8 [.int w, .int r] H = .ok (.bool true) H := a
    have e1 : exs ⟨prog, callF prog 6⟩ (fn_Shelf_init.body.take 1) H ([AV.ref h.length, .int w, .int r].map some ++ List.replicate (fn_Shelf_init.names.length - fn_Shelf_init.np) none) = .next H [some (.ref h.length), some (.int w), some (.int r)] := by
      simp [fn_Shelf_init, a]
    rw [e1, seqS_next, q, fin_next]
  have i1 : initAt CL.P 1 = some 15 := rfl
  have l9 : CL.P.attrs.length = 9 := rfl
  unfold newA
  rw [i1, l9]
  simp only
  rw [e]
  rfl
theorem rok0 : Rok [] [] [] := ⟨List.nodup_nil, List.nodup_nil, fun _ h => (nomatch h), fun x => by simp [cN], fun _ h => (nomatch h), fun _ h => (nomatch h), fun _ h => (nomatch h), fun _ h => (nomatch h), by simp, by simp, fun _ h => (nomatch h)⟩
theorem sh0 {h : Hp} {dd : Txt1 → Nat} {w r o B : Nat} (e : ∀ i, i < 7 → h[o + i]? = (newSh o w r)[i]?) : Sh h o w r B [] [] [] dd :=
  ⟨e 0 (by decide), ⟨e 1 (by decide), ⟨_, e 2 (by decide)⟩, ⟨_, e 3 (by decide)⟩, ⟨_, e 4 (by decide)⟩⟩, ⟨0, e 5 (by decide)⟩, ⟨_, e 6 (by decide)⟩, fun _ h => (nomatch h), fun _ h => (nomatch h)⟩
noncomputable def okText (x : Txt1) : Prop := (∀ c ∈ x, good c) ∧ x.length ≤ 299
noncomputable abbrev V (ns : List Int) (w r : Nat) (s : Txt1) (l : Nat) (x6 x7 x8 x9 x10 x11 x12 x13 : Option AV) : Vs := [some (.scr ns), some (.int w), some (.int r), some (.ref 0), some (.str s), some (.ref l), x6, x7, x8, x9, x10, x11, x12, x13, none]
/-- the shelf, the old text, its pieces -/
theorem law_start (ns : List Int) : ∃ (w r : Nat) (s : Txt1) (h : Hp) (l : Nat), 1 ≤ w ∧ w ≤ 8 ∧ 1 ≤ r ∧ r ≤ 40 ∧ okText s ∧ 7 ≤ l ∧ h[l]? = some (.list (txtV (piecesN s w r))) ∧ Sh h 0 w r 7 [] [] [] (fun _ => 0) ∧
    exs CL (fn_law.body.take 5) [] (some (.scr ns) :: List.replicate 14 none) = .next h (V ns w r s l none none none none none none none none) := by
  obtain ⟨w, ew, w1, w8⟩ := width_by (n := 6) (h := []) (cellAt ns 0)
  obtain ⟨r, er, r1, r40⟩ := reach_by (n := 6) (h := []) (cellAt ns 1)
  have c0 : callF prog 7 27 [.scr ns, .int 0] [] = _ := cell_at (n := 6) (h := []) ns 0
  have c1 : callF prog 7 27 [.scr ns, .int 1] [] = _ := cell_at (n := 6) (h := []) ns 1
  have s0 := new_shelf [] w1 w8 r1 r40 (by kernel_rfl)
  have s0' : newA CL 1 [.int w, .int r] [] = .ok (.ref 0) (newSh 0 w r) := s0
  have i1 : (initAt CL.P 1).isSome = true := rfl
  have l7 : (newSh 0 w r).length = 7 := rfl
  have sh : ∀ h, Grow (newSh 0 w r) h → Sh h 0 w r 7 [] [] [] (fun _ => 0) := fun h G => sh0 fun i hi => by rw [Nat.zero_add]; exact G.2 i (by rw [l7]; exact hi)
  generalize newSh 0 w r = h0 at s0' sh l7
  have z := sizeBy_lt (cellAt ns 3)
  have c2 : callF prog 7 27 [.scr ns, .int 2] h0 = _ := cell_at (n := 6) ns 2
  have c3 : callF prog 7 27 [.scr ns, .int 3] h0 = _ := cell_at (n := 6) ns 3
  have sb : callF prog 7 36 [.int (cellAt ns 3)] h0 = _ := size_by (n := 6) (cellAt ns 3)
  obtain ⟨s, e, g1, g2⟩ := text_by (n := 5) (h := h0) (cellAt ns 2) (sizeBy (cellAt ns 3)) z.1 z.2
  have e : callF prog 7 30 [.int (cellAt ns 2), .int (sizeBy (cellAt ns 3))] h0 = _ := e
  have G1 : Grow h0 (h0 ++ [.list [.int 2, .int 95, .int 95, .int 1]]) := Grow.app _ _
  generalize h0 ++ [AO.list [.int 2, .int 95, .int 95, .int 1]] = h1 at e G1
  obtain ⟨h2, e2, G2, a2⟩ := l_pieces_is (n := 4) (h := h1) (s := s) (by lia  ) w1 w8 r1 r40
  have e2 : callF prog 7 34 [.str s, .int w, .int r] h1 = _ := e2
  refine ⟨w, r, s, h2, h1.length, w1, w8, r1, r40, ⟨g1, by lia  ⟩, by have := G1.1; lia  , a2, sh h2 (G1.trans G2), ?_⟩
  simp only [fn_law, List.take_succ_cons, List.take_zero, List.replicate]
  simp [c0, ew, c1, er, i1, s0', c2, c3, sb, e, e2]
end Mine.PL

/-! Law 07, plain: another text beside it, the text kept (typed by hand). -/
set_option Elab.async false
namespace Mine.PL
variable {h h' : Hp} {w r l : Nat} {s : Txt1}
noncomputable abbrev nFar : Txt1 := [102, 97, 114]
noncomputable abbrev nNm : Txt1 := [110, 97, 109, 101]
noncomputable abbrev pHalf : MS := .ifs (.cmp (.bin .mod (.call 27 [.var 0, .int 4]) (.int 2)) .eq (.int 1)) [.set 6 (.call 30 [.call 27 [.var 0, .int 4], .call 36 [.bin .div (.call 27 [.var 0, .int 4]) (.int 2)]]),
    .expr (.meth (.var 3) 11 [.str [102, 97, 114], .var 6]),
    .set 5 (.bin .add (.var 5) (.call 34 [.var 6, .var 1, .var 2]))] []
noncomputable abbrev pKeep : MS := .expr (.meth (.var 3) 11 [.str [110, 97, 109, 101], .var 4])
/-- before the text is kept -/
structure Bef (h : Hp) (w r : Nat) (s : Txt1) (l : Nat) (R : List Rw) (T NM : List Txt1) (dd : Txt1 → Nat) (held : List Txt1) : Prop where
  sh : Sh h 0 w r 7 R T NM dd
  ok : Rok R T NM
  len : R.length ≤ 1
  by0 : byN R nNm = []
  lst : h[l]? = some (.list (txtV held))
  hl : held.length ≤ 1000
  l7 : 7 ≤ l
  mem : ∀ x, x ∈ held ↔ x ∈ T ∨ x ∈ piecesN s w r
theorem list_kept {h h' : Hp} {l : Nat} {xs : List AV} (K : Kg (inPut h 0 7) h h') (e : h[l]? = some (.list xs)) (q : 7 ≤ l) : h'[l]? = some (.list xs) := K.get e fun z => by
  rcases z with z | ⟨_, _, _, z⟩
  · lia  
  · rw [e] at z; cases z
theorem law_half (ns : List Int) (w1 : 1 ≤ w) (w8 : w ≤ 8) (r1 : 1 ≤ r) (r40 : r ≤ 40) (hs : okText s) (l7 : 7 ≤ l) (e : h[l]? = some (.list (txtV (piecesN s w r)))) (S : Sh h 0 w r 7 [] [] [] (fun _ => 0)) :
    ∃ h' l' x6 R T NM dd held, ex CL pHalf h (V ns w r s l none none none none none none none none) = .next h' (V ns w r s l' x6 none none none none none none none) ∧ Bef h' w r s l' R T NM dd held := by
  have c4 := fun h => show callF prog 7 27 [.scr ns, .int 4] h = _ from cell_at (n := 6) ns 4
  have m4 := mod_int h (cellAt ns 4) 2 (by decide)
  have ps := pieces_small (w := w) r1 (Nat.le_trans hs.2 (by decide))
  by_cases q : cellAt ns 4 % 2 = 1
  · have z := sizeBy_lt (cellAt ns 4 / 2)
    have d4 := div_int h (cellAt ns 4) 2 (by decide) (by decide)
    have sb : callF prog 7 36 [.int (cellAt ns 4 / 2)] h = _ := size_by (n := 6) (cellAt ns 4 / 2)
    obtain ⟨f, e1, g1, g2⟩ := text_by (n := 5) (h := h) (cellAt ns 4) (sizeBy (cellAt ns 4 / 2)) z.1 z.2
    have e1 : callF prog 7 30 [.int (cellAt ns 4), .int (sizeBy (cellAt ns 4 / 2))] h = _ := e1
    have G1 : Grow h (h ++ [.list [.int 2, .int 95, .int 95, .int 1]]) := Grow.app _ _
    generalize h ++ [AO.list [.int 2, .int 95, .int 95, .int 1]] = h1 at e1 G1
    have S1 := S.keep (S := fun _ => False) (Kg.of G1) (fun _ _ _ => id) (fun _ _ => id)
    have a1 := G1.get e
    have lh := (List.getElem?_eq_some_iff.mp a1).1
    have pf := pieces_small (s := f) (w := w) r1 (by lia  )
    have oF : okName nFar := by unfold okName; decide
    obtain ⟨h2, dd2, e2, S2, K2⟩ := keep_is (n := 2) (x := nFar) (t := f) S1 rok0 (by decide) (by lia  ) (by decide) oF g1 (by omega) w8 r1 r40 pf.1 0
    have e2 : callF prog 7 21 [.ref 0, .str nFar, .str f] h1 = _ := e2
    have m2 := meth_at (m := 11) (f := 21) S1.inst rfl
    have k2 := rok0.add ⟨nFar, cN [] nFar + 1, piecesN f w r, 0⟩ oF rfl pf.1 pf.2.1
    have a2 := list_kept K2 a1 l7
    obtain ⟨h3, e3, G3, a3⟩ := l_pieces_is (n := 4) (h := h2) (s := f) (by lia  ) w1 w8 r1 r40
    have e3 : callF prog 7 34 [.str f, .int w, .int r] h2 = _ := e3
    have hlim : 10000 ≤ lim := by decide
    have ad := add_list h3 (G3.get a2) a3 (by rw [List.length_map, List.length_map]; lia  )
    have S3 := S2.keep (S := fun _ => False) (Kg.of (G3.trans (Grow.app h3 [.list (txtV (piecesN s w r) ++ txtV (piecesN f w r))]))) (fun _ _ _ => id) (fun _ _ => id)
    have := G3.1
    have := (List.getElem?_eq_some_iff.mp a2).1
    refine ⟨h3 ++ [.list (txtV (piecesN s w r) ++ txtV (piecesN f w r))], h3.length, some (.str f), _, _, _, dd2, piecesN s w r ++ piecesN f w r, ?_, S3, k2, Nat.le_refl 1, rfl, ?_, by rw [List.length_append]; lia  , by lia  , fun x => ?_⟩
    · simp [c4, m4, q, d4, sb, e1, m2, e2, e3, ad]
    · rw [get_new]
      simp only [txtV, List.map_append]
    · rw [List.mem_append, mem_addT]
      constructor
      · rintro (z | z)
        · exact .inr z
        · exact .inl (.inr z)
      · rintro ((z | z) | z)
        · cases z
        · exact .inr z
        · exact .inl z
  · exact ⟨h, l, none, [], [], [], _, piecesN s w r, by simp [c4, m4, q], S, rok0, by decide, rfl, e, by lia  , l7, fun x => by simp⟩
/-- after the text is kept -/
structure Aft (h : Hp) (w r : Nat) (s : Txt1) (l : Nat) (R : List Rw) (T NM : List Txt1) (dd : Txt1 → Nat) (held : List Txt1) : Prop where
  sh : Sh h 0 w r 7 R T NM dd
  ok : Rok R T NM
  len : R.length ≤ 2
  row : ∃ R0, R = R0 ++ [⟨nNm, 1, piecesN s w r, 0⟩] ∧ byN R0 nNm = []
  lst : h[l]? = some (.list (txtV held))
  l7 : 7 ≤ l
  mem : ∀ x, x ∈ held ↔ x ∈ T
  sub : ∀ x ∈ piecesN s w r, x ∈ held
theorem law_keep (ns : List Int) (w8 : w ≤ 8) (r1 : 1 ≤ r) (r40 : r ≤ 40) (hs : okText s) {R : List Rw} {T NM held : List Txt1} {dd : Txt1 → Nat} (b : Bef h w r s l R T NM dd held) (x6 : Option AV) :
    ∃ h' R T NM dd, ex CL pKeep h (V ns w r s l x6 none none none none none none none) = .next h' (V ns w r s l x6 none none none none none none none) ∧ Aft h' w r s l R T NM dd held := by
  have ps := pieces_small (w := w) r1 (Nat.le_trans hs.2 (by decide))
  have lh := (List.getElem?_eq_some_iff.mp b.lst).1
  have l7 := b.l7
  have c0 : cN R nNm = 0 := by have := b.by0; unfold byN at this; unfold cN; rw [this]; rfl
  have on : okName nNm := by unfold okName; decide
  obtain ⟨h2, dd2, e2, S2, K2⟩ := keep_is (n := 2) (x := nNm) (t := s) b.sh b.ok (by decide) (by lia  ) (by have := b.len; lia  ) on hs.1 (by have := hs.2; lia  ) w8 r1 r40 ps.1 0
  have e2 : callF prog 7 21 [.ref 0, .str nNm, .str s] h = _ := e2
  have m2 := meth_at (m := 11) (f := 21) b.sh.inst rfl
  have k2 := b.ok.add ⟨nNm, cN R nNm + 1, piecesN s w r, 0⟩ on rfl ps.1 ps.2.1
  rw [c0] at S2 k2
  refine ⟨h2, _, _, _, dd2, by simp [m2, e2], S2, k2, ?_, ⟨R, rfl, b.by0⟩, list_kept K2 b.lst l7, l7, fun x => ?_, fun x hx => (b.mem x).mpr (.inr hx)⟩
  · rw [List.length_append]; have := b.len; simp; omega
  · rw [b.mem, mem_addT]
end Mine.PL

/-! Law 07, plain: the stretch and the new text (typed by hand). -/
set_option Elab.async false
namespace Mine.PL
variable {h : Hp} {w r l : Nat} {s : Txt1}
noncomputable abbrev pSt1 : MS := .set 7 (.bin .mod (.bin .div (.call 27 [.var 0, .int 5]) (.int 3)) (.bin .add (.bi .len [.var 4]) (.int 1)))
noncomputable abbrev pSt2 : MS := .ifs (.cmp (.bin .mod (.call 27 [.var 0, .int 5]) (.int 3)) .eq (.int 2)) [.set 7 (.idx (.list [.int 0, .bi .len [.var 4]]) (.bin .mod (.bin .div (.call 27 [.var 0, .int 5]) (.int 3)) (.int 2)))] []
noncomputable abbrev pEn : MS := .set 8 (.bin .add (.var 7) (.bin .mod (.call 27 [.var 0, .int 6]) (.bin .add (.bin .sub (.bi .len [.var 4]) (.var 7)) (.int 1))))
noncomputable abbrev pNew : MS := .set 9 (.call 30 [.call 27 [.var 0, .int 7], .bin .mod (.call 27 [.var 0, .int 8]) (.int 30)])
noncomputable abbrev pTxt : MS := .set 10 (.bin .add (.bin .add (.slice (.var 4) .none (.var 7) false true) (.var 9)) (.slice (.var 4) (.var 8) .none true false))
theorem law_st (ns : List Int) (hs : s.length ≤ 299) (x6 : Option AV) : ∃ (st : Nat) (xs : Hp), st ≤ s.length ∧ exs CL [pSt1, pSt2] h (V ns w r s l x6 none none none none none none none) = .next (h ++ xs) (V ns w r s l x6 (some (.int st)) none none none none none none) := by
  have c5 := fun h => show callF prog 7 27 [.scr ns, .int 5] h = _ from cell_at (n := 6) ns 5
  have d1 := fun h => div_int h (cellAt ns 5) 3 (by decide) (by decide)
  have d2 := fun h => mod_int h (cellAt ns 5) 3 (by decide)
  have d3 := mod_int h (cellAt ns 5 / 3) ((s.length : Int) + 1) (by lia  )
  have d4 := fun h => mod_int h (cellAt ns 5 / 3) 2 (by decide)
  have nl := newList_eq h [.int 0, .int (s.length : Int)] (by show 2 ≤ lim; decide)
  by_cases q : cellAt ns 5 % 3 = 2
  · obtain ⟨k, hk, hk2⟩ : ∃ k : Nat, cellAt ns 5 / 3 % 2 = (k : Int) ∧ k < 2 := ⟨(cellAt ns 5 / 3 % 2).toNat, by lia  , by lia  ⟩
    obtain ⟨st, hst, e⟩ : ∃ st : Nat, st ≤ s.length ∧ ([.int 0, .int (s.length : Int)] : List AV)[k]? = some (.int (st : Int)) := by
      match k, hk2 with
      | 0, _ => exact ⟨0, by lia  , rfl⟩
      | 1, _ => exact ⟨s.length, by lia  , rfl⟩
    have ix := idx_list (xs := [.int 0, .int (s.length : Int)]) (h ++ [.list [.int 0, .int (s.length : Int)]]) (get_new _ _) (place_at (n := 2) hk2) e
    refine ⟨st, [.list [.int 0, .int (s.length : Int)]], hst, ?_⟩
    rw [hk] at d4
    simp [c5, d1, d2, d3, d4, nl, q, ix, -newList_eq, -mod_int, -div_int]
  · refine ⟨(cellAt ns 5 / 3 % ((s.length : Int) + 1)).toNat, [], by have := Int.emod_lt_of_pos (cellAt ns 5 / 3) (show (0 : Int) < (s.length : Int) + 1 by omega); lia  , ?_⟩
    have e0 : (((cellAt ns 5 / 3 % ((s.length : Int) + 1)).toNat : Nat) : Int) = cellAt ns 5 / 3 % ((s.length : Int) + 1) := Int.toNat_of_nonneg (Int.emod_nonneg _ (by lia  ))
    rw [e0, List.append_nil]
    simp [c5, d1, d2, d3, q, -mod_int, -div_int]
theorem law_place (ns : List Int) (hs : s.length ≤ 299) (x6 : Option AV) : ∃ (st en : Nat) (y : Txt1) (h' : Hp), st ≤ en ∧ en ≤ s.length ∧ (∀ x ∈ y, good x) ∧ y.length ≤ 29 ∧ Grow h h' ∧
    exs CL [pSt1, pSt2, pEn, pNew, pTxt] h (V ns w r s l x6 none none none none none none none) = .next h' (V ns w r s l x6 (some (.int st)) (some (.int en)) (some (.str y)) (some (.str (s.take st ++ y ++ s.drop en))) none none none) := by
  obtain ⟨st, xs, hst, e1⟩ := law_st (h := h) (w := w) (r := r) (l := l) ns hs x6
  have G1 : Grow h (h ++ xs) := Grow.app _ _
  generalize h ++ xs = h1 at e1 G1
  have c6 : callF prog 7 27 [.scr ns, .int 6] h1 = _ := cell_at (n := 6) ns 6
  have c7 : callF prog 7 27 [.scr ns, .int 7] h1 = _ := cell_at (n := 6) ns 7
  have c8 : callF prog 7 27 [.scr ns, .int 8] h1 = _ := cell_at (n := 6) ns 8
  have m6 := mod_int h1 (cellAt ns 6) ((s.length : Int) - st + 1) (by lia  )
  obtain ⟨en, hen, en1, en2⟩ : ∃ en : Nat, (st : Int) + cellAt ns 6 % ((s.length : Int) - st + 1) = (en : Int) ∧ st ≤ en ∧ en ≤ s.length := by
    have q1 := Int.emod_nonneg (cellAt ns 6) (show ((s.length : Int) - st + 1) ≠ 0 by lia  )
    have q2 := Int.emod_lt_of_pos (cellAt ns 6) (show 0 < ((s.length : Int) - st + 1) by lia  )
    exact ⟨((st : Int) + cellAt ns 6 % ((s.length : Int) - st + 1)).toNat, by lia  , by lia  , by lia  ⟩
  have m8 := mod_int h1 (cellAt ns 8) 30 (by decide)
  obtain ⟨y, ey, yg, yl⟩ := text_by (n := 5) (h := h1) (cellAt ns 7) (cellAt ns 8 % 30) (by lia  ) (by lia  )
  have ey : callF prog 7 30 [.int (cellAt ns 7), .int (cellAt ns 8 % 30)] h1 = _ := ey
  refine ⟨st, en, y, h1 ++ [.list [.int 2, .int 95, .int 95, .int 1]], en1, en2, yg, by lia  , G1.trans (Grow.app _ _), ?_⟩
  have tx := text3 (h := h1 ++ [.list [.int 2, .int 95, .int 95, .int 1]]) s y (st := st) (en := en) (by omega) en2 (by lia  ) CL (v4 := 4) (v7 := 7) (v8 := 8) (v9 := 9)
    (vs := V ns w r s l x6 (some (.int st)) (some (.int en)) (some (.str y)) none none none none) (fun _ => rfl) (fun _ => rfl) (fun _ => rfl) (fun _ => rfl)
  rw [show [pSt1, pSt2, pEn, pNew, pTxt] = [pSt1, pSt2] ++ [pEn, pNew, pTxt] from rfl, exs_append, e1, seqS_next]
  generalize h1 ++ [AO.list [.int 2, .int 95, .int 95, .int 1]] = h2 at ey tx
  unfold pTxt
  generalize ME.bin .add (.bin .add (.slice (.var 4) .none (.var 7) false true) (.var 9)) (.slice (.var 4) (.var 8) .none true false) = X at tx
  simp [c6, m6, hen, c7, c8, m8, ey, tx, -mod_int, -List.append_assoc]
end Mine.PL

/-! Law 07, plain: what is new, the change (typed by hand). -/
set_option Elab.async false
namespace Mine.PL
variable {h : Hp} {w r l : Nat} {s : Txt1} {R : List Rw} {T NM held : List Txt1} {dd : Txt1 → Nat}
theorem Aft.grow {h' : Hp} (a : Aft h w r s l R T NM dd held) (G : Grow h h') : Aft h' w r s l R T NM dd held where
  sh := a.sh.keep (S := fun _ => False) (Kg.of G) (fun _ _ _ => id) (fun _ _ => id)
  ok := a.ok
  len := a.len
  row := a.row
  lst := G.get a.lst
  l7 := a.l7
  mem := a.mem
  sub := a.sub
noncomputable abbrev eFresh : ME := .comp (.var 14) 14 (.call 34 [.var 10, .var 1, .var 2]) [.cmp (.var 14) .notin (.var 5)] sc8
noncomputable abbrev pFresh : MS := .set 11 (.sset eFresh)
/-- the new pieces -/
noncomputable abbrev frs (t : Txt1) (w r : Nat) (held : List Txt1) : List Txt1 := (piecesN t w r).filter fun p => !decide (p ∈ held)
theorem frs_few {st en : Nat} {y : Txt1} (h1 : st ≤ en) (h2 : en ≤ s.length) (w1 : 1 ≤ w) (r1 : 1 ≤ r) (sub : ∀ x ∈ piecesN s w r, x ∈ held) :
    (frs (s.take st ++ y ++ s.drop en) w r held).length ≤ (y.length + 3 * r + w - 1) / (r + 1) + 1 := by
  have es : s = s.take st ++ (s.drop st).take (en - st) ++ s.drop en := by
    rw [List.append_assoc]
    have : s.drop en = (s.drop st).drop (en - st) := by rw [List.drop_drop]; congr 1; lia  
    rw [this, List.take_append_drop, List.take_append_drop]
  have f := few_new (A := s.take st) (X := (s.drop st).take (en - st)) (Y := y) (B := s.drop en) (w := w) (r := r) w1 r1
  rw [← es] at f
  refine Nat.le_trans ?_ f
  unfold frs
  rw [← List.countP_eq_length_filter, ← List.countP_eq_length_filter]
  refine List.countP_mono_left fun x _ hx => ?_
  rw [Bool.not_eq_true', decide_eq_false_iff_not] at hx ⊢
  exact fun z => hx (sub x z)
theorem few_64 {y w r : Nat} (hy : y ≤ 29) (hw : w ≤ 8) (r1 : 1 ≤ r) : (y + 3 * r + w - 1) / (r + 1) + 1 < 64 := by
  have : y + 3 * r + w - 1 < 62 * (r + 1) := by omega
  have := Nat.div_lt_of_lt_mul (show y + 3 * r + w - 1 < (r + 1) * 62 by omega)
  omega
theorem law_fresh (ns : List Int) (w1 : 1 ≤ w) (w8 : w ≤ 8) (r1 : 1 ≤ r) (r40 : r ≤ 40) (a : Aft h w r s l R T NM dd held) {t : Txt1} (ht : t.length ≤ 399) (hf : (frs t w r held).length < 64) (x6 x7 x8 x9 : Option AV) :
    ∃ h' f, ex CL pFresh h (V ns w r s l x6 x7 x8 x9 (some (.str t)) none none none) = .next h' (V ns w r s l x6 x7 x8 x9 (some (.str t)) (some (.ref f)) none none) ∧ Grow h h' ∧ 7 ≤ f ∧ ∃ zs, h'[f]? = some (.list (txtV zs)) ∧ zs.length = (onceT (frs t w r held)).length := by
  have pt := pieces_small (s := t) (w := w) r1 ht
  obtain ⟨h1, e1, G1, a1⟩ := l_pieces_is (n := 4) (h := h) (s := t) (by lia  ) w1 w8 r1 r40
  have e1 : callF prog 7 34 [.str t, .int w, .int r] h = _ := e1
  have hl := G1.get a.lst
  have c := comp_list (cs := evConds CL [.cmp (.var 14) .notin (.var 5)]) (el := ev CL (.var 14)) (x := 14) (vs := V ns w r s l x6 x7 x8 x9 (some (.str t)) none none none) (piecesN t w r) AV.str a1 (by lia  ) (fun p => !decide (p ∈ held)) AV.str (fun p _ => by
      have n1 := notin_txt hl p
      have e14 : slotO ((V ns w r s l x6 x7 x8 x9 (some (.str t)) none none none).set 14 (some (.str p))) 14 h1 = .ok (.str p) h1 := rfl
      simp only [evConds_cons', ev_cmp', ev_var, e14, kCmp1_ok]
      have e5 : slotO ((V ns w r s l x6 x7 x8 x9 (some (.str t)) none none none).set 14 (some (.str p))) 5 h1 = .ok (.ref l) h1 := rfl
      rw [e5, kCmp2_ok, n1, boolO_some, kCond_ok, truth_bool]
      cases decide (p ∈ held) <;> rfl) (fun p _ _ => rfl)
  have ss := sset_is (h := h1 ++ [.list (txtV (frs t w r held))]) (get_new h1 _) hf
  have e2 : ev CL eFresh h (V ns w r s l x6 x7 x8 x9 (some (.str t)) none none none) = .ok (.ref h1.length) (h1 ++ [.list (txtV (frs t w r held))]) := by
    rw [ev_comp]
    have : ev CL (.call 34 [.var 10, .var 1, .var 2]) h (V ns w r s l x6 x7 x8 x9 (some (.str t)) none none none) = .ok (.ref h.length) h1 := by simp [e1]
    rw [this, bind_ok]
    exact c
  have g1 := G1.1
  have l7 := a.l7
  have lh := (List.getElem?_eq_some_iff.mp a.lst).1
  refine ⟨_, _, ?_, (G1.trans (Grow.app h1 [.list (txtV (frs t w r held))])).trans (Grow.app _ [.list (txtV (sortT (onceT (frs t w r held))))]), by simp; lia  , _, get_new _ _, sortT_len _⟩
  rw [ex_set, ev_q28, e2, bind_ok, ss, bindS_ok]
  rfl
noncomputable abbrev pChange : MS := .set 12 (.meth (.var 3) 16 [.str [110, 97, 109, 101], .int 1, .var 7, .var 8, .var 9])
/-- what stands after the change -/
structure Chg (h : Hp) (w r : Nat) (s t : Txt1) (f : Nat) (zs : List Txt1) (R : List Rw) (T NM : List Txt1) (dd : Txt1 → Nat) : Prop where
  sh : Sh h 0 w r 7 R T NM dd
  ok : Rok R T NM
  row1 : ⟨nNm, 1, piecesN s w r, 0⟩ ∈ R
  row2 : ⟨nNm, 2, piecesN t w r, 0⟩ ∈ R
  vers : (byN R nNm).map (fun q => AV.int q.ver) = [.int 1, .int 2]
  lst : h[f]? = some (.list (txtV zs))
theorem law_change (ns : List Int) (w8 : w ≤ 8) (r1 : 1 ≤ r) (r40 : r ≤ 40) (hs : okText s) (a : Aft h w r s l R T NM dd held) {st en : Nat} {y t : Txt1} (ht : t = s.take st ++ y ++ s.drop en) (h1 : st ≤ en) (h2 : en ≤ s.length) (yg : ∀ x ∈ y, good x) (hy : y.length ≤ 29)
    {f : Nat} {zs : List Txt1} (f7 : 7 ≤ f) (hf : h[f]? = some (.list (txtV zs))) (hz : zs.length = (onceT (frs t w r held)).length) (x6 x10 x11 : Option AV) :
    ∃ h' R T NM dd, ex CL pChange h (V ns w r s l x6 (some (.int st)) (some (.int en)) (some (.str y)) x10 x11 none none) = .next h' (V ns w r s l x6 (some (.int st)) (some (.int en)) (some (.str y)) x10 x11 (some (.tup [.int 2, .int zs.length])) none) ∧ Chg h' w r s t f zs R T NM dd := by
  have ps := pieces_small (w := w) r1 (Nat.le_trans hs.2 (by decide))
  have tl : t.length ≤ 399 := by rw [ht, List.length_append, List.length_append, List.length_take, List.length_drop]; have := hs.2; lia  
  have pt := pieces_small (s := t) (w := w) r1 tl
  obtain ⟨R0, rfl, b0⟩ := a.row
  have lh := (List.getElem?_eq_some_iff.mp a.lst).1
  have l7 := a.l7
  have c0 : (byN R0 nNm).length = 0 := by rw [b0]; rfl
  have c1 : cN (R0 ++ [⟨nNm, 1, piecesN s w r, 0⟩]) nNm = 1 := by
    rw [cN_add, if_pos rfl]
    show (byN R0 nNm).length + 1 = 1
    rw [c0]
  have hq : (⟨nNm, 1, piecesN s w r, 0⟩ : Rw) ∈ R0 ++ [⟨nNm, 1, piecesN s w r, 0⟩] := by simp
  have e0 : joinT [] (⟨nNm, 1, piecesN s w r, 0⟩ : Rw).parts = s := ps.2.2
  obtain ⟨h', dd', e, S', K'⟩ := change_is (n := 2) (q := ⟨nNm, 1, piecesN s w r, 0⟩) (y := y) (st := st) (en := en) a.sh a.ok hq (by decide) (by lia  ) (by have := a.len; lia  ) (t := t) (by rw [e0]; exact ht) h1 (by rw [e0]; exact h2) (by rw [e0]; have := hs.2; lia  ) yg w8 r1 r40 pt.1 0
  have e : callF prog 7 41 [.ref 0, .str nNm, .int 1, .int st, .int en, .str y] h = _ := e
  have on : okName nNm := by unfold okName; decide
  have k' := a.ok.add ⟨nNm, cN (R0 ++ [⟨nNm, 1, piecesN s w r, 0⟩]) nNm + 1, piecesN t w r, 0⟩ on rfl pt.1 pt.2.1
  have cnt : ((addT T (piecesN t w r)).length : Int) - T.length = zs.length := by
    rw [hz, addT_new, List.length_append]
    have : frs t w r held = (piecesN t w r).filter fun p => !decide (p ∈ T) := List.filter_congr fun x _ => by
      rw [decide_eq_decide.mpr (a.mem x)]
    rw [this, Int.natCast_add, Int.add_comm, Int.add_sub_cancel]
  rw [c1] at S' k' e
  rw [cnt] at e
  have m := meth_at (m := 16) (f := 41) a.sh.inst rfl
  refine ⟨h', _, _, _, dd', ?_, S', k', ?_, ?_, ?_, list_kept K' hf f7⟩
  · simp [m, e]
  · simp
  · simp
  · unfold byN at b0 ⊢
    rw [List.filter_append, List.filter_append, b0]
    rfl
end Mine.PL

/-! Law 07, plain: what is asked, the whole (typed by hand). -/
set_option Elab.async false
namespace Mine.PL
variable {h : Hp} {w r l : Nat} {s t : Txt1} {R : List Rw} {T NM zs : List Txt1} {dd : Txt1 → Nat} {f : Nat}
theorem Chg.grow {h' : Hp} (a : Chg h w r s t f zs R T NM dd) (G : Grow h h') : Chg h' w r s t f zs R T NM dd where
  sh := a.sh.keep (S := fun _ => False) (Kg.of G) (fun _ _ _ => id) (fun _ _ => id)
  ok := a.ok
  row1 := a.row1
  row2 := a.row2
  vers := a.vers
  lst := G.get a.lst
@[simp] theorem slot12 (a0 a1 a2 a3 a4 a5 a6 a7 a8 a9 a10 a11 : Option AV) (a : AV) (r : Vs) (h : Hp) : slotO (a0 :: a1 :: a2 :: a3 :: a4 :: a5 :: a6 :: a7 :: a8 :: a9 :: a10 :: a11 :: some a :: r) 12 h = .ok a h := rfl
noncomputable abbrev pAsk : MS := .ifs (.or [.not (.call 35 [.var 12, .tup [.int 2, .bi .len [.var 11]]]), .cmp (.bi .len [.var 11]) .gt (.call 39 [.bi .len [.var 9], .var 1, .var 2])]) [.ret (.bool false)] []
noncomputable abbrev bTurn : List MS := [.ifs (.or [.not (.call 35 [.meth (.var 3) 12 [.str [110, 97, 109, 101], .int 2], .var 10]), .not (.call 35 [.meth (.var 3) 12 [.str [110, 97, 109, 101], .int 1], .var 4])]) [.ret (.bool false)] []]
noncomputable abbrev pTurns : MS := .loop 13 (.bi .range [.int 2]) bTurn
noncomputable abbrev pEnd : MS := .ret (.call 35 [.meth (.var 3) 17 [.str [110, 97, 109, 101]], .list [.int 1, .int 2]])
theorem alike_ints (h : Hp) (xs : List AV) (q : ∀ x ∈ xs, ∃ i, x = .int i) (k : Nat) (x y : AV) (h1 : xs[k]? = some x) (h2 : xs[k]? = some y) : callF prog 6 35 [x, y] h = .ok (.bool true) h := by
  rw [h1] at h2
  cases h2
  obtain ⟨i, rfl⟩ := q x (List.mem_of_getElem? h1)
  rw [show callF prog 6 35 [.int i, .int i] h = _ from alike_int (n := 4) i i, decide_eq_true rfl]
theorem law_ask (ns : List Int) (r40 : r ≤ 40) (c : Chg h w r s t f zs R T NM dd) {y : Txt1} (hz : zs.length ≤ (y.length + 3 * r + w - 1) / (r + 1) + 1) (w1 : 1 ≤ w) (x6 x7 x8 x10 : Option AV) :
    ex CL pAsk h (V ns w r s l x6 x7 x8 (some (.str y)) x10 (some (.ref f)) (some (.tup [.int 2, .int zs.length])) none) = .next h (V ns w r s l x6 x7 x8 (some (.str y)) x10 (some (.ref f)) (some (.tup [.int 2, .int zs.length])) none) := by
  have ln := len_list h c.lst
  rw [List.length_map] at ln
  have al : callF prog 7 35 [.tup [.int 2, .int zs.length], .tup [.int 2, .int zs.length]] h = .ok (.bool true) h := alike_tup (m := 6) _ _ rfl (by show 2 ≤ 100000; decide) (alike_ints h _ (by simp))
  have fw : callF prog 7 39 [.int y.length, .int w, .int r] h = _ := few_is (n := 6) (h := h) (y.length : Int) (w := w) r40
  have gt : decide ((zs.length : Int) > ((y.length : Int) + 3 * r + w - 1) / (r + 1) + 1) = false := by
    rw [decide_eq_false_iff_not]
    have : ((y.length : Int) + 3 * r + w - 1) / (r + 1) + 1 = (((y.length + 3 * r + w - 1) / (r + 1) + 1 : Nat) : Int) := by
      rw [Int.natCast_add, Int.natCast_ediv, show ((List.length y + 3 * r + w - 1 : Nat) : Int) = (List.length y : Int) + 3 * r + w - 1 by lia  ]
      rfl
    rw [this]
    lia  
  generalize hX : ((y.length : Int) + 3 * r + w - 1) / (r + 1) + 1 = X at fw gt
  have tu := tup2 (h := h) (.int 2) (.int zs.length)
  have gt' : cmpA .gt (.int zs.length) (.int X) h = some false := by rw [gt_int, gt]
  simp [ln, tu, al, fw, gt', -gt_int]
theorem law_turn (ns : List Int) (r1 : 1 ≤ r) (hs : s.length ≤ 399) (ht : t.length ≤ 399) (c : Chg h w r s t f zs R T NM dd) (x6 x7 x8 x9 x11 x12 : Option AV) (v : AV) :
    ∃ xs, exs CL bTurn h (V ns w r s l x6 x7 x8 x9 (some (.str t)) x11 x12 (some v)) = .next (h ++ xs) (V ns w r s l x6 x7 x8 x9 (some (.str t)) x11 x12 (some v)) := by
  have ps := pieces_small (s := s) (w := w) r1 hs
  have pt := pieces_small (s := t) (w := w) r1 ht
  obtain ⟨xs, e1⟩ := text_is (n := 2) c.sh c.ok c.row2
  have e1 : callF prog 7 23 [.ref 0, .str nNm, .int 2] h = .ok (.str (joinT [] (piecesN t w r))) (h ++ xs) := e1
  rw [pt.2.2] at e1
  have c1 := c.grow (Grow.app h xs)
  obtain ⟨ys, e2⟩ := text_is (n := 2) c1.sh c.ok c.row1
  have e2 : callF prog 7 23 [.ref 0, .str nNm, .int 1] (h ++ xs) = .ok (.str (joinT [] (piecesN s w r))) (h ++ xs ++ ys) := e2
  rw [ps.2.2] at e2
  have m1 := meth_at (m := 12) (f := 23) c.sh.inst rfl
  have m2 := meth_at (m := 12) (f := 23) c1.sh.inst rfl
  have a1 : callF prog 7 35 [.str t, .str t] (h ++ xs) = _ := alike_str (n := 6) t t
  have a2 : callF prog 7 35 [.str s, .str s] (h ++ xs ++ ys) = _ := alike_str (n := 6) s s
  rw [decide_eq_true rfl] at a1 a2
  exact ⟨xs ++ ys, by rw [← List.append_assoc]; simp [m1, e1, a1, m2, e2, a2, -List.append_assoc]⟩
theorem law_turns (ns : List Int) (r1 : 1 ≤ r) (hs : s.length ≤ 399) (ht : t.length ≤ 399) (c : Chg h w r s t f zs R T NM dd) (x6 x7 x8 x9 x11 x12 : Option AV) :
    ∃ h' x13, ex CL pTurns h (V ns w r s l x6 x7 x8 x9 (some (.str t)) x11 x12 none) = .next h' (V ns w r s l x6 x7 x8 x9 (some (.str t)) x11 x12 x13) ∧ Chg h' w r s t f zs R T NM dd := by
  obtain ⟨st, q, h', x13, rfl, c'⟩ := range_inv (f := turn CL 13 bTurn) (fun _ st => ∃ (h' : Hp) (x13 : Option AV), st = (h', V ns w r s l x6 x7 x8 x9 (some (.str t)) x11 x12 x13) ∧ Chg h' w r s t f zs R T NM dd) 2
    (s := (h, V ns w r s l x6 x7 x8 x9 (some (.str t)) x11 x12 none)) ⟨h, none, rfl, c⟩ (by
      rintro i _ hi ⟨h1, y, rfl, c1⟩
      obtain ⟨xs, e⟩ := law_turn (l := l) ns r1 hs ht c1 x6 x7 x8 x9 x11 x12 (.int i)
      exact ⟨_, turn_next e, _, _, rfl, c1.grow (Grow.app _ _)⟩)
  refine ⟨h', x13, ?_, c'⟩
  have r2 := range1 h 2 (by decide) (by decide)
  have lg := loopS_go q
  simp [r2, -range1]
  exact lg
theorem law_end (ns : List Int) (c : Chg h w r s t f zs R T NM dd) (x6 x7 x8 x9 x10 x11 x12 x13 : Option AV) : ∃ h', ex CL pEnd h (V ns w r s l x6 x7 x8 x9 x10 x11 x12 x13) = .ret (.bool true) h' := by
  have hx := (c.ok.nm nNm).mpr (cN_pos (r := ⟨nNm, 1, piecesN s w r, 0⟩) c.row1)
  have on : okName nNm := by unfold okName; decide
  obtain ⟨h1, a, e1, G1, a1⟩ := vers_is (n := 4) c.sh hx on c.vers
  have e1 : callF prog 7 43 [.ref 0, .str nNm] h = _ := e1
  have m := meth_at (m := 17) (f := 43) c.sh.inst rfl
  have nl := newList_eq h1 [.int 1, .int 2] (by show 2 ≤ lim; decide)
  have al : callF prog 7 35 [.ref a, .ref h1.length] (h1 ++ [.list [.int 1, .int 2]]) = .ok (.bool true) _ := alike_list (m := 6) ((Grow.app _ _).get a1) (get_new _ _) rfl (by show 2 ≤ 100000; decide) (alike_ints _ _ (by simp))
  exact ⟨h1 ++ [.list [.int 1, .int 2]], by simp [m, e1, nl, al, -newList_eq]⟩
theorem plain07 (ns : List Int) : ∃ hp, callF prog 8 law07 [.scr ns] [] = .ok (.bool true) hp := by
  obtain ⟨w, r, s, h0, l0, w1, w8, r1, r40, os, l7, a0, S0, e0⟩ := law_start ns
  obtain ⟨h1, l, x6, R1, T1, N1, d1, held, e1, B1⟩ := law_half ns w1 w8 r1 r40 os l7 a0 S0
  obtain ⟨h2, R2, T2, N2, d2, e2, A2⟩ := law_keep ns w8 r1 r40 os B1 x6
  obtain ⟨st, en, y, h3, se, es, yg, yl, G3, e3⟩ := law_place (h := h2) (w := w) (r := r) (l := l) (s := s) ns os.2 x6
  have A3 := A2.grow G3
  have fw := frs_few (y := y) se es w1 r1 A3.sub
  have f64 := few_64 (y := y.length) yl w8 r1
  obtain ⟨t, ht⟩ : ∃ t, t = s.take st ++ y ++ s.drop en := ⟨_, rfl⟩
  rw [← ht] at fw e3
  have tl : t.length ≤ 399 := by rw [ht, List.length_append, List.length_append, List.length_take, List.length_drop]; have := os.2; lia  
  obtain ⟨h4, f, e4, G4, f7, zs, z4, zl⟩ := law_fresh ns w1 w8 r1 r40 A3 tl (by lia  ) x6 (some (.int st)) (some (.int en)) (some (.str y))
  have A4 := A3.grow G4
  obtain ⟨h5, R5, T5, N5, d5, e5, C5⟩ := law_change ns w8 r1 r40 os A4 ht se es yg yl f7 z4 zl x6 (some (.str t)) (some (.ref f))
  have zo := once_len (frs t w r held)
  have e6 := law_ask (l := l) ns r40 C5 (y := y) (by lia  ) w1 x6 (some (.int st)) (some (.int en)) (some (.str t))
  obtain ⟨h7, x13, e7, C7⟩ := law_turns (l := l) ns r1 (by have := os.2; lia  ) tl C5 x6 (some (.int st)) (some (.int en)) (some (.str y)) (some (.ref f)) (some (.tup [.int 2, .int zs.length]))
  obtain ⟨h8, e8⟩ := law_end (l := l) ns C7 x6 (some (.int st)) (some (.int en)) (some (.str y)) (some (.str t)) (some (.ref f)) (some (.tup [.int 2, .int zs.length])) x13
  refine ⟨h8, ?_⟩
  show callF prog 8 42 [.scr ns] [] = _
  rw [callF_def (fn := fn_law) rfl rfl rfl, exs_split 5]
  have e0 : exs CL (fn_law.body.take 5) [] ([AV.scr ns].map some ++ List.replicate (fn_law.names.length - fn_law.np) none) = _ := e0
  have e0 : exs ⟨prog, callF prog 7⟩ (fn_law.body.take 5) [] ([AV.scr ns].map some ++ List.replicate (fn_law.names.length - fn_law.np) none) = _ := e0
  rw [e0, seqS_next]
  have d : fn_law.body.drop 5 = [pHalf, pKeep] ++ ([pSt1, pSt2, pEn, pNew, pTxt] ++ [pFresh, pChange, pAsk, pTurns, pEnd]) := rfl
  rw [d, exs_append]
  have eA : exs CL [pHalf, pKeep] h0 (V ns w r s l0 none none none none none none none none) = .next h2 (V ns w r s l x6 none none none none none none none) := by
    rw [exs_cons, e1, seqS_next, exs_cons, e2, seqS_next, exs_nil]
  rw [show exs ⟨prog, callF prog 7⟩ [pHalf, pKeep] h0 (V ns w r s l0 none none none none none none none none) = _ from eA, seqS_next, exs_append, show exs ⟨prog, callF prog 7⟩ [pSt1, pSt2, pEn, pNew, pTxt] h2 (V ns w r s l x6 none none none none none none none) = _ from e3, seqS_next]
  have eB : exs CL [pFresh, pChange, pAsk, pTurns, pEnd] h3 (V ns w r s l x6 (some (.int st)) (some (.int en)) (some (.str y)) (some (.str t)) none none none) = .ret (.bool true) h8 := by
    rw [exs_cons, e4, seqS_next, exs_cons, e5, seqS_next, exs_cons, e6, seqS_next, exs_cons, e7, seqS_next, exs_cons, e8, seqS_ret]
  rw [show exs ⟨prog, callF prog 7⟩ [pFresh, pChange, pAsk, pTurns, pEnd] h3 (V ns w r s l x6 (some (.int st)) (some (.int en)) (some (.str y)) (some (.str t)) none none none) = _ from eB, fin_ret]
end Mine.PL

open PySem PySem.W PyProof.Rows
set_option Elab.async false
set_option maxRecDepth 100000
set_option maxHeartbeats 8000000
namespace Mine
/-- the objects that are looked at -/
noncomputable def as07 : List Addr := [2, 3, 15, 17, 18, 20, 21, 22, 24, 25, 27, 28, 29, 32, 33, 34, 37, 38, 39, 41, 42, 44, 45, 46, 53, 54, 55, 56, 59, 66, 67, 68, 71, 78, 79, 80, 83, 90, 91, 92, 95, 102, 103, 104, 107, 114, 115, 116, 119, 126, 127, 128, 131, 138, 139, 140, 143, 145, 146, 148, 149, 150, 152, 153, 155, 156, 157, 160, 161, 162, 165, 166, 167, 169, 170, 172, 173, 181, 183, 184, 186, 187, 188, 190, 191, 193, 194, 195, 197, 198, 200, 201, 202, 204, 205, 207, 208, 209, 211, 212, 214, 215, 216, 218, 219, 221, 222, 223, 225, 226, 228, 229, 230, 231, 232, 233, 234, 237, 239, 240, 242, 243, 251, 253, 254, 256, 257, 258, 260, 261, 263, 264, 265, 267, 268, 270, 271, 272, 274, 275, 277, 278, 279, 282, 283, 284, 286, 287, 289, 290, 291, 293, 294, 296, 297, 298, 300, 301, 303, 304, 305, 307, 308, 310, 311, 312, 315, 316, 317, 319, 320, 322, 323, 324, 326, 327, 329, 330, 331, 333, 334, 336, 337, 338, 341, 342, 343, 346, 347, 348, 350, 351, 353, 354, 355, 358, 359, 360, 362, 363, 365, 366, 367, 368, 369, 370, 371, 374, 376, 377, 379, 380, 381, 383, 384, 386, 387, 388, 390, 391, 393, 394, 395, 397, 398, 400, 401, 402, 404, 405, 407, 408, 409, 411, 412, 414, 415, 416, 419, 420, 421, 423, 424, 426, 427, 428, 430, 431, 433, 434, 435, 437, 438, 440, 441, 442, 444, 445, 447, 448, 449, 451, 452, 454, 455, 456, 459, 460]
noncomputable def fragAt (h : Heap) : List Addr → Frag
  | [] => []
  | a :: r => match h.get? a with
    | some o => (a, o) :: fragAt h r
    | none => fragAt h r
theorem fragAt_in (h : Heap) : ∀ as : List Addr, (fragAt h as).In h
  | [], a, o, e => nomatch e
  | b :: r, a, o, e => by
    unfold fragAt at e
    cases q : h.get? b with
    | none => rw [q] at e; exact fragAt_in h r a o e
    | some x =>
      rw [q] at e
      simp only [List.lookup] at e
      split at e
      · rename_i z; cases e; rw [beq_iff_eq.mp z]; exact q
      · exact fragAt_in h r a o e
noncomputable def lawIs (K : Frag) : Bool := match nsIn K mainGlobals "law" with
  | some (some (.ref a)) => a == faOf K prog law07
  | _ => false
theorem lawIs_ok {K : Frag} (h : lawIs K = true) : nsIn K mainGlobals "law" = some (some (.ref (faOf K prog law07))) := by
  unfold lawIs at h
  split at h
  · rename_i q; rw [q, beq_iff_eq.mp h]
  · cases h
noncomputable def chk07 (K : Frag) : Bool := fnsOk K prog 0 prog.fns && allB K prog && lawIs K
noncomputable def hook07 : Hook := ⟨Bool × List (Option FuncBody), fun s => (chk07 (fragAt s.heap as07), bodies (fragAt s.heap as07) prog 0 prog.fns), fun _ => (true, laid prog prog.fns), fun _ h => ∃ K : Frag, K.In h ∧ chk07 K = true ∧ bodies K prog 0 prog.fns = laid prog prog.fns,
  fun _ s e => ⟨_, fragAt_in s.heap as07, congrArg Prod.fst e, congrArg Prod.snd e⟩, fun _ _ _ ⟨K, X, e⟩ k => ⟨K, X.keeps k, e⟩⟩
noncomputable def q07 : Program := PySem.W.view PySem.Challenge.rw_uf020013_07.prog [47]
noncomputable def loose07 : List Str := (["_wall", "weight", "cuts", "pieces", "pieces_cutting", "few", "ShelfError", "NoSize", "NoName", "NotThere", "NoPlace", "NoText", "TooLong", "TooMany", "LETTERS", "PERCENT", "MOST_LETTERS", "MOST_WIDTH", "MOST_REACH", "is_number", "is_sign", "is_text", "is_name", "are_sizes", "Stock", "MOST_SIGNS", "MOST_VERSIONS", "is_stretch", "Shelf", "_law_cell_at", "_law_whole", "_law_sign_by", "_law_text_by", "_law_weight", "_law_is_low", "_law_cuts", "_law_pieces", "_law_alike", "_law_size_by", "_law_width_by", "_law_reach_by"] : List String).map Str.ofString
theorem said07 : PySem.Challenge.rw_uf020013_07.wellSaid = true := by kernel_rfl
theorem left07 : LeftO Challenge.rw_uf020013_07.row.prog q07 loose07 (fun s => xlAt q07 [] s && recOk (RowW.records Challenge.rw_uf020013_07.row.toRowW) s) (Hook.obs hook07) (Hook.val hook07) 4000 := by
  refine left_of_tree rfl rfl (fun _ => rfl) fun w => ?_
  kernel_rfl
theorem walk07 (d : DefRec) (kwd : List (Str × Expr)) (hn : d.name = Str.ofString "law") : WalkO q07 loose07 (XL q07 []) hook07.says Challenge.rw_uf020013_07.row.toRowW d kwd fun f vs => call f vs := by
  intro w s₀ s₁ mg mb G Y fa o pm cd doc dV kV ho hd hcd hD hmg hg args vals as hpre hlay hrd hwl hlo
  obtain ⟨K, KX, hK, hbd⟩ := Y
  have hK : (fnsOk K prog 0 prog.fns && allB K prog && lawIs K) = true := hK
  obtain ⟨hK, hl⟩ := Bool.and_eq_true_iff.mp hK
  obtain ⟨hf, hB⟩ := Bool.and_eq_true_iff.mp hK
  refine Ground.open G ?_
  intro T B D TE TW
  wrow_args hpre hlay hrd hwl hlo
  rename_i hL hra hw1 hr0 hI hra2 hc1 hc2
  refine Mine.law_call (P := Mine.prog) (lw := Mine.law07) (n := 8) KX (topRead_of T) hf hbd hB hmg (hn ▸ lawIs_ok hl) hL hI ?hn (by decide) (Mine.PL.plain07 _) ?hR
  case hn => show _ ≤ 16777216; omega
  case hR =>
    intro s' hk hos hgs
    refine' GoodW.toG ⟨.inl ⟨_, _, _, rfl, raisesW_false (by wrow_none_raised), .bool true, postW_of ?hsh ?hva ?hen, unshared_nil⟩, hk, hos, hgs.trans hg⟩
    case hsh => o_shape
    case hva => wtm_val
    case hen => w_fin
end Mine
theorem PySem.Challenge.cw_uf020013_07_holds : PySem.Challenge.rw_uf020013_07.Holds := by
  w_on
  refine holds_law Mine.said07 fun said => ?_
  refine holds_open (q := Mine.q07) (loose := Mine.loose07) (Xt := fun s => xlAt Mine.q07 [] s && recOk (RowW.records Challenge.rw_uf020013_07.row.toRowW) s) (XP := XL Mine.q07 []) (Yf := Hook.obs Mine.hook07) (Ya := Hook.val Mine.hook07) (YP := Hook.says Mine.hook07) (N := 4000) Mine.left07 (Hook.of Mine.hook07) (Hook.keeps Mine.hook07) (fun s e => xl_of s (Bool.and_eq_true_iff.mp e).1) XL.keeps (by rfl) (by rfl) (by rfl) (fun s e => recFacts_of (Bool.and_eq_true_iff.mp e).2) (by rfl) said (by decide +kernel) ⟨rfl, rfl, rfl, rfl, rfl, by decide +kernel⟩ ?hw ?hc
  case hw => w_witness2
  case hc => exact Mine.walk07 _ _ rfl
