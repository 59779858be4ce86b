import PyProof.Rows.All
import Wide.All
import OpenK.AllK
import Wide.FinOn
import PyProof.P3Statements
import PyProof.CompFree
import PyProof.DefCall
import PyProof.StationsW
import PyProof.Rows.News
import OpenK.Peek
import PyProof.EqKinds
import PyProof.DictKinds
import PyProof.TupleKey
import KE.KIsNot
import OpenK.KOwn
import OpenK.KLine
import PyProof.Rules3
import PyProof.Cells
import PyProof.PureInt
import PyProof.ListOps
import PyProof.StrBlock2
import PyProof.NoPylong
import PyProof.Rows.RuleB_floordiv
import PyProof.Rows.IntRules
import PyProof.DictCalls
import PyProof.DictIter
import PyProof.DictTable
import PyProof.MeetsDictList
import PyProof.DictStraight
import PyProof.DictTruth
import PyProof.EqLayable
import PyProof.P3In
import PyProof.FString5
import PyProof.Truth
import PyProof.ListTruth
import PyProof.Rows.Nodes
import PyProof.Rows.TupMore
import PyProof.Rows.Lst
import PyProof.SliceMore
import PyProof.SliceStr2
import PyProof.SliceSyntax
import PyProof.LetGo
import PyProof.ListIndexNeg
import PyProof.TupleIter
import PyProof.Rows.TupSub
import PyProof.Rows.StrTemp
import PyProof.Rows.FactsTup
import PyProof.Rows.FactsSeq_str
import PyProof.FactsIdx
import PyProof.StrBlockI
import PyProof.SeqI
import OpenK.KWalk
import KE.KDictSum
import PyProof.Conv_int_bool
import OpenK.KMore
import PyProof.IsRules
import PyProof.DictWalks
import PyProof.PlainList
import PyProof.CompMap
import PyProof.WalksMore
import PyProof.StrWalks
import PyProof.AssignAttr
import PyProof.Rows.RuleB_small
import OpenK.KRaise
import PyProof.ExcClass3
import PyProof.RulesAs
import PyProof.CompUse
import PyProof.TableCode
import Open.Boot
import Open.Tree
import PySem.Challenge.RW_uf020013_05
/-! An abstract interpreter for the part of Python that the laws use (typed by hand; not of the kit). -/
set_option Elab.async false
set_option genInjectivity false
set_option genSizeOf false
set_option bootstrap.genMatcherCode false
namespace Mine

set_option genInjectivity true in
/-- a value: textsA are lists of codes, tuples are values, lists, dicts and instances are places in an abstract heap -/
inductive AV where
  | none
  | bool (b : Bool)
  | int (i : Int)
  | str (s : List Nat)
  | tup (xs : List AV)
  | ref (l : Nat)
  | exc (c : Nat)
  | scr (ns : List Int)
  | rng (a b : Int)

set_option genInjectivity true in
/-- an object -/
inductive AO where
  | list (xs : List AV)
  | dict (ep : Option Nat) (es : List (AV × AV))
  | inst (c : Nat) (fs : List (Option AV))

noncomputable abbrev Hp := List AO
noncomputable abbrev Vs := List (Option AV)

set_option genInjectivity true in
inductive Out (α : Type) where
  | ok (a : α) (h : Hp)
  | exc (c : Nat) (h : Hp)
  | fail

noncomputable def Out.bind {α β : Type} (x : Out α) (f : α → Hp → Out β) : Out β :=
  match x with
  | .ok a h => f a h
  | .exc c h => .exc c h
  | .fail => .fail

set_option genInjectivity true in
inductive OutS where
  | next (h : Hp) (vs : Vs)
  | ret (v : AV) (h : Hp)
  | exc (c : Nat) (h : Hp) (vs : Vs)
  | fail

inductive BOp where | add | sub | mul | mod | div
deriving DecidableEq
inductive COp where | eq | ne | lt | le | gt | ge | isin | notin
deriving DecidableEq
inductive Kd where | int | str | bool | tup | list | value | cls (c : Nat)
deriving DecidableEq
/-- built-in functions -/
inductive Bi where | len | range | min | sorted | list | int
deriving DecidableEq
/-- methods of built-in types -/
inductive Bm where | append | join | get | pop
deriving DecidableEq

set_option genSizeOf true in
inductive ME where
  | none
  | bool (b : Bool)
  | int (i : Int)
  | str (s : List Nat)
  | var (x : Nat)
  | powc (a b : Nat)
  | bin (op : BOp) (l r : ME)
  | not (e : ME)
  | and (es : List ME)
  | or (es : List ME)
  | cmp (l : ME) (op : COp) (r : ME)
  | isNone (e : ME)
  | isTrue (e : ME)
  | tup (es : List ME)
  | list (es : List ME)
  /-- keys and values in turn -/
  | dict (kvs : List ME)
  | idx (o i : ME)
  | slice (o lo hi : ME)
  | attr (o : ME) (a : Nat)
  | call (f : Nat) (args : List ME)
  | new (c : Nat) (args : List ME)
  | meth (o : ME) (m : Nat) (args : List ME)
  | bi (b : Bi) (args : List ME)
  | bm (m : Bm) (o : ME) (args : List ME)
  | inst (e : ME) (k : Kd)
  | comp (elt : ME) (x : Nat) (src : ME) (conds : List ME)

set_option genSizeOf true in
inductive MS where
  | set (x : Nat) (e : ME)
  | setAttr (o : ME) (a : Nat) (e : ME)
  | setItem (o i : ME) (e : ME)
  | expr (e : ME)
  | ifs (t : ME) (a b : List MS)
  | loop (x : Nat) (src : ME) (body : List MS)
  | ret (e : ME)
  | pass
  | raise (c : Nat) (msg : List Nat)
  | try_ (body : List MS) (c : Nat) (x : Nat) (hb : List MS)

structure Fn where
  name : PySem.Str
  np : Nat
  /-- how many slots are the def's own names; the rest are comprehensions' -/
  nl : Nat
  names : List PySem.Str
  body : List MS

structure Cl where
  name : PySem.Str
  exc : Bool
  /-- itself and the own classes above it -/
  ups : List Nat
  init : Option Nat
  meths : List (Nat × Nat)

structure Pr where
  fns : List Fn
  cls : List Cl
  attrs : List PySem.Str
  methNames : List PySem.Str

noncomputable def lim : Nat := 16777216

/-! ### data behind values -/
noncomputable def tS (s : List Nat) : PySem.Str := ⟨s.toArray⟩
noncomputable def mapO {α β : Type} (f : α → Option β) : List α → Option (List β)
  | [] => some []
  | x :: xs => match f x with
    | some y => (match mapO f xs with
      | some ys => some (y :: ys)
      | Option.none => Option.none)
    | Option.none => Option.none

noncomputable def lst (o : Option AO) : Option (List AV) := match o with
  | some (.list xs) => some xs
  | _ => Option.none
noncomputable def dct (o : Option AO) : Option (Option Nat × List (AV × AV)) := match o with
  | some (.dict ep es) => some (ep, es)
  | _ => Option.none
noncomputable def ins (o : Option AO) : Option (Nat × List (Option AV)) := match o with
  | some (.inst c fs) => some (c, fs)
  | _ => Option.none
noncomputable def listAt (h : Hp) (v : AV) : Option (List AV) := match v with
  | .ref l => lst h[l]?
  | _ => Option.none
noncomputable def dictAt (h : Hp) (v : AV) : Option (Option Nat × List (AV × AV)) := match v with
  | .ref l => dct h[l]?
  | _ => Option.none
noncomputable def instAt (h : Hp) (v : AV) : Option (Nat × List (Option AV)) := match v with
  | .ref l => ins h[l]?
  | _ => Option.none

noncomputable def datF : AV → Option PySem.PyData
  | .int i => some (.int i)
  | .str s => some (.str (tS s))
  | _ => Option.none
noncomputable def dat (h : Hp) (v : AV) : Option PySem.PyData := match v with
  | .ref l => (match lst h[l]? with
    | some xs => (mapO datF xs).map .list
    | Option.none => Option.none)
  | v => datF v
noncomputable def eqA (h : Hp) (a b : AV) : Option Bool := match dat h a with
  | some x => (match dat h b with
    | some y => some (PySem.PyData.eqv x y)
    | Option.none => Option.none)
  | Option.none => Option.none

/-! ### keys: ints and texts -/
noncomputable def keyOf : AV → Option (PySem.Str ⊕ Int)
  | .int i => some (.inr i)
  | .str s => some (.inl (tS s))
  | _ => Option.none
noncomputable def isKey (k : AV) : Bool := (keyOf k).isSome
noncomputable def keq (a b : AV) : Bool := match a with
  | .int x => (match b with
    | .int y => x == y
    | _ => false)
  | .str x => (match b with
    | .str y => x == y
    | _ => false)
  | _ => false
noncomputable def dget (es : List (AV × AV)) (k : AV) : Option AV := match es with
  | [] => Option.none
  | p :: r => if keq p.1 k then some p.2 else dget r k
noncomputable def dput (es : List (AV × AV)) (k v : AV) : List (AV × AV) := match es with
  | [] => [(k, v)]
  | p :: r => if keq p.1 k then (p.1, v) :: r else p :: dput r k v
noncomputable def ddel (es : List (AV × AV)) (k : AV) : List (AV × AV) := match es with
  | [] => []
  | p :: r => if keq p.1 k then r else p :: ddel r k

/-! ### textsA -/
noncomputable def rep (n : Nat) (s : List Nat) : List Nat := match n with
  | 0 => []
  | n + 1 => s ++ rep n s
noncomputable def joinT (sep : List Nat) : List (List Nat) → List Nat
  | [] => []
  | [x] => x
  | x :: y :: r => x ++ sep ++ joinT sep (y :: r)
/-! ### operations -/
noncomputable def small (a : Int) : Bool := decide (a.natAbs < 18446744073709551616)
noncomputable def newList (xs : List AV) (h : Hp) : Out AV := if xs.length ≤ lim then .ok (.ref h.length) (h ++ [.list xs]) else .fail

noncomputable def addA (a b : AV) (h : Hp) : Out AV := match a with
  | .int x => (match b with
    | .int y => .ok (.int (x + y)) h
    | _ => .fail)
  | .str x => (match b with
    | .str y => if x.length + y.length ≤ lim then .ok (.str (x ++ y)) h else .fail
    | _ => .fail)
  | .ref x => (match b with
    | .ref y => (match lst h[x]? with
      | some xs => (match lst h[y]? with
        | some ys => newList (xs ++ ys) h
        | Option.none => .fail)
      | Option.none => .fail)
    | _ => .fail)
  | _ => .fail
noncomputable def arithA (f : Int → Int → Out AV) (a b : AV) : Out AV := match a with
  | .int x => (match b with
    | .int y => f x y
    | _ => .fail)
  | _ => .fail
noncomputable def mulA (a b : AV) (h : Hp) : Out AV := match a with
  | .str x => (match b with
    | .int y => if -lim ≤ y ∧ y ≤ lim ∧ x.length * y.toNat ≤ lim then .ok (.str (rep y.toNat x)) h else .fail
    | _ => .fail)
  | a => arithA (fun x y => if small x || small y then .ok (.int (x * y)) h else .fail) a b
noncomputable def binA (op : BOp) (a b : AV) (h : Hp) : Out AV := match op with
  | .add => addA a b h
  | .sub => arithA (fun x y => .ok (.int (x - y)) h) a b
  | .mul => mulA a b h
  | .mod => arithA (fun x y => if 0 < y then .ok (.int (x % y)) h else .fail) a b
  | .div => arithA (fun x y => if 0 < y ∧ y < 18446744073709551616 then .ok (.int (x / y)) h else .fail) a b

noncomputable def ordA (f : Int → Int → Bool) (a b : AV) : Option Bool := match a with
  | .int x => (match b with
    | .int y => some (f x y)
    | _ => Option.none)
  | _ => Option.none
noncomputable def inA (h : Hp) (x v : AV) : Option Bool := match dictAt h v with
  | some p => if isKey x then some (dget p.2 x).isSome else Option.none
  | Option.none => Option.none

noncomputable def cmpA (op : COp) (a b : AV) (h : Hp) : Option Bool := match op with
  | .eq => eqA h a b
  | .ne => (eqA h a b).map (!·)
  | .isin => inA h a b
  | .notin => (inA h a b).map (!·)
  | .lt => ordA (fun x y => decide (x < y)) a b
  | .le => ordA (fun x y => decide (x ≤ y)) a b
  | .gt => ordA (fun x y => decide (x > y)) a b
  | .ge => ordA (fun x y => decide (x ≥ y)) a b

noncomputable def truth (h : Hp) (v : AV) : Option Bool := match v with
  | .none => some false
  | .bool b => some b
  | .int i => some (decide (i ≠ 0))
  | .str s => some (!s.isEmpty)
  | _ => Option.none

/-- a place that may be counted from behind -/
noncomputable def place (n : Nat) (i : Int) : Option Nat :=
  if 0 ≤ i then (if i < n then some i.toNat else Option.none) else (if 0 ≤ i + n then some (i + n).toNat else Option.none)
noncomputable def bound (n : Nat) (dflt : Nat) : AV → Option Nat
  | .none => some dflt
  | .int i => some (if 0 ≤ i then min i.toNat n else (i + n).toNat)
  | _ => Option.none
noncomputable def cut {α : Type} (xs : List α) (a b : Nat) : List α := (xs.drop a).take (b - a)

noncomputable def idxI (o : AV) (i : Int) (h : Hp) : Option AV := match o with
  | .str s => (place s.length i).bind fun k => (s[k]?).map fun c => .str [c]
  | .scr ns => (place ns.length i).bind fun k => (ns[k]?).map .int
  | .tup xs => (place xs.length i).bind fun k => xs[k]?
  | .ref l => (match lst h[l]? with
    | some xs => (place xs.length i).bind fun k => xs[k]?
    | Option.none => Option.none)
  | _ => Option.none
noncomputable def idxA (o i : AV) (h : Hp) : Option AV := match dictAt h o with
  | some p => if isKey i then dget p.2 i else Option.none
  | Option.none => (match i with
    | .int i => idxI o i h
    | _ => Option.none)

noncomputable def sliceA (o lo hi : AV) (h : Hp) : Out AV := match o with
  | .str s => (match bound s.length 0 lo with
    | some a => (match bound s.length s.length hi with
      | some b => .ok (.str (cut s a b)) h
      | Option.none => .fail)
    | Option.none => .fail)
  | .scr ns => (match bound ns.length 0 lo with
    | some a => (match bound ns.length ns.length hi with
      | some b => newList ((cut ns a b).map .int) h
      | Option.none => .fail)
    | Option.none => .fail)
  | _ => .fail

noncomputable def asInt : AV → Option Int
  | .int i => some i
  | _ => Option.none
noncomputable def asStr : AV → Option (List Nat)
  | .str s => some s
  | _ => Option.none
noncomputable def intsA (xs : List AV) : Option (List Int) := mapO asInt xs
noncomputable def textsA (xs : List AV) : Option (List (List Nat)) := mapO asStr xs
noncomputable def lenA (v : AV) (h : Hp) : Out AV := match v with
  | .str s => .ok (.int s.length) h
  | .scr ns => .ok (.int ns.length) h
  | .tup xs => .ok (.int xs.length) h
  | v => (match listAt h v with
    | some xs => .ok (.int xs.length) h
    | Option.none => .fail)
/-- the items of a list, the keys of a dict -/
noncomputable def keysAt (h : Hp) (v : AV) : Option (List AV) := match listAt h v with
  | some xs => some xs
  | Option.none => (match dictAt h v with
    | some p => some (p.2.map (·.1))
    | Option.none => Option.none)
noncomputable def insI (x : Int) : List Int → List Int
  | [] => [x]
  | y :: r => if y < x then y :: insI x r else x :: y :: r
noncomputable def sortI : List Int → List Int
  | [] => []
  | x :: r => insI x (sortI r)
noncomputable def rngA (a b : Int) (h : Hp) : Out AV := if -lim ≤ a ∧ a ≤ lim ∧ -lim ≤ b ∧ b ≤ lim then .ok (.rng a b) h else .fail
noncomputable def sortedA (v : AV) (h : Hp) : Out AV := match (keysAt h v).bind intsA with
  | some ns => if ns.length < 64 then newList ((sortI ns).map .int) h else .fail
  | Option.none => .fail
noncomputable def bi1 (b : Bi) (v : AV) (h : Hp) : Out AV := match b with
  | .len => lenA v h
  | .range => (match v with
    | .int b => rngA 0 b h
    | _ => .fail)
  | .sorted => sortedA v h
  | .list => (match keysAt h v with
    | some xs => newList xs h
    | Option.none => .fail)
  | .int => (match v with
    | .bool b => .ok (.int (if b then 1 else 0)) h
    | _ => .fail)
  | .min => .fail
noncomputable def bi2 (b : Bi) (v w : AV) (h : Hp) : Out AV := match b with
  | .min => arithA (fun x y => .ok (.int (if y < x then y else x)) h) v w
  | _ => .fail
noncomputable def biA (b : Bi) (as : List AV) (h : Hp) : Out AV := match as with
  | [v] => bi1 b v h
  | [v, w] => bi2 b v w h
  | _ => .fail

noncomputable def appA (x v : AV) (h : Hp) : Out AV := match x with
  | .ref l => (match lst h[l]? with
    | some xs => if xs.length < lim then .ok .none (h.set l (.list (xs ++ [v]))) else .fail
    | Option.none => .fail)
  | _ => .fail
noncomputable def joinA (x v : AV) (h : Hp) : Out AV := match x with
  | .str sep => (match (listAt h v).bind textsA with
    | some ts => if (ts.map (·.length)).sum + ts.length * sep.length ≤ lim then .ok (.str (joinT sep ts)) h else .fail
    | Option.none => .fail)
  | _ => .fail
noncomputable def popA (x k : AV) (h : Hp) : Out AV := match x with
  | .ref l => (match dct h[l]? with
    | some p => if isKey k then (match dget p.2 k with
      | some v => .ok v (h.set l (.dict (p.1.map (· + 1)) (ddel p.2 k)))
      | Option.none => .fail) else .fail
    | Option.none => .fail)
  | _ => .fail
noncomputable def getA (x k d : AV) (h : Hp) : Out AV := match dictAt h x with
  | some p => if isKey k then .ok ((dget p.2 k).getD d) h else .fail
  | Option.none => .fail
noncomputable def bm1 (m : Bm) (x v : AV) (h : Hp) : Out AV := match m with
  | .append => appA x v h
  | .join => joinA x v h
  | .pop => popA x v h
  | .get => .fail
noncomputable def bm2 (m : Bm) (x v w : AV) (h : Hp) : Out AV := match m with
  | .get => getA x v w h
  | _ => .fail
noncomputable def bmA (m : Bm) (x : AV) (as : List AV) (h : Hp) : Out AV := match as with
  | [v] => bm1 m x v h
  | [v, w] => bm2 m x v w h
  | _ => .fail

/-- has the value this method -/
noncomputable def bmKd (m : Bm) (x : AV) (h : Hp) : Bool := match m with
  | .append => (listAt h x).isSome
  | .join => (match x with
    | .str _ => true
    | _ => false)
  | .get => (dictAt h x).isSome
  | .pop => (dictAt h x).isSome

noncomputable def setItemA (o i v : AV) (h : Hp) : Option Hp := match o with
  | .ref l => (match dct h[l]? with
    | some p => if isKey i && decide (p.2.length < lim) then some (h.set l (.dict (if (dget p.2 i).isSome then p.1 else p.1.map (· + 1)) (dput p.2 i v))) else Option.none
    | Option.none => Option.none)
  | _ => Option.none

noncomputable def instK (h : Hp) (v : AV) (k : Kd) : Option Bool := match v with
  | .none => some false
  | .bool _ => some (k == .bool || k == .int)
  | .int _ => some (k == .int)
  | .str _ => some (k == .str)
  | .tup _ => some (k == .tup)
  | v => (match listAt h v with
    | some _ => some (k == .list)
    | Option.none => Option.none)
noncomputable def excAt (P : Pr) (c : Nat) : Option Cl := match P.cls[c]? with
  | some cl => if cl.exc then some cl else Option.none
  | Option.none => Option.none
noncomputable def instX (P : Pr) (c d : Nat) : Option Bool := match excAt P c with
  | some cl => if (excAt P d).isSome then some (cl.ups.contains d) else Option.none
  | Option.none => Option.none
noncomputable def asExc (v : AV) : Option Nat := match v with
  | .exc c => some c
  | _ => Option.none
noncomputable def instA (P : Pr) (h : Hp) (v : AV) (k : Kd) : Option Bool := match k with
  | .cls d => (asExc v).bind fun c => instX P c d
  | .value => (asExc v).bind fun c => (excAt P c).map fun _ => true
  | k => instK h v k

/-! ### loops -/
set_option genInjectivity true in
inductive It (σ ρ : Type) where
  | go (s : σ)
  | stop (r : ρ)

noncomputable def iterL {σ ρ : Type} (f : AV → σ → It σ ρ) : List AV → σ → It σ ρ
  | [], s => .go s
  | v :: r, s => match f v s with
    | .go s' => iterL f r s'
    | .stop x => .stop x
noncomputable def iterR {σ ρ : Type} (get : σ → Option (List AV)) (bad : ρ) (f : AV → σ → It σ ρ) : Nat → Nat → σ → It σ ρ
  | 0, _, _ => .stop bad
  | n + 1, i, s => match get s with
    | Option.none => .stop bad
    | some xs => match xs[i]? with
      | Option.none => .go s
      | some v => match f v s with
        | .go s' => iterR get bad f n (i + 1) s'
        | .stop x => .stop x

inductive Src where
  | fixed (xs : List AV)
  | list (l n : Nat)
  | dict (l ep n : Nat)

noncomputable def ups (a : Int) (n : Nat) : List AV := match n with
  | 0 => []
  | n + 1 => .int a :: ups (a + 1) n
noncomputable def srcA (h : Hp) (v : AV) : Option Src := match v with
  | .rng a b => some (.fixed (ups a (b - a).toNat))
  | .ref l => (match lst h[l]? with
    | some xs => some (.list l xs.length)
    | Option.none => (match dct h[l]? with
      | some p => p.1.map fun ep => .dict l ep p.2.length
      | Option.none => Option.none))
  | _ => Option.none
noncomputable def getL (l : Nat) (h : Hp) : Option (List AV) := lst h[l]?
noncomputable def getD (l ep n : Nat) (h : Hp) : Option (List AV) := match dct h[l]? with
  | some p => if p.1 = some ep ∧ p.2.length = n then some (p.2.map (·.1)) else Option.none
  | Option.none => Option.none
noncomputable def iter {τ ρ : Type} (src : Src) (bad : ρ) (f : AV → Hp × τ → It (Hp × τ) ρ) (s : Hp × τ) : It (Hp × τ) ρ := match src with
  | .fixed xs => iterL f xs s
  | .list l n => iterR (fun s => getL l s.1) bad f (n + 1) 0 s
  | .dict l ep n => iterR (fun s => getD l ep n s.1) bad f (n + 1) 0 s

noncomputable def pairs : List AV → Option (List (AV × AV))
  | [] => some []
  | k :: r => (match r with
    | v :: r => (pairs r).map fun l => (k, v) :: l
    | [] => Option.none)
/-- keys, all different -/
noncomputable def distinct : List (AV × AV) → Bool
  | [] => true
  | p :: r => isKey p.1 && r.all (fun q => !keq p.1 q.1) && distinct r
noncomputable def emptyAt (l : Nat) (h : Hp) : Bool := match dct h[l]? with
  | some p => p.2.isEmpty
  | Option.none => false
noncomputable def putDict (l : Nat) (kv : List (AV × AV)) (h : Hp) : Out AV := if distinct kv && decide (kv.length ≤ 15) && emptyAt l h then .ok (.ref l) (if kv.isEmpty then h else h.set l (.dict Option.none kv)) else .fail

/-- one turn of a comprehension -/
noncomputable def compF (cs : Hp → Vs → Out Bool) (el : Hp → Vs → Out AV) (x : Nat) (vs : Vs) (v : AV) (st : Hp × List AV) : It (Hp × List AV) (Out AV) :=
  match cs st.1 (vs.set x (some v)) with
  | .ok true h => match el h (vs.set x (some v)) with
    | .ok w h => if st.2.length < lim then .go (h, st.2 ++ [w]) else .stop .fail
    | _ => .stop .fail
  | .ok false h => .go (h, st.2)
  | _ => .stop .fail

/-! ### the interpreter -/
structure Cx where
  P : Pr
  hd : Bool
  call : Bool → Nat → List AV → Hp → Out AV

/-- a new instance, then its __init__ -/
noncomputable def initAt (P : Pr) (c : Nat) : Option Nat := match P.cls[c]? with
  | some cl => if cl.exc || decide (1000 < P.attrs.length) then Option.none else cl.init
  | Option.none => Option.none
noncomputable def newA (C : Cx) (c : Nat) (xs : List AV) (h : Hp) : Out AV := match initAt C.P c with
  | some f => (C.call C.hd f (.ref h.length :: xs) (h ++ [.inst c (List.replicate C.P.attrs.length Option.none)])).bind fun r h' => match r with
    | .none => .ok (.ref h.length) h'
    | _ => .fail
  | Option.none => .fail
noncomputable def methF (P : Pr) (h : Hp) (x : AV) (m : Nat) : Option Nat := (instAt h x).bind fun p => (P.cls[p.1]?).bind fun cl => cl.meths.lookup m
noncomputable def attrA (h : Hp) (x : AV) (a : Nat) : Option AV := (instAt h x).bind fun p => (p.2[a]?).bind id
noncomputable def setAttrA (x : AV) (a : Nat) (v : AV) (h : Hp) : Option Hp := match x with
  | .ref l => (match ins h[l]? with
    | some p => if a < p.2.length then some (h.set l (.inst p.1 (p.2.set a (some v)))) else Option.none
    | Option.none => Option.none)
  | _ => Option.none
noncomputable def tupA (xs : List AV) (h : Hp) : Out AV := if xs.length ≤ lim then .ok (.tup xs) h else .fail
noncomputable def someA (v : Option AV) (h : Hp) : Out AV := match v with
  | some v => .ok v h
  | Option.none => .fail

mutual
noncomputable def ev (C : Cx) : ME → Hp → Vs → Out AV
  | .none, h, _ => .ok .none h
  | .bool b, h, _ => .ok (.bool b) h
  | .int i, h, _ => .ok (.int i) h
  | .str s, h, _ => .ok (.str s) h
  | .powc a b, h, _ => .ok (.int ((a ^ b : Nat) : Int)) h
  | .var x, h, vs => match vs[x]? with
    | some (some v) => .ok v h
    | _ => .fail
  | .bin op a b, h, vs => (ev C a h vs).bind fun x h => (ev C b h vs).bind fun y h => binA op x y h
  | .not e, h, vs => (ev C e h vs).bind fun x h => match truth h x with
    | some b => .ok (.bool (!b)) h
    | Option.none => .fail
  | .and es, h, vs => evAnd C es h vs
  | .or es, h, vs => evOr C es h vs
  | .cmp l op r, h, vs => (ev C l h vs).bind fun x h => (ev C r h vs).bind fun y h => match cmpA op x y h with
    | some b => .ok (.bool b) h
    | Option.none => .fail
  | .isNone e, h, vs => (ev C e h vs).bind fun x h => match x with
    | .none => .ok (.bool true) h
    | _ => .ok (.bool false) h
  | .isTrue e, h, vs => (ev C e h vs).bind fun x h => match x with
    | .bool true => .ok (.bool true) h
    | _ => .ok (.bool false) h
  | .tup es, h, vs => (evs C es h vs).bind fun xs h => tupA xs h
  | .list es, h, vs => (evs C es h vs).bind fun xs h => newList xs h
  | .dict kvs, h, vs => (evs C kvs (h ++ [.dict (some 0) []]) vs).bind fun xs h' => match pairs xs with
    | some kv => putDict h.length kv h'
    | Option.none => .fail
  | .idx o i, h, vs => (ev C o h vs).bind fun x h => (ev C i h vs).bind fun y h => someA (idxA x y h) h
  | .slice o lo hi, h, vs => (ev C o h vs).bind fun x h => (ev C lo h vs).bind fun a h => (ev C hi h vs).bind fun b h => sliceA x a b h
  | .attr o a, h, vs => (ev C o h vs).bind fun x h => someA (attrA h x a) h
  | .call f args, h, vs => (evs C args h vs).bind fun xs h => C.call C.hd f xs h
  | .new c args, h, vs => if (initAt C.P c).isSome then (evs C args h vs).bind fun xs h => newA C c xs h else .fail
  | .meth o m args, h, vs => (ev C o h vs).bind fun x h => match methF C.P h x m with
    | some f => (evs C args h vs).bind fun xs h => C.call C.hd f (x :: xs) h
    | Option.none => .fail
  | .bi b args, h, vs => (evs C args h vs).bind fun xs h => if C.hd then .fail else biA b xs h
  | .bm m o args, h, vs => (ev C o h vs).bind fun x h => if bmKd m x h then (evs C args h vs).bind fun xs h => bmA m x xs h else .fail
  | .inst e k, h, vs => (ev C e h vs).bind fun x h => match instA C.P h x k with
    | some b => .ok (.bool b) h
    | Option.none => .fail
  | .comp elt x src conds, h, vs => (ev C src h vs).bind fun s h => match srcA h s with
    | some src => if C.hd then .fail else match iter src Out.fail (compF (fun h vs => evConds C conds h vs) (fun h vs => ev C elt h vs) x vs) (h, []) with
      | .go st => newList st.2 st.1
      | .stop o => o
    | Option.none => .fail

noncomputable def evs (C : Cx) : List ME → Hp → Vs → Out (List AV)
  | [], h, _ => .ok [] h
  | e :: r, h, vs => (ev C e h vs).bind fun x h => (evs C r h vs).bind fun xs h => .ok (x :: xs) h

noncomputable def evAnd (C : Cx) : List ME → Hp → Vs → Out AV
  | [], _, _ => .fail
  | [e], h, vs => ev C e h vs
  | e :: r, h, vs => (ev C e h vs).bind fun x h => match truth h x with
    | some false => .ok x h
    | some true => evAnd C r h vs
    | Option.none => .fail

noncomputable def evOr (C : Cx) : List ME → Hp → Vs → Out AV
  | [], _, _ => .fail
  | [e], h, vs => ev C e h vs
  | e :: r, h, vs => (ev C e h vs).bind fun x h => match truth h x with
    | some true => .ok x h
    | some false => evOr C r h vs
    | Option.none => .fail

noncomputable def evConds (C : Cx) : List ME → Hp → Vs → Out Bool
  | [], h, _ => .ok true h
  | e :: r, h, vs => (ev C e h vs).bind fun x h => match truth h x with
    | some true => evConds C r h vs
    | some false => .ok false h
    | Option.none => .fail
end

noncomputable def doneO (h : Option Hp) : Out Unit := match h with
  | some h => .ok () h
  | Option.none => .fail
noncomputable def nextO (vs : Vs) (r : Out Unit) : OutS := match r with
  | .ok _ h => .next h vs
  | .exc c h => .exc c h vs
  | .fail => .fail
mutual
noncomputable def ex (C : Cx) : MS → Hp → Vs → OutS
  | .set x e, h, vs => match ev C e h vs with
    | .ok v h => .next h (vs.set x (some v))
    | .exc c h => .exc c h vs
    | .fail => .fail
  | .setAttr o a e, h, vs => nextO vs ((ev C e h vs).bind fun v h => (ev C o h vs).bind fun x h => doneO (setAttrA x a v h))
  | .setItem o i e, h, vs => nextO vs ((ev C e h vs).bind fun v h => (ev C o h vs).bind fun x h => (ev C i h vs).bind fun k h => doneO (setItemA x k v h))
  | .expr e, h, vs => match ev C e h vs with
    | .ok _ h => .next h vs
    | .exc c h => .exc c h vs
    | .fail => .fail
  | .ifs t a b, h, vs => match ev C t h vs with
    | .ok v h => match truth h v with
      | some true => exs C a h vs
      | some false => exs C b h vs
      | Option.none => .fail
    | .exc c h => .exc c h vs
    | .fail => .fail
  | .loop x src body, h, vs => match ev C src h vs with
    | .ok s h => match srcA h s with
      | some src => if C.hd then .fail else match iter src OutS.fail (fun v (st : Hp × Vs) => match exs C body st.1 (st.2.set x (some v)) with
          | .next h vs => .go (h, vs)
          | .ret v h => .stop (.ret v h)
          | _ => .stop .fail) (h, vs) with
        | .go st => .next st.1 st.2
        | .stop o => o
      | Option.none => .fail
    | .exc c h => .exc c h vs
    | .fail => .fail
  | .ret e, h, vs => match ev C e h vs with
    | .ok v h => .ret v h
    | .exc c h => .exc c h vs
    | .fail => .fail
  | .pass, h, vs => .next h vs
  | .raise c _, h, vs => if C.hd || (excAt C.P c).isNone then .fail else .exc c h vs
  | .try_ body c x hb, h, vs => match exs C body h vs with
    | .exc d h vs => match instX C.P d c with
      | some true => if C.hd then .fail else match exs ⟨C.P, true, C.call⟩ hb h (vs.set x (some (.exc d))) with
        | .ret v h => .ret v h
        | _ => .fail
      | _ => .fail
    | o => o

noncomputable def exs (C : Cx) : List MS → Hp → Vs → OutS
  | [], h, vs => .next h vs
  | s :: r, h, vs => match ex C s h vs with
    | .next h vs => exs C r h vs
    | o => o
end

/-- a call: n calls deep at most -/
noncomputable def callF (P : Pr) : Nat → Bool → Nat → List AV → Hp → Out AV
  | 0, _, _, _, _ => .fail
  | n + 1, hd, f, args, h => match P.fns[f]? with
    | some fn => if args.length = fn.np ∧ fn.body.isEmpty = false then
        match exs ⟨P, hd, callF P n⟩ fn.body h (args.map some ++ List.replicate (fn.names.length - fn.np) Option.none) with
        | .next h _ => .ok .none h
        | .ret v h => .ok v h
        | .exc c h _ => .exc c h
        | .fail => .fail
      else .fail
    | Option.none => .fail

end Mine

set_option Elab.async false
namespace Mine
section
set_option autoImplicit true
set_option relaxedAutoImplicit true
set_option linter.unusedVariables false
theorem mapO_cons {α β : Type} (f : α → Option β) (x : α) (xs : List α) : mapO f (x :: xs) = (match f x with
    | some y => (match mapO f xs with
      | some ys => some (y :: ys)
      | Option.none => Option.none)
    | Option.none => Option.none) := rfl
theorem ev_q1 : ev C .none h vs = (.ok .none h) := rfl
theorem ev_q2 : ev C (.bool b) h vs = (.ok (.bool b) h) := rfl
theorem ev_q3 : ev C (.int i) h vs = (.ok (.int i) h) := rfl
theorem ev_q4 : ev C (.str s) h vs = (.ok (.str s) h) := rfl
theorem ev_q5 : ev C (.powc a b) h vs = (.ok (.int ((a ^ b : Nat) : Int)) h) := rfl
theorem ev_q6 : ev C (.var x) h vs = (match vs[x]? with
    | some (some v) => .ok v h
    | _ => .fail) := rfl
theorem ev_q7 : ev C (.bin op a b) h vs = ((ev C a h vs).bind fun x h => (ev C b h vs).bind fun y h => binA op x y h) := rfl
theorem ev_q8 : ev C (.not e) h vs = ((ev C e h vs).bind fun x h => match truth h x with
    | some b => .ok (.bool (!b)) h
    | Option.none => .fail) := rfl
theorem ev_q9 : ev C (.and es) h vs = (evAnd C es h vs) := rfl
theorem ev_q10 : ev C (.or es) h vs = (evOr C es h vs) := rfl
theorem ev_q11 : ev C (.cmp l op r) h vs = ((ev C l h vs).bind fun x h => (ev C r h vs).bind fun y h => match cmpA op x y h with
    | some b => .ok (.bool b) h
    | Option.none => .fail) := rfl
theorem ev_q14 : ev C (.tup es) h vs = ((evs C es h vs).bind fun xs h => tupA xs h) := rfl
theorem ev_q15 : ev C (.list es) h vs = ((evs C es h vs).bind fun xs h => newList xs h) := rfl
theorem ev_q16 : ev C (.dict kvs) h vs = ((evs C kvs (h ++ [.dict (some 0) []]) vs).bind fun xs h' => match pairs xs with
    | some kv => putDict h.length kv h'
    | Option.none => .fail) := rfl
theorem ev_q17 : ev C (.idx o i) h vs = ((ev C o h vs).bind fun x h => (ev C i h vs).bind fun y h => someA (idxA x y h) h) := rfl
theorem ev_q18 : ev C (.slice o lo hi) h vs = ((ev C o h vs).bind fun x h => (ev C lo h vs).bind fun a h => (ev C hi h vs).bind fun b h => sliceA x a b h) := rfl
theorem ev_q19 : ev C (.attr o a) h vs = ((ev C o h vs).bind fun x h => someA (attrA h x a) h) := rfl
theorem ev_q20 : ev C (.call f args) h vs = ((evs C args h vs).bind fun xs h => C.call C.hd f xs h) := rfl
theorem ev_q21 : ev C (.new c args) h vs = (if (initAt C.P c).isSome then (evs C args h vs).bind fun xs h => newA C c xs h else .fail) := rfl
theorem ev_q22 : ev C (.meth o m args) h vs = ((ev C o h vs).bind fun x h => match methF C.P h x m with
    | some f => (evs C args h vs).bind fun xs h => C.call C.hd f (x :: xs) h
    | Option.none => .fail) := rfl
theorem ev_q23 : ev C (.bi b args) h vs = ((evs C args h vs).bind fun xs h => if C.hd then .fail else biA b xs h) := rfl
theorem ev_q24 : ev C (.bm m o args) h vs = ((ev C o h vs).bind fun x h => if bmKd m x h then (evs C args h vs).bind fun xs h => bmA m x xs h else .fail) := rfl
theorem ev_q25 : ev C (.inst e k) h vs = ((ev C e h vs).bind fun x h => match instA C.P h x k with
    | some b => .ok (.bool b) h
    | Option.none => .fail) := rfl
theorem ev_q26 : ev C (.comp elt x src conds) h vs = ((ev C src h vs).bind fun s h => match srcA h s with
    | some src => if C.hd then .fail else match iter src Out.fail (compF (fun h vs => evConds C conds h vs) (fun h vs => ev C elt h vs) x vs) (h, []) with
      | .go st => newList st.2 st.1
      | .stop o => o
    | Option.none => .fail) := rfl
theorem evs_q1 : evs C [] h vs = (.ok [] h) := rfl
theorem evs_q2 : evs C (e :: r) h vs = ((ev C e h vs).bind fun x h => (evs C r h vs).bind fun xs h => .ok (x :: xs) h) := rfl
theorem evAnd_q1 : evAnd C [] h vs = (.fail) := rfl
theorem evAnd_q2 : evAnd C [e] h vs = (ev C e h vs) := rfl
theorem evAnd_q3 : evAnd C (e :: e' :: r) h vs = ((ev C e h vs).bind fun x h => match truth h x with
    | some false => .ok x h
    | some true => evAnd C (e' :: r) h vs
    | Option.none => .fail) := rfl
theorem evOr_q1 : evOr C [] h vs = (.fail) := rfl
theorem evOr_q2 : evOr C [e] h vs = (ev C e h vs) := rfl
theorem evOr_q3 : evOr C (e :: e' :: r) h vs = ((ev C e h vs).bind fun x h => match truth h x with
    | some true => .ok x h
    | some false => evOr C (e' :: r) h vs
    | Option.none => .fail) := rfl
theorem evConds_q1 : evConds C [] h vs = (.ok true h) := rfl
theorem evConds_q2 : evConds C (e :: r) h vs = ((ev C e h vs).bind fun x h => match truth h x with
    | some true => evConds C r h vs
    | some false => .ok false h
    | Option.none => .fail) := rfl
theorem ex_q1 : ex C (.set x e) h vs = (match ev C e h vs with
    | .ok v h => .next h (vs.set x (some v))
    | .exc c h => .exc c h vs
    | .fail => .fail) := rfl
theorem ex_q2 : ex C (.setAttr o a e) h vs = (nextO vs ((ev C e h vs).bind fun v h => (ev C o h vs).bind fun x h => doneO (setAttrA x a v h))) := rfl
theorem ex_q3 : ex C (.setItem o i e) h vs = (nextO vs ((ev C e h vs).bind fun v h => (ev C o h vs).bind fun x h => (ev C i h vs).bind fun k h => doneO (setItemA x k v h))) := rfl
theorem ex_q4 : ex C (.expr e) h vs = (match ev C e h vs with
    | .ok _ h => .next h vs
    | .exc c h => .exc c h vs
    | .fail => .fail) := rfl
theorem ex_q5 : ex C (.ifs t a b) h vs = (match ev C t h vs with
    | .ok v h => match truth h v with
      | some true => exs C a h vs
      | some false => exs C b h vs
      | Option.none => .fail
    | .exc c h => .exc c h vs
    | .fail => .fail) := rfl
theorem ex_q6 : ex C (.loop x src body) h vs = (match ev C src h vs with
    | .ok s h => match srcA h s with
      | some src => if C.hd then .fail else match iter src OutS.fail (fun v (st : Hp × Vs) => match exs C body st.1 (st.2.set x (some v)) with
          | .next h vs => .go (h, vs)
          | .ret v h => .stop (.ret v h)
          | _ => .stop .fail) (h, vs) with
        | .go st => .next st.1 st.2
        | .stop o => o
      | Option.none => .fail
    | .exc c h => .exc c h vs
    | .fail => .fail) := rfl
theorem ex_q7 : ex C (.ret e) h vs = (match ev C e h vs with
    | .ok v h => .ret v h
    | .exc c h => .exc c h vs
    | .fail => .fail) := rfl
theorem ex_q8 : ex C .pass h vs = (.next h vs) := rfl
theorem ex_q9 : ex C (.raise c u1) h vs = (if C.hd || (excAt C.P c).isNone then .fail else .exc c h vs) := rfl
theorem ex_q10 : ex C (.try_ body c x hb) h vs = (match exs C body h vs with
    | .exc d h vs => match instX C.P d c with
      | some true => if C.hd then .fail else match exs ⟨C.P, true, C.call⟩ hb h (vs.set x (some (.exc d))) with
        | .ret v h => .ret v h
        | _ => .fail
      | _ => .fail
    | o => o) := rfl
theorem exs_q1 : exs C [] h vs = (.next h vs) := rfl
theorem exs_q2 : exs C (s :: r) h vs = (match ex C s h vs with
    | .next h vs => exs C r h vs
    | o => o) := rfl
theorem callF_q2 : callF P (n + 1) hd f args h = (match P.fns[f]? with
    | some fn => if args.length = fn.np ∧ fn.body.isEmpty = false then
        match exs ⟨P, hd, callF P n⟩ fn.body h (args.map some ++ List.replicate (fn.names.length - fn.np) Option.none) with
        | .next h _ => .ok .none h
        | .ret v h => .ok v h
        | .exc c h _ => .exc c h
        | .fail => .fail
      else .fail
    | Option.none => .fail) := rfl
end
end Mine

/-! Soundness of the abstract interpreter, part 1: the relation between abstract and model states (typed by hand). -/
set_option Elab.async false
set_option genInjectivity false
set_option genSizeOf false
set_option bootstrap.genMatcherCode false
namespace Mine
open PySem

/-- who owns an address: nobody (it is written by nobody but the frame that made it), an abstract place, or exceptions -/
inductive Ow where
  | free
  | loc (l : Nat)
  | exc
  /-- a traceback: nothing is said of it -/
  | tb

structure Tp where
  prog : Program
  w : World
  P : Pr
  base : Heap
  mg : Str → Option Value
  mb : Str → Option Value
  fa : Nat → Addr
  ca : Nat → Addr
  K : PySem.W.Frag

noncomputable abbrev Tp.M (T : Tp) : Model := model T.prog T.w

noncomputable def okS (s : List Nat) : Prop := (∀ c ∈ s, c < 128) ∧ s.length ≤ lim

inductive VR (T : Tp) (own : Addr → Ow) (bt : List Addr) (h : Heap) : AV → Value → Prop
  | none : VR T own bt h .none .none
  | bool (b : Bool) : VR T own bt h (.bool b) (.bool b)
  | int (i : Int) (t : Tok) : VR T own bt h (.int i) (.int i t)
  | str {s : List Nat} (t : Tok) : okS s → VR T own bt h (.str s) (.str (tS s) t)
  | tup {xs : List AV} {a : Addr} {o : Obj} {vs : Array Value} {n : Nat} : h.get? a = some o → o.cls = .type "tuple" → o.data = .seq vs n → own a = .free → xs.length ≤ lim → vs.size = xs.length →
      (∀ (i : Nat) (x : AV) (v : Value), xs[i]? = some x → vs[i]? = some v → VR T own bt h x v) → VR T own bt h (.tup xs) (.ref a)
  | exc {c : Nat} {a : Addr} {o : Obj} : h.get? a = some o → o.cls = .ref (T.ca c) → own a = .exc → VR T own bt h (.exc c) (.ref a)
  | ref {l : Nat} {a : Addr} : bt[l]? = some a → VR T own bt h (.ref l) (.ref a)
  | scr {ns : List Int} {a : Addr} {o : Obj} {vs : Array Value} {n : Nat} : T.base.get? a = some o → o.cls = .type "list" → o.data = .seq vs n → ns.length ≤ lim →
      (∀ (i : Nat) (x : Int), ns[i]? = some x → ∃ t, vs[i]? = some (Value.int x t)) → vs.size = ns.length → VR T own bt h (.scr ns) (.ref a)
  | rng {x y : Int} {a : Addr} {t u v : Tok} : h.get? a = some { cls := .type "range", dict := none, data := .fields #[Value.int x t, Value.int y u, Value.int 1 v], slots := #[] } → own a = .free →
      -lim ≤ x → x ≤ lim → -lim ≤ y → y ≤ lim → VR T own bt h (.rng x y) (.ref a)
inductive VRs (T : Tp) (own : Addr → Ow) (bt : List Addr) (h : Heap) : List AV → List Value → Prop
  | nil : VRs T own bt h [] []
  | cons {x : AV} {v : Value} {xs : List AV} {vs : List Value} : VR T own bt h x v → VRs T own bt h xs vs → VRs T own bt h (x :: xs) (v :: vs)

/-- an object as it stands, or a frame whose slots alone are changed -/
noncomputable def KO (o o' : Obj) : Prop := o' = o ∨ ((∃ es n, o.data = .dict es n) ∧ ∃ sl, o' = { o with slots := sl })
theorem KO.refl (o : Obj) : KO o o := .inl rfl
theorem KO.cls {o o' : Obj} (h : KO o o') : o'.cls = o.cls := by
  rcases h with rfl | ⟨_, sl, rfl⟩ <;> rfl
theorem KO.data {o o' : Obj} (h : KO o o') : o'.data = o.data := by
  rcases h with rfl | ⟨_, sl, rfl⟩ <;> rfl
theorem KO.same {o o' : Obj} (h : KO o o') (hc : ∀ es n, o.data ≠ .dict es n) : o' = o := by
  rcases h with rfl | ⟨⟨es, n, q⟩, _⟩
  · rfl
  · exact absurd q (hc es n)
theorem KO.trans {o₁ o₂ o₃ : Obj} (h : KO o₁ o₂) (k : KO o₂ o₃) : KO o₁ o₃ := by
  rcases h with rfl | ⟨q, sl, rfl⟩
  · exact k
  · rcases k with rfl | ⟨_, sl', rfl⟩
    · exact .inr ⟨q, sl, rfl⟩
    · exact .inr ⟨q, sl', rfl⟩

/-- from one state to a later one: what nobody owns stands (but for the addresses of X, the frame's own); owners stay -/
structure Ext (X : Addr → Prop) (own : Addr → Ow) (bt : List Addr) (h : Heap) (own' : Addr → Ow) (bt' : List Addr) (h' : Heap) : Prop where
  kp : ∀ a o, h.get? a = some o → own a = .free → ¬ X a → ∃ o', h'.get? a = some o' ∧ KO o o'
  ke : ∀ a o, h.get? a = some o → own a = .exc → ∃ o', h'.get? a = some o' ∧ o'.cls = o.cls
  oe : ∀ a o, h.get? a = some o → own a = .exc → own' a = .exc
  df : ∀ a o, h.get? a = some o → ¬ X a → own a ≠ .tb → ∃ o', h'.get? a = some o'
  ow : ∀ a o, h.get? a = some o → ¬ X a → own a ≠ .tb → own' a = own a
  bt : ∃ r, bt' = bt ++ r

theorem Ext.refl (X : Addr → Prop) (own : Addr → Ow) (bt : List Addr) (h : Heap) : Ext X own bt h own bt h :=
  ⟨fun _ o e _ _ => ⟨o, e, .refl o⟩, fun _ o e _ => ⟨o, e, rfl⟩, fun _ _ _ f => f, fun _ o e _ _ => ⟨o, e⟩, fun _ _ _ _ _ => rfl, [], (List.append_nil _).symm⟩

theorem Ext.trans {X : Addr → Prop} {o₁ o₂ o₃ : Addr → Ow} {b₁ b₂ b₃ : List Addr} {h₁ h₂ h₃ : Heap} (x : Ext X o₁ b₁ h₁ o₂ b₂ h₂) (y : Ext X o₂ b₂ h₂ o₃ b₃ h₃) : Ext X o₁ b₁ h₁ o₃ b₃ h₃ where
  kp := fun a o e f n => by
    obtain ⟨o', e', k⟩ := x.kp a o e f n
    obtain ⟨o'', e'', k'⟩ := y.kp a o' e' ((x.ow a o e n (by rw [f]; exact Ow.noConfusion)).trans f) n
    exact ⟨o'', e'', k.trans k'⟩
  ke := fun a o e f => by
    obtain ⟨o', e', k⟩ := x.ke a o e f
    obtain ⟨o'', e'', k'⟩ := y.ke a o' e' (x.oe a o e f)
    exact ⟨o'', e'', k'.trans k⟩
  oe := fun a o e f => by
    obtain ⟨o', e', _⟩ := x.ke a o e f
    exact y.oe a o' e' (x.oe a o e f)
  df := fun a o e n q => by
    obtain ⟨o', e'⟩ := x.df a o e n q
    exact y.df a o' e' n (by rw [x.ow a o e n q]; exact q)
  ow := fun a o e n q => by
    obtain ⟨o', e'⟩ := x.df a o e n q
    exact (y.ow a o' e' n (by rw [x.ow a o e n q]; exact q)).trans (x.ow a o e n q)
  bt := by
    obtain ⟨r, e⟩ := x.bt
    obtain ⟨r', e'⟩ := y.bt
    exact ⟨r ++ r', by rw [e', e, List.append_assoc]⟩

theorem Ext.mono {X Y : Addr → Prop} {o₁ o₂ : Addr → Ow} {b₁ b₂ : List Addr} {h₁ h₂ : Heap} (x : Ext X o₁ b₁ h₁ o₂ b₂ h₂) (m : ∀ a, X a → Y a) : Ext Y o₁ b₁ h₁ o₂ b₂ h₂ :=
  ⟨fun a o e f n => x.kp a o e f fun q => n (m a q), x.ke, x.oe, fun a o e n z => x.df a o e (fun q => n (m a q)) z, fun a o e n z => x.ow a o e (fun q => n (m a q)) z, x.bt⟩

/-- the addresses of X are nobody's and hold no tuples and no ranges -/
noncomputable def FrX (X : Addr → Prop) (own : Addr → Ow) (h : Heap) : Prop := ∀ a, X a → own a = .free ∧ ∀ o, h.get? a = some o → (∃ es n, o.data = .dict es n) ∨ (∃ v, o.data = .cell v) ∨ (o.cls ≠ .type "tuple" ∧ o.cls ≠ .type "range")
noncomputable def noX : Addr → Prop := fun _ => False
theorem FrX.no {own : Addr → Ow} {h : Heap} : FrX noX own h := fun _ q => q.elim

section
variable {T : Tp} {X : Addr → Prop} {own own' : Addr → Ow} {bt bt' : List Addr} {h h' : Heap}

theorem VR.ext (x : Ext X own bt h own' bt' h') (fx : FrX X own h) {av : AV} {v : Value} (r : VR T own bt h av v) : VR T own' bt' h' av v := by
  induction r with
  | none => exact .none
  | bool b => exact .bool b
  | int i t => exact .int i t
  | str t q => exact .str t q
  | ref e =>
    obtain ⟨r, q⟩ := x.bt
    refine .ref ?_
    rw [q, List.getElem?_append_left (List.getElem?_eq_some_iff.mp e).1]; exact e
  | tup e c d f l z _ ih =>
    have hx : ¬ X _ := fun q => by
      rcases (fx _ q).2 _ e with ⟨_, _, z⟩ | ⟨_, z⟩ | ⟨z, _⟩
      · rw [d] at z; cases z
      · rw [d] at z; cases z
      · exact z c
    obtain ⟨o', e', k⟩ := x.kp _ _ e f hx
    exact .tup e' (k.cls.trans c) (k.data.trans d) ((x.ow _ _ e hx (by rw [f]; exact Ow.noConfusion)).trans f) l z ih
  | exc e c f =>
    obtain ⟨o', e', k⟩ := x.ke _ _ e f
    exact .exc e' (k.trans c) (x.oe _ _ e f)
  | scr e c d l r z => exact .scr e c d l r z
  | rng e f a b c d =>
    have hx : ¬ X _ := fun q => by
      rcases (fx _ q).2 _ e with ⟨_, _, z⟩ | ⟨_, z⟩ | ⟨_, z⟩
      · cases z
      · cases z
      · exact z rfl
    obtain ⟨o', e', k⟩ := x.kp _ _ e f hx
    have k' := k.same (fun _ _ q => nomatch q)
    subst k'
    exact .rng e' ((x.ow _ _ e hx (by rw [f]; exact Ow.noConfusion)).trans f) a b c d
theorem VRs.ext (x : Ext X own bt h own' bt' h') (fx : FrX X own h) {xs : List AV} {vs : List Value} (r : VRs T own bt h xs vs) : VRs T own' bt' h' xs vs := by
  induction r with
  | nil => exact .nil
  | cons a _ ih => exact .cons (VR.ext x fx a) ih

theorem VRs.length {xs : List AV} {vs : List Value} (r : VRs T own bt h xs vs) : vs.length = xs.length := by
  induction r with
  | nil => rfl
  | cons _ _ ih => rw [List.length_cons, List.length_cons, ih]
theorem VRs.get {xs : List AV} {vs : List Value} (r : VRs T own bt h xs vs) : ∀ {i : Nat} {x : AV}, xs[i]? = some x → ∃ v, vs[i]? = some v ∧ VR T own bt h x v := by
  induction r with
  | nil => intro i x e; cases e
  | cons a _ ih =>
    intro i x e
    cases i with
    | zero => cases e; exact ⟨_, rfl, a⟩
    | succ i => exact ih e
theorem VRs.of : ∀ {xs : List AV} {vs : List Value}, vs.length = xs.length → (∀ (i : Nat) (x : AV) (v : Value), xs[i]? = some x → vs[i]? = some v → VR T own bt h x v) → VRs T own bt h xs vs := by
  intro xs
  induction xs with
  | nil =>
    intro vs e _
    cases vs with
    | nil => exact .nil
    | cons v vs => cases e
  | cons x xs ih =>
    intro vs e r
    cases vs with
    | nil => cases e
    | cons v vs => exact .cons (r 0 x v rfl rfl) (ih (Nat.succ.inj e) fun i y w hy hw => r (i + 1) y w hy hw)
theorem VRs.append {xs ys : List AV} {vs ws : List Value} (r : VRs T own bt h xs vs) (k : VRs T own bt h ys ws) : VRs T own bt h (xs ++ ys) (vs ++ ws) := by
  induction r with
  | nil => exact k
  | cons a _ ih => exact .cons a ih
theorem VRs.drop {xs : List AV} {vs : List Value} (n : Nat) (r : VRs T own bt h xs vs) : VRs T own bt h (xs.drop n) (vs.drop n) := by
  induction r generalizing n with
  | nil => rw [List.drop_nil, List.drop_nil]; exact .nil
  | cons a r ih =>
    cases n with
    | zero => exact .cons a r
    | succ n => exact ih n
theorem VRs.take {xs : List AV} {vs : List Value} (n : Nat) (r : VRs T own bt h xs vs) : VRs T own bt h (xs.take n) (vs.take n) := by
  induction r generalizing n with
  | nil => rw [List.take_nil, List.take_nil]; exact .nil
  | cons a r ih =>
    cases n with
    | zero => exact .nil
    | succ n => exact .cons a (ih n)
end
end Mine

/-! Soundness, part 2: objects, states, what a tree must give back (typed by hand). -/
set_option Elab.async false
set_option genInjectivity false
set_option genSizeOf false
set_option bootstrap.genMatcherCode false
namespace Mine
open PySem PySem.SeqAt

/-! ### keys -/
noncomputable def kIs : Str ⊕ Int → Value → Bool
  | .inl x, v => Value.isStrOf x v
  | .inr i, v => Value.isInt i v
theorem kIs_shape {k : Str ⊕ Int} {v : Value} (h : kIs k v = true) : (∃ x t, k = .inl x ∧ v = .str x t) ∨ ∃ i t, k = .inr i ∧ v = .int i t := by
  cases k with
  | inl x => obtain ⟨t, rfl⟩ := Value.isStrOf_shape h; exact .inl ⟨x, t, rfl, rfl⟩
  | inr i => obtain ⟨t, rfl⟩ := Value.isInt_shape h; exact .inr ⟨i, t, rfl, rfl⟩

noncomputable def kKind (prog : Program) (w : World) : KeyKind prog w (Str ⊕ Int) where
  is := kIs
  hash := fun | .inl x => hashStr w x | .inr i => hashInt i
  inj := fun v a b ha hb => by
    rcases kIs_shape ha with ⟨x, t, rfl, rfl⟩ | ⟨i, t, rfl, rfl⟩ <;> rcases kIs_shape hb with ⟨y, u, rfl, q⟩ | ⟨j, u, rfl, q⟩ <;> cases q <;> rfl
  byValue := fun k v h => by rcases kIs_shape h with ⟨x, t, rfl, rfl⟩ | ⟨i, t, rfl, rfl⟩ <;> rfl
  pyHash := fun hv h => by
    rcases kIs_shape hv with ⟨x, t, rfl, rfl⟩ | ⟨i, t, rfl, rfl⟩
    · exact wpAny_pyHash_str h
    · exact wpAny_pyHash_int h
  eqBool := fun {A E s a b u v Q} hu hv h => by
    rcases kIs_shape hu with ⟨x, t, rfl, rfl⟩ | ⟨i, t, rfl, rfl⟩ <;> rcases kIs_shape hv with ⟨y, u, rfl, rfl⟩ | ⟨j, u, rfl, rfl⟩
    · exact wpAny_eqBool_str (by simpa using h)
    · exact (EqAt.str_int x t j u) prog w E Q (by simpa using h)
    · exact (EqAt.int_str i t y u) prog w E Q (by simpa using h)
    · exact wpAny_eqBool_int (by
        have e : (i == j) = decide ((Sum.inr i : Str ⊕ Int) = Sum.inr j) := by
          by_cases q : i = j <;> simp [q]
        rw [e]; exact h)
  «strs» := fun k x t v h => by
    rcases kIs_shape h with ⟨y, u, rfl, q⟩ | ⟨i, u, rfl, q⟩ <;> cases q
    cases v <;> rfl

noncomputable def keyOk (k : AV) : Prop := match k with
  | .int _ => True
  | .str s => okS s
  | _ => False
noncomputable def kOf (k : AV) : Str ⊕ Int := match k with
  | .int i => .inr i
  | .str s => .inl (tS s)
  | _ => .inr 0
/-- a dict's entries as the model has them -/
inductive KV (T : Tp) (own : Addr → Ow) (bt : List Addr) (h : Heap) : List (AV × AV) → List ((Str ⊕ Int) × Value) → Prop
  | nil : KV T own bt h [] []
  | cons {p : AV × AV} {w : Value} {es : List (AV × AV)} {kvs : List ((Str ⊕ Int) × Value)} : keyOk p.1 → VR T own bt h p.2 w → KV T own bt h es kvs → KV T own bt h (p :: es) ((kOf p.1, w) :: kvs)
theorem KV.ext {T : Tp} {X : Addr → Prop} {own own' : Addr → Ow} {bt bt' : List Addr} {h h' : Heap} (x : Ext X own bt h own' bt' h') (fx : FrX X own h) {es : List (AV × AV)} {kvs : List ((Str ⊕ Int) × Value)} (r : KV T own bt h es kvs) : KV T own' bt' h' es kvs := by
  induction r with
  | nil => exact .nil
  | cons a b _ ih => exact .cons a (b.ext x fx) ih
theorem dictAt_at {prog : Program} {w : World} {K : Type} [DecidableEq K] {knd : KeyKind prog w K} {h h' : Heap} {a : Addr} {kvs : List (K × Value)} {n : Nat} (d : h.DictAt knd a kvs n) (e : ∀ q, h.get? a = some q → h'.get? a = some q) : h'.DictAt knd a kvs n :=
  let ⟨o, es, ho, r⟩ := d; ⟨o, es, e o ho, r⟩

/-- what an instance's dict says under a name -/
noncomputable def fnd (ents : List DictEntry) (nm : Str) : Option Value := (ents.find? fun e => e.key.isStr nm).map (·.val)
/-- the attributes of an instance -/
noncomputable def IR (T : Tp) (own : Addr → Ow) (bt : List Addr) (h : Heap) (fs : List (Option AV)) (ents : List DictEntry) : Prop :=
  (∀ e ∈ ents, ∃ x t, e.key = .str x t ∧ x ∈ T.P.attrs) ∧ (ents.length ≤ fs.countP (·.isSome) ∧ fs.length ≤ 1000) ∧
  ∀ (i : Nat) (nm : Str), T.P.attrs[i]? = some nm → (∀ av, fs[i]? = some (some av) → ∃ v, fnd ents nm = some v ∧ VR T own bt h av v) ∧ ((∀ av, fs[i]? ≠ some (some av)) → fnd ents nm = none)
theorem IR.ext {T : Tp} {X : Addr → Prop} {own own' : Addr → Ow} {bt bt' : List Addr} {h h' : Heap} {fs : List (Option AV)} {ents : List DictEntry} (r : IR T own bt h fs ents) (x : Ext X own bt h own' bt' h') (fx : FrX X own h) :
    IR T own' bt' h' fs ents :=
  ⟨r.1, r.2.1, fun i nm e => ⟨fun av q => let ⟨v, e1, e2⟩ := (r.2.2 i nm e).1 av q; ⟨v, e1, e2.ext x fx⟩, (r.2.2 i nm e).2⟩⟩

/-- an object of the abstract heap as the model has it -/
noncomputable def OR (T : Tp) (own : Addr → Ow) (bt : List Addr) (h : Heap) (l : Nat) (a : Addr) : AO → Prop
  | .list xs => ∃ vs n, h.get? a = some { cls := .type "list", data := .seq vs n } ∧ VRs T own bt h xs vs.toList ∧ xs.length ≤ lim
  | .dict ep es => ∃ kvs n, h.DictAt (kKind T.prog T.w) a kvs n ∧ (∀ e, ep = some e → n = e) ∧ KV T own bt h es kvs ∧ es.length ≤ lim
  | .inst c fs => (∃ cl, T.P.cls[c]? = some cl ∧ cl.exc = false) ∧ ∃ dx ents n, h.get? a = some { cls := .ref (T.ca c), dict := some dx, data := .plain } ∧ own dx = .loc l ∧ dx ≠ a ∧ h.get? dx = some { cls := .type "dict", data := .dict ents n } ∧
      IR T own bt h fs ents.toList

theorem OR.mono {T : Tp} {X : Addr → Prop} {own own' : Addr → Ow} {bt bt' : List Addr} {h h' : Heap} {l : Nat} {a : Addr} {o : AO} (r : OR T own bt h l a o) (x : Ext X own bt h own' bt' h') (fx : FrX X own h) (ha : own a = .loc l)
    (k : ∀ b q, own b = .loc l → h.get? b = some q → h'.get? b = some q) : OR T own' bt' h' l a o := by
  cases o with
  | list xs => obtain ⟨vs, n, h1, h2, h3⟩ := r; exact ⟨vs, n, k _ _ ha h1, h2.ext x fx, h3⟩
  | dict ep es => obtain ⟨kvs, n, h1, h2, h3, h4⟩ := r; exact ⟨kvs, n, dictAt_at h1 fun q e => k _ _ ha e, h2, h3.ext x fx, h4⟩
  | inst c fs =>
    obtain ⟨h0, dx, ents, n, h1, h2, h3, h4, h5⟩ := r
    exact ⟨h0, dx, ents, n, k _ _ ha h1, (x.ow _ _ h4 (fun q => by rw [(fx _ q).1] at h2; cases h2) (by rw [h2]; exact Ow.noConfusion)).trans h2, h3, k _ _ h2 h4, h5.ext x fx⟩

structure Wd where
  own : Addr → Ow
  bt : List Addr
  σ : Hp
  s : Shared

noncomputable abbrev Wd.h (W : Wd) : Heap := W.s.heap
noncomputable abbrev Wd.V (W : Wd) (T : Tp) : AV → Value → Prop := VR T W.own W.bt W.s.heap
noncomputable abbrev Wd.Vs (W : Wd) (T : Tp) : List AV → List Value → Prop := VRs T W.own W.bt W.s.heap

structure Inv (T : Tp) (W : Wd) : Prop where
  len : W.bt.length = W.σ.length
  ownb : ∀ l a, W.bt[l]? = some a → W.own a = .loc l
  lt : ∀ a, W.own a ≠ .free → (∃ o, W.h.get? a = some o) ∧ T.base.get? a = none
  obj : ∀ l o a, W.σ[l]? = some o → W.bt[l]? = some a → OR T W.own W.bt W.h l a o
  base : T.base.StaysIn W.h
  st : ∃ o, T.base.get? cStatics = some o
  hi : ∀ (l : Nat) (a : Addr), W.bt[l]? = some a → cStatics < a

structure Le (X : Addr → Prop) (W W' : Wd) : Prop where
  ext : Ext X W.own W.bt W.h W'.own W'.bt W'.h
  gens : W'.s.gens = W.s.gens
  os : W'.s.os = W.s.os

theorem Le.refl (X : Addr → Prop) (W : Wd) : Le X W W := ⟨.refl _ _ _ _, rfl, rfl⟩
theorem Le.trans {X : Addr → Prop} {W₁ W₂ W₃ : Wd} (x : Le X W₁ W₂) (y : Le X W₂ W₃) : Le X W₁ W₃ :=
  ⟨x.ext.trans y.ext, y.gens.trans x.gens, y.os.trans x.os⟩
theorem Le.mono {X Y : Addr → Prop} {W W' : Wd} (x : Le X W W') (m : ∀ a, X a → Y a) : Le Y W W' := ⟨x.ext.mono m, x.gens, x.os⟩
theorem Le.ofNo {X : Addr → Prop} {W W' : Wd} (x : Le noX W W') : Le X W W' := x.mono fun _ q => q.elim

theorem VR.le {T : Tp} {W W' : Wd} {av : AV} {v : Value} (r : W.V T av v) (x : Le noX W W') : W'.V T av v := VR.ext x.ext .no r
theorem VRs.le {T : Tp} {W W' : Wd} {av : List AV} {v : List Value} (r : W.Vs T av v) (x : Le noX W W') : W'.Vs T av v := VRs.ext x.ext .no r

theorem lst_ok {o : Option AO} {xs : List AV} (e : lst o = some xs) : o = some (.list xs) := by
  cases o with
  | none => cases e
  | some o => cases o <;> cases e; rfl
theorem dct_ok {o : Option AO} {p : Option Nat × List (AV × AV)} (e : dct o = some p) : o = some (.dict p.1 p.2) := by
  cases o with
  | none => cases e
  | some o => cases o <;> cases e; rfl
theorem ins_ok {o : Option AO} {p : Nat × List (Option AV)} (e : ins o = some p) : o = some (.inst p.1 p.2) := by
  cases o with
  | none => cases e
  | some o => cases o <;> cases e; rfl
theorem Inv.listAt {T : Tp} {W : Wd} (I : Inv T W) {l : Nat} {xs : List AV} {v : Value} (e : W.σ[l]? = some (.list xs)) (r : W.V T (.ref l) v) :
    ∃ a vs n, v = .ref a ∧ W.bt[l]? = some a ∧ W.h.get? a = some { cls := .type "list", data := .seq vs n } ∧ W.Vs T xs vs.toList ∧ xs.length ≤ lim := by
  cases r with
  | ref q =>
    obtain ⟨vs, n, h1, h2, h3⟩ := I.obj _ _ _ e q
    exact ⟨_, vs, n, rfl, q, h1, h2, h3⟩
theorem Inv.dict {T : Tp} {W : Wd} (I : Inv T W) {l : Nat} {ep : Option Nat} {es : List (AV × AV)} {v : Value} (e : W.σ[l]? = some (.dict ep es)) (r : W.V T (.ref l) v) :
    ∃ a kvs n, v = .ref a ∧ W.bt[l]? = some a ∧ W.h.DictAt (kKind T.prog T.w) a kvs n ∧ (∀ e, ep = some e → n = e) ∧ KV T W.own W.bt W.h es kvs ∧ es.length ≤ lim ∧ (a == sysModules) = false := by
  cases r with
  | ref q =>
    rename_i a
    obtain ⟨kvs, n, h1, h2, h3, h4⟩ := I.obj _ _ _ e q
    exact ⟨a, kvs, n, rfl, q, h1, h2, h3, h4, beq_eq_false_iff_ne.mpr (Nat.ne_of_gt (Nat.lt_trans (by decide) (I.hi _ _ q)))⟩
/-! ### steps -/
/-- the model's heap keeps all that it had -/
theorem Inv.grow {T : Tp} {W : Wd} (I : Inv T W) {s' : Shared} (hk : ∀ a o, W.h.get? a = some o → s'.heap.get? a = some o) (hg : s'.gens = W.s.gens) (ho : s'.os = W.s.os) :
    Inv T { W with s := s' } ∧ Le noX W { W with s := s' } := by
  have x : Ext noX W.own W.bt W.h W.own W.bt s'.heap := ⟨fun a o e _ _ => ⟨o, hk a o e, .refl o⟩, fun a o e _ => ⟨o, hk a o e, rfl⟩, fun _ _ _ f => f, fun a o e _ _ => ⟨o, hk a o e⟩, fun _ _ _ _ _ => rfl, [], (List.append_nil _).symm⟩
  refine ⟨⟨I.len, I.ownb, fun a q => ⟨let ⟨o, e⟩ := (I.lt a q).1; ⟨o, hk a o e⟩, (I.lt a q).2⟩, fun l o a e q => ?_, fun b o e => hk b o (I.base b o e), I.st, I.hi⟩, x, hg, ho⟩
  exact (I.obj l o a e q).mono x .no (I.ownb l a q) fun b q' _ e' => hk b q' e'

/-- a state with one object more -/
noncomputable abbrev Wd.push (W : Wd) (o : AO) (s' : Shared) : Wd := { own := fun a => if a = W.h.objs.size then .loc W.σ.length else W.own a, bt := W.bt ++ [W.h.objs.size], σ := W.σ ++ [o], s := s' }

theorem Inv.push {T : Tp} {W : Wd} (I : Inv T W) {s' : Shared} {o : AO} {ob : Obj} (hs : s'.heap.get? W.h.objs.size = some ob) (hk : ∀ a q, W.h.get? a = some q → s'.heap.get? a = some q)
    (hg : s'.gens = W.s.gens) (ho : s'.os = W.s.os) (hr : Ext noX W.own W.bt W.h (W.push o s').own (W.push o s').bt s'.heap → OR T (W.push o s').own (W.push o s').bt s'.heap W.σ.length W.h.objs.size o) :
    Inv T (W.push o s') ∧ Le noX W (W.push o s') ∧ (W.push o s').V T (.ref W.σ.length) (.ref W.h.objs.size) := by
  have x : Ext noX W.own W.bt W.h (W.push o s').own (W.push o s').bt s'.heap := ⟨fun a o e _ _ => ⟨o, hk a o e, .refl o⟩, fun a o e _ => ⟨o, hk a o e, rfl⟩, fun a o e f => (if_neg (Nat.ne_of_lt (Heap.lt_size e))).trans f, fun a o e _ _ => ⟨o, hk a o e⟩,
    fun a o e _ _ => if_neg (Nat.ne_of_lt (Heap.lt_size e)), [W.h.objs.size], rfl⟩
  have hbt : ∀ l a, W.bt[l]? = some a → a < W.h.objs.size := fun l a e => let ⟨_, q⟩ := (I.lt a (by rw [I.ownb l a e]; exact Ow.noConfusion)).1; Heap.lt_size q
  refine ⟨⟨by simp [I.len], fun l a e => ?_, fun a q => ?_, fun l o' a e q => ?_, fun b q e => hk _ _ (I.base b q e), I.st, fun l a e => ?_⟩, ⟨x, hg, ho⟩, .ref (by simp [← I.len])⟩
  · simp only [Wd.push] at e ⊢
    rw [List.getElem?_append] at e
    split at e
    · rw [if_neg (Nat.ne_of_lt (hbt l a e))]; exact I.ownb l a e
    · rename_i hl
      have : l = W.bt.length := by
        rcases Nat.lt_or_ge l (W.bt.length + 1) with z | z
        · omega
        · rw [List.getElem?_eq_none (by simp; omega)] at e; cases e
      subst this
      simp at e
      rw [← e, if_pos rfl, I.len]
  · simp only [Wd.push] at q ⊢
    by_cases e : a = W.h.objs.size
    · exact ⟨⟨ob, by rw [e]; exact hs⟩, by
        rw [e]
        cases z : T.base.get? W.h.objs.size with
        | none => rfl
        | some o' => exact absurd (Heap.lt_size (I.base _ _ z)) (Nat.lt_irrefl _)⟩
    · rw [if_neg e] at q
      exact ⟨let ⟨o, e⟩ := (I.lt a q).1; ⟨o, hk a o e⟩, (I.lt a q).2⟩
  · simp only [Wd.push] at e q
    rw [List.getElem?_append] at e q
    split at e
    · rename_i hl
      rw [if_pos (by rw [I.len]; exact hl)] at q
      exact (I.obj l o' a e q).mono x .no (I.ownb l a q) fun b q' _ e' => hk b q' e'
    · rename_i hl
      rw [if_neg (by rw [I.len]; exact hl)] at q
      have : l = W.σ.length := by
        rcases Nat.lt_or_ge l (W.σ.length + 1) with z | z
        · omega
        · rw [List.getElem?_eq_none (by simp; omega)] at e; cases e
      subst this
      rw [I.len] at q
      simp at e q
      rw [← e, ← q]
      exact hr x
  · simp only [Wd.push] at e
    rw [List.getElem?_append] at e
    split at e
    · exact I.hi l a e
    · obtain ⟨o, ho⟩ := I.st
      have := Heap.lt_size (I.base _ _ ho)
      rcases List.mem_singleton.mp (List.mem_of_getElem? e) with rfl
      exact this

/-- a state with one object changed -/
noncomputable abbrev Wd.upd (W : Wd) (l : Nat) (o : AO) (s' : Shared) : Wd := { W with σ := W.σ.set l o, s := s' }

theorem Inv.upd {T : Tp} {W : Wd} (I : Inv T W) {s' : Shared} {l : Nat} {o : AO} {a : Addr} (hl : W.bt[l]? = some a) (hs : ∀ b q, W.own b = .loc l → W.h.get? b = some q → ∃ q', s'.heap.get? b = some q') (hk : ∀ b, W.own b ≠ .loc l → s'.heap.get? b = W.h.get? b)
    (hg : s'.gens = W.s.gens) (ho : s'.os = W.s.os) (hr : Ext noX W.own W.bt W.h W.own W.bt s'.heap → OR T W.own W.bt s'.heap l a o) :
    Inv T (W.upd l o s') ∧ Le noX W (W.upd l o s') := by
  have df : ∀ a o, W.h.get? a = some o → ∃ o', s'.heap.get? a = some o' := fun a o e => (Classical.em (W.own a = .loc l)).elim (fun f => hs a o f e) (fun f => ⟨o, (hk a f).trans e⟩)
  have x : Ext noX W.own W.bt W.h W.own W.bt s'.heap := ⟨fun a o e f _ => ⟨o, (hk a (by rw [f]; exact Ow.noConfusion)).trans e, .refl o⟩, fun a o e f => ⟨o, (hk a (by rw [f]; exact Ow.noConfusion)).trans e, rfl⟩, fun _ _ _ f => f,
    fun a o e _ _ => df a o e, fun _ _ _ _ _ => rfl, [], (List.append_nil _).symm⟩
  refine ⟨⟨by simp [I.len], I.ownb, fun a q => ⟨let ⟨o, e⟩ := (I.lt a q).1; df a o e, (I.lt a q).2⟩, fun l' o' a' e q => ?_, fun b q e => ?_, I.st, I.hi⟩, x, hg, ho⟩
  · simp only [Wd.upd] at e
    rw [List.getElem?_set] at e
    split at e
    · rename_i z
      subst z
      split at e
      · cases e
        rw [hl] at q; cases q
        exact hr x
      · cases e
    · rename_i z
      refine (I.obj l' o' a' e q).mono x .no (I.ownb l' a' q) fun b q' f e' => (hk b ?_).trans e'
      rw [f]; intro y; injection y with y; exact z y.symm
  · refine (hk b fun z => ?_).trans (I.base b q e)
    have := (I.lt b (by rw [z]; simp)).2
    rw [this] at e; cases e

theorem Inv.toks {T : Tp} {W : Wd} (I : Inv T W) (t : Nat) : Inv T { W with s := { W.s with toks := t } } ∧ Le noX W { W with s := { W.s with toks := t } } :=
  I.grow (fun _ _ e => e) rfl rfl

/-! ### what a tree gives back -/
/-- the tree ends as `r` says -/
noncomputable def PostE {α β : Type} (T : Tp) (X : Addr → Prop) (W : Wd) (r : Out α) (R : Wd → α → β → Prop) (b : β) (s' : Shared) : Prop :=
  ∃ a W', W'.s = s' ∧ r = .ok a W'.σ ∧ Inv T W' ∧ Le X W W' ∧ R W' a b
/-- an exception in flight, from a call (its traceback lies behind it) or just made -/
noncomputable def Fly (T : Tp) (W : Wd) (c : Nat) (a : Addr) : Prop :=
  W.own a = .exc ∧ ∃ o vs, W.h.get? a = some o ∧ o.cls = .ref (T.ca c) ∧ o.data = .fields vs ∧ (vs[0]?).isSome = true ∧
    (vs[1]? = some .none ∨ ∃ b ob ts, vs[1]? = some (.ref b) ∧ W.own b = .tb ∧ W.h.get? b = some ob ∧ ob.data = .fields ts ∧ ts[3]? = some .none)
/-- the tree raises as `r` says -/
noncomputable def PostX {α : Type} (T : Tp) (X : Addr → Prop) (W : Wd) (r : Out α) (e : Value) (s' : Shared) : Prop :=
  ∃ c W' a, W'.s = s' ∧ r = .exc c W'.σ ∧ Inv T W' ∧ Le X W W' ∧ e = .ref a ∧ Fly T W' c a
theorem PostX.bind {T : Tp} {X : Addr → Prop} {W : Wd} {α γ : Type} {r : Out α} {f : α → Hp → Out γ} {e : Value} {s' : Shared} (h : PostX T X W r e s') : PostX T X W (r.bind f) e s' := let ⟨c, W', a, e, q, I, l', z⟩ := h; ⟨c, W', a, e, by rw [q]; rfl, I, l', z⟩
theorem PostX.up {T : Tp} {X : Addr → Prop} {W W₀ : Wd} {α : Type} {r r₀ : Out α} {e : Value} {s' : Shared} (h : PostX T X W r e s') (l : Le X W₀ W) (q₀ : r₀ = r) : PostX T X W₀ r₀ e s' := let ⟨c, W', a, e, q, I, l', z⟩ := h; ⟨c, W', a, e, q₀.trans q, I, l.trans l', z⟩

/-- evaluation of a tree as the abstract one says -/
noncomputable def Does {α β : Type} (T : Tp) (A : Around) (X : Addr → Prop) (W : Wd) (t : Sem β) (r : Out α) (R : Wd → α → β → Prop) : Prop :=
  wpAny T.M A t (PostE T X W r R) (PostX T X W r) W.s

section
variable {T : Tp} {A : Around} {X : Addr → Prop} {W : Wd} {α β γ δ : Type}

theorem Does.ok {t : Sem β} {a : α} {R : Wd → α → β → Prop} (h : wpAny T.M A t (fun b s' => ∃ W', W'.s = s' ∧ W'.σ = W.σ ∧ Inv T W' ∧ Le X W W' ∧ R W' a b) (fun _ _ => False) W.s) : Does T A X W t (.ok a W.σ) R :=
  wpAny_mono h (fun _ _ ⟨W', e, q, I, l, r⟩ => ⟨a, W', e, by rw [q], I, l, r⟩) fun _ _ q => q.elim

/-- the tree's end, for any rule of the library -/
theorem Does.cps {t : Sem β} {r : Out α} {R : Wd → α → β → Prop} {Q : β → Shared → Prop} {E : Value → Shared → Prop} (h : Does T A X W t r R)
    (hq : ∀ a W' b, r = .ok a W'.σ → Inv T W' → Le X W W' → R W' a b → Q b W'.s) (hx : ∀ e s', PostX T X W r e s' → E e s') : wpAny T.M A t Q E W.s :=
  wpAny_mono h (fun b _ ⟨a, W', e, q, I, l, r⟩ => e ▸ hq a W' b q I l r) hx

/-- seen from an earlier state -/
theorem Does.up {W₀ : Wd} {t : Sem β} {r r₀ : Out α} {R : Wd → α → β → Prop} (h : Does T A X W t r R) (l : Le X W₀ W) (e : r₀ = r) :
    wpAny T.M A t (PostE T X W₀ r₀ R) (PostX T X W₀ r₀) W.s := by
  subst e
  exact wpAny_mono h (fun b _ ⟨a, W', e, q, I, l', r⟩ => ⟨a, W', e, q, I, l.trans l', r⟩) fun _ _ q => q.up l rfl

theorem Does.bind {t : Sem β} {r : Out α} {R : Wd → α → β → Prop} {f : α → Hp → Out γ} {R' : Wd → γ → δ → Prop} {k : β → Sem δ}
    (h : Does T A X W t r R)
    (hk : ∀ a W' b, r = .ok a W'.σ → Inv T W' → Le X W W' → R W' a b → Does T A X W' (k b) (f a W'.σ) R') : Does T A X W (t >>= k) (r.bind f) R' :=
  wpAny_bind (h.cps (fun a W' b e I l rr => (hk a W' b e I l rr).up l (by rw [e]; rfl)) fun _ _ q => q.bind)

theorem Does.mono {t : Sem β} {r : Out α} {R R' : Wd → α → β → Prop} (h : Does T A X W t r R) (m : ∀ W' a b, Inv T W' → Le X W W' → r = .ok a W'.σ → R W' a b → R' W' a b) : Does T A X W t r R' :=
  wpAny_mono h (fun _ _ ⟨a, W', e, q, I, l, r⟩ => ⟨a, W', e, q, I, l, m _ _ _ I l q r⟩) fun _ _ q => q
end

end Mine

/-! Soundness: what is asked of the text's classes (typed by hand). -/
set_option Elab.async false
namespace Mine
open PySem PySem.W

noncomputable def vMro : List Value := [.type "ValueError", .type "Exception", .type "BaseException", .type "object"]
/-- a class of exceptions -/
noncomputable def excB (K : Frag) (D : Addr) : Bool := (instIn K (.ref D) (.type "tuple") == some false) && (subIn K (.ref D) (.type "BaseException") == some true) && excIn K D vMro "ValueError.__new__" && ((findIn K (.ref D) "__getattribute__" == some (some (.builtin "BaseException.__getattribute__"))) && ((findIn K (.ref D) "__getattr__" == some none) && (mroIn K D (.type "BaseException") == some true))) && (findIn K (.ref D) "__class__" == some (some (.builtin "object.__class__"))) && (mroIn K D (.type "object") == some true) && (clsIn K D).isSome && (mroIn K D (.type "ValueError") == some true)
noncomputable def gsB (K : Frag) : Bool := (specialIn K (.builtin "object.__class__") "__get__" == some (some (.builtin "getset_descriptor.__get__"))) && (takesIn K (.builtin "object.__class__") == some true)
noncomputable def pairB (K : Frag) (D C : Addr) (yes : Bool) : Bool := if yes then isIn K (.ref D) C && (subIn K (.ref D) (.ref C) == some true) else kin_not K D C
/-- a class of plain instances -/
noncomputable def instB (K : Frag) (P : Pr) (fa : Nat → Addr) (C : Addr) (cl : Cl) : Bool :=
  keepIn K (.ref C) && makesIn K C && (match cl.init with | some f => (findIn K (.ref C) "__init__" == some (some (.ref (fa f)))) && PySem.W.isFn K (.ref (fa f)) | none => false) && plainGet K C "" && hasDictIn K C &&
    (findIn K (.ref C) "__setattr__" == some (some (.builtin "object.__setattr__"))) && plainOver K C &&
    P.attrs.all (fun nm => (match findIn K (.ref C) nm with | some a => noGet K a | none => false) && (takerIn K C nm == some none)) &&
    cl.meths.all (fun p => match P.methNames[p.1]? with | some nm => (findIn K (.ref C) nm == some (some (.ref (fa p.2)))) && PySem.W.isFn K (.ref (fa p.2)) && keepIn K (.ref (fa p.2)) && !P.attrs.contains nm | none => false)
noncomputable def pairsB (K : Frag) (P : Pr) (ca : Nat → Addr) (D : Addr) (ups : List Nat) : Nat → List Cl → Bool
  | _, [] => true
  | d, cl :: r => (!cl.exc || pairB K D (ca d) (ups.contains d)) && pairsB K P ca D ups (d + 1) r
noncomputable def clsB (K : Frag) (P : Pr) (ca fa : Nat → Addr) : Nat → List Cl → Bool
  | _, [] => true
  | c, cl :: r => (if cl.exc then excB K (ca c) && pairsB K P ca (ca c) cl.ups 0 P.cls else instB K P fa (ca c) cl) && clsB K P ca fa (c + 1) r
noncomputable def nodupA : List Str → Bool
  | [] => true
  | x :: r => !r.contains x && nodupA r

theorem pairsB_get {K : Frag} {P : Pr} {ca : Nat → Addr} {D : Addr} {ups : List Nat} : ∀ {l : List Cl} {i : Nat}, pairsB K P ca D ups i l = true → ∀ (j : Nat) (cl : Cl), l[j]? = some cl → cl.exc = true → pairB K D (ca (i + j)) (ups.contains (i + j)) = true
  | c :: r, i, h, 0, cl, e, q => by
    cases e
    simp only [pairsB, Bool.and_eq_true, q, Bool.not_true, Bool.false_or] at h
    exact h.1
  | c :: r, i, h, j + 1, cl, e, q => by
    simp only [pairsB, Bool.and_eq_true] at h
    have := pairsB_get h.2 j cl (by simpa using e) q
    rw [show i + (j + 1) = i + 1 + j by omega]; exact this
theorem clsB_get {K : Frag} {P : Pr} {ca fa : Nat → Addr} : ∀ {l : List Cl} {i : Nat}, clsB K P ca fa i l = true → ∀ (j : Nat) (cl : Cl), l[j]? = some cl → (if cl.exc then excB K (ca (i + j)) && pairsB K P ca (ca (i + j)) cl.ups 0 P.cls else instB K P fa (ca (i + j)) cl) = true
  | c :: r, i, h, 0, cl, e => by
    cases e
    simp only [clsB, Bool.and_eq_true] at h
    exact h.1
  | c :: r, i, h, j + 1, cl, e => by
    simp only [clsB, Bool.and_eq_true] at h
    have := clsB_get h.2 j cl (by simpa using e)
    rw [show i + (j + 1) = i + 1 + j by omega]; exact this
end Mine

/-! Soundness, part 3: frames, names, the plain expressions (typed by hand). -/
set_option Elab.async false
namespace Mine
open PySem PySem.SeqAt

/-- a name of the frame reads a value -/
noncomputable def Rd (W : Wd) (env : Env) (x : Str) (v : Value) : Prop :=
  (env.kindOf x = some .local ∧ W.own env.locals = .free ∧ ∃ m, W.h.Ns env.locals m ∧ m x = some v) ∨
  (env.kindOf x = some .cell ∧ ∃ c, env.cells.lookup x = some c ∧ W.own c = .free ∧ W.h.IsCell c (some v))

theorem ns_ko {h h' : Heap} {a : Addr} {m : Str → Option Value} (n : h.Ns a m) (k : ∀ o, h.get? a = some o → ∃ o', h'.get? a = some o' ∧ KO o o') : h'.Ns a m := by
  obtain ⟨o, es, ep, ho, hd, r⟩ := n
  obtain ⟨o', ho', q⟩ := k o ho
  exact ⟨o', es, ep, ho', q.data.trans hd, r⟩
theorem cell_ko {h h' : Heap} {a : Addr} {v : Option Value} (n : h.IsCell a v) (k : ∀ o, h.get? a = some o → ∃ o', h'.get? a = some o' ∧ KO o o') : h'.IsCell a v := by
  obtain ⟨o, ho, hd⟩ := n
  obtain ⟨o', ho', q⟩ := k o ho
  exact ⟨o', ho', q.data.trans hd⟩
theorem ns_at {h : Heap} {a : Addr} {m : Str → Option Value} (n : h.Ns a m) : ∃ o, h.get? a = some o := let ⟨o, _, _, ho, _⟩ := n; ⟨o, ho⟩
theorem cell_at {h : Heap} {a : Addr} {m : Option Value} (n : h.IsCell a m) : ∃ o, h.get? a = some o := let ⟨o, ho, _⟩ := n; ⟨o, ho⟩

theorem Rd.le {W W' : Wd} {env : Env} {x : Str} {v : Value} (r : Rd W env x v) (l : Le noX W W') : Rd W' env x v := by
  rcases r with ⟨k, f, m, n, e⟩ | ⟨k, c, e, f, n⟩
  · exact .inl ⟨k, (let ⟨_, z⟩ := ns_at n; (l.ext.ow _ _ z id (by rw [f]; simp)).trans f), m, ns_ko n fun o ho => l.ext.kp _ o ho f id, e⟩
  · exact .inr ⟨k, c, e, (let ⟨_, z⟩ := cell_at n; (l.ext.ow _ _ z id (by rw [f]; simp)).trans f), cell_ko n fun o ho => l.ext.kp _ o ho f id⟩

/-- the stack of frames -/
noncomputable def Stk (T : Tp) (W : Wd) (l : List Env) : Prop := ∀ env ∈ l, env.scope.kind ≠ .module ∧ ∃ L o, env.frame = some L ∧ W.own L = .free ∧ T.base.get? L = none ∧ W.h.get? L = some o ∧ ∃ es n, o.data = .dict es n
theorem Stk.leX {T : Tp} {X : Addr → Prop} {W W' : Wd} {l : List Env} (S : Stk T W l) (x : Le X W W') (h : ∀ env ∈ l, ∀ L, env.frame = some L → ¬ X L) : Stk T W' l := fun env he => by
  obtain ⟨k, L, o, h1, h2, h3, h4, h5⟩ := S env he
  obtain ⟨o', e', q⟩ := x.ext.kp L o h4 h2 (h env he L h1)
  exact ⟨k, L, o', h1, (x.ext.ow L o h4 (h env he L h1) (by rw [h2]; exact Ow.noConfusion)).trans h2, h3, e', by rw [q.data]; exact h5⟩
noncomputable def St (T : Tp) (A : Around) (W : Wd) : Prop := ∃ l, A.frames = some l ∧ Stk T W l
theorem St.le {T : Tp} {A : Around} {W W' : Wd} (S : St T A W) (x : Le noX W W') : St T A W' := let ⟨l, e, k⟩ := S; ⟨l, e, k.leX x fun _ _ _ _ => id⟩

/-- the frame as the abstract variables say -/
structure Fm (T : Tp) (A : Around) (W : Wd) (env : Env) (sl : List (Nat × Str)) (vs : Vs) : Prop where
  stk : St T A W
  kind : env.scope.kind = .function
  glob : env.globals = mainGlobals
  bi : env.builtins = builtinsNs
  cells : ∀ x, env.scope.names.lookup x = some .cell → ∃ c, env.cells.lookup x = some c
  rd : ∀ i x, (i, x) ∈ sl → ∀ av, vs[i]? = some (some av) → ∃ v, W.V T av v ∧ Rd W env x v

theorem Fm.le {T : Tp} {A : Around} {W W' : Wd} {env : Env} {sl : List (Nat × Str)} {vs : Vs} (F : Fm T A W env sl vs) (l : Le noX W W') : Fm T A W' env sl vs :=
  ⟨F.stk.le l, F.kind, F.glob, F.bi, F.cells, fun i x hi av e => let ⟨v, r, d⟩ := F.rd i x hi av e; ⟨v, r.le l, d.le l⟩⟩

/-- what is known of the top -/
structure Tp.Ok (T : Tp) : Prop where
  g : T.base.Ns mainGlobals T.mg
  b : T.base.Ns builtinsNs T.mb
  nolimit : T.base.NoLimit
  bi : ∀ x : Str, x ≠ "__name__" → T.mb x = bootBuiltins x
  X : T.K.In T.base
  cl : clsB T.K T.P T.ca T.fa 0 T.P.cls = true
  gs : T.P.cls = [] ∨ gsB T.K = true
  at_ : nodupA T.P.attrs = true

section
variable {T : Tp} {A : Around} {W : Wd} {env : Env} {sl : List (Nat × Str)} {vs : Vs}

noncomputable abbrev VW (T : Tp) : Wd → AV → Value → Prop := fun W av v => W.V T av v
noncomputable abbrev VWs (T : Tp) : Wd → List AV → List Value → Prop := fun W av v => W.Vs T av v

theorem does_var (F : Fm T A W env sl vs) (I : Inv T W) {i : Nat} {x : Str} {pos : Pos} {av : AV} (hi : (i, x) ∈ sl) (hv : vs[i]? = some (some av)) (hd : (x == ("__debug__" : Str)) = false) :
    Does T A noX W (eval (.Name x pos) env) (.ok av W.σ) (VW T) := by
  obtain ⟨v, r, d⟩ := F.rd i x hi av hv
  refine Does.ok (wpAny_Name ?_ hd)
  rcases d with ⟨k, f, m, n, e⟩ | ⟨k, c, e, f, n⟩
  · exact wpAny_loadName_local F.kind k n e ⟨W, rfl, rfl, I, .refl _ _, r⟩
  · exact wpAny_loadName_cell F.kind k e n ⟨W, rfl, rfl, I, .refl _ _, r⟩

theorem does_tok {β : Type} {t : Sem β} {a : AV} {R : Wd → AV → β → Prop} {b : β} (I : Inv T W) (k : Nat) (h : ∀ Q E, Q b { W.s with toks := k } → wpAny T.M A t Q E W.s) (r : R { W with s := { W.s with toks := k } } a b) :
    Does T A noX W t (.ok a W.σ) R := Does.ok (h _ _ ⟨{ W with s := { W.s with toks := k } }, rfl, rfl, (I.toks k).1, (I.toks k).2, r⟩)

theorem does_int (I : Inv T W) {i : Int} {k : Nat} {pos : Pos} : Does T A noX W (eval (.Constant (.int i) k pos) env) (.ok (.int i) W.σ) (VW T) :=
  does_tok I (W.s.toks + 1) (fun _ _ h => wpAny_Constant_int h) (.int _ _)
theorem does_str (I : Inv T W) {s : List Nat} {k : Nat} {pos : Pos} (ok : okS s) : Does T A noX W (eval (.Constant (.str (tS s)) k pos) env) (.ok (.str s) W.σ) (VW T) :=
  does_tok I (W.s.toks + 1) (fun _ _ h => wpAny_Constant_str h) (.str _ ok)
theorem does_bool (I : Inv T W) {b : Bool} {k : Nat} {pos : Pos} : Does T A noX W (eval (.Constant (.bool b) k pos) env) (.ok (.bool b) W.σ) (VW T) :=
  Does.ok (wpAny_Constant_bool ⟨W, rfl, rfl, I, .refl _ _, .bool b⟩)
theorem does_none (I : Inv T W) {k : Nat} {pos : Pos} : Does T A noX W (eval (.Constant .none k pos) env) (.ok .none W.σ) (VW T) :=
  Does.ok (wpAny_Constant_none ⟨W, rfl, rfl, I, .refl _ _, .none⟩)

/-- two in turn, then a third tree -/
theorem does_two {t u : Sem Value} {f : Value → Value → Sem Value} {x : Out AV} {y : Hp → Out AV} {z : AV → AV → Hp → Out AV} {Q : Value → Shared → Prop} {E : Value → Shared → Prop} (hl : Does T A noX W t x (VW T))
    (hr : ∀ a W', Inv T W' → Le noX W W' → x = .ok a W'.σ → Does T A noX W' u (y W'.σ) (VW T))
    (ho : ∀ a b va vb W', Inv T W' → Le noX W W' → (∃ σ, x = .ok a σ ∧ y σ = .ok b W'.σ) → W'.V T a va → W'.V T b vb → Does T A noX W' (f va vb) (z a b W'.σ) (VW T))
    (hQ : ∀ v s, PostE T noX W (x.bind fun a h => (y h).bind fun b h => z a b h) (VW T) v s → Q v s) (hE : ∀ v s, PostX T noX W (x.bind fun a h => (y h).bind fun b h => z a b h) v s → E v s) :
    wpAny T.M A t (fun a s₁ => wpAny T.M A u (fun b s₂ => wpAny T.M A (f a b) Q E s₂) E s₁) E W.s := by
  refine hl.cps (fun a W' va e I' l' ra => ?_) fun _ _ q => hE _ _ q.bind
  refine (hr a W' I' l' e).cps (fun b W'' vb e' I'' l'' rb => ?_) fun _ _ q => hE _ _ (q.bind.up l' (by rw [e]; rfl))
  exact wpAny_mono ((ho a b va vb W'' I'' (l'.trans l'') ⟨_, e, e'⟩ (ra.le l'') rb).up (l'.trans l'') (by rw [e]; show (y W'.σ).bind _ = _; rw [e']; rfl)) hQ hE

theorem does_bin {l r : Expr} {op : Operator} {pos : Pos} {x : Out AV} {y : Hp → Out AV} {z : AV → AV → Hp → Out AV} (hl : Does T A noX W (eval l env) x (VW T))
    (hr : ∀ a W', Inv T W' → Le noX W W' → x = .ok a W'.σ → Does T A noX W' (eval r env) (y W'.σ) (VW T))
    (ho : ∀ a b va vb W', Inv T W' → Le noX W W' → (∃ σ, x = .ok a σ ∧ y σ = .ok b W'.σ) → W'.V T a va → W'.V T b vb → Does T A noX W' (binaryOp op va vb) (z a b W'.σ) (VW T)) :
    Does T A noX W (eval (.BinOp l op r pos) env) (x.bind fun a h => (y h).bind fun b h => z a b h) (VW T) :=
  wpAny_BinOp (does_two hl hr ho (fun _ _ q => q) fun _ _ q => q)
end

end Mine

/-! Soundness, part 4: operators (typed by hand). -/
set_option Elab.async false
namespace Mine
open PySem PySem.SeqAt

theorem lim_eq : lim = sizeLine := by decide +kernel
theorem tS_length (s : List Nat) : (tS s).length = s.length := by simp [tS, Str.length]
theorem tS_append (a b : List Nat) : tS a ++ tS b = tS (a ++ b) := by
  show (⟨a.toArray ++ b.toArray⟩ : Str) = ⟨(a ++ b).toArray⟩
  simp
theorem okS.append {a b : List Nat} (ha : okS a) (hb : okS b) (h : a.length + b.length ≤ lim) : okS (a ++ b) :=
  ⟨fun c hc => (List.mem_append.mp hc).elim (ha.1 c) (hb.1 c), by simpa using h⟩
theorem okS.sub {a b : List Nat} (ha : okS a) (h : ∀ c ∈ b, c ∈ a) (hl : b.length ≤ a.length) : okS b := ⟨fun c hc => ha.1 c (h c hc), Nat.le_trans hl ha.2⟩

section
variable {T : Tp} {A : Around} {W : Wd}

theorem Does.keep {t : Sem Value} {a : AV} (I : Inv T W) (h : ∀ Q E, (∀ v k, W.V T a v → Q v { W.s with toks := k }) → wpAny T.M A t Q E W.s) : Does T A noX W t (.ok a W.σ) (VW T) :=
  Does.ok (h _ _ fun v k r => ⟨{ W with s := { W.s with toks := k } }, rfl, rfl, (I.toks k).1, (I.toks k).2, r.le (I.toks k).2⟩)

/-- a tree that makes a new list -/
theorem does_newList {t : Sem Value} {xs : List AV} {vs : List Value} (I : Inv T W) (r : W.Vs T xs vs)
    (h : xs.length ≤ lim → ∀ Q E, (∀ k, Q (.ref W.h.objs.size) { W.s with heap := W.h.push { cls := .type "list", data := .seq vs.toArray }, toks := k }) → wpAny T.M A t Q E W.s)
    (hn : newList xs W.σ ≠ .fail) : Does T A noX W t (newList xs W.σ) (VW T) := by
  unfold newList at hn ⊢
  split at hn
  · rename_i hl
    rw [if_pos hl]
    refine wpAny_mono (h hl (PostE T noX W _ (VW T)) (fun _ _ => False) fun k => ?_) (fun _ _ q => q) fun _ _ q => q.elim
    have := I.push (s' := { W.s with heap := W.h.push { cls := .type "list", data := .seq vs.toArray }, toks := k }) (o := .list xs) (Heap.get?_push_size _ rfl) (fun a q e => Heap.get?_push_of_some _ e) rfl rfl
      fun x => ⟨vs.toArray, 0, Heap.get?_push_size _ rfl, by simpa using r.ext x .no, hl⟩
    exact ⟨_, _, rfl, rfl, this.1, this.2.1, this.2.2⟩
  · exact absurd rfl hn

noncomputable def opM : BOp → Operator
  | .add => .Add
  | .sub => .Sub
  | .mul => .Mult
  | .mod => .Mod
  | .div => .FloorDiv
noncomputable def opOk (op : BOp) (op' : Operator) : Bool := decide (op' = opM op)

theorem rep_eq (n : Nat) (s : List Nat) : ∀ acc : Array Nat, (List.replicate n s.toArray).foldl (· ++ ·) acc = acc ++ (rep n s).toArray := by
  induction n with
  | zero => intro acc; simp [rep]
  | succ n ih => intro acc; rw [List.replicate_succ, List.foldl_cons, ih]; simp [rep]
theorem rep_length (n : Nat) (s : List Nat) : (rep n s).length = s.length * n := by
  induction n with
  | zero => rfl
  | succ n ih => simp [rep, ih, Nat.mul_succ]; omega
theorem mem_rep {n : Nat} {s : List Nat} {c : Nat} (h : c ∈ rep n s) : c ∈ s := by
  induction n with
  | zero => simp [rep] at h
  | succ n ih => simp only [rep, List.mem_append] at h; exact h.elim id ih
theorem mul_eq (s : List Nat) (n : Int) : Txt.mul (tS s) n = tS (rep n.toNat s) := by
  unfold Txt.mul
  split
  · rename_i h
    rw [show n.toNat = 0 by omega]; rfl
  · split
    · rename_i h1 h2
      simp only [Bool.or_eq_true, beq_iff_eq] at h2
      rcases h2 with rfl | h2
      · simp [rep]
      · rw [tS_length] at h2
        have : s = [] := List.length_eq_zero_iff.mp h2
        subst this
        have : ∀ n, rep n [] = [] := fun n => by induction n with | zero => rfl | succ n ih => simp [rep, ih]
        rw [this]
    · show (⟨(List.replicate n.toNat s.toArray).foldl (· ++ ·) #[]⟩ : Str) = _
      rw [rep_eq]; simp [tS]

theorem log2_small {n : Nat} (h : n < 2 ^ 64) : n.log2 < 9000 := by
  by_cases e : n = 0
  · subst e; decide
  · exact Nat.lt_trans ((Nat.log2_lt e).mpr h) (by decide)
theorem bits_small {x : Int} (h : x.natAbs < 18446744073709551616) : Builtin.Int.intBits x ≤ 64 := by
  unfold Builtin.Int.intBits
  split
  · decide
  · rename_i q
    have : x.natAbs ≠ 0 := by simpa using q
    exact (Nat.log2_lt this).mpr h
theorem mulOk {s : List Nat} {n : Int} (h1 : -(lim : Int) ≤ n) (h2 : n ≤ lim) (h3 : s.length * n.toNat ≤ lim) : MulOk (tS s) n := by
  have hl : (lim : Int) = 16777216 := rfl
  refine ⟨?_, fun h _ q => ?_, fun _ _ => ?_⟩
  · simp only [Bool.or_eq_false_iff, decide_eq_false_iff_not]; omega
  · rw [tS_length] at q
    have h4 : (s.length : Int) * n ≤ 2 ^ 63 - 1 := by
      have : ((s.length * n.toNat : Nat) : Int) ≤ (lim : Int) := by exact_mod_cast h3
      rw [Int.natCast_mul, Int.toNat_of_nonneg (by omega)] at this
      omega
    have h5 := (Int.le_ediv_iff_mul_le (a := s.length) (b := 2 ^ 63 - 1) (c := n) (by omega)).mpr h4
    omega
  · unfold Builtin.Str.tooLong
    rw [tS_length, ← lim_eq]
    simp only [gt_iff_lt, decide_eq_false_iff_not]; omega

theorem arith_ok {f : Int → Int → Out AV} {a b : AV} (h : arithA f a b ≠ .fail) : ∃ x y, a = .int x ∧ b = .int y := by
  cases a with
  | int x =>
    cases b with
    | int y => exact ⟨x, y, rfl, rfl⟩
    | _ => exact absurd rfl h
  | _ => exact absurd rfl h

theorem does_addA (I : Inv T W) {a b : AV} {va vb : Value} (ra : W.V T a va) (rb : W.V T b vb) (hn : addA a b W.σ ≠ .fail) : Does T A noX W (binaryOp .Add va vb) (addA a b W.σ) (VW T) := by
  cases ra with
  | int x t =>
    cases rb with
    | int y u => exact Does.keep I fun _ _ h => P.add_int (h _ _ (.int _ _))
    | _ => exact absurd rfl hn
  | str t ox =>
    cases rb with
    | str u oy =>
      rename_i x y
      by_cases hl : x.length + y.length ≤ lim
      · show Does T A noX W _ (if x.length + y.length ≤ lim then _ else _) _
        rw [if_pos hl]
        refine Does.keep I fun _ _ h => SB.add (fun t' k => h _ _ ?_) (by rw [tS_length, tS_length, ← lim_eq]; exact hl)
        rw [tS_append]; exact .str _ (ox.append oy hl)
      · exact absurd (if_neg hl) hn
    | _ => exact absurd rfl hn
  | ref hx =>
    cases rb with
    | ref hy =>
      rename_i x _ y _
      have e0 : addA (.ref x) (.ref y) W.σ = match lst W.σ[x]? with | some xs => (match lst W.σ[y]? with | some ys => newList (xs ++ ys) W.σ | none => .fail) | none => .fail := rfl
      rw [e0] at hn ⊢
      cases e1 : lst W.σ[x]? with
      | none => rw [e1] at hn; exact absurd rfl hn
      | some o1 =>
        cases e2 : lst W.σ[y]? with
        | none => rw [e1, e2] at hn; exact absurd rfl hn
        | some o2 =>
          rw [e1, e2] at hn
          obtain ⟨_, vs, n, ea, _, h1, h2, _⟩ := I.listAt (lst_ok e1) (.ref hx)
          obtain ⟨_, ws, m, eb, _, k1, k2, _⟩ := I.listAt (lst_ok e2) (.ref hy)
          cases ea; cases eb
          refine does_newList I (h2.append k2) (fun hl Q E h => ?_) hn
          have hz : vs.size + ws.size ≤ sizeLine := by
            have e3 := h2.length; have e4 := k2.length
            rw [Array.length_toList] at e3 e4
            rw [← lim_eq, e3, e4, ← List.length_append]; exact hl
          refine P.add_list h1 k1 ?_ hz
          have := h W.s.toks
          rw [show (vs.toList ++ ws.toList).toArray = vs ++ ws from by rw [← Array.toList_append, Array.toArray_toList]] at this
          exact this
    | _ => exact absurd rfl hn
  | _ => exact absurd rfl hn

theorem does_binA (I : Inv T W) {op : BOp} {op' : Operator} {a b : AV} {va vb : Value} (ho : opOk op op' = true) (ra : W.V T a va) (rb : W.V T b vb) (hn : binA op a b W.σ ≠ .fail) :
    Does T A noX W (binaryOp op' va vb) (binA op a b W.σ) (VW T) := by
  have ho := of_decide_eq_true ho
  subst ho
  cases op with
  | add => exact does_addA I ra rb hn
  | sub =>
    obtain ⟨x, y, rfl, rfl⟩ := arith_ok hn
    cases ra; cases rb
    exact Does.keep I fun _ _ h => P.sub_int (h _ _ (.int _ _))
  | mul =>
    have key : ∀ x y : Int, a = .int x → b = .int y → Does T A noX W (binaryOp .Mult va vb) (binA .mul a b W.σ) (VW T) := fun x y ea eb => by
      subst ea; subst eb
      cases ra; cases rb
      by_cases hl : (small x || small y) = true
      · show Does T A noX W _ (if (small x || small y) = true then _ else _) _
        rw [if_pos hl]
        refine Does.keep I fun _ _ h => P.mul_int (h _ _ (.int _ _)) ?_
        simp only [small, Bool.or_eq_true, decide_eq_true_eq] at hl
        exact hl.elim (fun q => .of_left (bits_small q)) fun q => .of_right (bits_small q)
      · exact absurd (if_neg hl) hn
    cases ra with
    | str t ox =>
      cases rb with
      | int y u =>
        rename_i x
        by_cases hl : -lim ≤ y ∧ y ≤ lim ∧ x.length * y.toNat ≤ lim
        · show Does T A noX W _ (if -lim ≤ y ∧ y ≤ lim ∧ x.length * y.toNat ≤ lim then _ else _) _
          rw [if_pos hl]
          refine Does.keep I fun _ _ h => SB.mul (mulOk hl.1 hl.2.1 hl.2.2) fun t' k => h _ _ ?_
          rw [mul_eq]
          exact .str _ ⟨fun c hc => ox.1 c (mem_rep hc), by rw [rep_length]; exact hl.2.2⟩
        · exact absurd (if_neg hl) hn
      | _ => exact absurd rfl hn
    | int x t => obtain ⟨_, y, e, rfl⟩ := arith_ok (f := fun x y => if small x || small y then .ok (.int (x * y)) W.σ else .fail) (a := .int x) (b := b) hn; exact key _ _ e rfl
    | _ => exact absurd rfl hn
  | mod =>
    obtain ⟨x, y, rfl, rfl⟩ := arith_ok hn
    cases ra; cases rb
    by_cases hl : 0 < y
    · show Does T A noX W _ (if 0 < y then _ else _) _
      rw [if_pos hl]
      refine Does.keep I fun _ _ h => PyProof.Rows.mod_int (by omega) ?_
      rw [Int.fmod_eq_emod_of_nonneg _ (by omega)]
      exact h _ _ (.int _ _)
    · exact absurd (if_neg hl) hn
  | div =>
    obtain ⟨x, y, rfl, rfl⟩ := arith_ok hn
    cases ra; cases rb
    by_cases hl : 0 < y ∧ y < 18446744073709551616
    · show Does T A noX W _ (if 0 < y ∧ y < 18446744073709551616 then _ else _) _
      rw [if_pos hl]
      refine Does.keep I fun _ _ h => PyProof.Rows.floordiv_int (by omega) ?_ (.inl (PyProof.noPylong_of_log2 ?_))
      · rw [Int.fdiv_eq_ediv_of_nonneg _ (by omega)]
        exact h _ _ (.int _ _)
      · have : y.natAbs < 2 ^ 64 := by omega
        exact log2_small this
    · exact absurd (if_neg hl) hn
end
end Mine

/-! Soundness: dicts (typed by hand). -/
set_option Elab.async false
namespace Mine
open PySem PySem.SeqAt

/-! ### things that nobody knows are taken into the abstract heap -/
noncomputable abbrev Wd.take (W : Wd) (D D2 : Addr) (o : AO) : Wd := { own := fun a => if a = D ∨ a = D2 then .loc W.σ.length else W.own a, bt := W.bt ++ [D], σ := W.σ ++ [o], s := W.s }

theorem Inv.take {T : Tp} {W : Wd} (I : Inv T W) {D D2 : Addr} {o : AO} (hD : W.own D = .free) (hD2 : W.own D2 = .free) (hb : T.base.get? D = none) (hb2 : T.base.get? D2 = none) (ho : ∃ q, W.h.get? D = some q) (ho2 : ∃ q, W.h.get? D2 = some q) (hi : cStatics < D)
    (fx : FrX (fun b => b = D ∨ b = D2) W.own W.h) (hr : Ext (fun b => b = D ∨ b = D2) W.own W.bt W.h (W.take D D2 o).own (W.take D D2 o).bt W.h → OR T (W.take D D2 o).own (W.take D D2 o).bt W.h W.σ.length D o) :
    Inv T (W.take D D2 o) ∧ Le (fun b => b = D ∨ b = D2) W (W.take D D2 o) ∧ (W.take D D2 o).V T (.ref W.σ.length) (.ref D) := by
  have x : Ext (fun b => b = D ∨ b = D2) W.own W.bt W.h (W.take D D2 o).own (W.take D D2 o).bt W.h := ⟨fun a o e _ _ => ⟨o, e, .refl o⟩, fun a o e _ => ⟨o, e, rfl⟩,
    fun a o e f => (if_neg (fun q => by rcases q with q | q <;> rw [q] at f; exact absurd (hD.symm.trans f) Ow.noConfusion; exact absurd (hD2.symm.trans f) Ow.noConfusion)).trans f, fun a o e _ _ => ⟨o, e⟩, fun a o e q _ => if_neg q, [D], rfl⟩
  have hbt : ∀ (l : Nat) (a : Addr), W.bt[l]? = some a → ¬ (a = D ∨ a = D2) := fun l a e q => by
    have := I.ownb l a e
    rcases q with q | q <;> rw [q] at this
    · rw [hD] at this; cases this
    · rw [hD2] at this; cases this
  refine ⟨⟨by simp [I.len], fun l a e => ?_, fun a q => ?_, fun l o' a e q => ?_, I.base, I.st, fun l a e => ?_⟩, ⟨x, rfl, rfl⟩, .ref (by simp [← I.len])⟩
  · rw [List.getElem?_append] at e
    split at e
    · exact (if_neg (hbt l a e)).trans (I.ownb l a e)
    · rename_i hl
      have : l = W.bt.length := by
        rcases Nat.lt_or_ge l (W.bt.length + 1) with z | z
        · omega
        · rw [List.getElem?_eq_none (by simp; omega)] at e; cases e
      subst this
      simp at e
      show (if a = D ∨ a = D2 then Ow.loc W.σ.length else W.own a) = _
      rw [if_pos (Or.inl e.symm), I.len]
  · by_cases e : a = D ∨ a = D2
    · rcases e with rfl | rfl
      · exact ⟨ho, hb⟩
      · exact ⟨ho2, hb2⟩
    · have q' : (if a = D ∨ a = D2 then Ow.loc W.σ.length else W.own a) ≠ .free := q
      rw [if_neg e] at q'
      exact I.lt a q'
  · rw [List.getElem?_append] at e q
    split at e
    · rename_i hl
      rw [if_pos (by rw [I.len]; exact hl)] at q
      exact (I.obj l o' a e q).mono x fx (I.ownb l a q) fun b q' _ e' => e'
    · rename_i hl
      rw [if_neg (by rw [I.len]; exact hl)] at q
      have : l = W.σ.length := by
        rcases Nat.lt_or_ge l (W.σ.length + 1) with z | z
        · omega
        · rw [List.getElem?_eq_none (by simp; omega)] at e; cases e
      subst this
      rw [I.len] at q
      simp at e q
      rw [← e, ← q]
      exact hr x
  · rw [List.getElem?_append] at e
    split at e
    · exact I.hi l a e
    · rw [List.mem_singleton.mp (List.mem_of_getElem? e)]; exact hi

/-- what was made on the way is forgotten -/
theorem Le.lose {X Y : Addr → Prop} {W₀ W₁ W₂ : Wd} (l : Le X W₀ W₁) (l' : Le Y W₁ W₂) (h : ∀ b o, W₀.h.get? b = some o → W₀.own b ≠ .tb → ¬ X b → ¬ Y b) : Le X W₀ W₂ := by
  refine ⟨⟨fun b o e f nx => ?_, fun b o e f => ?_, fun b o e f => ?_, fun b o e nx q => ?_, fun b o e nx q => ?_, ?_⟩, l'.gens.trans l.gens, l'.os.trans l.os⟩
  · obtain ⟨o', e', k⟩ := l.ext.kp b o e f nx
    obtain ⟨o'', e'', k'⟩ := l'.ext.kp b o' e' ((l.ext.ow b o e nx (by rw [f]; exact Ow.noConfusion)).trans f) (h b o e (by rw [f]; exact Ow.noConfusion) nx)
    exact ⟨o'', e'', k.trans k'⟩
  · obtain ⟨o', e', k⟩ := l.ext.ke b o e f
    obtain ⟨o'', e'', k'⟩ := l'.ext.ke b o' e' (l.ext.oe b o e f)
    exact ⟨o'', e'', k'.trans k⟩
  · obtain ⟨o', e', k⟩ := l.ext.ke b o e f
    exact l'.ext.oe b o' e' (l.ext.oe b o e f)
  · obtain ⟨o', e'⟩ := l.ext.df b o e nx q
    exact l'.ext.df b o' e' (h b o e q nx) (by rw [l.ext.ow b o e nx q]; exact q)
  · obtain ⟨o', e'⟩ := l.ext.df b o e nx q
    exact (l'.ext.ow b o' e' (h b o e q nx) (by rw [l.ext.ow b o e nx q]; exact q)).trans (l.ext.ow b o e nx q)
  · obtain ⟨r, e⟩ := l.ext.bt
    obtain ⟨r', e'⟩ := l'.ext.bt
    exact ⟨r ++ r', by rw [e', e, List.append_assoc]⟩

section
variable {T : Tp} {A : Around} {W : Wd}
theorem own_new (I : Inv T W) {a : Addr} (h : W.h.get? a = none) : W.own a = .free := by
  cases q : W.own a with
  | free => rfl
  | _ => obtain ⟨o, e⟩ := (I.lt a (by rw [q]; exact Ow.noConfusion)).1; rw [h] at e; cases e
theorem get_size (h : Heap) : h.get? h.objs.size = none := by
  cases q : h.get? h.objs.size with
  | none => rfl
  | some o => exact absurd (Heap.lt_size q) (Nat.lt_irrefl _)
theorem base_new (I : Inv T W) {a : Addr} (h : W.h.get? a = none) : T.base.get? a = none := by
  cases q : T.base.get? a with
  | none => rfl
  | some o => rw [I.base _ _ q] at h; cases h
theorem Inv.high (I : Inv T W) : cStatics < W.h.objs.size := let ⟨_, ho⟩ := I.st; Heap.lt_size (I.base _ _ ho)

/-- a new list, at any new address -/
theorem Does.newAt {t : Sem Value} {xs : List AV} (I : Inv T W) (hl : xs.length ≤ lim)
    (h : ∀ Q E, (∀ D h' k arr c, W.h.get? D = none → cStatics < D → (∀ c o, W.h.get? c = some o → h'.get? c = some o) → h'.get? D = some { cls := .type "list", data := .seq arr c } → VRs T W.own W.bt h' xs arr.toList → Q (.ref D) { W.s with heap := h', toks := k }) → wpAny T.M A t Q E W.s) :
    Does T A noX W t (newList xs W.σ) (VW T) := by
  unfold newList
  rw [if_pos hl]
  refine h _ _ fun D h' k arr c hD hi hk ho r => ?_
  obtain ⟨I1, l1⟩ := I.grow (s' := { W.s with heap := h', toks := k }) hk rfl rfl
  have fx : FrX (fun b => b = D ∨ b = D) W.own h' := fun a q => ⟨by have q : a = D := q.elim id id; rw [q]; exact own_new I hD, fun o e => by
    have q : a = D := q.elim id id
    subst q
    rw [ho] at e; cases e
    exact .inr (.inr ⟨by simp, by simp⟩)⟩
  obtain ⟨I2, l2, v2⟩ := I1.take (o := .list xs) (own_new I hD) (own_new I hD) (base_new I hD) (base_new I hD) ⟨_, ho⟩ ⟨_, ho⟩ hi fx fun x => ⟨arr, c, ho, r.ext x fx, hl⟩
  refine ⟨.ref W.σ.length, _, rfl, rfl, I2, l1.lose l2 (fun b o e _ _ q => ?_), v2⟩
  have q : b = D := q.elim id id
  rw [q, hD] at e; cases e
end

/-! ### keys -/
theorem tS_inj {a b : List Nat} (h : tS a = tS b) : a = b := by
  have := congrArg (fun s : Str => s.cps.toList) h
  exact this
theorem keyOk_cases {k : AV} (h : keyOk k) : (∃ i, k = .int i) ∨ ∃ s, k = .str s ∧ okS s := by
  cases k with
  | int i => exact .inl ⟨i, rfl⟩
  | str s => exact .inr ⟨s, rfl, h⟩
  | _ => cases h

section
variable {T : Tp} {own : Addr → Ow} {bt : List Addr} {h : Heap}
theorem key_of {k : AV} {v : Value} (r : VR T own bt h k v) (hk : isKey k = true) : kIs (kOf k) v = true ∧ keyOk k := by
  cases r with
  | int i t => exact ⟨by simp [kOf, kIs, Value.isInt], trivial⟩
  | str t ok => exact ⟨by simp [kOf, kIs, Value.isStrOf], ok⟩
  | _ => cases hk
theorem vr_key {k : AV} {v : Value} (ok : keyOk k) (q : kIs (kOf k) v = true) : VR T own bt h k v := by
  rcases keyOk_cases ok with ⟨i, rfl⟩ | ⟨s, rfl, ok⟩
  · rcases kIs_shape q with ⟨x, t, e, rfl⟩ | ⟨i, t, e, rfl⟩
    · cases e
    · cases e; exact .int _ _
  · rcases kIs_shape q with ⟨x, t, e, rfl⟩ | ⟨i, t, e, rfl⟩
    · cases e; exact .str _ ok
    · cases e
theorem keq_kOf {a b : AV} (ha : keyOk a) (hb : keyOk b) : (keq a b = true) ↔ kOf a = kOf b := by
  rcases keyOk_cases ha with ⟨i, rfl⟩ | ⟨s, rfl, _⟩ <;> rcases keyOk_cases hb with ⟨j, rfl⟩ | ⟨t, rfl, _⟩
  · show (i == j) = true ↔ (Sum.inr i : Str ⊕ Int) = .inr j
    rw [beq_iff_eq]
    exact ⟨fun e => by rw [e], fun e => Sum.inr.inj e⟩
  · exact ⟨fun e => (nomatch e), fun e => (nomatch e)⟩
  · exact ⟨fun e => (nomatch e), fun e => (nomatch e)⟩
  · show (s == t) = true ↔ (Sum.inl (tS s) : Str ⊕ Int) = .inl (tS t)
    rw [beq_iff_eq]
    exact ⟨fun e => by rw [e], fun e => tS_inj (Sum.inl.inj e)⟩

theorem KV.length {es : List (AV × AV)} {kvs : List ((Str ⊕ Int) × Value)} (r : KV T own bt h es kvs) : kvs.length = es.length := by
  induction r with
  | nil => rfl
  | cons _ _ _ ih => rw [List.length_cons, List.length_cons, ih]
theorem KV.keys {es : List (AV × AV)} {kvs : List ((Str ⊕ Int) × Value)} (r : KV T own bt h es kvs) : ∀ p ∈ es, keyOk p.1 := by
  induction r with
  | nil => intro p hp; cases hp
  | cons ok _ _ ih =>
    intro p hp
    rcases List.mem_cons.mp hp with rfl | hp
    · exact ok
    · exact ih p hp
theorem KV.mem {es : List (AV × AV)} {kvs : List ((Str ⊕ Int) × Value)} (r : KV T own bt h es kvs) : ∀ x, x ∈ kvs.map (·.1) → ∃ p ∈ es, kOf p.1 = x := by
  induction r with
  | nil => intro x q; cases q
  | cons _ _ _ ih =>
    intro x q
    rcases List.mem_cons.mp q with rfl | q
    · exact ⟨_, List.mem_cons_self .., rfl⟩
    · obtain ⟨p, hp, e⟩ := ih x q; exact ⟨p, List.mem_cons_of_mem _ hp, e⟩
theorem KV.nodup {es : List (AV × AV)} {kvs : List ((Str ⊕ Int) × Value)} (r : KV T own bt h es kvs) : distinct es = true → (kvs.map (·.1)).Nodup := by
  induction r with
  | nil => exact fun _ => List.nodup_nil
  | cons ok _ r ih =>
    intro hd
    have hd := Bool.and_eq_true_iff.mp hd
    rw [List.map_cons, List.nodup_cons]
    refine ⟨fun q => ?_, ih hd.2⟩
    obtain ⟨p, hp, e⟩ := r.mem _ q
    have := List.all_eq_true.mp (Bool.and_eq_true_iff.mp hd.1).2 p hp
    rw [(keq_kOf ok (r.keys p hp)).mpr e.symm] at this
    cases this
theorem dget_cons (p : AV × AV) (r : List (AV × AV)) (k : AV) : dget (p :: r) k = if keq p.1 k then some p.2 else dget r k := rfl
theorem dput_cons (p : AV × AV) (r : List (AV × AV)) (k v : AV) : dput (p :: r) k v = if keq p.1 k then (p.1, v) :: r else p :: dput r k v := rfl
theorem ddel_cons (p : AV × AV) (r : List (AV × AV)) (k : AV) : ddel (p :: r) k = if keq p.1 k then r else p :: ddel r k := rfl
theorem KV.get {k : AV} (ok : keyOk k) {es : List (AV × AV)} {kvs : List ((Str ⊕ Int) × Value)} (r : KV T own bt h es kvs) : (∀ av, dget es k = some av → ∃ v, valueAt kvs (kOf k) = some v ∧ VR T own bt h av v) ∧ (dget es k = none → valueAt kvs (kOf k) = none) := by
  induction r with
  | nil => exact ⟨fun _ e => (nomatch e), fun _ => rfl⟩
  | cons ok' r q ih =>
    rename_i p w es kvs
    rw [dget_cons]
    by_cases e : kOf p.1 = kOf k
    · rw [if_pos ((keq_kOf ok' ok).mpr e)]
      refine ⟨fun av z => ?_, fun z => (nomatch z)⟩
      cases z
      exact ⟨w, by simp [valueAt, e], r⟩
    · rw [if_neg (fun z => e ((keq_kOf ok' ok).mp z))]
      refine ⟨fun av z => ?_, fun z => ?_⟩
      · obtain ⟨v', h1, h2⟩ := ih.1 av z
        exact ⟨v', by simpa [valueAt, e] using h1, h2⟩
      · simpa [valueAt, e] using ih.2 z
theorem KV.isSome {k : AV} (ok : keyOk k) {es : List (AV × AV)} {kvs : List ((Str ⊕ Int) × Value)} (r : KV T own bt h es kvs) : (valueAt kvs (kOf k)).isSome = (dget es k).isSome := by
  cases z : dget es k with
  | none => rw [(r.get ok).2 z]; rfl
  | some av => obtain ⟨v, e1, _⟩ := (r.get ok).1 av z; rw [e1]; rfl
theorem KV.put {k v : AV} {w : Value} (ok : keyOk k) (rv : VR T own bt h v w) {es : List (AV × AV)} {kvs : List ((Str ⊕ Int) × Value)} (r : KV T own bt h es kvs) : (kvs.map (·.1)).Nodup → KV T own bt h (dput es k v) (stored kvs (kOf k) w) := by
  induction r with
  | nil => intro _; exact KV.cons (p := (k, v)) ok rv .nil
  | cons ok' r q ih =>
    intro hn
    rename_i p w' es kvs
    rw [List.map_cons, List.nodup_cons] at hn
    rw [dput_cons]
    by_cases e : kOf p.1 = kOf k
    · rw [if_pos ((keq_kOf ok' ok).mpr e)]
      have h1 : stored ((kOf p.1, w') :: kvs) (kOf k) w = (kOf p.1, w) :: kvs := by
        simp only [stored, List.any_cons, e, decide_true, Bool.true_or, if_true, List.map_cons]
        rw [map_store_of_not_mem kvs (kOf k) w (e ▸ hn.1)]
      rw [h1]
      exact .cons (p := (p.1, v)) ok' rv q
    · rw [if_neg (fun z => e ((keq_kOf ok' ok).mp z))]
      have h1 : stored ((kOf p.1, w') :: kvs) (kOf k) w = (kOf p.1, w') :: stored kvs (kOf k) w := by
        unfold stored
        by_cases z : (kvs.any fun kv => decide (kv.1 = kOf k)) = true
        · simp [z, e]
        · simp [z, e]
      rw [h1]
      exact .cons ok' r (ih hn.2)
theorem KV.del {k : AV} (ok : keyOk k) {es : List (AV × AV)} {kvs : List ((Str ⊕ Int) × Value)} (r : KV T own bt h es kvs) : (kvs.map (·.1)).Nodup → KV T own bt h (ddel es k) (without kvs (kOf k)) := by
  induction r with
  | nil => intro _; exact KV.nil
  | cons ok' r q ih =>
    intro hn
    rename_i p w' es kvs
    rw [List.map_cons, List.nodup_cons] at hn
    rw [ddel_cons]
    by_cases e : kOf p.1 = kOf k
    · rw [if_pos ((keq_kOf ok' ok).mpr e)]
      have h1 : without ((kOf p.1, w') :: kvs) (kOf k) = kvs := by
        have := without_of_not_mem kvs (kOf k) (e ▸ hn.1)
        simp only [without] at this ⊢
        rw [List.filter_cons_of_neg (by simp [e]), this]
      rw [h1]
      exact q
    · rw [if_neg (fun z => e ((keq_kOf ok' ok).mp z))]
      have h1 : without ((kOf p.1, w') :: kvs) (kOf k) = (kOf p.1, w') :: without kvs (kOf k) := by
        unfold without
        rw [List.filter_cons_of_pos (by simp [e])]
      rw [h1]
      exact .cons ok' r (ih hn.2)
theorem dput_length (k v : AV) (es : List (AV × AV)) : (dput es k v).length ≤ es.length + 1 := by
  induction es with
  | nil => exact Nat.le_refl _
  | cons p r ih => rw [dput_cons]; split <;> simp only [List.length_cons] at * <;> omega
theorem ddel_length (k : AV) (es : List (AV × AV)) : (ddel es k).length ≤ es.length := by
  induction es with
  | nil => exact Nat.le_refl _
  | cons p r ih => rw [ddel_cons]; split <;> simp only [List.length_cons] at * <;> omega
end

/-! ### writing -/
section
variable {prog : Program} {w : World} {K : Type} [DecidableEq K] {knd : KeyKind prog w K} {A : Around} {E : Value → Shared → Prop} {s : Shared}
theorem idx_toList {es : Array DictEntry} (p : DictEntry → Bool) : es.findIdx? p = es.toList.findIdx? p := by obtain ⟨l⟩ := es; simp
theorem valueAt_none {kvs : List (K × Value)} {k : K} (h : (kvs.findIdx? fun kv => decide (kv.1 = k)) = none) : valueAt kvs k = none := by
  unfold valueAt
  rw [List.findIdx?_eq_none_iff] at h
  rw [List.find?_eq_none.mpr fun x hx => by simpa using h x hx]
  rfl
theorem valueAt_some {kvs : List (K × Value)} {k : K} {i : Nat} (h : (kvs.findIdx? fun kv => decide (kv.1 = k)) = some i) : (valueAt kvs k).isSome = true := by
  unfold valueAt
  have := any_of_findIdx_some h
  rw [Option.isSome_map, List.find?_isSome]
  obtain ⟨x, hx, q⟩ := List.any_eq_true.mp this
  exact ⟨x, hx, q⟩

/-- a dict is written, and its epoch told -/
theorem set_at {d : Addr} {kvs : List (K × Value)} {ep : Nat} {k : K} {key v : Value} {Q : Unit → Shared → Prop} (hkey : knd.is k key = true) (hm : s.heap.DictAt knd d kvs ep) (hsz : kvs.length ≤ sizeLine)
    (hQ : ∀ h', h'.DictAt knd d (stored kvs k v) (if (valueAt kvs k).isSome then ep else ep + 1) → Heap.SameBut d s.heap h' → Q () { s with heap := h', toks := s.toks + 1 }) :
    wpAny (model prog w) A (dictSet d key v) Q E s := by
  obtain ⟨o, es, ho, hx, hd, hk, hp, hn⟩ := hm
  have hes : es.size ≤ sizeLine := by rw [← Array.length_toList, hp.length]; exact hsz
  have hidx := hp.findIdx k
  rw [← idx_toList] at hidx
  unfold dictSet
  with_reducible refine wpAny_holding ?_
  refine wpAny_bind (knd.pyHash hkey ?_)
  unfold dictSetHashed
  with_reducible refine wpAny_holding ?_
  refine wpAny_bind (wpAny_dictFind_of (s := { s with toks := s.toks + 1 }) hkey ho hd hk ?_)
  cases hi : es.findIdx? fun e => knd.is k e.key with
  | none =>
    rw [hi] at hidx
    rw [valueAt_none hidx.symm] at hQ
    have hnot := not_mem_of_findIdx_none hidx.symm
    have hst : stored kvs k v = kvs ++ [(k, v)] := by
      unfold stored
      rw [if_neg]
      rw [List.any_eq_true]
      rintro ⟨kv, h1, h2⟩
      exact hnot (List.mem_map.mpr ⟨kv, h1, of_decide_eq_true h2⟩)
    refine wpAny_bind (wpAny_rule (wpAny_updateDictKeys (hz := hes) (s := { s with toks := s.toks + 1 }) ho hd (hQ _ ⟨_, es.push ⟨knd.hash k, key, v⟩, Heap.get?_update_self _ ho (Obj.isFreed_of_dict (Obj.data_mapDictKeys hd _)), hx.mapDictKeys _, Obj.data_mapDictKeys hd _, hk.push hkey v, ?_, ?_⟩ (Heap.SameBut.update ..))))
    · rw [hst, Array.toList_push]; exact hp.append hkey _ v
    · rw [hst, List.map_append, List.nodup_append]
      refine ⟨hn, by simp, fun a ha b hb => ?_⟩
      simp only [List.map_cons, List.map_nil, List.mem_singleton] at hb
      exact fun z => hnot (by rw [← hb, ← z]; exact ha)
  | some i =>
    rw [hi] at hidx
    rw [valueAt_some hidx.symm] at hQ
    have hst : stored kvs k v = kvs.map fun kv => if kv.1 = k then (kv.1, v) else kv := by
      unfold stored
      rw [if_pos (any_of_findIdx_some hidx.symm)]
    refine wpAny_bind (wpAny_rule (wpAny_bind (wpAny_updateDict (s := { s with toks := s.toks + 1 }) ho hd (wpAny_point (hQ _ ⟨_, es.modify i fun e => { e with val := v }, Heap.get?_update_self _ ho (Obj.isFreed_of_dict (Obj.data_mapDict hd _)), hx.mapDict _, Obj.data_mapDict hd _, hk.modify _ _, ?_, ?_⟩ (Heap.SameBut.update ..))))))
    · rw [hst]
      have := hp.modify hn ((idx_toList _).symm.trans hi) v
      obtain ⟨l⟩ := es
      simpa using this
    · rw [hst, keys_map_store]; exact hn

theorem setItem_at {d : Addr} {kvs : List (K × Value)} {ep : Nat} {k : K} {key v : Value} {Q : Unit → Shared → Prop} (hkey : knd.is k key = true) (hm : s.heap.DictAt knd d kvs ep) (hsz : kvs.length ≤ sizeLine)
    (hQ : ∀ h', h'.DictAt knd d (stored kvs k v) (if (valueAt kvs k).isSome then ep else ep + 1) → Heap.SameBut d s.heap h' → Q () { s with heap := h', toks := s.toks + 1 }) :
    wpAny (model prog w) A (setItem (.ref d) key v) Q E s := by
  have hT := hm.dictOf.typeIs (s := s)
  unfold setItem
  with_reducible refine wpAny_holding ?_
  refine wpAny_bind (wpAny_sequenceKey hT (by decide) ?_)
  refine wpAny_bind (wpAny_callSpecial?_slot (name := Str.ofString "__setitem__") hT slot_dict_setitem (wpAny_call_entry slot_dict_setitem hT entry_dict_setitem ?_ (args_dict_setitem _ _ _)))
  show wpAny _ _ (Builtin.Dict.notOrdered "__setitem__" ⟨[.ref d, key, v], []⟩ >>= _) _ _ s
  refine wpAny_bind (wpAny_notOrdered_dict hT ?_)
  show wpAny _ _ (dictSet d key v >>= _) _ _ s
  exact wpAny_bind (set_at hkey hm hsz fun h' q z => wpAny_pure ⟨.none, rfl, wpAny_pure (hQ h' q z)⟩)

/-- a key is taken out -/
theorem take_at {d : Addr} {kvs : List (K × Value)} {ep : Nat} {k : K} {key v : Value} {Q : Option DictEntry → Shared → Prop} (hkey : knd.is k key = true) (hm : s.heap.DictAt knd d kvs ep) (hsz : kvs.length ≤ sizeLine) (hv : valueAt kvs k = some v)
    (hQ : ∀ e h', e.val = v → h'.DictAt knd d (without kvs k) (ep + 1) → Heap.SameBut d s.heap h' → Q (some e) { s with heap := h', toks := s.toks + 1 }) :
    wpAny (model prog w) A (Builtin.Dict.takeOut d key) Q E s := by
  obtain ⟨o, es, ho, hx, hd, hk, hp, hn⟩ := hm
  have hes : es.size ≤ sizeLine := by rw [← Array.length_toList, hp.length]; exact hsz
  have hidx := hp.findIdx k
  rw [← idx_toList] at hidx
  unfold Builtin.Dict.takeOut
  with_reducible refine wpAny_holding ?_
  refine wpAny_bind (knd.pyHash hkey ?_)
  refine wpAny_bind (wpAny_dictFind_of (s := { s with toks := s.toks + 1 }) hkey ho hd hk ?_)
  cases hi : es.findIdx? fun e => knd.is k e.key with
  | none => rw [hi] at hidx; rw [valueAt_none hidx.symm] at hv; cases hv
  | some i =>
    have hl := (idx_toList _).symm.trans hi
    obtain ⟨e, he, hek, hev⟩ := hp.at hl
    refine wpAny_bind (wpAny_dictEntries (s := { s with toks := s.toks + 1 }) ho hd ?_)
    have he' : es[i]? = some e := by rw [← he]; simp
    rw [he']
    refine wpAny_bind (wpAny_updateDictKeys (hz := hes) (s := { s with toks := s.toks + 1 }) ho hd (wpAny_pure (hQ e _ (by rw [hv] at hev; cases hev; rfl) ⟨_, es.eraseIdxIfInBounds i, Heap.get?_update_self _ ho (Obj.isFreed_of_dict (Obj.data_mapDictKeys hd _)), hx.mapDictKeys _, Obj.data_mapDictKeys hd _, hk.erase _, ?_, nodup_without hn k⟩ (Heap.SameBut.update ..))))
    have := hp.erase hn hl
    obtain ⟨l⟩ := es
    simpa using this

theorem meets_pop (d : Addr) {k : K} {key : Value} (hkey : knd.is k key = true) (hpart : (keyPart key).isSome = true) :
    MeetsIn prog w (Builtin.«dict.pop» ⟨[.ref d, key], []⟩) (fun _ R s => ∃ kvs v ep, s.heap.DictAt knd d kvs ep ∧ kvs.length ≤ sizeLine ∧ valueAt kvs k = some v ∧
      ∀ h', h'.DictAt knd d (without kvs k) (ep + 1) → Heap.SameBut d s.heap h' → R (.ok (.ret v)) { s with heap := h', toks := s.toks + 1 }) :=
  .of_wp fun A R s ⟨kvs, v, ep, hm, hsz, hv, h⟩ => by
    unfold Builtin.«dict.pop»
    refine wpAny_bind ?_
    unfold Builtin.Dict.keyAndDefault
    refine wpAny_bind (wpAny_notOrdered_dict (hm.dictOf.typeIs (s := s)) ?_)
    show wpAny _ _ (pure (d, key, none)) _ _ s
    refine wpAny_pure ?_
    simp only [hpart, if_true]
    refine wpAny_bind (wpAny_pure ?_)
    simp only [Bool.false_eq_true, if_false]
    refine wpAny_bind (take_at hkey hm hsz hv fun e h' hev hm' hs' => ?_)
    simp only [Option.isNone_some, Bool.false_eq_true, if_false]
    exact wpAny_bind (wpAny_letGo (wpAny_pure ⟨e.val, rfl, by rw [hev]; exact h h' hm' hs'⟩))
end
end Mine

/-! Soundness, part 5: data, comparisons, truth (typed by hand). -/
set_option Elab.async false
namespace Mine
open PySem PySem.SeqAt PySem.Spec

theorem strOk_of {s : List Nat} (h : okS s) : PyData.strOk (tS s) = true := by
  unfold PyData.strOk
  simp only [tS, Array.all_eq_true, decide_eq_true_eq]
  intro i hi
  have := h.1 _ (List.getElem_mem (l := s) (by simpa using hi))
  simp only [List.getElem_toArray]
  omega

section
variable {T : Tp} {A : Around} {W : Wd}

theorem readsF {a : AV} {d : PyData} {v : Value} (e : datF a = some d) (r : W.V T a v) : (∃ as, Reads W.h v d as) ∧ d.canLay0 = true ∧ d.depth ≤ 0 := by
  cases r with
  | int i t => cases e; exact ⟨⟨_, .int _ _⟩, rfl, Nat.le_refl _⟩
  | str t q => cases e; exact ⟨⟨_, .str _ _⟩, strOk_of q, Nat.le_refl _⟩
  | _ => cases e
theorem readsAll_of : ∀ {xs : List AV} {ds : List PyData} {vs : List Value}, mapO datF xs = some ds → W.Vs T xs vs → (∃ as, ReadsAll W.h vs ds as) ∧ PyData.canLayAll0 ds = true ∧ PyData.depthAll ds ≤ 0 := by
  intro xs ds vs e r
  induction r generalizing ds with
  | nil => cases e; exact ⟨⟨[], .nil⟩, rfl, Nat.zero_le _⟩
  | cons a _ ih =>
    rename_i x v xs vs _
    rw [mapO_cons] at e
    cases e1 : datF x with
    | none => rw [e1] at e; cases e
    | some d =>
      cases e2 : mapO datF xs with
      | none => rw [e1, e2] at e; cases e
      | some ds' =>
        rw [e1, e2] at e
        cases e
        obtain ⟨⟨as, h1⟩, h2, h3⟩ := readsF e1 a
        obtain ⟨⟨bs, k1⟩, k2, k3⟩ := ih e2
        exact ⟨⟨as ++ bs, .cons h1 k1⟩, by rw [PyData.canLayAll0, h2, k2]; rfl, by rw [PyData.depthAll]; omega⟩
theorem reads_of (I : Inv T W) {a : AV} {d : PyData} {v : Value} (e : dat W.σ a = some d) (r : W.V T a v) : (∃ as, Reads W.h v d as) ∧ d.canLay0 = true ∧ d.depth ≤ 1 := by
  have flat : datF a = some d → (∃ as, Reads W.h v d as) ∧ d.canLay0 = true ∧ d.depth ≤ 1 := fun e => let ⟨h1, h2, h3⟩ := readsF e r; ⟨h1, h2, Nat.le_succ_of_le h3⟩
  cases a with
  | ref l =>
    have e0 : dat W.σ (.ref l) = match lst W.σ[l]? with | some xs => (mapO datF xs).map .list | none => none := rfl
    rw [e0] at e
    cases hx : lst W.σ[l]? with
    | none => rw [hx] at e; cases e
    | some xs =>
      rw [hx] at e
      obtain ⟨ds, e1, rfl⟩ := Option.map_eq_some_iff.mp e
      obtain ⟨_, vs, m, rfl, _, h1, h2, _⟩ := I.listAt (lst_ok hx) r
      obtain ⟨⟨as, k1⟩, k2, k3⟩ := readsAll_of e1 h2
      exact ⟨⟨_, .list h1 rfl rfl k1⟩, k2, by rw [PyData.depth]; omega⟩
  | _ => exact flat e

/-- room for calls: n calls deep -/
structure AOk (n : Nat) (hd : Bool) (A : Around) : Prop where
  depth : A.depth + 2 * n + 1 < recursionLimit
  units : A.units + 20 * n + 200 < cLine
  handled : hd = false → A.handled = none
/-- the same, for a call -/
structure AOkC (n : Nat) (hd : Bool) (A : Around) : Prop where
  depth : A.depth + 2 * n < recursionLimit
  units : A.units + 20 * n + 190 < cLine
  handled : hd = false → A.handled = none
theorem AOk.call {n : Nat} {hd : Bool} {A : Around} (a : AOk n hd A) : AOkC n hd A := ⟨Nat.lt_of_succ_lt a.depth, by have := a.units; omega, a.handled⟩

noncomputable def cmpM : COp → CmpOp
  | .eq => .Eq
  | .ne => .NotEq
  | .lt => .Lt
  | .le => .LtE
  | .gt => .Gt
  | .ge => .GtE
  | .isin => .In
  | .notin => .NotIn
noncomputable def cmpOk (op : COp) (op' : CmpOp) : Bool := decide (op' = cmpM op)

theorem shaped_of {d : PyData} (h2 : d.canLay0 = true) (h3 : d.depth ≤ 1) : shaped d = true := by
  unfold shaped; rw [h2, decide_eq_true (Nat.le_trans h3 (by decide))]; rfl

theorem does_eqA (I : Inv T W) {a b : AV} {va vb : Value} (ra : W.V T a va) (rb : W.V T b vb) (hu : A.units + 64 < cLine) {c : Bool} (e : eqA W.σ a b = some c) :
    (∀ Q E, Q (.bool c) W.s → wpAny T.M A (compareOp .Eq va vb) Q E W.s) ∧ ∀ Q E, Q (.bool (!c)) W.s → wpAny T.M A (compareOp .NotEq va vb) Q E W.s := by
  unfold eqA at e
  cases e1 : dat W.σ a with
  | none => rw [e1] at e; cases e
  | some x =>
    cases e2 : dat W.σ b with
    | none => rw [e1, e2] at e; cases e
    | some y =>
      rw [e1, e2] at e
      cases e
      obtain ⟨⟨as, h1⟩, h2, h3⟩ := reads_of I e1 ra
      obtain ⟨⟨bs, k1⟩, k2, k3⟩ := reads_of I e2 rb
      have s1 := shaped_of h2 h3
      have s2 := shaped_of k2 k3
      exact ⟨fun Q E q => compareEq_shaped h1 k1 s1 s2 hu q, fun Q E q => compareNe_shaped h1 k1 s1 s2 hu q⟩

theorem dictAt_ok {σ : Hp} {v : AV} {p : Option Nat × List (AV × AV)} (h : dictAt σ v = some p) : ∃ l, v = .ref l ∧ σ[l]? = some (.dict p.1 p.2) := by
  cases v with
  | ref l => exact ⟨l, rfl, dct_ok h⟩
  | _ => cases h
theorem does_inA (I : Inv T W) {a b : AV} {va vb : Value} {c : Bool} (ra : W.V T a va) (rb : W.V T b vb) (e : inA W.σ a b = some c) :
    (∀ Q E, (∀ k, Q (.bool c) { W.s with toks := k }) → wpAny T.M A (compareOp .In va vb) Q E W.s) ∧ (∀ Q E, (∀ k, Q (.bool (!c)) { W.s with toks := k }) → wpAny T.M A (compareOp .NotIn va vb) Q E W.s) := by
  unfold inA at e
  cases hx : dictAt W.σ b with
  | none => rw [hx] at e; cases e
  | some p =>
    rw [hx] at e
    cases hk : isKey a with
    | false => simp only [hk] at e; cases e
    | true =>
      simp only [hk, if_true] at e
      cases e
      obtain ⟨l, rfl, hx'⟩ := dictAt_ok hx
      obtain ⟨d, kvs, n, rfl, _, hd, _, kv, _, hs⟩ := I.dict hx' rb
      obtain ⟨k1, k2⟩ := key_of ra hk
      have hm := hd.dictOf.mapOf
      have hv := kv.isSome k2
      exact ⟨fun Q E q => wpAny_in_of k1 hs hm (by rw [hv]; exact q _), fun Q E q => wpAny_notIn_of k1 hs hm (by rw [hv]; exact q _)⟩

theorem ord_ok {f : Int → Int → Bool} {a b : AV} {c : Bool} (h : ordA f a b = some c) : ∃ x y, a = .int x ∧ b = .int y ∧ c = f x y := by
  cases a with
  | int x =>
    cases b with
    | int y => cases h; exact ⟨x, y, rfl, rfl, rfl⟩
    | _ => cases h
  | _ => cases h

theorem does_cmpA (I : Inv T W) {op : COp} {op' : CmpOp} {a b : AV} {va vb : Value} (ho : cmpOk op op' = true) (ra : W.V T a va) (rb : W.V T b vb) (hu : A.units + 65 < cLine) {c : Bool} (e : cmpA op a b W.σ = some c) :
    ∀ Q E, (∀ k, Q (.bool c) { W.s with toks := k }) → wpAny T.M A (compareOp op' va vb) Q E W.s := by
  have ho := of_decide_eq_true ho
  subst ho
  intro Q E q
  cases op with
  | eq => exact (does_eqA I ra rb (by omega) e).1 Q E (q _)
  | ne =>
    obtain ⟨c', e', rfl⟩ := Option.map_eq_some_iff.mp e
    exact (does_eqA I ra rb (by omega) e').2 Q E (q _)
  | lt => obtain ⟨x, y, rfl, rfl, rfl⟩ := ord_ok e; cases ra; cases rb; exact P.lt_int (q _)
  | le => obtain ⟨x, y, rfl, rfl, rfl⟩ := ord_ok e; cases ra; cases rb; exact P.le_int (q _)
  | gt => obtain ⟨x, y, rfl, rfl, rfl⟩ := ord_ok e; cases ra; cases rb; exact P.gt_int (q _)
  | ge => obtain ⟨x, y, rfl, rfl, rfl⟩ := ord_ok e; cases ra; cases rb; exact P.ge_int (q _)
  | isin => exact (does_inA I ra rb e).1 Q E q
  | notin =>
    obtain ⟨c', e', rfl⟩ := Option.map_eq_some_iff.mp e
    exact (does_inA I ra rb e').2 Q E q

theorem does_truth (I : Inv T W) {a : AV} {v : Value} (r : W.V T a v) {c : Bool} (e : truth W.σ a = some c) :
    ∀ Q E, (∀ k, Q c { W.s with toks := k }) → wpAny T.M A (truthy v) Q E W.s := by
  intro Q E q
  cases r with
  | none => cases e; exact PyProof.Rows.truthy_none (q _)
  | bool b => cases e; exact wpAny_truthy_bool (q _)
  | int i t =>
    cases e
    refine P.truthy_int ?_
    rw [show (i != 0) = decide (i ≠ 0) by by_cases z : i = 0 <;> simp [z]]
    exact q _
  | str t ok =>
    rename_i s
    cases e
    refine P.truthy_str (by have := ok.2; rw [tS_length]; have : lim = 16777216 := rfl; omega) ?_
    rw [tS_length, show ((s.length : Int) != 0) = !s.isEmpty by cases s <;> simp <;> omega]
    exact q _
  | _ => cases e
end
end Mine

/-! Soundness, part 6: displays, subscripts, slices (typed by hand). -/
set_option Elab.async false
namespace Mine
open PySem PySem.SeqAt PySem.Spec

section
variable {T : Tp} {A : Around} {W : Wd} {env : Env}

/-! ### indexes -/
theorem seqIndex_place {n : Nat} {i : Int} {k : Nat} (h : place n i = some k) : seqIndex? i n = some k ∧ k < n ∧ (0 ≤ i → i = k) ∧ (i < 0 → i + n = k) := by
  unfold place at h
  split at h
  · split at h
    · cases h
      rename_i h1 h2
      refine ⟨?_, by omega, fun _ => by omega, fun _ => by omega⟩
      have e : (if i < 0 then i + (n : Int) else i) = i := if_neg (by omega)
      simp only [seqIndex?, e]
      rw [if_pos (by simp; omega)]
    · cases h
  · split at h
    · cases h
      rename_i h1 h2
      refine ⟨?_, by omega, fun _ => by omega, fun _ => by omega⟩
      have e : (if i < 0 then i + (n : Int) else i) = i + n := if_pos (by omega)
      simp only [seqIndex?, e]
      rw [if_pos (by simp; omega)]
    · cases h

noncomputable def notSlice : Expr → Bool
  | .Slice .. => false
  | _ => true

theorem subscripted_plain {slice : Expr} (h : notSlice slice = true) (o i : Value) : subscripted slice false o i = operate [o, i] (getItem o i) := by
  cases slice <;> first | rfl | cases h

theorem lim_small {n : Nat} (h : n ≤ lim) : (n : Int) < 2 ^ 63 := by have : lim = 16777216 := rfl; omega

theorem vrs_at {xs : List AV} {vs : Array Value} (r : W.Vs T xs vs.toList) {k : Nat} {x : AV} (h : xs[k]? = some x) : ∃ v, vs[k]? = some v ∧ W.V T x v := by
  obtain ⟨v, e, q⟩ := r.get h
  exact ⟨v, by rw [← Array.getElem?_toList]; exact e, q⟩
theorem vrs_size {xs : List AV} {vs : Array Value} (r : W.Vs T xs vs.toList) : vs.size = xs.length := by
  have := r.length; rw [Array.length_toList] at this; exact this

theorem list_item (hl : W.h.IsList l vs) {xs : List AV} (hz : vs.size = xs.length) (hlim : xs.length ≤ lim) {i : Int} {t : Tok} {k : Nat} {v : Value} (hp : place xs.length i = some k) (hv : vs[k]? = some v) {Q : Value → Shared → Prop} {E : Value → Shared → Prop} (q : Q v W.s) :
    wpAny T.M A (getItem (.ref l) (.int i t)) Q E W.s := by
  obtain ⟨_, h2, h3, h4⟩ := seqIndex_place hp
  have h63 := lim_small hlim
  by_cases h0 : 0 ≤ i
  · exact wpAny_getItem_list hl h0 (by have := h3 h0; omega) (by rw [h3 h0]; exact hv) q
  · have := h4 (by omega)
    exact wpAny_getItem_list_neg hl (by omega) (by omega) (by omega) (by rw [hz, this]; exact hv) q

theorem does_idxI (I : Inv T W) {value slice : Expr} {o r : AV} {i : Int} {vo : Value} {u : Tok} (hs : notSlice slice = true) (ro : W.V T o vo) (e : idxI o i W.σ = some r) :
    Does T A noX W (PyProof.Rows.subscriptTail value slice vo (.int i u)) (.ok r W.σ) (VW T) := by
  refine Does.keep I fun Q E q => ?_
  cases ro with
  | str t ok =>
    rename_i s
    obtain ⟨k, e1, e2⟩ := Option.bind_eq_some_iff.mp e
    obtain ⟨c, e3, rfl⟩ := Option.map_eq_some_iff.mp e2
    obtain ⟨h1, h2, h3, h4⟩ := seqIndex_place e1
    have h63 := lim_small ok.2
    refine PyProof.Rows.tail_any (T := "str") rfl PyProof.Rows.slot_str_getitem.lookup (P.getItem_str (c := c) ?_ ?_ (q _ _ ?_)) (subscripted_plain hs _ _)
    · simp only [Bool.or_eq_false_iff, decide_eq_false_iff_not]
      by_cases h0 : 0 ≤ i
      · have := h3 h0; omega
      · have := h4 (by omega); omega
    · rw [tS_length, h1]
      show (tS s).cps[k]? = some c
      simp [tS, e3]
    · refine .str _ ⟨fun d hd => ?_, by simp [lim]⟩
      simp at hd; subst hd
      exact ok.1 _ (List.mem_of_getElem? e3)
  | tup h1 h2 h3 h4 h5 h6 h7 =>
    obtain ⟨k, e1, e2⟩ := Option.bind_eq_some_iff.mp e
    rename_i xs a ob vs n
    obtain ⟨g1, g2, g3, g4⟩ := seqIndex_place e1
    have ev : vs[k]? = some (vs[k]'(by rw [h6]; exact g2)) := Array.getElem?_eq_getElem _
    have rv := h7 k _ _ e2 ev
    have h63 := lim_small h5
    refine PyProof.Rows.tail_any (T := "tuple") ⟨_, h1, h2⟩ PyProof.Rows.slot_tuple_getitem.lookup (PyProof.Rows.getItem_tuple (items := vs) (j := k) ⟨_, h1, h2, n, h3⟩ ?_ ?_ ?_ ev (q _ W.s.toks rv)) (subscripted_plain hs _ _)
    · by_cases h0 : 0 ≤ i
      · have := g3 h0; omega
      · have := g4 (by omega); omega
    · by_cases h0 : 0 ≤ i
      · have := g3 h0; omega
      · have := g4 (by omega); omega
    · rw [h6]; exact g1
  | scr h1 h2 h3 h4 h5 h6 =>
    obtain ⟨k, e1, e2⟩ := Option.bind_eq_some_iff.mp e
    obtain ⟨c, e3, rfl⟩ := Option.map_eq_some_iff.mp e2
    obtain ⟨t, et⟩ := h5 k c e3
    rename_i ns a ob vs n
    exact PyProof.Rows.tail_any (T := "list") ⟨_, I.base _ _ h1, h2⟩ slot_list_getitem.lookup (list_item (xs := ns.map AV.int) ⟨_, I.base _ _ h1, h2, n, h3⟩ (by rw [List.length_map]; exact h6) (by rw [List.length_map]; exact h4) (by rw [List.length_map]; exact e1) et (q _ W.s.toks (.int _ _))) (subscripted_plain hs _ _)
  | ref hb =>
    rename_i l b
    have e0 : idxI (.ref l) i W.σ = match lst W.σ[l]? with | some xs => (place xs.length i).bind fun k => xs[k]? | none => none := rfl
    rw [e0] at e
    cases hx : lst W.σ[l]? with
    | none => rw [hx] at e; cases e
    | some xs =>
      rw [hx] at e
      obtain ⟨k, e1, e2⟩ := Option.bind_eq_some_iff.mp e
      obtain ⟨_, vs, n, ea, _, h1, h2, h3⟩ := I.listAt (lst_ok hx) (.ref hb)
      cases ea
      obtain ⟨v, ev, rv⟩ := vrs_at h2 e2
      exact PyProof.Rows.tail_any (T := "list") ⟨_, h1, rfl⟩ slot_list_getitem.lookup (list_item ⟨_, h1, rfl, n, rfl⟩ (vrs_size h2) h3 e1 ev (q v W.s.toks rv)) (subscripted_plain hs _ _)
  | _ => cases e

theorem does_idxA (I : Inv T W) {value slice : Expr} {o i r : AV} {vo vi : Value} (hs : notSlice slice = true) (ro : W.V T o vo) (ri : W.V T i vi) (e : idxA o i W.σ = some r) :
    Does T A noX W (PyProof.Rows.subscriptTail value slice vo vi) (.ok r W.σ) (VW T) := by
  unfold idxA at e
  cases hx : dictAt W.σ o with
  | none =>
    rw [hx] at e
    cases ri with
    | int i u => exact does_idxI I hs ro e
    | _ => cases e
  | some p =>
    rw [hx] at e
    simp only at e
    cases hk : isKey i with
    | false => rw [hk] at e; cases e
    | true =>
      rw [hk] at e
      obtain ⟨l, rfl, hx'⟩ := dictAt_ok hx
      obtain ⟨d, kvs, n, rfl, _, hd, _, kv, _, hm⟩ := I.dict hx' ro
      obtain ⟨k1, k2⟩ := key_of ri hk
      obtain ⟨v, ev, rv⟩ := (kv.get k2).1 _ e
      exact Does.keep I fun Q E q => PyProof.Rows.tail_any (T := "dict") hd.dictOf.typeIs slot_dict_getitem.lookup (wpAny_getItem_of k1 hd.dictOf.mapOf ev (q v _ rv)) (subscripted_plain hs _ _)

/-! ### slices -/
theorem bound_part {n d a : Nat} {av : AV} {v : Value} (e : bound n d av = some a) (r : W.V T av v) : ∃ p, IsPart v p ∧ p.elim d (clipAt n) = a ∧ (a ≤ n ∨ a = d) := by
  cases r with
  | none => cases e; exact ⟨none, .none, rfl, .inr rfl⟩
  | int i t =>
    cases e
    refine ⟨some i, .int i t, ?_, ?_⟩
    · have := clipAt_cast n i
      simp only [Option.elim]
      split at this <;> split <;> omega
    · split <;> omega
  | _ => cases e

theorem range_map_drop {α : Type} (xs : List α) (a : Nat) : ∀ k, ((List.range k).map fun i => a + i).filterMap (fun i => xs[i]?) = (xs.drop a).take k := by
  intro k
  induction k with
  | zero => simp
  | succ k ih =>
    rw [List.range_succ, List.map_append, List.filterMap_append, ih, List.take_add_one]
    congr 1
    simp only [List.map_cons, List.map_nil, List.filterMap_cons, List.filterMap_nil, List.getElem?_drop]
    cases xs[a + k]? <;> rfl

theorem strSlice_eq (lo hi : Option Int) (n : Nat) : Builtin.Str.strSliceIndices lo hi 1 n = (List.range (hi.elim n (clipAt n) - lo.elim 0 (clipAt n))).map fun i => lo.elim 0 (clipAt n) + i := by
  have h := sliceBounds_plain lo hi n
  have e : Builtin.Str.strSliceIndices lo hi 1 n = sliceRange (sliceBounds lo hi none n).1 (sliceBounds lo hi none n).2.1 1 := by
    cases lo <;> cases hi <;> rfl
  rw [e, h]
  exact sliceRange_one _ _

theorem slice_text {s : List Nat} (lo hi : Option Int) : Txt.slice (tS s) lo hi = tS (cut s (lo.elim 0 (clipAt s.length)) (hi.elim s.length (clipAt s.length))) := by
  unfold Txt.slice
  rw [tS_length, strSlice_eq]
  have e : (List.filterMap (fun x => (tS s).cps[x]?) ((List.range (hi.elim s.length (clipAt s.length) - lo.elim 0 (clipAt s.length))).map fun i => lo.elim 0 (clipAt s.length) + i)) = cut s (lo.elim 0 (clipAt s.length)) (hi.elim s.length (clipAt s.length)) := by
    have := range_map_drop s (lo.elim 0 (clipAt s.length)) (hi.elim s.length (clipAt s.length) - lo.elim 0 (clipAt s.length))
    rw [show (fun x => (tS s).cps[x]?) = fun i => s[i]? from funext fun i => by simp [tS]]
    exact this
  split
  · rename_i h
    simp only [List.length_map, List.length_range] at h
    have h' : hi.elim s.length (clipAt s.length) - lo.elim 0 (clipAt s.length) = s.length := by simpa using h
    have hh : hi.elim s.length (clipAt s.length) ≤ s.length := by
      cases hi with
      | none => exact Nat.le_refl _
      | some i => have := clipAt_cast s.length i; simp only [Option.elim]; omega
    unfold cut
    rw [h']
    rcases Nat.eq_zero_or_pos s.length with z | z
    · have : s = [] := List.length_eq_zero_iff.mp z
      subst this; simp
    · rw [show lo.elim 0 (clipAt s.length) = 0 by omega]; simp
  · rw [e]; rfl

theorem cut_ok {s : List Nat} {a b : Nat} (h : okS s) : okS (cut s a b) :=
  h.sub (fun _ hc => List.mem_of_mem_drop (List.mem_of_mem_take hc)) (by unfold cut; rw [List.length_take, List.length_drop]; omega)

theorem sliceTail {value : Expr} {lo hi : Option Expr} {p : Pos} {o i : Value} {Ty id : String} {Q : Value → Shared → Prop} {E : Value → Shared → Prop} {s : Shared} (hT : s.TypeIs o Ty)
    (hl : typeLookup (.type Ty) "__getitem__" = pure (some (.builtin id))) (hg : wpAny T.M A (getItem o i) Q E s) : wpAny T.M A (PyProof.Rows.subscriptTail value (.Slice lo hi none p) o i) Q E s :=
  PyProof.Rows.tail_any hT hl hg rfl

theorem part_tok {v : Value} {p : Option Int} (h : IsPart v p) : ∃ pt : Option (Int × Tok), v = partValue pt ∧ pt.map (·.1) = p := by
  cases h with
  | none => exact ⟨none, rfl, rfl⟩
  | int i t => exact ⟨some (i, t), rfl, rfl⟩

theorem slice_list (I : Inv T W) {value : Expr} {lo hi : Option Expr} {p : Pos} {x y : AV} {vx vy : Value} {a l : Addr} {vs : Array Value} {xs : List AV} {b c : Nat} (hl : W.h.IsList l vs) (h2 : W.Vs T xs vs.toList) (h3 : xs.length ≤ lim)
    (e1 : bound xs.length 0 x = some b) (e2 : bound xs.length xs.length y = some c) (rx : W.V T x vx) (ry : W.V T y vy) (ha : W.h.get? a = some { cls := .type "slice", data := .fields #[vx, vy, .none] })
    (hn : newList (cut xs b c) W.σ ≠ .fail) : Does T A noX W (PyProof.Rows.subscriptTail value (.Slice lo hi none p) (.ref l) (.ref a)) (newList (cut xs b c) W.σ) (VW T) := by
  obtain ⟨pl, i1, i2, _⟩ := bound_part e1 rx
  obtain ⟨pu, j1, j2, _⟩ := bound_part e2 ry
  have hz := vrs_size h2
  refine does_newList (vs := (vs.toList.drop b).take (c - b)) I ((h2.drop b).take (c - b)) (fun hl' Q E q => sliceTail (Ty := "list") ?_ slot_list_getitem.lookup ?_) hn
  · obtain ⟨o, h1, h2', _⟩ := hl; exact ⟨o, h1, h2'⟩
  · refine wpAny_getItem_list_slice hl ⟨_, ha, rfl, rfl⟩ i1 j1 .none (by simp) ?_ (by rw [hz, ← lim_eq]; exact h3)
    rw [slicePick_plain, hz, i2, j2]
    exact q W.s.toks

theorem does_sliceA (I : Inv T W) {value : Expr} {lo hi : Option Expr} {p : Pos} {o x y : AV} {vo vx vy : Value} {a : Addr} (ro : W.V T o vo) (rx : W.V T x vx) (ry : W.V T y vy)
    (ha : W.h.get? a = some { cls := .type "slice", data := .fields #[vx, vy, .none] }) (hn : sliceA o x y W.σ ≠ .fail) :
    Does T A noX W (PyProof.Rows.subscriptTail value (.Slice lo hi none p) vo (.ref a)) (sliceA o x y W.σ) (VW T) := by
  cases ro with
  | str t ok =>
    rename_i s
    have e0 : sliceA (.str s) x y W.σ = match bound s.length 0 x with | some a => (match bound s.length s.length y with | some b => .ok (.str (cut s a b)) W.σ | none => .fail) | none => .fail := rfl
    rw [e0] at hn ⊢
    cases e1 : bound s.length 0 x with
    | none => rw [e1] at hn; exact absurd rfl hn
    | some b =>
      cases e2 : bound s.length s.length y with
      | none => rw [e1, e2] at hn; exact absurd rfl hn
      | some c =>
        dsimp only
        obtain ⟨pl, i1, i2, _⟩ := bound_part e1 rx
        obtain ⟨pu, j1, j2, _⟩ := bound_part e2 ry
        obtain ⟨ptl, rfl, rfl⟩ := part_tok i1
        obtain ⟨ptu, rfl, rfl⟩ := part_tok j1
        refine Does.keep I fun Q E q => sliceTail (Ty := "str") rfl PyProof.Rows.slot_str_getitem.lookup ?_
        refine wpAny_getItem_str_slice (l := ptl) (u := ptu) (st := none) ⟨_, ha, rfl, rfl⟩ rfl ?_
        have hh := slice_text (s := s) (ptl.map (·.1)) (ptu.map (·.1))
        rw [i2, j2] at hh
        unfold Txt.slice at hh
        unfold sliceMade slicePicked
        show Made.post (if ((1 : Int) == 1 && (Builtin.Str.strSliceIndices (ptl.map (·.1)) (ptu.map (·.1)) 1 (tS s).length).length == (tS s).length) = true then _ else _) _ _
        split at hh
        · rename_i z
          rw [if_pos z]
          rw [hh]
          exact q _ W.s.toks (.str _ (cut_ok ok))
        · rename_i z
          rw [if_neg z]
          refine ⟨?_, ?_⟩
          · exact Nat.le_trans (Nat.le_of_eq (congrArg Str.length hh)) (by rw [tS_length, ← lim_eq]; exact (cut_ok ok).2)
          · have q' := q _ (W.s.toks + 1) (.str W.s.toks (cut_ok (a := b) (b := c) ok))
            rw [← hh] at q'
            exact q'
  | scr h1 h2 h3 h4 h5 h6 =>
    rename_i ns l ob vs n
    have e0 : sliceA (.scr ns) x y W.σ = match bound ns.length 0 x with | some a => (match bound ns.length ns.length y with | some b => newList ((cut ns a b).map .int) W.σ | none => .fail) | none => .fail := rfl
    rw [e0] at hn ⊢
    cases e1 : bound ns.length 0 x with
    | none => rw [e1] at hn; exact absurd rfl hn
    | some b' =>
      cases e2 : bound ns.length ns.length y with
      | none => rw [e1, e2] at hn; exact absurd rfl hn
      | some c =>
        rw [e1, e2] at hn
        dsimp only at hn ⊢
        have hl : (ns.map AV.int).length = ns.length := List.length_map _
        have hv : W.Vs T (ns.map AV.int) vs.toList := .of (by rw [Array.length_toList, h6, hl]) fun i z v hz hv => by
          rw [List.getElem?_map] at hz
          obtain ⟨m, hm, rfl⟩ := Option.map_eq_some_iff.mp hz
          obtain ⟨t, et⟩ := h5 i m hm
          rw [Array.getElem?_toList, et] at hv
          cases hv
          exact .int _ _
        have hc : (cut ns b' c).map AV.int = cut (ns.map AV.int) b' c := by unfold cut; rw [List.map_take, List.map_drop]
        rw [hc] at hn ⊢
        exact slice_list I ⟨_, I.base _ _ h1, h2, n, h3⟩ hv (by rw [hl]; exact h4) (by rw [hl]; exact e1) (by rw [hl]; exact e2) rx ry ha hn
  | _ => exact absurd rfl hn
end
end Mine

/-! Soundness, part 7: calls (typed by hand). -/
set_option Elab.async false
namespace Mine
open PySem PySem.SeqAt PySem.Spec PySem.W PySem.Calls

section
variable {T : Tp} {A : Around} {W : Wd} {env : Env}

noncomputable def notStar : Expr → Bool
  | .Starred .. => false
  | _ => true
theorem starEach_plain {e : Expr} {rest : List Expr} (h : notStar e = true) : starEach (e :: rest) env = (false, eval e env) :: starEach rest env := by
  cases e <;> first | rfl | cases h
noncomputable def plainArgs (es : List Expr) : Bool := es.all notStar
theorem backTo_plain {pos : Pos} : ∀ {es : List Expr}, plainArgs es = true → (backTo pos (starEach es env)).any (·.1) = false
  | [], _ => rfl
  | e :: r, h => by
    have h' : notStar e = true ∧ plainArgs r = true := by simpa [plainArgs] using h
    rw [starEach_plain h'.1]
    show (false || (backTo pos (starEach r env)).any (·.1)) = false
    rw [backTo_plain h'.2]; rfl

theorem does_args_nil (I : Inv T W) {pos : Pos} : Does T A noX W (spliced (backTo pos (starEach [] env))) (.ok [] W.σ) (VWs T) :=
  Does.ok (spliced_nil ⟨W, rfl, rfl, I, .refl _ _, .nil⟩)
theorem does_args_cons {pos : Pos} {e : Expr} {rest : List Expr} {x : Out AV} {y : Hp → Out (List AV)} (he : notStar e = true) (h1 : Does T A noX W (eval e env) x (VW T))
    (h2 : ∀ a W', Inv T W' → Le noX W W' → x = .ok a W'.σ → Does T A noX W' (spliced (backTo pos (starEach rest env))) (y W'.σ) (VWs T)) :
    Does T A noX W (spliced (backTo pos (starEach (e :: rest) env))) (x.bind fun a h => (y h).bind fun b h => .ok (a :: b) h) (VWs T) := by
  rw [starEach_plain he]
  show wpAny T.M A (spliced ((false, eval e env) :: backTo pos (starEach rest env))) _ _ _
  refine spliced_cons (h1.cps (fun a W' va e I' l' ra => ?_) fun _ _ q => q.bind)
  refine (h2 a W' I' l' e).cps (fun b W'' vb e' I'' l'' rb => ?_) fun _ _ q => q.bind.up l' (by rw [e]; rfl)
  exact ⟨a :: b, W'', rfl, by rw [e]; show (y W'.σ).bind _ = _; rw [e']; rfl, I'', l'.trans l'', .cons (ra.le l'') rb⟩

/-- a value that may be called, in every later state -/
noncomputable def Callee (T : Tp) (f : Value) : Prop := ∀ h, T.base.StaysIn h → ∃ k, (k = Keeper.frame ∨ k = Keeper.machine ∨ k = Keeper.boundFrame) ∧ Looks T.M h (keeperOf f) k
theorem callee_builtin (id : String) : Callee T (.builtin id) := fun _ _ => ⟨.machine, .inr (.inl rfl), Looks.of_pure rfl⟩
theorem callee_type (id : String) : Callee T (.type id) := fun _ _ => ⟨.machine, .inr (.inl rfl), Looks.of_pure rfl⟩

theorem does_callWith0 {pos : Pos} {f : Value} {first : List Value} {g : Out AV} (I : Inv T W) (hk : Callee T f) (hc : Does T A noX W (call f (first ++ [])) g (VW T)) :
    Does T A noX W (callWith pos f first (backTo pos (starEach [] env)) []) g (VW T) :=
  callWith_of (P := fun h => T.base.StaysIn h) rfl hk (PyProof.Rows.evalArgs_nil3 ⟨I.base, hc⟩)

theorem does_callWith {pos : Pos} {f : Value} {first : List Value} {e : Expr} {r : List Expr} {xs : Out (List AV)} {g : List AV → Hp → Out AV} (hp : plainArgs (e :: r) = true) (hk : Callee T f)
    (ha : Does T A noX W (spliced (backTo pos (starEach (e :: r) env))) xs (VWs T))
    (hc : ∀ as vs W', Inv T W' → Le noX W W' → xs = .ok as W'.σ → W'.Vs T as vs → Does T A noX W' (call f (first ++ vs)) (g as W'.σ) (VW T)) :
    Does T A noX W (callWith pos f first (backTo pos (starEach (e :: r) env)) []) (xs.bind g) (VW T) := by
  refine callWith_of (P := fun h => T.base.StaysIn h) (by rw [backTo_plain hp]; rfl) hk ?_
  have h' : notStar e = true ∧ plainArgs r = true := by simpa [plainArgs] using hp
  rw [starEach_plain h'.1] at ha ⊢
  refine evalArgs_plain (ha.cps (fun as W' vs e I' l' r => ⟨I'.base, ?_⟩) fun _ _ q => q.bind)
  exact (hc as vs W' I' l' e r).up l' (by rw [e]; rfl)
end
end Mine

/-! Soundness, part 8: built-in functions (typed by hand). -/
set_option Elab.async false
namespace Mine
open PySem PySem.SeqAt PySem.Spec PySem.W PySem.Calls

section
variable {T : Tp} {A : Around} {W : Wd} {env : Env}

/-- a tree that makes nothing known, may push things -/
theorem Does.grown {t : Sem Value} {a : AV} (I : Inv T W) (h : ∀ Q E, (∀ v h' k, (∀ c o, W.h.get? c = some o → h'.get? c = some o) → VR T W.own W.bt h' a v → Q v { W.s with heap := h', toks := k }) → wpAny T.M A t Q E W.s) :
    Does T A noX W t (.ok a W.σ) (VW T) :=
  Does.ok (h _ _ fun v h' k hk r => by
    have := I.grow (s' := { W.s with heap := h', toks := k }) hk rfl rfl
    exact ⟨{ W with s := { W.s with heap := h', toks := k } }, rfl, rfl, this.1, this.2, r⟩)

noncomputable def biV : Bi → Value
  | .len => .builtin "len"
  | .range => .type "range"
  | .min => .builtin "min"
  | .sorted => .builtin "sorted"
  | .list => .type "list"
  | .int => .type "int"
theorem callee_bi (b : Bi) : Callee T (biV b) := by
  cases b <;> first | exact callee_builtin _ | exact callee_type _

theorem ints_vals {xs : List AV} {vs : List Value} (r : W.Vs T xs vs) : ∀ {ns : List Int}, intsA xs = some ns → PyProof.Rows.IntsAre vs ns := by
  induction r with
  | nil => intro ns e; cases e; exact .nil
  | cons a _ ih =>
    intro ns e
    rw [intsA, mapO_cons] at e
    cases a with
    | int i t =>
      rename_i xs _ _
      cases e2 : mapO asInt xs with
      | none => rw [e2] at e; cases e
      | some ms => rw [e2] at e; cases e; exact .cons _ _ (ih e2)
    | _ => cases e

theorem insI_cons (x y : Int) (r : List Int) : insI x (y :: r) = if y < x then y :: insI x r else x :: y :: r := rfl
theorem insI_perm (x : Int) (l : List Int) : (insI x l).Perm (x :: l) := by
  induction l with
  | nil => exact .refl _
  | cons y r ih =>
    rw [insI_cons]
    split
    · exact (ih.cons y).trans (.swap x y r)
    · exact .refl _
theorem sortI_perm (l : List Int) : (sortI l).Perm l := by
  induction l with
  | nil => exact .refl _
  | cons x r ih => exact (insI_perm x _).trans (ih.cons x)
theorem sortI_length (l : List Int) : (sortI l).length = l.length := (sortI_perm l).length_eq
theorem insI_sorted (x : Int) (l : List Int) : l.Pairwise (· ≤ ·) → (insI x l).Pairwise (· ≤ ·) := by
  induction l with
  | nil => exact fun _ => List.pairwise_singleton _ _
  | cons y r ih =>
    intro h
    have h' := List.pairwise_cons.mp h
    rw [insI_cons]
    split
    · rename_i q
      refine List.pairwise_cons.mpr ⟨fun z hz => ?_, ih h'.2⟩
      rcases List.mem_cons.mp ((insI_perm x r).mem_iff.mp hz) with rfl | hz
      · omega
      · exact h'.1 z hz
    · rename_i q
      refine List.pairwise_cons.mpr ⟨fun z hz => ?_, h⟩
      rcases List.mem_cons.mp hz with rfl | hz
      · omega
      · have := h'.1 z hz; omega
theorem sortI_sorted (l : List Int) : (sortI l).Pairwise (· ≤ ·) := by
  induction l with
  | nil => exact List.Pairwise.nil
  | cons x r ih => exact insI_sorted x _ ih
theorem sortI_of {a b : List Int} (p : a.Perm b) (s : a.Pairwise (· ≤ ·)) : a = sortI b :=
  List.Perm.eq_of_pairwise (fun _ _ _ _ h1 h2 => Int.le_antisymm h1 h2) s (sortI_sorted b) (p.trans (sortI_perm b).symm)
theorem vrs_ints {own : Addr → Ow} {bt : List Addr} {h : Heap} {vs : List Value} {ns : List Int} (r : PyProof.Rows.IntsAre vs ns) : VRs T own bt h (ns.map .int) vs := by
  induction r with
  | nil => exact .nil
  | cons _ _ _ ih => exact .cons (.int _ _) ih
theorem listAt_ok {σ : Hp} {v : AV} {xs : List AV} (h : listAt σ v = some xs) : ∃ l, v = .ref l ∧ σ[l]? = some (.list xs) := by
  cases v with
  | ref l => exact ⟨l, rfl, lst_ok h⟩
  | _ => cases h
theorem keysAt_cases {σ : Hp} {v : AV} {xs : List AV} (h : keysAt σ v = some xs) : ∃ l, v = .ref l ∧ (σ[l]? = some (.list xs) ∨ ∃ ep es, σ[l]? = some (.dict ep es) ∧ xs = es.map (·.1)) := by
  unfold keysAt at h
  cases e : listAt σ v with
  | some ys =>
    rw [e] at h
    cases h
    obtain ⟨l, rfl, q⟩ := listAt_ok e
    exact ⟨l, rfl, .inl q⟩
  | none =>
    rw [e] at h
    simp only at h
    cases e' : dictAt σ v with
    | none => rw [e'] at h; cases h
    | some p =>
      rw [e'] at h
      cases h
      obtain ⟨l, rfl, q⟩ := dictAt_ok e'
      exact ⟨l, rfl, .inr ⟨_, _, q, rfl⟩⟩
theorem keys_vals' {own : Addr → Ow} {bt : List Addr} {h h' : Heap} {es : List (AV × AV)} {kvs : List ((Str ⊕ Int) × Value)} (r : KV T own bt h es kvs) : ∀ {l : List Value}, l.length = kvs.length → (∀ (i : Nat) v, l[i]? = some v → ∃ k x, kvs[i]? = some (k, x) ∧ kIs k v = true) → VRs T own bt h' (es.map (·.1)) l := by
  induction r with
  | nil =>
    intro l hl _
    cases l with
    | nil => exact .nil
    | cons _ _ => cases hl
  | cons ok _ _ ih =>
    intro l hl hp
    cases l with
    | nil => cases hl
    | cons v l =>
      obtain ⟨k, x, e, q⟩ := hp 0 v rfl
      cases e
      exact .cons (vr_key ok q) (ih (Nat.succ.inj hl) fun i w hw => hp (i + 1) w hw)
theorem keys_vals {own : Addr → Ow} {bt : List Addr} {h h' : Heap} {es : List (AV × AV)} {kvs : List ((Str ⊕ Int) × Value)} {arr : Array Value} (kv : KV T own bt h es kvs) (hp : ItemsOf (fun i v => ∃ k x, kvs[i]? = some (k, x) ∧ (kKind T.prog T.w).is k v = true) arr kvs.length) : VRs T own bt h' (es.map (·.1)) arr.toList :=
  keys_vals' kv (by rw [Array.length_toList]; exact hp.1) fun i v e => hp.2 i v (by rw [← Array.getElem?_toList]; exact e)

theorem sorted_dict {K : Type} [DecidableEq K] {knd : KeyKind T.prog T.w K} {d : Addr} {kvs : List (K × Value)} {ep : Nat} {s : Shared} {Q : Value → Shared → Prop} {E : Value → Shared → Prop} (hh : A.handled = none) (hd : s.heap.DictAt knd d kvs ep) (lo : (d == sysModules) = false) (hn : kvs.length ≤ sizeLine)
    (h : ∀ (h' : Heap) (tk : Nat) (acc : Array Value), (∀ b o, s.heap.get? b = some o → h'.get? b = some o) → ItemsOf (fun i v => ∃ k x, kvs[i]? = some (k, x) ∧ knd.is k v = true) acc kvs.length →
      ∃ ns : List Int, PyProof.Rows.IntsAre acc.toList ns ∧ acc.toList.length < 64 ∧ ∀ (out : Array Value) (ns' : List Int) (e : Nat) (h'' : Heap), (∀ b o, h'.get? b = some o → h''.get? b = some o) → h''.get? h'.objs.size = some { cls := .type "list", data := .seq out e } → PyProof.Rows.IntsAre out.toList ns' → ns'.Perm ns → ns'.Pairwise (· ≤ ·) → Q (.ref h'.objs.size) { s with heap := h'', toks := tk }) :
    wpAny T.M A (call (.builtin "sorted") [.ref d]) Q E s := by
  refine call_function_entry PyProof.Rows.kind_sorted PyProof.Rows.plain_sorted PyProof.Rows.entry_sorted (PyProof.Rows.args_sorted1 _) ?_
  unfold Builtin.«sorted»
  refine wpAny_bind (m := checkCount "sorted" 1 1 _) (wpAny_pure ?_)
  refine wpAny_bind (kdu_collect (A := A.in1) (kdl_dict lo) hh hd hn fun h' tk acc hk hacc => ?_)
  obtain ⟨ns, hI, h64, hq⟩ := h h' tk acc hk hacc
  refine wpAny_bind (wpAny_newList ?_ (by rw [sizeLine_eq]; omega))
  have ho : (h'.push (PyProof.Rows.seqObj "list" acc.toList.toArray 0)).get? h'.objs.size = some (PyProof.Rows.seqObj "list" acc.toList.toArray 0) := Heap.get?_push_size _ rfl
  refine wpAny_bind (wpAny_holding (wpAny_call_entry (s := { s with heap := h'.push (PyProof.Rows.seqObj "list" acc.toList.toArray 0), toks := tk }) PyProof.Rows.slot_list_sort ⟨_, ho, rfl⟩ PyProof.Rows.entry_list_sort (PyProof.Rows.list_sort_tree ho hI h64 fun out ns' a1 a2 a3 => ⟨_, rfl, ?_⟩) (PyProof.Rows.args_list_sort _)))
  obtain ⟨e, he⟩ := PyProof.Rows.sortedHeap_at (out := out) ho
  refine wpAny_pure ⟨_, rfl, hq out ns' e _ (fun b o q => ?_) he a1 a2 a3⟩
  rw [PyProof.Rows.sortedHeap_old (Nat.ne_of_lt (Heap.lt_size q)) (by rw [PyProof.Rows.size_push']; exact Nat.lt_succ_of_lt (Heap.lt_size q))]
  exact Heap.get?_push_of_some _ q

theorem does_rng (I : Inv T W) {a b : Int} {t : Sem Value} (hn : rngA a b W.σ ≠ .fail) (h : ∀ Q E, (∀ x y z k, Q (.ref W.s.heap.objs.size) { W.s with heap := W.s.heap.push { cls := .type "range", data := .fields #[.int a x, .int b y, .int 1 z] }, toks := k }) → wpAny T.M A t Q E W.s) :
    Does T A noX W t (rngA a b W.σ) (VW T) := by
  by_cases h1 : -lim ≤ a ∧ a ≤ lim ∧ -lim ≤ b ∧ b ≤ lim
  · have e : rngA a b W.σ = .ok (.rng a b) W.σ := if_pos h1
    rw [e]
    exact Does.grown I fun Q E q => h Q E fun x y z k => q _ _ _ (fun c o e => Heap.get?_push_of_some _ e) (.rng (Heap.get?_push_size _ rfl) (own_new I (get_size _)) h1.1 h1.2.1 h1.2.2.1 h1.2.2.2)
  · exact absurd (if_neg h1) hn

theorem does_sorted (I : Inv T W) (hh : A.handled = none) {v : AV} {val : Value} (ra : W.V T v val) (hn : sortedA v W.σ ≠ .fail) : Does T A noX W (call (.builtin "sorted") [val]) (sortedA v W.σ) (VW T) := by
  unfold sortedA at hn ⊢
  cases hx : keysAt W.σ v with
  | none => rw [hx] at hn; exact absurd rfl hn
  | some xs =>
    rw [hx] at hn
    simp only [Option.bind_some] at hn ⊢
    cases hi : intsA xs with
    | none => rw [hi] at hn; exact absurd rfl hn
    | some ns =>
      rw [hi] at hn
      simp only at hn ⊢
      by_cases h64 : ns.length < 64
      · rw [if_pos h64]
        refine Does.newAt I (by rw [List.length_map, sortI_length]; have : lim = 16777216 := rfl; omega) fun Q E q => ?_
        have vr : ∀ {own : Addr → Ow} {bt : List Addr} {h' : Heap} {ns' : List Int} {out : List Value}, PyProof.Rows.IntsAre out ns' → ns'.Perm ns → ns'.Pairwise (· ≤ ·) → VRs T own bt h' ((sortI ns).map .int) out := fun a b c => by
          rw [← sortI_of b c]; exact vrs_ints a
        obtain ⟨l, rfl, hz⟩ := keysAt_cases hx
        clear hx
        rcases hz with hx | ⟨ep, es, hx', rfl⟩
        · obtain ⟨_, vs, m, rfl, _, h1, h2, h3⟩ := I.listAt hx ra
          have hI := ints_vals h2 hi
          refine PyProof.Rows.sorted_ints (vs := vs.toList) ⟨_, h1, rfl, m, by simp⟩ hI (by rw [← PyProof.Rows.IntsAre.length hI] at h64; omega) fun out ns' a1 a2 a3 => ?_
          obtain ⟨e, he⟩ := PyProof.Rows.sortedAll_at W.s.heap vs.toList out
          refine q _ _ W.s.toks out e ?_ (Nat.lt_succ_of_lt I.high) (fun _ _ => PyProof.Rows.sortedAll_old) he (vr a1 a2 a3)
          cases z : W.h.get? (W.s.heap.objs.size + 1) with
          | none => rfl
          | some o => exact absurd (Nat.lt_trans (Nat.lt_succ_self _) (Heap.lt_size z)) (Nat.lt_irrefl _)
        · obtain ⟨d, kvs, n, rfl, _, hd, _, kv, hl, lo⟩ := I.dict hx' ra
          refine sorted_dict hh hd lo (by rw [kv.length]; rw [sizeLine_eq]; exact hl) fun h' tk acc hk hacc => ?_
          have hI : PyProof.Rows.IntsAre acc.toList ns := ints_vals (T := T) (W := { W with s := { W.s with heap := h', toks := tk } }) (keys_vals kv hacc) hi
          refine ⟨ns, hI, by rw [PyProof.Rows.IntsAre.length hI]; exact h64, fun out ns' e h'' hk' he a1 a2 a3 => q _ _ _ _ e ?_ ?_ ?_ he (vr a1 a2 a3)⟩
          · cases z : W.h.get? h'.objs.size with
            | none => rfl
            | some o => exact absurd (Heap.lt_size (hk _ _ z)) (Nat.lt_irrefl _)
          · obtain ⟨_, ho⟩ := I.st; exact Heap.lt_size (hk _ _ (I.base _ _ ho))
          · exact fun b o e => hk' b o (hk b o e)
      · exact absurd (if_neg h64) hn
theorem does_list (I : Inv T W) (hh : A.handled = none) {v : AV} {val : Value} (ra : W.V T v val) {xs : List AV} (hx : keysAt W.σ v = some xs) : Does T A noX W (call (.type "list") [val]) (newList xs W.σ) (VW T) := by
  obtain ⟨l, rfl, hz⟩ := keysAt_cases hx
  clear hx
  rcases hz with hx | ⟨ep, es, hx', rfl⟩
  · obtain ⟨_, vs, m, rfl, _, h1, h2, h3⟩ := I.listAt hx ra
    refine Does.newAt I h3 fun Q E q => call_list_seq (hsz := by rw [vrs_size h2, sizeLine_eq]; exact h3) _ (.inl rfl) h1 rfl rfl fun h' c' hk hD => ?_
    exact q _ _ W.s.toks _ c' (get_size _) I.high hk hD (h2.le (I.grow (s' := { W.s with heap := h' }) hk rfl rfl).2)
  · obtain ⟨d, kvs, n, rfl, _, hd, _, kv, hl, lo⟩ := I.dict hx' ra
    refine Does.newAt I (by rw [List.length_map]; exact hl) fun Q E q => PySem.W.kdl_call (PySem.W.kdl_dict lo) hh hd (by rw [kv.length, sizeLine_eq]; exact hl) fun h' tk acc' c' hk hD hacc => ?_
    exact q _ _ tk _ c' (get_size _) I.high hk hD (keys_vals kv hacc)

theorem does_bi1 (I : Inv T W) (hh : A.handled = none) {b : Bi} {v : AV} {val : Value} (r : W.V T v val) (hn : bi1 b v W.σ ≠ .fail) : Does T A noX W (call (biV b) [val]) (bi1 b v W.σ) (VW T) := by
  cases b with
  | len =>
    cases r with
    | str t ok => exact Does.keep I fun Q E q => P.len_str (by rw [tS_length]; have := lim_small ok.2; omega) (by rw [tS_length]; exact q _ _ (.int _ _))
    | scr h1 h2 h3 h4 h5 h6 =>
      rename_i n
      exact Does.keep I fun Q E q => PyProof.Rows.len_list ⟨_, I.base _ _ h1, h2, n, h3⟩ (by rw [h6]; exact lim_small h4) (by rw [h6]; exact q _ _ (.int _ _))
    | tup h1 h2 h3 h4 h5 h6 h7 =>
      rename_i n
      exact Does.keep I fun Q E q => PyProof.Rows.len_tuple ⟨_, h1, h2, n, h3⟩ (by rw [h6]; exact lim_small h5) (by rw [h6]; exact q _ _ (.int _ _))
    | ref hl =>
      rename_i l a
      have e0 : bi1 .len (.ref l) W.σ = match listAt W.σ (.ref l) with | some xs => Out.ok (AV.int xs.length) W.σ | none => .fail := rfl
      rw [e0] at hn ⊢
      cases e : listAt W.σ (.ref l) with
      | none => rw [e] at hn; exact absurd rfl hn
      | some xs =>
        obtain ⟨_, vs, m, ea, _, h1, h2, h3⟩ := I.listAt (lst_ok e) (.ref hl)
        cases ea
        have e := vrs_size h2
        exact Does.keep I fun Q E q => PyProof.Rows.len_list ⟨_, h1, rfl, m, rfl⟩ (by rw [e]; exact lim_small h3) (by rw [e]; exact q _ _ (.int _ _))
    | _ => exact absurd rfl hn
  | range =>
    cases r with
    | int i t => exact does_rng I hn fun Q E q => call_range_1 (q _ _ _ _)
    | _ => exact absurd rfl hn
  | min => exact absurd rfl hn
  | sorted => exact does_sorted I hh r hn
  | list =>
    have e0 : bi1 .list v W.σ = match keysAt W.σ v with | some xs => newList xs W.σ | none => .fail := rfl
    rw [e0] at hn ⊢
    cases hx : keysAt W.σ v with
    | none => rw [hx] at hn; exact absurd rfl hn
    | some xs => exact does_list I hh r hx
  | int =>
    cases r with
    | bool b => exact Does.keep I fun Q E q => call_int_bool (q _ _ (.int _ _))
    | _ => exact absurd rfl hn

theorem does_biA (I : Inv T W) (hh : A.handled = none) {b : Bi} {as : List AV} {vals : List Value} (r : W.Vs T as vals) (hn : biA b as W.σ ≠ .fail) : Does T A noX W (call (biV b) vals) (biA b as W.σ) (VW T) := by
  cases r with
  | nil => exact absurd rfl hn
  | cons ra rr =>
    cases rr with
    | nil => exact does_bi1 I hh ra hn
    | cons rb rr =>
      cases rr with
      | cons _ _ => exact absurd rfl hn
      | nil =>
        cases b with
        | min =>
          obtain ⟨x, y, rfl, rfl⟩ := arith_ok hn
          cases ra; cases rb
          refine Does.grown I fun Q E q => min_two_ints hh fun h' tk hk => ?_
          split
          · rename_i z; rw [if_pos z] at q; exact q _ _ _ hk (.int _ _)
          · rename_i z; rw [if_neg z] at q; exact q _ _ _ hk (.int _ _)
        | _ => exact absurd rfl hn
end
end Mine

/-! Soundness: isinstance of an exception whose dict nobody knows (typed by hand). -/
set_option Elab.async false
set_option maxRecDepth 100000
namespace Mine
open PySem PySem.W PySem.Spec PySem.Calls PyProof.Rows Builtin Builtin.ObjectAttr Builtin.Getset_descriptor

section
variable {prog : Program} {w : World} {A : Around} {E : Value → Shared → Prop} {s : Shared} {K : Frag} {x C D : Addr}

theorem x_class_get {tp : Value} {R : Result → Shared → Prop} (X : K.In s.heap) (L0 : Looks (model prog w) s.heap (typeOf (.ref x)) (.ref D)) (hm : mroIn K D (.type "object") = some true)
    (h : R (.ok (.ret (.ref D))) s) : codeAny (model prog w) A (.call (.builtin "getset_descriptor.__get__") ⟨[.builtin "object.__class__", .ref x, tp], []⟩) R s := by
  obtain ⟨hh, g, dr, t, os⟩ := s
  have L1 := looks_mroIn (M := model prog w) X hm
  refine codeAny_call_builtin KF.slot_gs.plain KF.entry_gs (KF.slot_gs.check _ _ _ _ _ _ _ _ KF.type_class (KF.args_gs _ _ _) ?_)
  unfold Builtin.«getset_descriptor.__get__» descrGet
  rw [dga_obj]
  refine wpAny_bind (wpAny_pure ?_)
  unfold descrGetter descrCheckInstance descrNameAndClass isInstance
  simp only [KF.owner_class]
  repeat lk
  refine ⟨Code.quiet_builtin _ (by decide +kernel), codeAny_builtin KF.entry_class ?_⟩
  unfold Builtin.«object.__class__» shownTypeOf
  repeat lk
  exact h

variable (hg : findIn K (.ref D) "__getattribute__" = some (some (.builtin "BaseException.__getattribute__")) ∧ findIn K (.ref D) "__getattr__" = some none ∧ mroIn K D (.type "BaseException") = some true) (ha : findIn K (.ref D) "__class__" = some (some (.builtin "object.__class__")))
  (hn : specialIn K (.builtin "object.__class__") "__get__" = some (some (.builtin "getset_descriptor.__get__"))) (htk : takesIn K (.builtin "object.__class__") = some true) (hm : mroIn K D (.type "object") = some true)
include hg ha hn htk hm

theorem x_class {Q : Option Value → Shared → Prop} (X : K.In s.heap) (L0 : Looks (model prog w) s.heap (typeOf (.ref x)) (.ref D)) (h : Q (some (.ref D)) { s with toks := s.toks + 1 }) : wpAny (model prog w) A (getAttr? (.ref x) "__class__") Q E s := by
  obtain ⟨hg1, hg2, hg3⟩ := hg
  have L1 := looks_findIn (M := model prog w) X hg1
  have L2 := looks_findIn (M := model prog w) X hg2
  have LS : Looks (model prog w) s.heap (isInstance (.ref x) (.type "BaseException")) true := L0.andThen (looks_mroIn X hg3)
  have LF : Looks (model prog w) s.heap (find (.ref x) (.ref D) "__class__") (.bind (.builtin "getset_descriptor.__get__") (.builtin "object.__class__")) :=
    (looks_findIn X ha).andThen ((looks_specialIn X hn).andThen ((show Looks (model prog w) s.heap (dataDescriptor? (some (.builtin "object.__class__")) (some (.builtin "getset_descriptor.__get__"))) (some (.builtin "getset_descriptor.__get__", .builtin "object.__class__")) from (looks_takesIn X htk).andThen .now).andThen (Looks.tag .now)))
  obtain ⟨hh, g, d, t, os⟩ := s
  unfold getAttr? getAttrBy? getAttrBy
  refine wpAny_bind (wpAny_mkText (wpAny_bind (wpAny_attempt (wpAny_holding (wpAny_bind (L0.at (wpAny_bind (L1.at ?_))))))))
  dsimp only
  rw [if_neg (by rw [Bool.and_eq_true]; rintro ⟨_, q⟩; injection (beq_iff_eq.mp q) with z; exact absurd z (by decide))]
  unfold getAttrByItsOwn
  refine wpAny_bind (L2.at (wpAny_bind (wpAny_attempt (wpAny_holding ?_))))
  unfold callGetattribute boundAndCalled
  rw [if_neg (by decide), F.excAttr_ValueError.ga.bind (.ref x)]
  refine wpAny_bind (wpAny_pure (wpAny_call (codeAny_call_builtin F.excAttr_ValueError.ga.plain F.entry_bexc_ga (@check_slot (model prog w) _ _ _ "BaseException.__getattribute__" "BaseException" "__getattribute__" (.ref x) [.str "__class__" t] [] _ (by decide +kernel) (by decide +kernel) LS (F.args_bexc_ga _ _) ?_))))
  unfold Builtin.«object.__getattribute__»
  refine wpAny_bind (wpAny_pure (wpAny_bind (wpAny_pure (wpAny_bind (L0.at (wpAny_bind (LF.at ?_)))))))
  show wpAny _ _ (holding [Value.builtin "object.__class__"] (call (.builtin "getset_descriptor.__get__") [.builtin "object.__class__", .ref x, .ref D]) >>= ret) _ _ _
  refine wpAny_bind (wpAny_holding (wpAny_call (x_class_get (s := ⟨hh, g, d, t + 1, os⟩) X L0 hm ?_)))
  refine wpAny_pure ?_
  exact handed_on rfl (wpAny_pure h)

theorem x_nested {c : Value} {dep : Int} {tk : Tok} {Q : Fin → Shared → Prop} (X : K.In s.heap) (L0 : Looks (model prog w) s.heap (typeOf (.ref x)) (.ref D)) (hD : (clsIn K D).isSome = true) (hty : Looks (model prog w) s.heap (typeOf c) (.type "type")) (his : Looks (model prog w) s.heap (isType c) true)
    (hne : (Value.ref D == c) = false) (hsub : Looks (model prog w) s.heap (isSubtype (.ref D) c) false) (h : Q (.done (.ret (.bool false))) { s with toks := s.toks + 1 }) :
    wpAny (model prog w) A (Builtin.«isinstance.nested» ⟨[.ref x, c, .int dep tk], []⟩) Q E s := by
  obtain ⟨cdD, hcD⟩ := Option.isSome_iff_exists.mp hD
  have hisD : Looks (model prog w) s.heap (isType (.ref D)) true := by
    unfold clsIn at hcD
    split at hcD
    · rename_i c' d' cd' sl' ho
      intro A' Q' E' s' k q
      unfold isType loadHead
      exact wpAny_bind (wpAny_loadPart (k _ _ (X _ _ ho)) (wpAny_pure q))
    · cases hcD
  obtain ⟨h0, g, d, tt, os⟩ := s
  have LI : Looks (model prog w) h0 (isInstance (.ref x) c) false := L0.andThen hsub
  unfold Builtin.«isinstance.nested»
  refine wpAny_bind (L0.at ?_)
  rw [if_neg (fun q => by rw [hne] at q; exact Bool.noConfusion q)]
  refine wpAny_bind (hty.at ?_)
  rw [if_pos (by decide)]
  k_delta "plainIsInstance"
  refine wpAny_bind (wpAny_bind (his.at ?_))
  simp only [Bool.not_true, Bool.false_eq_true, if_false]
  refine wpAny_bind (LI.at ?_)
  simp only [Bool.false_eq_true, if_false]
  refine wpAny_bind (x_class hg ha hn htk hm X L0 ?_)
  refine wpAny_bind (hisD.at ?_)
  simp only [Bool.not_true, Bool.false_eq_true, if_false]
  refine wpAny_bind (wpAny_rule ?_)
  refine hsub.at ?_
  first
    | exact wpAny_pure h
    | exact wpAny_pure (wpAny_pure h)
    | exact wpAny_bind (wpAny_pure (wpAny_pure h))

theorem x_not {ox : Obj} {Q : Value → Shared → Prop} (X : K.In s.heap) (hx : s.heap.get? x = some ox) (hc : ox.cls = .ref D) (hD : (clsIn K D).isSome = true) (e : kin_not K D C = true) (h : Q (.bool false) { s with toks := s.toks + 1 }) :
    wpAny (model prog w) A (call (.builtin "isinstance") [.ref x, .ref C]) Q E s := by
  unfold kin_not at e
  rw [Bool.and_eq_true, Bool.and_eq_true, Bool.and_eq_true] at e
  obtain ⟨⟨⟨e0, e1⟩, e2⟩, e3⟩ := e
  refine call_isinstance (S := fun _ R s => (K.In s.heap ∧ s.heap.get? x = some ox) ∧ R (.ok (.ret (.bool false))) { s with toks := s.toks + 1 })
    (fun _ _ _ _ _ hs => isinstance_outer (x_nested hg ha hn htk hm hs.1.1 (hc ▸ (Looks.ld hs.1.2).andThen .now) hD (looks_typeIn hs.1.1 (beq_iff_eq.mp e2)) ?_ ?_ (looks_subIn hs.1.1 (beq_iff_eq.mp e3)) hs.2) (by intro q; cases q)) ⟨⟨X, hx⟩, h⟩
  · unfold clsIn at e1
    split at e1
    · rename_i c' d' cd' sl' ho
      intro A' Q' E' s' k q
      unfold isType loadHead
      exact wpAny_bind (wpAny_loadPart (k _ _ (hs.1.1 _ _ ho)) (wpAny_pure q))
    · cases e1
  · exact Bool.eq_false_iff.mpr fun q => of_decide_eq_true e0 (Value.ref.inj (beq_iff_eq.mp q))
omit hg ha hn htk hm
theorem x_isT {T : String} {ox : Obj} {Q : Value → Shared → Prop} (X : K.In s.heap) (hx : s.heap.get? x = some ox) (hc : ox.cls = .ref D) (hty : typeOf (.type T) = pure (.type "type")) (e : mroIn K D (.type T) = some true) (h : Q (.bool true) s) :
    wpAny (model prog w) A (call (.builtin "isinstance") [.ref x, .type T]) Q E s := by
  refine call_isinstance (S := fun _ R s => (K.In s.heap ∧ s.heap.get? x = some ox) ∧ R (.ok (.ret (.bool true))) s)
    (fun _ _ _ _ _ hs => isinstance_outer ?_ (by intro q; cases q)) ⟨⟨X, hx⟩, h⟩
  rename_i s'
  obtain ⟨⟨X', hx'⟩, hr⟩ := hs
  have L0 : ∀ M, Looks M s'.heap (typeOf (.ref x)) (.ref D) := fun M => hc ▸ (Looks.ld hx').andThen .now
  have LI : ∀ M, Looks M s'.heap (isInstance (.ref x) (.type T)) true := fun M => (L0 M).andThen (looks_mroIn X' e)
  obtain ⟨h0, g, d, tt, os⟩ := s'
  unfold Builtin.«isinstance.nested»
  refine wpAny_bind ((L0 _).at ?_)
  rw [if_neg (fun q => by cases beq_iff_eq.mp q)]
  refine wpAny_bind ((Looks.of_pure hty).at ?_)
  rw [if_pos (by decide)]
  k_delta "plainIsInstance"
  refine wpAny_bind (wpAny_bind ((Looks.of_pure (show isType (.type T) = pure true from rfl)).at ?_))
  simp only [Bool.not_true, Bool.false_eq_true, if_false]
  refine wpAny_bind ((LI _).at ?_)
  simp only [if_true]
  first
    | exact wpAny_pure hr
    | exact wpAny_pure (wpAny_pure hr)
    | exact wpAny_bind (wpAny_pure (wpAny_pure hr))
    | exact wpAny_bind (wpAny_rule (wpAny_pure hr))
    | exact wpAny_bind (wpAny_rule (wpAny_pure (wpAny_pure hr)))
    | exact wpAny_bind (wpAny_rule (wpAny_bind (wpAny_pure (wpAny_pure hr))))
end
end Mine

/-! Soundness, part 9: isinstance, tests, operators in expressions (typed by hand). -/
set_option Elab.async false
namespace Mine
open PySem PySem.SeqAt PySem.Spec PySem.W PySem.Calls

section
variable {T : Tp} {A : Around} {W : Wd} {env : Env}

noncomputable def kdT : Kd → String
  | .int => "int"
  | .str => "str"
  | .bool => "bool"
  | .tup => "tuple"
  | .list => "list"
  | _ => ""
noncomputable def kdFlat : Kd → Bool
  | .value => false
  | .cls _ => false
  | _ => true
noncomputable def kdV (T : Tp) (k : Kd) : Value := match k with
  | .value => .type "ValueError"
  | .cls d => .ref (T.ca d)
  | k => .type (kdT k)

theorem does_instK (I : Inv T W) {v : AV} {k : Kd} {b : Bool} {val : Value} (hf : kdFlat k = true) (r : W.V T v val) (e : instK W.σ v k = some b) : Does T A noX W (call (.builtin "isinstance") [val, .type (kdT k)]) (.ok (.bool b) W.σ) (VW T) := by
  refine Does.keep I fun Q E q => ?_
  have q0 : Q (.bool b) W.s := q _ W.s.toks (.bool _)
  have q1 : Q (.bool b) { W.s with toks := W.s.toks + 1 } := q _ _ (.bool _)
  cases r with
  | none =>
    cases e
    cases k with
    | int => exact IsiPair.NoneType_int q1
    | str => exact IsiPair.NoneType_str q1
    | bool => exact IsiPair.NoneType_bool q1
    | tup => exact IsiPair.NoneType_tuple q1
    | list => exact IsiPair.NoneType_list q1
    | value => cases hf
    | cls => cases hf
  | bool =>
    cases e
    cases k with
    | int => exact IsiPair.bool_int q0
    | str => exact IsiPair.bool_str q1
    | bool => exact IsiPair.bool_bool q0
    | tup => exact IsiPair.bool_tuple q1
    | list => exact IsiPair.bool_list q1
    | value => cases hf
    | cls => cases hf
  | int =>
    cases e
    cases k with
    | int => exact IsiPair.int_int q0
    | str => exact IsiPair.int_str q1
    | bool => exact IsiPair.int_bool q1
    | tup => exact IsiPair.int_tuple q1
    | list => exact IsiPair.int_list q1
    | value => cases hf
    | cls => cases hf
  | str =>
    cases e
    cases k with
    | int => exact IsiPair.str_int q1
    | str => exact IsiPair.str_str q0
    | bool => exact IsiPair.str_bool q1
    | tup => exact IsiPair.str_tuple q1
    | list => exact IsiPair.str_list q1
    | value => cases hf
    | cls => cases hf
  | tup h1 h2 h3 h4 h5 h6 h7 =>
    cases e
    cases k with
    | int => exact IsiPair.tuple_int h1 h2 q1
    | str => exact IsiPair.tuple_str h1 h2 q1
    | bool => exact IsiPair.tuple_bool h1 h2 q1
    | tup => exact IsiPair.tuple_tuple h1 h2 q0
    | list => exact IsiPair.tuple_list h1 h2 q1
    | value => cases hf
    | cls => cases hf
  | ref hl =>
    rename_i l a
    have e0 : instK W.σ (.ref l) k = match listAt W.σ (.ref l) with | some _ => some (k == .list) | none => none := rfl
    rw [e0] at e
    cases hx : listAt W.σ (.ref l) with
    | none => rw [hx] at e; cases e
    | some xs =>
      rw [hx] at e
      cases e
      obtain ⟨_, vs, m, ea, _, h1, h2, h3⟩ := I.listAt (lst_ok hx) (.ref hl)
      cases ea
      cases k with
      | int => exact IsiPair.list_int h1 rfl q1
      | str => exact IsiPair.list_str h1 rfl q1
      | bool => exact IsiPair.list_bool h1 rfl q1
      | tup => exact IsiPair.list_tuple h1 rfl q1
      | list => exact IsiPair.list_list h1 rfl q0
      | value => cases hf
      | cls => cases hf
  | _ => cases e

theorem excAt_ok {P : Pr} {c : Nat} {cl : Cl} (h : excAt P c = some cl) : P.cls[c]? = some cl ∧ cl.exc = true := by
  unfold excAt at h
  cases e : P.cls[c]? with
  | none => rw [e] at h; cases h
  | some d =>
    rw [e] at h
    simp only at h
    cases q : d.exc with
    | false => rw [q] at h; cases h
    | true => rw [q] at h; cases h; exact ⟨rfl, q⟩
theorem instX_ok {P : Pr} {c d : Nat} {b : Bool} (h : instX P c d = some b) : ∃ cl cd, excAt P c = some cl ∧ excAt P d = some cd ∧ b = cl.ups.contains d := by
  unfold instX at h
  cases e : excAt P c with
  | none => rw [e] at h; cases h
  | some cl =>
    rw [e] at h
    simp only at h
    cases q : excAt P d with
    | none => rw [q] at h; cases h
    | some cd => rw [q] at h; cases h; exact ⟨cl, cd, rfl, rfl, rfl⟩
theorem asExc_ok {v : AV} {c : Nat} (h : asExc v = some c) : v = .exc c := by
  cases v with
  | exc c => cases h; rfl
  | _ => cases h

/-- what is known of a class of exceptions -/
theorem Tp.Ok.exc (O : T.Ok) {c : Nat} {cl : Cl} (e : excAt T.P c = some cl) : excB T.K (T.ca c) = true ∧ pairsB T.K T.P T.ca (T.ca c) cl.ups 0 T.P.cls = true ∧ gsB T.K = true := by
  obtain ⟨e1, e2⟩ := excAt_ok e
  have h := clsB_get O.cl c cl e1
  rw [if_pos e2, Nat.zero_add, Bool.and_eq_true] at h
  refine ⟨h.1, h.2, O.gs.resolve_left fun q => ?_⟩
  rw [q] at e1; cases e1
theorem Tp.Ok.pair (O : T.Ok) {c d : Nat} {cl cd : Cl} (e : excAt T.P c = some cl) (e' : excAt T.P d = some cd) : pairB T.K (T.ca c) (T.ca d) (cl.ups.contains d) = true := by
  obtain ⟨e1, e2⟩ := excAt_ok e'
  have := pairsB_get (O.exc e).2.1 d cd e1 e2
  rw [Nat.zero_add] at this
  exact this

theorem does_instA (O : T.Ok) (I : Inv T W) {v : AV} {k : Kd} {b : Bool} {val : Value} (r : W.V T v val) (e : instA T.P W.σ v k = some b) : Does T A noX W (call (.builtin "isinstance") [val, kdV T k]) (.ok (.bool b) W.σ) (VW T) := by
  have X := O.X.keeps I.base
  have key : ∀ c, v = .exc c → ∃ a o, val = .ref a ∧ W.h.get? a = some o ∧ o.cls = .ref (T.ca c) := fun c ev => by
    subst ev
    cases r with
    | exc h1 h2 _ => exact ⟨_, _, rfl, h1, h2⟩
  cases k with
  | value =>
    obtain ⟨c, e1, e2⟩ := Option.bind_eq_some_iff.mp e
    obtain ⟨cl, e3, rfl⟩ := Option.map_eq_some_iff.mp e2
    obtain ⟨a, o, rfl, h1, h2⟩ := key c (asExc_ok e1)
    have hb := (O.exc e3).1
    unfold excB at hb
    simp only [Bool.and_eq_true, beq_iff_eq] at hb
    exact Does.keep I fun Q E q => x_isT X h1 h2 rfl hb.2 (q _ W.s.toks (.bool _))
  | cls d =>
    obtain ⟨c, e1, e2⟩ := Option.bind_eq_some_iff.mp e
    obtain ⟨cl, cd, e3, e4, rfl⟩ := instX_ok e2
    obtain ⟨a, o, rfl, h1, h2⟩ := key c (asExc_ok e1)
    have hp := O.pair e3 e4
    obtain ⟨hb, _, hg⟩ := O.exc e3
    unfold excB at hb
    unfold gsB at hg
    simp only [Bool.and_eq_true, beq_iff_eq] at hb hg
    unfold pairB at hp
    cases q : cl.ups.contains d with
    | true =>
      rw [q, if_pos rfl] at hp
      have hp := (Bool.and_eq_true_iff.mp hp).1
      exact Does.keep I fun Q E q => isi_call X (fun M => h2 ▸ (Looks.ld h1).andThen .now) hp (by intro z; cases z) (q _ W.s.toks (.bool _))
    | false =>
      rw [q] at hp
      exact Does.keep I fun Q E q => x_not hb.1.1.1.1.2 hb.1.1.1.2 hg.1 hg.2 hb.1.1.2 X h1 h2 hb.1.2 hp (q _ _ (.bool _))
  | int => exact does_instK I rfl r e
  | str => exact does_instK I rfl r e
  | bool => exact does_instK I rfl r e
  | tup => exact does_instK I rfl r e
  | list => exact does_instK I rfl r e
end
end Mine

/-! Soundness, part 10: texts and abstract texts match; expressions (typed by hand). -/
set_option Elab.async false
set_option genInjectivity false
set_option genSizeOf false
set_option bootstrap.genMatcherCode false
namespace Mine
open PySem PySem.SeqAt PySem.Spec PySem.W PySem.Calls

/-- what the matching asks of the globals -/
structure Gl where
  gv : Str → Option (Option Value)
  fa : Nat → Addr
  ca : Nat → Addr
  attrs : List Str
  meths : List Str

noncomputable def isGlob (sc : Scope) (x : Str) : Bool := sc.names.lookup x == some .globalImplicit && !(x == ("__debug__" : Str))
noncomputable def okSb (s : List Nat) : Bool := s.all (fun c => decide (c < 128)) && decide (s.length ≤ 100000)
theorem okS_of {s : List Nat} (h : okSb s = true) : okS s := by
  simp only [okSb, Bool.and_eq_true, List.all_eq_true, decide_eq_true_eq] at h
  exact ⟨h.1, Nat.le_trans h.2 (by decide)⟩
/-- a built-in's name that nobody has taken -/
noncomputable def isBi (G : Gl) (sc : Scope) (x : Str) (v : Value) : Bool := isGlob sc x && (match G.gv x with | some none => true | _ => false) && bootBuiltins x == some v && !(x == ("__name__" : Str))

noncomputable def isNoneC : Const → Bool
  | .none => true
  | _ => false
noncomputable def isBoolC (b : Bool) : Const → Bool
  | .bool c => b == c
  | _ => false
noncomputable def isIntC (i : Int) : Const → Bool
  | .int c => i == c
  | _ => false
noncomputable def isStrC (s : List Nat) : Const → Bool
  | .str c => c == tS s && okSb s
  | _ => false

/-! ### an expression taken apart -/
inductive View where
  | C (c : Const) (k : Nat) (p : Pos)
  | N (x : Str) (p : Pos)
  | B (l : Expr) (op : Operator) (r : Expr) (p : Pos)
  | U (op : UnaryOp) (e : Expr) (p : Pos)
  | L (op : BoolOp) (es : List Expr) (p : Pos)
  | M (l : Expr) (ops : List CmpOp) (rs : List Expr) (p : Pos)
  | I (es : List Expr) (p : Pos)
  | S (o i : Expr) (p : Pos)
  | X (lo hi st : Option Expr) (p : Pos)
  | A (o : Expr) (nm : Str) (p : Pos)
  | F (f : Expr) (as : List Expr) (kws : List Keyword) (p : Pos)
  | G (elt : Expr) (gs : List Comprehension) (sc : Scope) (p : Pos)
  | T (es : List Expr) (k : Nat) (p : Pos)
  | D (ks : List (Option Expr)) (es : List Expr) (p : Pos)
  | other
noncomputable def view : Expr → View
  | .Constant c k p => .C c k p
  | .Name x p => .N x p
  | .BinOp l op r p => .B l op r p
  | .UnaryOp op e p => .U op e p
  | .BoolOp op es p => .L op es p
  | .Compare l ops rs p => .M l ops rs p
  | .List es p => .I es p
  | .Subscript o i p => .S o i p
  | .Slice lo hi st p => .X lo hi st p
  | .Attribute o nm p => .A o nm p
  | .Call f as kws p => .F f as kws p
  | .ListComp elt gs sc p => .G elt gs sc p
  | .Tuple es k p => .T es k p
  | .Dict ks es p => .D ks es p
  | _ => .other
noncomputable def View.ex : View → Option Expr
  | .C c k p => some (.Constant c k p)
  | .N x p => some (.Name x p)
  | .B l op r p => some (.BinOp l op r p)
  | .U op e p => some (.UnaryOp op e p)
  | .L op es p => some (.BoolOp op es p)
  | .M l ops rs p => some (.Compare l ops rs p)
  | .I es p => some (.List es p)
  | .S o i p => some (.Subscript o i p)
  | .X lo hi st p => some (.Slice lo hi st p)
  | .A o nm p => some (.Attribute o nm p)
  | .F f as kws p => some (.Call f as kws p)
  | .G elt gs sc p => some (.ListComp elt gs sc p)
  | .T es k p => some (.Tuple es k p)
  | .D ks es p => some (.Dict ks es p)
  | .other => none
theorem view_ex (e : Expr) : ∀ e', (view e).ex = some e' → e = e' := by
  cases e <;> intro e' h <;> first | exact Option.some.inj h | cases h
noncomputable def asC (e : Expr) : Option Const := match view e with
  | .C c _ _ => some c
  | _ => none
noncomputable def asName (e : Expr) : Option Str := match view e with
  | .N x _ => some x
  | _ => none
noncomputable def asBin (e : Expr) : Option (Expr × Operator × Expr) := match view e with
  | .B l op r _ => some (l, op, r)
  | _ => none
noncomputable def asUn (e : Expr) : Option (UnaryOp × Expr) := match view e with
  | .U op e _ => some (op, e)
  | _ => none
noncomputable def asBool (e : Expr) : Option (BoolOp × List Expr) := match view e with
  | .L op es _ => some (op, es)
  | _ => none
noncomputable def asCmp (e : Expr) : Option (Expr × List CmpOp × List Expr) := match view e with
  | .M l ops rs _ => some (l, ops, rs)
  | _ => none
noncomputable def asLst (e : Expr) : Option (List Expr) := match view e with
  | .I es _ => some es
  | _ => none
noncomputable def asSub (e : Expr) : Option (Expr × Expr) := match view e with
  | .S o i _ => some (o, i)
  | _ => none
noncomputable def asSlice (e : Expr) : Option (Option Expr × Option Expr) := match view e with
  | .X lo hi st _ => (match st with
    | none => some (lo, hi)
    | some _ => none)
  | _ => none
noncomputable def asCall (e : Expr) : Option (Expr × List Expr × List Keyword × Pos) := match view e with
  | .F f as kws p => some (f, as, kws, p)
  | _ => none
noncomputable def asAttr (e : Expr) : Option (Expr × Str × Pos) := match view e with
  | .A o nm p => some (o, nm, p)
  | _ => none
noncomputable def asComp (e : Expr) : Option (Expr × List Comprehension × Scope) := match view e with
  | .G elt gs sc _ => some (elt, gs, sc)
  | _ => none
noncomputable def asTup (e : Expr) : Option (List Expr) := match view e with
  | .T es _ _ => some es
  | _ => none
/-- keys and values in turn -/
noncomputable def inter : List (Option Expr) → List Expr → Option (List Expr)
  | [], vs => if vs.isEmpty then some [] else none
  | k :: ks, vs => (match k with
    | some k => (match vs with
      | v :: vs => (inter ks vs).map fun r => k :: v :: r
      | [] => none)
    | none => none)
noncomputable def asDict (e : Expr) : Option (List Expr) := match view e with
  | .D ks vs _ => if ks.length ≤ 15 then inter ks vs else none
  | _ => none
noncomputable def one {α : Type} : List α → Option α
  | [x] => some x
  | _ => none
theorem one_inv {α : Type} {l : List α} {x : α} (h : one l = some x) : l = [x] := by
  match l, h with
  | [_], h => cases h; rfl
  | [], h => cases h
  | _ :: _ :: _, h => cases h
theorem any_inv {α : Type} {o : Option α} {p : α → Bool} (h : o.any p = true) : ∃ x, o = some x ∧ p x = true := by
  cases o with
  | none => cases h
  | some x => exact ⟨x, rfl, h⟩
theorem asC_inv {e : Expr} {c : Const} (h : asC e = some c) : ∃ k p, e = .Constant c k p := by
  have v := view_ex e
  unfold asC at h
  revert h
  revert v
  cases view e with
  | C c k p => intro v h; cases h; exact ⟨k, p, v _ rfl⟩
  | _ => intro _ h; cases h
theorem asName_inv {e : Expr} {x : Str} (h : asName e = some x) : ∃ p, e = .Name x p := by
  have v := view_ex e
  unfold asName at h
  revert h
  revert v
  cases view e with
  | N x p => intro v h; cases h; exact ⟨p, v _ rfl⟩
  | _ => intro _ h; cases h
theorem asBin_inv {e l r : Expr} {op : Operator} (h : asBin e = some (l, op, r)) : ∃ p, e = .BinOp l op r p := by
  have v := view_ex e
  unfold asBin at h
  revert h
  revert v
  cases view e with
  | B l op r p => intro v h; cases h; exact ⟨p, v _ rfl⟩
  | _ => intro _ h; cases h
theorem asUn_inv {e l : Expr} {op : UnaryOp} (h : asUn e = some (op, l)) : ∃ p, e = .UnaryOp op l p := by
  have v := view_ex e
  unfold asUn at h
  revert h
  revert v
  cases view e with
  | U op l p => intro v h; cases h; exact ⟨p, v _ rfl⟩
  | _ => intro _ h; cases h
theorem asBool_inv {e : Expr} {es : List Expr} {op : BoolOp} (h : asBool e = some (op, es)) : ∃ p, e = .BoolOp op es p := by
  have v := view_ex e
  unfold asBool at h
  revert h
  revert v
  cases view e with
  | L op es p => intro v h; cases h; exact ⟨p, v _ rfl⟩
  | _ => intro _ h; cases h
theorem asCmp_inv {e l : Expr} {ops : List CmpOp} {rs : List Expr} (h : asCmp e = some (l, ops, rs)) : ∃ p, e = .Compare l ops rs p := by
  have v := view_ex e
  unfold asCmp at h
  revert h
  revert v
  cases view e with
  | M l ops rs p => intro v h; cases h; exact ⟨p, v _ rfl⟩
  | _ => intro _ h; cases h
theorem asLst_inv {e : Expr} {es : List Expr} (h : asLst e = some es) : ∃ p, e = .List es p := by
  have v := view_ex e
  unfold asLst at h
  revert h
  revert v
  cases view e with
  | I es p => intro v h; cases h; exact ⟨p, v _ rfl⟩
  | _ => intro _ h; cases h
theorem asSub_inv {e o i : Expr} (h : asSub e = some (o, i)) : ∃ p, e = .Subscript o i p := by
  have v := view_ex e
  unfold asSub at h
  revert h
  revert v
  cases view e with
  | S o i p => intro v h; cases h; exact ⟨p, v _ rfl⟩
  | _ => intro _ h; cases h
theorem asSlice_inv {e : Expr} {lo hi : Option Expr} (h : asSlice e = some (lo, hi)) : ∃ p, e = .Slice lo hi none p := by
  have v := view_ex e
  unfold asSlice at h
  revert h
  revert v
  cases view e with
  | X lo hi st p =>
    intro v h
    cases st with
    | none => cases h; exact ⟨p, v _ rfl⟩
    | some _ => cases h
  | _ => intro _ h; cases h
theorem asCall_inv {e f : Expr} {as : List Expr} {kws : List Keyword} {p : Pos} (h : asCall e = some (f, as, kws, p)) : e = .Call f as kws p := by
  have v := view_ex e
  unfold asCall at h
  revert h
  revert v
  cases view e with
  | F f as kws p => intro v h; cases h; exact v _ rfl
  | _ => intro _ h; cases h
theorem asAttr_inv {e o : Expr} {nm : Str} {p : Pos} (h : asAttr e = some (o, nm, p)) : e = .Attribute o nm p := by
  have v := view_ex e
  unfold asAttr at h
  revert h
  revert v
  cases view e with
  | A o nm p => intro v h; cases h; exact v _ rfl
  | _ => intro _ h; cases h
theorem asComp_inv {e elt : Expr} {gs : List Comprehension} {sc : Scope} (h : asComp e = some (elt, gs, sc)) : ∃ p, e = .ListComp elt gs sc p := by
  have v := view_ex e
  unfold asComp at h
  revert h
  revert v
  cases view e with
  | G elt gs sc p => intro v h; cases h; exact ⟨p, v _ rfl⟩
  | _ => intro _ h; cases h

theorem asTup_inv {e : Expr} {es : List Expr} (h : asTup e = some es) : ∃ k p, e = .Tuple es k p := by
  have v := view_ex e
  unfold asTup at h
  revert h
  revert v
  cases view e with
  | T es k p => intro v h; cases h; exact ⟨k, p, v _ rfl⟩
  | _ => intro _ h; cases h
theorem asDict_inv {e : Expr} {es : List Expr} (h : asDict e = some es) : ∃ ks vs p, e = .Dict ks vs p ∧ inter ks vs = some es ∧ ks.length ≤ 15 := by
  have v := view_ex e
  unfold asDict at h
  revert h
  revert v
  cases view e with
  | D ks vs p =>
    intro v h
    simp only at h
    by_cases q : ks.length ≤ 15
    · rw [if_pos q] at h; exact ⟨ks, vs, p, v _ rfl, h, q⟩
    · rw [if_neg q] at h; cases h
  | _ => intro _ h; cases h

noncomputable def isRefOf (a : Addr) : Option (Option Value) → Bool
  | some (some (.ref b)) => b == a
  | _ => false
/-- the name of one of the text's defs -/
noncomputable def callOk (G : Gl) (sc : Scope) (f : Nat) (e : Expr) : Bool := (asName e).any fun x => isGlob sc x && isRefOf (G.fa f) (G.gv x)
noncomputable def clsName (G : Gl) (sc : Scope) (c : Nat) (e : Expr) : Bool := (asName e).any fun x => isGlob sc x && isRefOf (G.ca c) (G.gv x)
noncomputable def biName (G : Gl) (sc : Scope) (v : Value) (e : Expr) : Bool := (asName e).any fun x => isBi G sc x v

noncomputable def notComp : Expr → Bool
  | .ListComp .. => false
  | .SetComp .. => false
  | .DictComp .. => false
  | _ => true
noncomputable def notSet : Expr → Bool
  | .Set .. => false
  | _ => true
theorem marks_of {e : Expr} (op : CmpOp) (h : notSet e = true) : behindInMarks op e = false := by
  cases e with
  | Set _ _ _ => cases h
  | _ => rfl

noncomputable def bmNm : Bm → Str
  | .append => "append"
  | .join => "join"
  | .get => "get"
  | .pop => "pop"
/-- the class asked of by isinstance -/
noncomputable def kdName (G : Gl) (sc : Scope) (k : Kd) (e : Expr) : Bool := match k with
  | .cls d => clsName G sc d e
  | .value => biName G sc (.type "ValueError") e
  | k => biName G sc (.type (kdT k)) e
noncomputable def noSuper : Expr → Bool
  | .Call .. => false
  | _ => true
noncomputable def genName (g : Comprehension) : Str := ((asName g.target).getD "")
noncomputable def genOk (g : Comprehension) : Bool := (asName g.target).isSome && decide (g.is_async = 0) && notSet g.iter
/-- a comprehension's scope, seen from the frame that it stands in -/
noncomputable def relabelS (sc' sc : Scope) : Scope :=
  { sc' with names := sc'.names.map fun (n, k) => if (k == .free && sc.kind == .function && sc.names.lookup n == some .cell) then (n, .cell) else (n, k) }
noncomputable def compSl (sc' sc : Scope) (sl : List (Nat × Str)) (x : Nat) (nm : Str) : List (Nat × Str) :=
  (x, nm) :: sl.filter fun p => !(p.1 == x) && sc'.names.lookup p.2 == some .free && sc.names.lookup p.2 == some .cell
noncomputable def scOk (sc' sc : Scope) (nm : Str) : Bool := (sc'.kind == .function) && sc'.names.lookup nm == some .local &&
  sc'.names.all fun p => !(p.2 == .cell) && (!(p.2 == .local) || sc'.names.lookup p.1 == some .local) && (!(p.2 == .free) || sc.names.lookup p.1 == some .cell)
noncomputable def isNoM : ME → Bool
  | .none => true
  | _ => false
/-- an expression that may be left out -/
noncomputable def mO (m : ME) (f : Expr → Bool) (o : Option Expr) : Bool := (o.isNone && isNoM m) || o.any f
mutual
noncomputable def mtE (G : Gl) (sc : Scope) (sl : List (Nat × Str)) : ME → Expr → Bool
  | .none, e => (asC e).any isNoneC
  | .bool b, e => (asC e).any (isBoolC b)
  | .int i, e => (asC e).any (isIntC i)
  | .str s, e => (asC e).any (isStrC s)
  | .var i, e => (asName e).any fun x => sl.contains (i, x) && !(x == ("__debug__" : Str))
  | .bin op l r, e => (asBin e).any fun x => opOk op x.2.1 && mtE G sc sl l x.1 && mtE G sc sl r x.2.2
  | .not m, e => (asUn e).any fun x => decide (x.1 = .Not) && mtE G sc sl m x.2
  | .and ms, e => (asBool e).any fun x => decide (x.1 = .And) && mtEs G sc sl ms x.2
  | .or ms, e => (asBool e).any fun x => decide (x.1 = .Or) && mtEs G sc sl ms x.2
  | .cmp l op r, e => (asCmp e).any fun x => (one x.2.1).any (cmpOk op) && mtE G sc sl l x.1 && (one x.2.2).any fun y => notSet y && mtE G sc sl r y
  | .list ms, e => (asLst e).any fun x => mtEs G sc sl ms x
  | .tup ms, e => (asTup e).any fun x => mtEs G sc sl ms x
  | .dict ms, e => (asDict e).any fun x => mtEs G sc sl ms x
  | .attr o a, e => (asAttr e).any fun y => (G.attrs[a]? == some y.2.1) && noSuper y.1 && mtE G sc sl o y.1
  | .new c args, e => (asCall e).any fun x => x.2.2.1.isEmpty && clsName G sc c x.1 && mtEs G sc sl args x.2.1
  | .meth o m args, e => (asCall e).any fun x => x.2.2.1.isEmpty && decide (x.2.1.length < 30) && mtEs G sc sl args x.2.1 && (asAttr x.1).any fun y => (G.meths[m]? == some y.2.1) && (y.2.2.endLine == x.2.2.2.line) && noSuper y.1 && mtE G sc sl o y.1
  | .idx o i, e => (asSub e).any fun x => notSlice x.2 && mtE G sc sl o x.1 && mtE G sc sl i x.2
  | .slice o lo hi, e => (asSub e).any fun x => mtE G sc sl o x.1 && (asSlice x.2).any fun y => mO lo (mtE G sc sl lo) y.1 && mO hi (mtE G sc sl hi) y.2
  | .call f args, e => (asCall e).any fun x => x.2.2.1.isEmpty && callOk G sc f x.1 && mtEs G sc sl args x.2.1
  | .bi b args, e => (asCall e).any fun x => x.2.2.1.isEmpty && biName G sc (biV b) x.1 && mtEs G sc sl args x.2.1
  | .inst m k, e => (asCall e).any fun x => x.2.2.1.isEmpty && biName G sc (.builtin "isinstance") x.1 && (x.2.1.head?).any (fun y => notStar y && mtE G sc sl m y) && (one x.2.1.tail).any (kdName G sc k)
  | .isNone m, e => (asCmp e).any fun x => (one x.2.1).any (fun o => decide (o = .Is)) && mtE G sc sl m x.1 && (one x.2.2).any fun y => (asC y).any isNoneC
  | .isTrue m, e => (asCmp e).any fun x => (one x.2.1).any (fun o => decide (o = .Is)) && mtE G sc sl m x.1 && (one x.2.2).any fun y => (asC y).any (isBoolC true)
  | .powc a b, e => (asBin e).any fun x => decide (x.2.1 = .Pow) && decide (b ≤ 100) && decide (a ≤ 100) && (asC x.1).any (isIntC a) && (asC x.2.2).any (isIntC b)
  | .bm m o args, e => (asCall e).any fun x => x.2.2.1.isEmpty && decide (x.2.1.length < 30) && mtEs G sc sl args x.2.1 && (asAttr x.1).any fun y => (y.2.1 == bmNm m) && (y.2.2.endLine == x.2.2.2.line) && noSuper y.1 && mtE G sc sl o y.1
  | .comp elt v src conds, e => (asComp e).any fun x => (one x.2.1).any fun g => genOk g && scOk x.2.2 sc (genName g) && mtE G sc sl src g.iter && mtEs G (relabelS x.2.2 sc) (compSl x.2.2 sc sl v (genName g)) conds g.ifs &&
      mtE G (relabelS x.2.2 sc) (compSl x.2.2 sc sl v (genName g)) elt x.1
noncomputable def mtEs (G : Gl) (sc : Scope) (sl : List (Nat × Str)) : List ME → List Expr → Bool
  | [], es => es.isEmpty
  | m :: ms, es => (es.head?).any (fun e => notStar e && mtE G sc sl m e) && mtEs G sc sl ms es.tail
end
theorem mtEs_nil {G : Gl} {sc : Scope} {sl : List (Nat × Str)} {es : List Expr} (h : mtEs G sc sl [] es = true) : es = [] := List.isEmpty_iff.mp h
theorem mtEs_cons {G : Gl} {sc : Scope} {sl : List (Nat × Str)} {m : ME} {ms : List ME} {es : List Expr} (h : mtEs G sc sl (m :: ms) es = true) : ∃ e r, es = e :: r ∧ notStar e = true ∧ mtE G sc sl m e = true ∧ mtEs G sc sl ms r = true := by
  have h : ((es.head?).any (fun e => notStar e && mtE G sc sl m e) && mtEs G sc sl ms es.tail) = true := h
  rw [Bool.and_eq_true] at h
  cases es with
  | nil => exact absurd h.1 (by simp)
  | cons e r =>
    have h1 : (notStar e && mtE G sc sl m e) = true := h.1
    rw [Bool.and_eq_true] at h1
    exact ⟨e, r, rfl, h1.1, h1.2, h.2⟩
theorem mtEs_plain {G : Gl} {sc : Scope} {sl : List (Nat × Str)} : ∀ {ms : List ME} {es : List Expr}, mtEs G sc sl ms es = true → plainArgs es = true := by
  intro ms
  induction ms with
  | nil => intro es h; rw [mtEs_nil h]; rfl
  | cons m ms ih =>
    intro es h
    obtain ⟨e, r, rfl, h1, h2, h3⟩ := mtEs_cons h
    rw [plainArgs, List.all_cons, h1]
    exact ih h3
theorem mO_inv {m : ME} {f : Expr → Bool} {o : Option Expr} (h : mO m f o = true) : (o = none ∧ m = .none) ∨ ∃ e, o = some e ∧ f e = true := by
  cases o with
  | none =>
    left
    refine ⟨rfl, ?_⟩
    cases m with
    | none => rfl
    | _ => cases h
  | some e => exact .inr ⟨e, rfl, by simpa [mO] using h⟩

theorem ref_name {G : Gl} {sc : Scope} {b : Addr} {fe : Expr} (h : ((asName fe).any fun x => isGlob sc x && isRefOf b (G.gv x)) = true) : ∃ x p, fe = .Name x p ∧ isGlob sc x = true ∧ G.gv x = some (some (.ref b)) := by
  replace h := any_inv h
  obtain ⟨x, hx, h⟩ := h
  obtain ⟨p, rfl⟩ := asName_inv hx
  rw [Bool.and_eq_true] at h
  refine ⟨x, p, rfl, h.1, ?_⟩
  have h2 := h.2
  unfold isRefOf at h2
  split at h2
  · rename_i b e; rw [e, eq_of_beq h2]
  · cases h2
theorem callOk_name {G : Gl} {sc : Scope} {f : Nat} {fe : Expr} (h : callOk G sc f fe = true) : ∃ x p, fe = .Name x p ∧ isGlob sc x = true ∧ G.gv x = some (some (.ref (G.fa f))) := ref_name h
theorem clsName_name {G : Gl} {sc : Scope} {c : Nat} {fe : Expr} (h : clsName G sc c fe = true) : ∃ x p, fe = .Name x p ∧ isGlob sc x = true ∧ G.gv x = some (some (.ref (G.ca c))) := ref_name h
theorem biName_name {G : Gl} {sc : Scope} {v : Value} {fe : Expr} (h : biName G sc v fe = true) : ∃ x p, fe = .Name x p ∧ isBi G sc x v = true := by
  replace h := any_inv h
  obtain ⟨x, hx, h⟩ := h
  obtain ⟨p, rfl⟩ := asName_inv hx
  exact ⟨x, p, rfl, h⟩

/-! ### what matches, by its form -/
section
variable {G : Gl} {sc : Scope} {sl : List (Nat × Str)} {e : Expr}
theorem inv_bin {op : BOp} {l r : ME} (h : mtE G sc sl (.bin op l r) e = true) : ∃ l' op' r' p, e = .BinOp l' op' r' p ∧ opOk op op' = true ∧ mtE G sc sl l l' = true ∧ mtE G sc sl r r' = true := by
  replace h := any_inv h
  obtain ⟨⟨l', op', r'⟩, hx, h⟩ := h
  obtain ⟨p, rfl⟩ := asBin_inv hx
  simp only [Bool.and_eq_true] at h
  exact ⟨l', op', r', p, rfl, h.1.1, h.1.2, h.2⟩
theorem inv_not {m : ME} (h : mtE G sc sl (.not m) e = true) : ∃ e' p, e = .UnaryOp .Not e' p ∧ mtE G sc sl m e' = true := by
  replace h := any_inv h
  obtain ⟨⟨op, e'⟩, hx, h⟩ := h
  obtain ⟨p, rfl⟩ := asUn_inv hx
  rw [Bool.and_eq_true, decide_eq_true_eq] at h
  obtain ⟨rfl, h⟩ := h
  exact ⟨e', p, rfl, h⟩
theorem inv_and {ms : List ME} (h : mtE G sc sl (.and ms) e = true) : ∃ es p, e = .BoolOp .And es p ∧ mtEs G sc sl ms es = true := by
  replace h := any_inv h
  obtain ⟨⟨op, es⟩, hx, h⟩ := h
  obtain ⟨p, rfl⟩ := asBool_inv hx
  rw [Bool.and_eq_true, decide_eq_true_eq] at h
  obtain ⟨rfl, h⟩ := h
  exact ⟨es, p, rfl, h⟩
theorem inv_or {ms : List ME} (h : mtE G sc sl (.or ms) e = true) : ∃ es p, e = .BoolOp .Or es p ∧ mtEs G sc sl ms es = true := by
  replace h := any_inv h
  obtain ⟨⟨op, es⟩, hx, h⟩ := h
  obtain ⟨p, rfl⟩ := asBool_inv hx
  rw [Bool.and_eq_true, decide_eq_true_eq] at h
  obtain ⟨rfl, h⟩ := h
  exact ⟨es, p, rfl, h⟩
theorem inv_cmp {op : COp} {l r : ME} (h : mtE G sc sl (.cmp l op r) e = true) : ∃ l' op' r' p, e = .Compare l' [op'] [r'] p ∧ cmpOk op op' = true ∧ mtE G sc sl l l' = true ∧ notSet r' = true ∧ mtE G sc sl r r' = true := by
  replace h := any_inv h
  obtain ⟨⟨l', ops, rs⟩, hx, h⟩ := h
  obtain ⟨p, rfl⟩ := asCmp_inv hx
  simp only [Bool.and_eq_true] at h
  obtain ⟨op', ho, h1⟩ := any_inv h.1.1
  obtain ⟨r', hr, h2⟩ := any_inv h.2
  rw [Bool.and_eq_true] at h2
  obtain rfl := one_inv ho
  obtain rfl := one_inv hr
  exact ⟨l', op', r', p, rfl, h1, h.1.2, h2.1, h2.2⟩
theorem inv_is {f : Const → Bool} {m : ME} (h : ((asCmp e).any fun x => (one x.2.1).any (fun o => decide (o = .Is)) && mtE G sc sl m x.1 && (one x.2.2).any fun y => (asC y).any f) = true) : ∃ l' c k p' p, e = .Compare l' [.Is] [.Constant c k p'] p ∧ mtE G sc sl m l' = true ∧ f c = true := by
  replace h := any_inv h
  obtain ⟨⟨l', ops, rs⟩, hx, h⟩ := h
  obtain ⟨p, rfl⟩ := asCmp_inv hx
  simp only [Bool.and_eq_true] at h
  obtain ⟨op', ho, h1⟩ := any_inv h.1.1
  obtain ⟨r', hr, h2⟩ := any_inv h.2
  obtain ⟨c, hc, h3⟩ := any_inv h2
  obtain rfl := one_inv ho
  obtain rfl := one_inv hr
  obtain ⟨k, p', rfl⟩ := asC_inv hc
  obtain rfl := of_decide_eq_true h1
  exact ⟨l', c, k, p', p, rfl, h.1.2, h3⟩
theorem inv_call {f : Nat} {args : List ME} (h : mtE G sc sl (.call f args) e = true) : ∃ fe as p, e = .Call fe as [] p ∧ callOk G sc f fe = true ∧ mtEs G sc sl args as = true := by
  replace h := any_inv h
  obtain ⟨⟨fe, as, kws, p⟩, hx, h⟩ := h
  obtain rfl := asCall_inv hx
  simp only [Bool.and_eq_true, List.isEmpty_iff] at h
  obtain ⟨⟨rfl, h1⟩, h2⟩ := h
  exact ⟨fe, as, p, rfl, h1, h2⟩
theorem inv_bi {b : Bi} {args : List ME} (h : mtE G sc sl (.bi b args) e = true) : ∃ fe as p, e = .Call fe as [] p ∧ biName G sc (biV b) fe = true ∧ mtEs G sc sl args as = true := by
  replace h := any_inv h
  obtain ⟨⟨fe, as, kws, p⟩, hx, h⟩ := h
  obtain rfl := asCall_inv hx
  simp only [Bool.and_eq_true, List.isEmpty_iff] at h
  obtain ⟨⟨rfl, h1⟩, h2⟩ := h
  exact ⟨fe, as, p, rfl, h1, h2⟩
theorem inv_inst {m : ME} {k : Kd} (h : mtE G sc sl (.inst m k) e = true) : ∃ fe y z p, e = .Call fe [y, z] [] p ∧ biName G sc (.builtin "isinstance") fe = true ∧ notStar y = true ∧ mtE G sc sl m y = true ∧ kdName G sc k z = true := by
  replace h := any_inv h
  obtain ⟨⟨fe, as, kws, p⟩, hx, h⟩ := h
  obtain rfl := asCall_inv hx
  simp only [Bool.and_eq_true, List.isEmpty_iff] at h
  obtain ⟨⟨⟨rfl, h1⟩, h2⟩, h3⟩ := h
  obtain ⟨z, hz, h3⟩ := any_inv h3
  cases as with
  | nil => cases hz
  | cons y r =>
    obtain rfl := one_inv hz
    have h2 : (notStar y && mtE G sc sl m y) = true := h2
    rw [Bool.and_eq_true] at h2
    exact ⟨fe, y, z, p, rfl, h1, h2.1, h2.2, h3⟩
theorem inv_bm {m : Bm} {o : ME} {args : List ME} (h : mtE G sc sl (.bm m o args) e = true) : ∃ o' apos as p, e = .Call (.Attribute o' (bmNm m) apos) as [] p ∧ as.length < 30 ∧ mtEs G sc sl args as = true ∧ apos.endLine = p.line ∧ noSuper o' = true ∧ mtE G sc sl o o' = true := by
  replace h := any_inv h
  obtain ⟨⟨fe, as, kws, p⟩, hx, h⟩ := h
  obtain rfl := asCall_inv hx
  simp only [Bool.and_eq_true, List.isEmpty_iff, decide_eq_true_eq] at h
  obtain ⟨⟨⟨rfl, h1⟩, h2⟩, h3⟩ := h
  replace h3 := any_inv h3
  obtain ⟨⟨o', nm, apos⟩, ha, h3⟩ := h3
  obtain rfl := asAttr_inv ha
  simp only [Bool.and_eq_true, beq_iff_eq] at h3
  obtain ⟨⟨⟨rfl, h4⟩, h5⟩, h6⟩ := h3
  exact ⟨o', apos, as, p, rfl, h1, h2, h4, h5, h6⟩
theorem inv_new {f : Nat} {args : List ME} (h : mtE G sc sl (.new f args) e = true) : ∃ fe as p, e = .Call fe as [] p ∧ clsName G sc f fe = true ∧ mtEs G sc sl args as = true := by
  replace h := any_inv h
  obtain ⟨⟨fe, as, kws, p⟩, hx, h⟩ := h
  obtain rfl := asCall_inv hx
  simp only [Bool.and_eq_true, List.isEmpty_iff] at h
  obtain ⟨⟨rfl, h1⟩, h2⟩ := h
  exact ⟨fe, as, p, rfl, h1, h2⟩
theorem inv_attr {o : ME} {a : Nat} (h : mtE G sc sl (.attr o a) e = true) : ∃ o' nm p, e = .Attribute o' nm p ∧ G.attrs[a]? = some nm ∧ noSuper o' = true ∧ mtE G sc sl o o' = true := by
  replace h := any_inv h
  obtain ⟨⟨o', nm, p⟩, hx, h⟩ := h
  obtain rfl := asAttr_inv hx
  simp only [Bool.and_eq_true, beq_iff_eq] at h
  exact ⟨o', nm, p, rfl, h.1.1, h.1.2, h.2⟩
theorem inv_meth {m : Nat} {o : ME} {args : List ME} (h : mtE G sc sl (.meth o m args) e = true) : ∃ o' nm apos as p, e = .Call (.Attribute o' nm apos) as [] p ∧ G.meths[m]? = some nm ∧ as.length < 30 ∧ mtEs G sc sl args as = true ∧ apos.endLine = p.line ∧ noSuper o' = true ∧ mtE G sc sl o o' = true := by
  replace h := any_inv h
  obtain ⟨⟨fe, as, kws, p⟩, hx, h⟩ := h
  obtain rfl := asCall_inv hx
  simp only [Bool.and_eq_true, List.isEmpty_iff, decide_eq_true_eq] at h
  obtain ⟨⟨⟨rfl, h1⟩, h2⟩, h3⟩ := h
  replace h3 := any_inv h3
  obtain ⟨⟨o', nm, apos⟩, ha, h3⟩ := h3
  obtain rfl := asAttr_inv ha
  simp only [Bool.and_eq_true, beq_iff_eq] at h3
  obtain ⟨⟨⟨h7, h4⟩, h5⟩, h6⟩ := h3
  exact ⟨o', nm, apos, as, p, rfl, h7, h1, h2, h4, h5, h6⟩
theorem inv_sub {o i : ME} (h : mtE G sc sl (.idx o i) e = true) : ∃ o' i' p, e = .Subscript o' i' p ∧ notSlice i' = true ∧ mtE G sc sl o o' = true ∧ mtE G sc sl i i' = true := by
  replace h := any_inv h
  obtain ⟨⟨o', i'⟩, hx, h⟩ := h
  obtain ⟨p, rfl⟩ := asSub_inv hx
  simp only [Bool.and_eq_true] at h
  exact ⟨o', i', p, rfl, h.1.1, h.1.2, h.2⟩
theorem inv_slice {o lo hi : ME} (h : mtE G sc sl (.slice o lo hi) e = true) : ∃ o' lo' hi' p' p, e = .Subscript o' (.Slice lo' hi' none p') p ∧ mtE G sc sl o o' = true ∧ mO lo (mtE G sc sl lo) lo' = true ∧ mO hi (mtE G sc sl hi) hi' = true := by
  replace h := any_inv h
  obtain ⟨⟨o', i'⟩, hx, h⟩ := h
  obtain ⟨p, rfl⟩ := asSub_inv hx
  rw [Bool.and_eq_true] at h
  obtain ⟨⟨lo', hi'⟩, hs, h2⟩ := any_inv h.2
  obtain ⟨p', rfl⟩ := asSlice_inv hs
  rw [Bool.and_eq_true] at h2
  exact ⟨o', lo', hi', p', p, rfl, h.1, h2.1, h2.2⟩
theorem inv_comp {elt src : ME} {v : Nat} {conds : List ME} (h : mtE G sc sl (.comp elt v src conds) e = true) : ∃ elt' nm px it ifs sc' p, e = .ListComp elt' [⟨.Name nm px, it, ifs, 0⟩] sc' p ∧ notSet it = true ∧ scOk sc' sc nm = true ∧ mtE G sc sl src it = true ∧
    mtEs G (relabelS sc' sc) (compSl sc' sc sl v nm) conds ifs = true ∧ mtE G (relabelS sc' sc) (compSl sc' sc sl v nm) elt elt' = true := by
  replace h := any_inv h
  obtain ⟨⟨elt', gs, sc'⟩, hx, h⟩ := h
  obtain ⟨p, rfl⟩ := asComp_inv hx
  replace h := any_inv h
  obtain ⟨⟨tg, it, ifs, asy⟩, hg, h⟩ := h
  obtain rfl := one_inv hg
  simp only [Bool.and_eq_true, genOk, decide_eq_true_eq] at h
  obtain ⟨⟨⟨⟨⟨⟨h0, rfl⟩, h1⟩, h2⟩, h3⟩, h4⟩, h5⟩ := h
  obtain ⟨nm, hn⟩ := Option.isSome_iff_exists.mp h0
  obtain ⟨px, rfl⟩ := asName_inv hn
  exact ⟨elt', nm, px, it, ifs, sc', p, rfl, h1, h2, h3, h4, h5⟩
end

structure GlOk (T : Tp) (G : Gl) : Prop where
  sm : ∀ x v, G.gv x = some (some v) → T.mg x = some v
  nn : ∀ x, G.gv x = some none → T.mg x = none
  fa : G.fa = T.fa
  ca : G.ca = T.ca
  attrs : G.attrs = T.P.attrs
  meths : G.meths = T.P.methNames
  callee : ∀ x f, G.gv x = some (some (.ref (G.fa f))) → Callee T (.ref (T.fa f))

/-- the calls of the text's defs -/
structure CallsOk (T : Tp) (n : Nat) (call : Bool → Nat → List AV → Hp → Out AV) : Prop where
  code : ∀ hd f as vals A W, AOkC n hd A → St T A W → Inv T W → W.Vs T as vals → call hd f as W.σ ≠ .fail →
    codeAny T.M A (.call (.ref (T.fa f)) ⟨vals, []⟩) (fun r s' => match r with | .ok (.ret v) => PostE T noX W (call hd f as W.σ) (VW T) v s' | .ok _ => False | .error e => PostX T noX W (call hd f as W.σ) e s') W.s
theorem CallsOk.does {T : Tp} {n : Nat} {call : Bool → Nat → List AV → Hp → Out AV} (h : CallsOk T n call) (hd : Bool) (f : Nat) (as : List AV) (vals : List Value) (A : Around) (W : Wd) (a : AOkC n hd A) (S : St T A W) (I : Inv T W) (r : W.Vs T as vals) (hn : call hd f as W.σ ≠ .fail) :
    Does T A noX W (PySem.call (.ref (T.fa f)) vals) (call hd f as W.σ) (VW T) := wpAny_call (h.code hd f as vals A W a S I r hn)

theorem Out.bind_ok {α β : Type} {x : Out α} {f : α → Hp → Out β} (h : x.bind f ≠ .fail) : x ≠ .fail ∧ ∀ a k, x = .ok a k → f a k ≠ .fail := by
  cases x with
  | ok a k => exact ⟨fun q => (nomatch q), fun a' k' e => by cases e; exact h⟩
  | exc c k => exact ⟨fun q => (nomatch q), fun a' k' e => by cases e⟩
  | fail => exact absurd rfl h

section
variable {T : Tp} {A : Around} {W : Wd} {env : Env} {sl : List (Nat × Str)} {vs : Vs} {G : Gl}

theorem does_global (hT : T.Ok) (hG : GlOk T G) (I : Inv T W) (F : Fm T A W env sl vs) {x : Str} {pos : Pos} {v : Value} (hx : isGlob env.scope x = true) (e : G.gv x = some (some v)) {Q : Value → Shared → Prop} {E : Value → Shared → Prop} (q : Q v W.s) :
    wpAny T.M A (eval (.Name x pos) env) Q E W.s := by
  simp only [isGlob, Bool.and_eq_true, beq_iff_eq, Bool.not_eq_true'] at hx
  exact Name_function_global F.kind hx.1 (loadGlobal_global (by rw [F.glob]; exact hT.g.keeps I.base) (hG.sm x v e) q) hx.2
theorem does_bi_name (hT : T.Ok) (hG : GlOk T G) (I : Inv T W) (F : Fm T A W env sl vs) {x : Str} {pos : Pos} {v : Value} (hx : isBi G env.scope x v = true) {Q : Value → Shared → Prop} {E : Value → Shared → Prop} (q : Q v W.s) :
    wpAny T.M A (eval (.Name x pos) env) Q E W.s := by
  simp only [isBi, isGlob, Bool.and_eq_true, beq_iff_eq, Bool.not_eq_true', beq_eq_false_iff_ne] at hx
  obtain ⟨⟨⟨⟨h1, h2⟩, h3⟩, h4⟩, h5⟩ := hx
  have hm : T.mg x = none := by
    cases z : G.gv x with
    | none => rw [z] at h3; cases h3
    | some y => cases y with
      | none => exact hG.nn x z
      | some w => rw [z] at h3; cases h3
  exact Name_function_global F.kind h1 (loadGlobal_builtin (by rw [F.glob]; exact hT.g.keeps I.base) hm (by rw [F.bi]; exact hT.b.keeps I.base) ((hT.bi x h5).trans h4) q) (by simpa using h2)

/-- truth of a value, as a tree -/
theorem does_truthD (I : Inv T W) {a : AV} {v : Value} (r : W.V T a v) {α : Type} {g : Bool → Hp → Out α} (hn : (match truth W.σ a with | some b => g b W.σ | Option.none => .fail) ≠ .fail) {Q : Bool → Shared → Prop} {E : Value → Shared → Prop}
    (h : ∀ b W', Inv T W' → Le noX W W' → W'.σ = W.σ → truth W.σ a = some b → Q b W'.s) : wpAny T.M A (truthy v) Q E W.s := by
  cases e : truth W.σ a with
  | none => rw [e] at hn; exact absurd rfl hn
  | some b => exact does_truth I r e Q E fun k => h b { W with s := { W.s with toks := k } } (I.toks k).1 (I.toks k).2 rfl e
end
end Mine

/-! Soundness, part 11: expressions (typed by hand). -/
set_option Elab.async false
namespace Mine
open PySem PySem.SeqAt PySem.Spec PySem.W PySem.Calls

section
variable {T : Tp} {G : Gl} {n : Nat} {C : Cx}

theorem does_spliced_list {A : Around} {W : Wd} {env : Env} {es : List Expr} {pos : Pos} {x : Out (List AV)} (h : Does T A noX W (spliced (backTo pos (starEach es env))) x (VWs T)) (hn : x.bind (fun xs h => newList xs h) ≠ .fail) :
    Does T A noX W (eval (.List es pos) env) (x.bind fun xs h => newList xs h) (VW T) := by
  refine wpAny_List_spliced (h.cps (fun xs W' vals e I l r => ?_) fun _ _ q => q.bind)
  have hn' := (Out.bind_ok hn).2 xs W'.σ e
  unfold newList at hn'
  split at hn'
  · rename_i hl
    refine ⟨by rw [r.length, ← lim_eq]; exact hl, ?_⟩
    have := I.push (s' := { W'.s with heap := W'.h.push { cls := .type "list", data := .seq vals.toArray } }) (o := .list xs) (Heap.get?_push_size _ rfl) (fun a q e => Heap.get?_push_of_some _ e) rfl rfl
      fun x => ⟨vals.toArray, 0, Heap.get?_push_size _ rfl, by simpa using r.ext x .no, hl⟩
    refine ⟨.ref W'.σ.length, _, rfl, ?_, this.1, l.trans this.2.1, this.2.2⟩
    rw [e]; show newList xs W'.σ = _; unfold newList; rw [if_pos hl]
  · exact absurd rfl hn'

theorem does_spliced_tup {A : Around} {W : Wd} {env : Env} {es : List Expr} {k : Nat} {pos : Pos} {x : Out (List AV)} (h : Does T A noX W (spliced (backTo pos (starEach es env))) x (VWs T)) (hn : x.bind (fun xs h => tupA xs h) ≠ .fail) :
    Does T A noX W (eval (.Tuple es k pos) env) (x.bind fun xs h => tupA xs h) (VW T) := by
  refine wpAny_Tuple_spliced (h.cps (fun xs W' vals e I l r => ?_) fun _ _ q => q.bind)
  have hn' := (Out.bind_ok hn).2 xs W'.σ e
  unfold tupA at hn'
  split at hn'
  · rename_i hl
    refine ⟨by rw [r.length, ← lim_eq]; exact hl, ?_⟩
    have g := I.grow (s' := { W'.s with heap := W'.h.push { cls := .type "tuple", data := .seq vals.toArray } }) (fun a q e => Heap.get?_push_of_some _ e) rfl rfl
    refine ⟨.tup xs, _, rfl, ?_, g.1, l.trans g.2, .tup (Heap.get?_push_size _ rfl) rfl rfl (own_new I (get_size _)) hl ?_ fun i y v hy hv => ?_⟩
    · rw [e]; show tupA xs W'.σ = _; unfold tupA; rw [if_pos hl]
    · rw [List.size_toArray, r.length]
    · obtain ⟨v', e1, e2⟩ := (r.le g.2).get hy
      rw [List.getElem?_toArray, e1] at hv
      cases hv; exact e2
  · exact absurd rfl hn'

/-- the tree of `and` | `or` -/
theorem boolOp_cons {pos : Pos} {op : BoolOp} {x y : Sem Value} {r : List (Sem Value)} : boolOp pos op (x :: y :: r) = (do
    let v ← x
    standAt pos
    let t ← holding [v] (truthy v)
    match op, t with
    | .And, false | .Or, true => pure v
    | _, _ => boolOp pos op (y :: r)) := rfl


/-- what is shown of an expression -/
noncomputable def SE (T : Tp) (G : Gl) (n : Nat) (C : Cx) (m : ME) : Prop :=
  ∀ (e : Expr) (sl : List (Nat × Str)) (A : Around) (W : Wd) (env : Env) (vs : Vs), mtE G env.scope sl m e = true → AOk n C.hd A → Fm T A W env sl vs → Inv T W → ev C m W.σ vs ≠ .fail →
    Does T A noX W (eval e env) (ev C m W.σ vs) (VW T)

theorem does_evs : ∀ (ms : List ME), (∀ m ∈ ms, SE T G n C m) → ∀ (es : List Expr) (sl : List (Nat × Str)) (A : Around) (W : Wd) (env : Env) (vs : Vs) (pos : Pos), mtEs G env.scope sl ms es = true → AOk n C.hd A → Fm T A W env sl vs → Inv T W → evs C ms W.σ vs ≠ .fail →
    Does T A noX W (spliced (backTo pos (starEach es env))) (evs C ms W.σ vs) (VWs T) := by
  intro ms
  induction ms with
  | nil =>
    intro _ es sl A W env vs pos h _ _ I _
    rw [mtEs_nil h]
    exact does_args_nil I
  | cons m ms ih' =>
    intro ih es sl A W env vs pos h a F I hn
    obtain ⟨e, es, rfl, h0, h1, h2⟩ := mtEs_cons h
    rw [evs_q2] at hn ⊢
    obtain ⟨n1, n2⟩ := Out.bind_ok hn
    refine does_args_cons h0 (ih m (List.mem_cons_self ..) e sl A W env vs h1 a F I n1) fun x W' I' l' e' => ?_
    exact ih' (fun m' hm => ih m' (List.mem_cons_of_mem _ hm)) es sl A W' env vs pos h2 a (F.le l') I' (Out.bind_ok (n2 x W'.σ e')).1

noncomputable def evB (C : Cx) (op : BoolOp) (ms : List ME) (h : Hp) (vs : Vs) : Out AV := match op with
  | .And => evAnd C ms h vs
  | .Or => evOr C ms h vs
/-- does the operator stop at this truth -/
noncomputable def stops : BoolOp → Bool → Bool
  | .And, b => !b
  | .Or, b => b
theorem evB_one {op : BoolOp} {m : ME} {h : Hp} {vs : Vs} : evB C op [m] h vs = ev C m h vs := by cases op <;> rfl
theorem evB_cons {op : BoolOp} {m m' : ME} {ms : List ME} {h : Hp} {vs : Vs} : evB C op (m :: m' :: ms) h vs = (ev C m h vs).bind fun x h => match truth h x with | some b => (match stops op b with | true => .ok x h | false => evB C op (m' :: ms) h vs) | Option.none => .fail := by
  cases op with
  | And =>
    show evAnd C (m :: m' :: ms) h vs = _
    rw [evAnd_q3]
    congr 1; funext x h
    rcases truth h x with _ | _ | _ <;> rfl
  | Or =>
    show evOr C (m :: m' :: ms) h vs = _
    rw [evOr_q3]
    congr 1; funext x h
    rcases truth h x with _ | _ | _ <;> rfl
theorem boolOp_stop {pos : Pos} {op : BoolOp} {x y : Sem Value} {r : List (Sem Value)} : boolOp pos op (x :: y :: r) = (do
    let v ← x
    standAt pos
    let t ← holding [v] (truthy v)
    match stops op t with
    | true => pure v
    | false => boolOp pos op (y :: r)) := by
  rw [boolOp_cons]
  congr 1; funext v; congr 1; funext _; congr 1; funext t
  cases op <;> cases t <;> rfl

theorem does_and (op : BoolOp) : ∀ (ms : List ME), (∀ m ∈ ms, SE T G n C m) → ∀ (es : List Expr) (sl : List (Nat × Str)) (A : Around) (W : Wd) (env : Env) (vs : Vs) (pos : Pos), mtEs G env.scope sl ms es = true → AOk n C.hd A → Fm T A W env sl vs → Inv T W →
    evB C op ms W.σ vs ≠ .fail → Does T A noX W (boolOp pos op (evalEach es env)) (evB C op ms W.σ vs) (VW T) := by
  intro ms
  induction ms with
  | nil => intro _ es sl A W env vs pos _ _ _ _ hn; exact absurd (by cases op <;> rfl) hn
  | cons m ms ih' =>
    intro ih es sl A W env vs pos h a F I hn
    obtain ⟨e, es, rfl, _, h1, h2⟩ := mtEs_cons h
    cases ms with
    | nil =>
      rw [mtEs_nil h2]
      rw [evB_one] at hn ⊢
      exact ih m (List.mem_cons_self ..) e sl A W env vs h1 a F I hn
    | cons m' ms =>
      obtain ⟨e', es', rfl, _⟩ := mtEs_cons h2
      show Does T A noX W (boolOp pos op (eval e env :: eval e' env :: evalEach es' env)) _ _
      rw [boolOp_stop]
      rw [evB_cons] at hn ⊢
      obtain ⟨n1, n2⟩ := Out.bind_ok hn
      refine Does.bind (ih m (List.mem_cons_self ..) e sl A W env vs h1 a F I n1) fun x W' v e1 I' l' r => ?_
      have n3 := n2 x W'.σ e1
      cases q : truth W'.σ x with
      | none => rw [q] at n3; exact absurd rfl n3
      | some b =>
        rw [q] at n3
        refine wpAny_bind (wpAny_standAt (wpAny_bind (wpAny_holding (does_truth I' r q _ _ fun k => ?_))))
        have g := I'.toks k
        simp only at n3 ⊢
        cases z : stops op b with
        | true => exact wpAny_pure ⟨x, { W' with s := { W'.s with toks := k } }, rfl, rfl, g.1, g.2, r.le g.2⟩
        | false =>
          rw [z] at n3
          exact (ih' (fun q hq => ih q (List.mem_cons_of_mem _ hq)) (e' :: es') sl A { W' with s := { W'.s with toks := k } } env vs pos h2 a (F.le (l'.trans g.2)) g.1 n3).up g.2 rfl
end
end Mine

/-! Soundness, part 13: frames that are written (typed by hand). -/
set_option Elab.async false
namespace Mine
open PySem PySem.SeqAt PySem.Spec PySem.W PySem.Calls

/-- the addresses that a frame writes -/
noncomputable def frX (env : Env) : Addr → Prop := fun a => a = env.locals ∨ ∃ x, env.cells.lookup x = some a

structure Fs (T : Tp) (A : Around) (W : Wd) (env : Env) (sl : List (Nat × Str)) (vs : Vs) : Prop where
  fm : Fm T A W env sl vs
  frame : env.frame = some env.locals
  top : ∃ outer, A.frames = some (env :: outer) ∧ ∀ e ∈ outer, ∀ L, e.frame = some L → ¬ frX env L
  ns : ∃ m, W.h.Ns env.locals m
  ownL : W.own env.locals = .free
  baseL : T.base.get? env.locals = none
  kinds : ∀ i x, (i, x) ∈ sl → env.kindOf x = some .local ∨ env.kindOf x = some .cell
  cell : ∀ x c, env.cells.lookup x = some c → W.own c = .free ∧ T.base.get? c = none ∧ c ≠ env.locals ∧ ∃ v, W.h.IsCell c v
  cinj : ∀ x y c, env.cells.lookup x = some c → env.cells.lookup y = some c → x = y
  inj : ∀ i j x, (i, x) ∈ sl → (j, x) ∈ sl → i = j
  inj2 : ∀ i x y, (i, x) ∈ sl → (i, y) ∈ sl → x = y
  len : ∀ i x, (i, x) ∈ sl → i < vs.length

section
variable {T : Tp} {A : Around} {W W' : Wd} {env : Env} {sl : List (Nat × Str)} {vs : Vs}

theorem Fs.le (F : Fs T A W env sl vs) (l : Le noX W W') : Fs T A W' env sl vs where
  fm := F.fm.le l
  frame := F.frame
  top := F.top
  ns := let ⟨m, n⟩ := F.ns; ⟨m, ns_ko n fun o ho => l.ext.kp _ o ho F.ownL id⟩
  ownL := let ⟨_, n⟩ := F.ns; let ⟨_, z⟩ := ns_at n; (l.ext.ow _ _ z id (by rw [F.ownL]; exact Ow.noConfusion)).trans F.ownL
  baseL := F.baseL
  kinds := F.kinds
  cell := fun x c e => let ⟨h1, h2, h3, v, h4⟩ := F.cell x c e; let ⟨_, z⟩ := cell_at h4; ⟨(l.ext.ow _ _ z id (by rw [h1]; exact Ow.noConfusion)).trans h1, h2, h3, v, cell_ko h4 fun o ho => l.ext.kp _ o ho h1 id⟩
  cinj := F.cinj
  inj := F.inj
  inj2 := F.inj2
  len := F.len

theorem Fs.frX (F : Fs T A W env sl vs) : FrX (frX env) W.own W.h := by
  intro a q
  rcases q with rfl | ⟨x, q⟩
  · refine ⟨F.ownL, fun o e => ?_⟩
    obtain ⟨m, o', es, ep, ho, hd, _⟩ := F.ns
    rw [e] at ho; cases ho
    exact .inl ⟨es, ep, hd⟩
  · refine ⟨(F.cell x a q).1, fun o e => ?_⟩
    obtain ⟨_, _, _, v, o', ho, hd⟩ := F.cell x a q
    rw [e] at ho; cases ho
    exact .inr (.inl ⟨v, hd⟩)

/-- one address of the frame's own is written -/
theorem Inv.touch {X : Addr → Prop} (I : Inv T W) {a : Addr} {s' : Shared} (ha : W.own a = .free) (hb : T.base.get? a = none) (hx : X a) (fx : FrX X W.own W.h) (hs : ∀ b o, b ≠ a → W.h.get? b = some o → s'.heap.get? b = some o)
    (hg : s'.gens = W.s.gens) (hos : s'.os = W.s.os) : Inv T { W with s := s' } ∧ Le X W { W with s := s' } := by
  have x : Ext X W.own W.bt W.h W.own W.bt s'.heap := ⟨fun b o e f n => ⟨o, hs b o (fun q => n (q ▸ hx)) e, .refl o⟩, fun b o e f => ⟨o, hs b o (fun q => by rw [q, ha] at f; cases f) e, rfl⟩, fun _ _ _ f => f,
    fun b o e n _ => ⟨o, hs b o (fun q => n (q ▸ hx)) e⟩, fun _ _ _ _ _ => rfl, [], (List.append_nil _).symm⟩
  refine ⟨⟨I.len, I.ownb, fun b q => ⟨let ⟨o, e⟩ := (I.lt b q).1; ⟨o, hs b o (fun z => q (z ▸ ha)) e⟩, (I.lt b q).2⟩, fun l o b e q => ?_, fun b o e => hs b o (fun q => by rw [q, hb] at e; cases e) (I.base b o e), I.st, I.hi⟩, x, hg, hos⟩
  exact (I.obj l o b e q).mono x fx (I.ownb l b q) fun c r f e' => hs c r (fun z => by rw [z, ha] at f; cases f) e'

theorem VR.leX {X : Addr → Prop} {av : AV} {v : Value} (r : W.V T av v) (x : Le X W W') (fx : FrX X W.own W.h) : W'.V T av v := VR.ext x.ext fx r

theorem getElem?_set_ne' {vs : Vs} {i j : Nat} (h : i ≠ j) (v : Option AV) : (vs.set i v)[j]? = vs[j]? := by simp [List.getElem?_set, h]

theorem Fs.stkX (F : Fs T A W env sl vs) (l : Le (Mine.frX env) W W') (hn : ∃ m, W'.h.Ns env.locals m) (ho : W'.own env.locals = .free) : St T A W' := by
  obtain ⟨l0, e0, k⟩ := F.fm.stk
  obtain ⟨outer, e, hx⟩ := F.top
  rw [e] at e0
  cases e0
  refine ⟨_, e, fun env' he => ?_⟩
  rcases List.mem_cons.mp he with rfl | he
  · obtain ⟨m, o, es, ep, h1, h2, _⟩ := hn
    exact ⟨by rw [F.fm.kind]; decide, _, o, F.frame, ho, F.baseL, h1, es, ep, h2⟩
  · exact Stk.leX (fun e' h' => k e' (List.mem_cons_of_mem _ h')) l hx env' he

theorem does_store (F : Fs T A W env sl vs) (I : Inv T W) {i : Nat} {x : Str} {av : AV} {v : Value} (hi : (i, x) ∈ sl) (r : W.V T av v) {Q : Unit → Shared → Prop} {E : Value → Shared → Prop}
    (h : ∀ W', Inv T W' → Le (frX env) W W' → W'.σ = W.σ → Fs T A W' env sl (vs.set i (some av)) → Q () W'.s) : wpAny T.M A (storeName env x v) Q E W.s := by
  have fx := F.frX
  rcases F.kinds i x hi with hk | hk
  · obtain ⟨m, hm⟩ := F.ns
    refine wpAny_storeName_local hk hm (fun h' hn hs => ?_) (by rw [F.fm.kind]; rfl)
    obtain ⟨o', z⟩ := ns_at hn
    obtain ⟨I', l'⟩ := I.touch (X := Mine.frX env) (s' := { W.s with heap := h', toks := W.s.toks + 1 }) F.ownL F.baseL (.inl rfl) fx (fun b o n e => (hs.2 b n).trans e) rfl rfl
    refine h { W with s := { W.s with heap := h', toks := W.s.toks + 1 } } I' l' rfl ⟨⟨F.stkX l' ⟨_, hn⟩ F.ownL, F.fm.kind, F.fm.glob, F.fm.bi, F.fm.cells, fun j y hj aw e => ?_⟩, F.frame, F.top, ⟨_, hn⟩, F.ownL, F.baseL, F.kinds, fun y c e => ?_, F.cinj, F.inj, F.inj2, fun j y hj => by simpa using F.len j y hj⟩
    · by_cases q : i = j
      · subst q
        have := F.inj2 i x y hi hj
        subst this
        rw [List.getElem?_set_self (F.len i x hi)] at e
        cases e
        exact ⟨v, r.leX l' fx, .inl ⟨hk, F.ownL, _, hn, by simp⟩⟩
      · rw [getElem?_set_ne' q] at e
        obtain ⟨w, rw', d⟩ := F.fm.rd j y hj aw e
        refine ⟨w, rw'.leX l' fx, ?_⟩
        rcases d with ⟨k, f, m', n', e'⟩ | ⟨k, c, e', f, n'⟩
        · refine .inl ⟨k, f, _, hn, ?_⟩
          have hxy : y ≠ x := fun z => q (F.inj i j x hi (z ▸ hj))
          simp only [if_neg hxy]
          rw [← e']
          obtain ⟨o1, es1, ep1, g1, g2, g3, g4⟩ := hm
          obtain ⟨o2, es2, ep2, k1, k2, k3, k4⟩ := n'
          rw [g1] at k1; cases k1
          rw [g2] at k2; cases k2
          rw [← g4, ← k4]
        · obtain ⟨_, _, g3, _⟩ := F.cell y c e'
          exact .inr ⟨k, c, e', f, cell_ko n' fun o ho => ⟨o, (hs.2 c g3).trans ho, .refl o⟩⟩
    · obtain ⟨g1, g2, g3, w, g4⟩ := F.cell y c e
      exact ⟨g1, g2, g3, w, cell_ko g4 fun o ho => ⟨o, (hs.2 c g3).trans ho, .refl o⟩⟩
  · obtain ⟨c, hc⟩ := F.fm.cells x hk
    obtain ⟨g1, g2, g3, w, g4⟩ := F.cell x c hc
    refine wpAny_storeName_cell F.fm.kind hk hc g4 (fun h' hn hs => ?_)
    obtain ⟨o', z⟩ := cell_at hn
    obtain ⟨I', l'⟩ := I.touch (X := Mine.frX env) (s' := { W.s with heap := h' }) g1 g2 (.inr ⟨x, hc⟩) fx (fun b o n e => (hs.2 b n).trans e) rfl rfl
    have hL : ∀ {m : Str → Option Value}, W.h.Ns env.locals m → h'.Ns env.locals m := fun n => ns_ko n fun o ho => ⟨o, (hs.2 _ g3.symm).trans ho, .refl o⟩
    refine h { W with s := { W.s with heap := h' } } I' l' rfl ⟨⟨F.stkX l' (let ⟨m, n⟩ := F.ns; ⟨m, hL n⟩) F.ownL, F.fm.kind, F.fm.glob, F.fm.bi, F.fm.cells, fun j y hj aw e => ?_⟩, F.frame, F.top, let ⟨m, n⟩ := F.ns; ⟨m, hL n⟩, F.ownL, F.baseL, F.kinds, fun y d e => ?_, F.cinj, F.inj, F.inj2, fun j y hj => by simpa using F.len j y hj⟩
    · by_cases q : i = j
      · subst q
        have := F.inj2 i x y hi hj
        subst this
        rw [List.getElem?_set_self (F.len i x hi)] at e
        cases e
        exact ⟨v, r.leX l' fx, .inr ⟨hk, c, hc, g1, hn⟩⟩
      · rw [getElem?_set_ne' q] at e
        obtain ⟨w, rw', d⟩ := F.fm.rd j y hj aw e
        refine ⟨w, rw'.leX l' fx, ?_⟩
        rcases d with ⟨k, f, m', n', e'⟩ | ⟨k, d, e', f, n'⟩
        · exact .inl ⟨k, f, m', hL n', e'⟩
        · have hxy : y ≠ x := fun z => q (F.inj i j x hi (z ▸ hj))
          have hdc : d ≠ c := fun z => hxy (F.cinj y x c (z ▸ e') hc)
          exact .inr ⟨k, d, e', f, cell_ko n' fun o ho => ⟨o, (hs.2 d hdc).trans ho, .refl o⟩⟩
    · obtain ⟨k1, k2, k3, w', k4⟩ := F.cell y d e
      by_cases z : d = c
      · subst z; exact ⟨k1, k2, k3, _, hn⟩
      · exact ⟨k1, k2, k3, w', cell_ko k4 fun o ho => ⟨o, (hs.2 d z).trans ho, .refl o⟩⟩
end
end Mine

/-! Soundness, part 14: tests (typed by hand). -/
set_option Elab.async false
namespace Mine
open PySem PySem.SeqAt PySem.Spec PySem.W PySem.Calls

/-- the truth of what an expression gives -/
noncomputable def evT (C : Cx) (m : ME) (h : Hp) (vs : Vs) : Out Bool := (ev C m h vs).bind fun v h => match truth h v with
  | some b => .ok b h
  | Option.none => .fail

noncomputable abbrev BW : Wd → Bool → Bool → Prop := fun _ a b => a = b

section
variable {T : Tp} {G : Gl} {n : Nat} {C : Cx}

/-- is it None; is it True -/
noncomputable def isNA : AV → Bool
  | .none => true
  | _ => false
noncomputable def isTA : AV → Bool
  | .bool true => true
  | _ => false
theorem isNoneC_eq {c : Const} (h : isNoneC c = true) : c = .none := by
  cases c with
  | none => rfl
  | _ => cases h
theorem isIntC_eq {i : Int} {c : Const} (h : isIntC i c = true) : c = .int i := by
  cases c with
  | int c => rw [eq_of_beq (show (i == c) = true from h)]
  | _ => cases h
theorem isTrueC_eq {c : Const} (h : isBoolC true c = true) : c = .bool true := by
  cases c with
  | bool b => rw [← eq_of_beq (show (true == b) = true from h)]
  | _ => cases h
theorem does_is_none {A : Around} {W : Wd} {x : AV} {v : Value} (r : W.V T x v) {Q : Value → Shared → Prop} {E : Value → Shared → Prop} (q : Q (.bool (isNA x)) W.s) : wpAny T.M A (compareOp .Is v .none) Q E W.s := by
  cases r <;> exact wpAny_is_plain rfl q
theorem does_is_true {A : Around} {W : Wd} {x : AV} {v : Value} (r : W.V T x v) {Q : Value → Shared → Prop} {E : Value → Shared → Prop} (q : Q (.bool (isTA x)) W.s) : wpAny T.M A (compareOp .Is v (.bool true)) Q E W.s := by
  cases r with
  | bool b => cases b <;> exact wpAny_is_plain rfl q
  | _ => exact wpAny_is_plain rfl q
theorem ev_isNone (e : ME) (h : Hp) (vs : Vs) : ev C (.isNone e) h vs = (ev C e h vs).bind fun x h => .ok (.bool (isNA x)) h := by
  show (ev C e h vs).bind _ = _; congr 1; funext x h; cases x <;> rfl
theorem ev_isTrue (e : ME) (h : Hp) (vs : Vs) : ev C (.isTrue e) h vs = (ev C e h vs).bind fun x h => .ok (.bool (isTA x)) h := by
  show (ev C e h vs).bind _ = _; congr 1; funext x h; cases x <;> first | rfl | (rename_i b; cases b <;> rfl)
theorem evT_bool {x : Out AV} (f : AV → Bool) : ((x.bind fun v h => .ok (.bool (f v)) h).bind fun v h => match truth h v with | some b => .ok b h | Option.none => .fail : Out Bool) = x.bind fun v h => .ok (f v) h := by
  cases x <;> rfl

noncomputable def ST (T : Tp) (G : Gl) (n : Nat) (C : Cx) (m : ME) : Prop :=
  ∀ (e : Expr) (sl : List (Nat × Str)) (A : Around) (W : Wd) (env : Env) (vs : Vs), mtE G env.scope sl m e = true → AOk n C.hd A → Fm T A W env sl vs → Inv T W → evT C m W.σ vs ≠ .fail →
    Does T A noX W (isTrue e env (eval e env)) (evT C m W.σ vs) BW

theorem does_value_test {A : Around} {W : Wd} {env : Env} {e : Expr} {x : Out AV} (h : Does T A noX W (eval e env) x (VW T)) (hn : (x.bind fun v h => match truth h v with | some b => .ok b h | Option.none => .fail : Out Bool) ≠ .fail)
    (he : isTrue e env (eval e env) = (do let v ← eval e env; standAt e.pos; holding [v] (truthy v))) :
    Does T A noX W (isTrue e env (eval e env)) (x.bind fun v h => match truth h v with | some b => .ok b h | Option.none => .fail) BW := by
  obtain ⟨n1, n2⟩ := Out.bind_ok hn
  refine wpAny_isTrue_value (h.cps (fun v W' val e1 I' l' r => ?_) fun _ _ q => q.bind) he
  have n3 := n2 v W'.σ e1
  refine does_truthD (α := Bool) (g := fun b h => .ok b h) I' r n3 fun b W'' I'' l'' es q => ?_
  exact ⟨b, W'', rfl, by rw [e1]; simp only [Out.bind, q, es], I'', l'.trans l'', rfl⟩

noncomputable def evBT (C : Cx) (op : BoolOp) (ms : List ME) (h : Hp) (vs : Vs) : Out Bool := (evB C op ms h vs).bind fun v h => match truth h v with
  | some b => .ok b h
  | Option.none => .fail
theorem evBT_cons (op : BoolOp) (e : ME) (m : ME) (ms : List ME) (h : Hp) (vs : Vs) : evBT C op (e :: m :: ms) h vs = (evT C e h vs).bind fun b h => match stops op b with | true => .ok b h | false => evBT C op (m :: ms) h vs := by
  unfold evBT evT
  rw [evB_cons]
  cases ev C e h vs with
  | ok v k =>
    simp only [Out.bind]
    cases q : truth k v with
    | none => rfl
    | some b =>
      cases z : stops op b with
      | true => simp only [q, z]
      | false => simp only [z]
  | exc c k => rfl
  | fail => rfl

theorem does_all (op : BoolOp) : ∀ (ms : List ME), (∀ m ∈ ms, ST T G n C m) → ∀ (es : List Expr) (sl : List (Nat × Str)) (A : Around) (W : Wd) (env : Env) (vs : Vs), mtEs G env.scope sl ms es = true → AOk n C.hd A → Fm T A W env sl vs → Inv T W →
    evBT C op ms W.σ vs ≠ .fail → Does T A noX W (allTrue op es env) (evBT C op ms W.σ vs) BW := by
  intro ms
  induction ms with
  | nil => intro _ es sl A W env vs _ _ _ _ hn; exact absurd (by cases op <;> rfl) hn
  | cons m ms ih' =>
    intro ih es sl A W env vs h a F I hn
    obtain ⟨e, es, rfl, _, h1, h2⟩ := mtEs_cons h
    have step : ∀ {r : Out Bool}, evT C m W.σ vs ≠ .fail → (∀ b W', evT C m W.σ vs = .ok b W'.σ → Inv T W' → Le noX W W' → (stops op b = true → PostE T noX W r BW b W'.s) ∧ (stops op b = false → wpAny T.M A (allTrue op es env) (PostE T noX W r BW) (PostX T noX W r) W'.s)) → (∀ e s, PostX T noX W (evT C m W.σ vs) e s → PostX T noX W r e s) → Does T A noX W (allTrue op (e :: es) env) r BW := fun hn' k hX => by
      have D := ih m (List.mem_cons_self ..) e sl A W env vs h1 a F I hn'
      cases op with
      | And =>
        refine wpAny_allTrue_And_cons (D.cps (fun b W' b' e1 I' l' r => ?_) fun _ _ q => hX _ _ q)
        cases r
        cases b with
        | true => exact (k true W' e1 I' l').2 rfl
        | false => exact (k false W' e1 I' l').1 rfl
      | Or =>
        refine wpAny_allTrue_Or_cons (D.cps (fun b W' b' e1 I' l' r => ?_) fun _ _ q => hX _ _ q)
        cases r
        cases b with
        | true => exact (k true W' e1 I' l').1 rfl
        | false => exact (k false W' e1 I' l').2 rfl
    cases ms with
    | nil =>
      obtain rfl := mtEs_nil h2
      have e0 : evBT C op [m] W.σ vs = evT C m W.σ vs := by unfold evBT; rw [evB_one]; rfl
      rw [e0] at hn ⊢
      refine step hn (fun b W' e1 I' l' => ⟨fun _ => ⟨b, W', rfl, e1, I', l', rfl⟩, fun z => ?_⟩) fun _ _ q => q
      cases op with
      | And => cases b with
        | true => exact wpAny_allTrue_And_nil ⟨true, W', rfl, e1, I', l', rfl⟩
        | false => cases z
      | Or => cases b with
        | false => exact wpAny_allTrue_Or_nil ⟨false, W', rfl, e1, I', l', rfl⟩
        | true => cases z
    | cons m' ms =>
      rw [evBT_cons] at hn ⊢
      obtain ⟨n1, n2⟩ := Out.bind_ok hn
      refine step n1 (fun b W' e1 I' l' => ⟨fun z => ⟨b, W', rfl, by rw [e1]; simp only [Out.bind, z], I', l', rfl⟩, fun z => ?_⟩) fun _ _ q => q.bind
      have n3 := n2 b W'.σ e1
      simp only [z] at n3
      exact (ih' (fun q hq => ih q (List.mem_cons_of_mem _ hq)) es sl A W' env vs h2 a (F.le l') I' n3).up l' (by rw [e1]; simp only [Out.bind, z])

/-- an expression whose test is its value's -/
noncomputable def valE : Expr → Bool
  | .Constant .. => true
  | .Name .. => true
  | .BinOp .. => true
  | .List .. => true
  | .Subscript .. => true
  | .Call .. => true
  | .ListComp .. => true
  | .Tuple .. => true
  | .Dict .. => true
  | .Attribute .. => true
  | _ => false
theorem valE_test {e : Expr} {env : Env} (h : valE e = true) : isTrue e env (eval e env) = (do let v ← eval e env; standAt e.pos; holding [v] (truthy v)) := by
  cases e with
  | Constant _ _ _ => rfl
  | Name _ _ => rfl
  | BinOp _ _ _ _ => rfl
  | List _ _ => rfl
  | Subscript _ _ _ => rfl
  | Call _ _ _ _ => rfl
  | ListComp _ _ _ _ => rfl
  | Tuple _ _ _ => rfl
  | Dict _ _ _ => rfl
  | Attribute _ _ _ => rfl
  | _ => cases h

theorem sound_t_aux (k : Nat) (hs : ∀ m : ME, sizeOf m < k + 1 → SE T G n C m) (ih : ∀ m : ME, sizeOf m < k → ST T G n C m) (m : ME) (hk : sizeOf m < k + 1) : ST T G n C m := by
  intro e sl A W env vs hm a F I hn
  have hu : A.units + 65 < cLine := by have := a.units; omega
  have val : valE e = true → Does T A noX W (isTrue e env (eval e env)) (evT C m W.σ vs) BW := fun hv => does_value_test (hs m hk e sl A W env vs hm a F I (Out.bind_ok hn).1) hn (valE_test hv)
  cases m with
  | not e0 =>
    obtain ⟨e', p, rfl, hm⟩ := inv_not hm
    have eq : evT C (.not e0) W.σ vs = (evT C e0 W.σ vs).bind fun b h => .ok (!b) h := by
      show ((ev C e0 W.σ vs).bind _).bind _ = ((ev C e0 W.σ vs).bind _).bind _
      cases ev C e0 W.σ vs with
      | ok v k => simp only [Out.bind]; cases truth k v <;> rfl
      | exc c k => rfl
      | fail => rfl
    rw [eq] at hn ⊢
    obtain ⟨n1, n2⟩ := Out.bind_ok hn
    refine wpAny_isTrue_Not ((ih e0 (by simp at hk; omega) _ sl A W env vs hm a F I n1).cps (fun b W' b' e1 I' l' r => ?_) fun _ _ q => q.bind)
    cases r
    exact ⟨!b, W', rfl, by rw [e1]; rfl, I', l', rfl⟩
  | and es =>
    obtain ⟨es', p, rfl, hm⟩ := inv_and hm
    exact wpAny_isTrue_BoolOp (does_all .And es (fun m' hm' => ih m' (by have := List.sizeOf_lt_of_mem hm'; simp at hk; omega)) _ sl A W env vs hm a F I hn)
  | or es =>
    obtain ⟨es', p, rfl, hm⟩ := inv_or hm
    exact wpAny_isTrue_BoolOp (does_all .Or es (fun m' hm' => ih m' (by have := List.sizeOf_lt_of_mem hm'; simp at hk; omega)) _ sl A W env vs hm a F I hn)
  | isNone e0 =>
    obtain ⟨l', c, k', p', p, rfl, h2, h3⟩ := inv_is hm
    obtain rfl := isNoneC_eq h3
    have eq : evT C (.isNone e0) W.σ vs = (ev C e0 W.σ vs).bind fun v h => .ok (isNA v) h := by unfold evT; rw [ev_isNone]; exact evT_bool isNA
    rw [eq] at hn ⊢
    obtain ⟨n1, n2⟩ := Out.bind_ok hn
    refine wpAny_isTrue_Compare1 ((hs e0 (by simp at hk; omega) _ sl A W env vs h2 a F I n1).cps (fun x W' vx e1 I' l' rx => ?_) fun _ _ q => q.bind) rfl
    refine wpAny_Constant_none (does_is_none rx (wpAny_truthy_bool ⟨isNA x, W', rfl, by rw [e1]; rfl, I', l', rfl⟩))
  | isTrue e0 =>
    obtain ⟨l', c, k', p', p, rfl, h2, h3⟩ := inv_is hm
    obtain rfl := isTrueC_eq h3
    have eq : evT C (.isTrue e0) W.σ vs = (ev C e0 W.σ vs).bind fun v h => .ok (isTA v) h := by unfold evT; rw [ev_isTrue]; exact evT_bool isTA
    rw [eq] at hn ⊢
    obtain ⟨n1, n2⟩ := Out.bind_ok hn
    refine wpAny_isTrue_Compare1 ((hs e0 (by simp at hk; omega) _ sl A W env vs h2 a F I n1).cps (fun x W' vx e1 I' l' rx => ?_) fun _ _ q => q.bind) rfl
    refine wpAny_Constant_bool (does_is_true rx (wpAny_truthy_bool ⟨isTA x, W', rfl, by rw [e1]; rfl, I', l', rfl⟩))
  | cmp l op r =>
    obtain ⟨l', op', r', p, rfl, h1, h2, h0, h3⟩ := inv_cmp hm
    have eq : evT C (.cmp l op r) W.σ vs = (ev C l W.σ vs).bind fun x h => (ev C r h vs).bind fun y h => match cmpA op x y h with | some b => .ok b h | Option.none => .fail := by
      show ((ev C l W.σ vs).bind _).bind _ = _
      cases ev C l W.σ vs with
      | ok v k =>
        simp only [Out.bind]
        cases ev C r k vs with
        | ok w k' => simp only; cases cmpA op v w k' <;> rfl
        | exc c k => rfl
        | fail => rfl
      | exc c k => rfl
      | fail => rfl
    rw [eq] at hn ⊢
    obtain ⟨n1, n2⟩ := Out.bind_ok hn
    refine wpAny_isTrue_Compare1 ((hs l (by simp at hk; omega) _ sl A W env vs h2 a F I n1).cps (fun x W' vx e1 I' l' rx => ?_) fun _ _ q => q.bind) (marks_of op' h0)
    obtain ⟨m1, m2⟩ := Out.bind_ok (n2 x W'.σ e1)
    refine (hs r (by simp at hk; omega) _ sl A W' env vs h3 a (F.le l') I' m1).cps (fun y W'' vy e2 I'' l'' ry => ?_) fun _ _ q => q.bind.up l' (by rw [e1]; rfl)
    have n4 := m2 y W''.σ e2
    cases q : cmpA op x y W''.σ with
    | none => rw [q] at n4; exact absurd rfl n4
    | some b =>
      refine does_cmpA I'' h1 (rx.le l'') ry hu q _ _ fun k => wpAny_truthy_bool ?_
      have g := I''.toks k
      exact ⟨b, { W'' with s := { W''.s with toks := k } }, rfl, by rw [e1]; show (ev C r W'.σ vs).bind _ = _; rw [e2]; simp only [Out.bind, q], g.1, (l'.trans l'').trans g.2, rfl⟩
  | none => obtain ⟨x, hx, _⟩ := any_inv hm; obtain ⟨_, _, rfl⟩ := asC_inv hx; exact val rfl
  | bool _ => obtain ⟨x, hx, _⟩ := any_inv hm; obtain ⟨_, _, rfl⟩ := asC_inv hx; exact val rfl
  | int _ => obtain ⟨x, hx, _⟩ := any_inv hm; obtain ⟨_, _, rfl⟩ := asC_inv hx; exact val rfl
  | str _ => obtain ⟨x, hx, _⟩ := any_inv hm; obtain ⟨_, _, rfl⟩ := asC_inv hx; exact val rfl
  | var _ => obtain ⟨x, hx, _⟩ := any_inv hm; obtain ⟨_, rfl⟩ := asName_inv hx; exact val rfl
  | powc _ _ => obtain ⟨x, hx, _⟩ := any_inv hm; obtain ⟨_, rfl⟩ := asBin_inv hx; exact val rfl
  | bin _ _ _ => obtain ⟨x, hx, _⟩ := any_inv hm; obtain ⟨_, rfl⟩ := asBin_inv hx; exact val rfl
  | list _ => obtain ⟨x, hx, _⟩ := any_inv hm; obtain ⟨_, rfl⟩ := asLst_inv hx; exact val rfl
  | idx _ _ => obtain ⟨x, hx, _⟩ := any_inv hm; obtain ⟨_, rfl⟩ := asSub_inv hx; exact val rfl
  | slice _ _ _ => obtain ⟨x, hx, _⟩ := any_inv hm; obtain ⟨_, rfl⟩ := asSub_inv hx; exact val rfl
  | call _ _ => obtain ⟨x, hx, _⟩ := any_inv hm; obtain rfl := asCall_inv hx; exact val rfl
  | bi _ _ => obtain ⟨x, hx, _⟩ := any_inv hm; obtain rfl := asCall_inv hx; exact val rfl
  | bm _ _ _ => obtain ⟨x, hx, _⟩ := any_inv hm; obtain rfl := asCall_inv hx; exact val rfl
  | inst _ _ => obtain ⟨x, hx, _⟩ := any_inv hm; obtain rfl := asCall_inv hx; exact val rfl
  | tup _ => obtain ⟨x, hx, _⟩ := any_inv hm; obtain ⟨_, _, rfl⟩ := asTup_inv hx; exact val rfl
  | dict _ => obtain ⟨x, hx, _⟩ := any_inv hm; obtain ⟨_, _, _, rfl, _, _⟩ := asDict_inv hx; exact val rfl
  | attr _ _ => obtain ⟨x, hx, _⟩ := any_inv hm; obtain rfl := asAttr_inv hx; exact val rfl
  | new _ _ => obtain ⟨x, hx, _⟩ := any_inv hm; obtain rfl := asCall_inv hx; exact val rfl
  | meth _ _ _ => obtain ⟨x, hx, _⟩ := any_inv hm; obtain rfl := asCall_inv hx; exact val rfl
  | comp _ _ _ _ => obtain ⟨x, hx, _⟩ := any_inv hm; obtain ⟨_, rfl⟩ := asComp_inv hx; exact val rfl

theorem tests_of (k : Nat) (hs : ∀ m : ME, sizeOf m < k → SE T G n C m) : ∀ m : ME, sizeOf m < k → ST T G n C m := by
  have h : ∀ j, j ≤ k → ∀ m : ME, sizeOf m < j → ST T G n C m := fun j => by
    induction j with
    | zero => intro _ m h; omega
    | succ j ih => exact fun hj m hk => sound_t_aux j (fun m' hm' => hs m' (by omega)) (fun m' hm' => ih (by omega) m' hm') m hk
  exact h k (Nat.le_refl _)
end
end Mine

/-! Soundness, part 15: iterators (typed by hand). -/
set_option Elab.async false
namespace Mine
open PySem PySem.SeqAt PySem.Spec PySem.W PySem.Calls

noncomputable def srcGet : Src → Hp → Option (List AV)
  | .fixed xs, _ => some xs
  | .list l _, h => getL l h
  | .dict l ep n, h => getD l ep n h
noncomputable def srcN : Src → Nat
  | .fixed xs => xs.length
  | .list _ n => n
  | .dict _ _ n => n

theorem iterL_eq {σ ρ : Type} (bad : ρ) (f : AV → σ → It σ ρ) (xs : List AV) : ∀ (k i : Nat) (s : σ), i + k = xs.length → iterL f (xs.drop i) s = iterR (fun _ => some xs) bad f (k + 1) i s := by
  intro k
  induction k with
  | zero =>
    intro i s h
    have : xs.length ≤ i := by omega
    rw [List.drop_eq_nil_of_le this]
    simp only [iterL, iterR]
    rw [List.getElem?_eq_none this]
  | succ k ih =>
    intro i s h
    have hi : i < xs.length := by omega
    rw [List.drop_eq_getElem_cons hi]
    rw [iterR]
    simp only [iterL, List.getElem?_eq_getElem hi]
    cases f xs[i] s with
    | go s' => simp only; exact ih (i + 1) s' (by omega)
    | stop x => rfl

theorem iter_eq {τ ρ : Type} (src : Src) (bad : ρ) (f : AV → Hp × τ → It (Hp × τ) ρ) (s : Hp × τ) : iter src bad f s = iterR (fun st => srcGet src st.1) bad f (srcN src + 1) 0 s := by
  cases src with
  | fixed xs => simp only [iter, srcN]; exact iterL_eq bad f xs xs.length 0 s (by omega)
  | list l n => rfl
  | dict l ep n => rfl

section
variable {T : Tp} {A : Around} {W W' : Wd}

/-- an iterator over a source, at a place -/
inductive ItAt (T : Tp) (W : Wd) (J : Addr) : Src → Nat → Prop
  | rng {a : Int} {k i : Nat} : IsRangeIter W.h J (a + i) (k - i) 1 → ItAt T W J (.fixed (ups a k)) i
  | list {l k i : Nat} {a : Addr} : W.h.IsListIter J a i → W.bt[l]? = some a → ItAt T W J (.list l k) i
  | dict {l ep k i : Nat} {a : Addr} : W.h.IsKeyIter J a i k ep → W.bt[l]? = some a → ItAt T W J (.dict l ep k) i

structure ItOk (T : Tp) (W : Wd) (J : Addr) (src : Src) (i : Nat) : Prop where
  own : W.own J = .free
  base : T.base.get? J = none
  it : ItAt T W J src i

theorem ItAt.there {J : Addr} {src : Src} {i : Nat} (h : ItAt T W J src i) : ∃ o, W.h.get? J = some o ∧ o.cls ≠ .type "tuple" ∧ o.cls ≠ .type "range" := by
  cases h with
  | rng h => exact ⟨_, h, by simp, by simp⟩
  | list h _ => obtain ⟨o, h1, h2, _⟩ := h; exact ⟨o, h1, by rw [h2]; simp, by rw [h2]; simp⟩
  | dict h _ => obtain ⟨o, h1, h2, _⟩ := h; exact ⟨o, h1, by rw [h2]; simp, by rw [h2]; simp⟩

theorem ItOk.frX {J : Addr} {src : Src} {i : Nat} (h : ItOk T W J src i) : FrX (fun a => a = J) W.own W.h := fun a q => ⟨q ▸ h.own, fun o e => by
  subst q
  obtain ⟨o', h1, h2⟩ := h.it.there
  rw [e] at h1; cases h1
  exact .inr (.inr h2)⟩

theorem ItOk.leX {X : Addr → Prop} {J : Addr} {src : Src} {i : Nat} (h : ItOk T W J src i) (x : Le X W W') (fx : FrX X W.own W.h) (hJ : ¬ X J) : ItOk T W' J src i := by
  obtain ⟨o, ho, hc⟩ := h.it.there
  have hk : ∀ o, W.h.get? J = some o → W'.h.get? J = some o := fun o e => by
    obtain ⟨o', e', k⟩ := x.ext.kp J o e h.own hJ
    by_cases z : ∃ es n, o.data = .dict es n
    · exfalso
      obtain ⟨_, _, z⟩ := z
      cases h.it with
      | rng h => have h' : W.h.get? J = _ := h; rw [e] at h'; cases h'; cases z
      | list h _ => obtain ⟨o', h1, _, h2⟩ := h; rw [e] at h1; cases h1; rw [z] at h2; cases h2
      | dict h _ => obtain ⟨o', h1, _, h2⟩ := h; rw [e] at h1; cases h1; rw [z] at h2; cases h2
    · rw [k.same fun es n q => z ⟨es, n, q⟩] at e'; exact e'
  refine ⟨(x.ext.ow _ _ ho hJ (by rw [h.own]; exact Ow.noConfusion)).trans h.own, h.base, ?_⟩
  cases h.it with
  | rng q => exact .rng (hk _ q)
  | list q e =>
    obtain ⟨o', h1, h2⟩ := q
    obtain ⟨r, er⟩ := x.ext.bt
    exact .list ⟨o', hk _ h1, h2⟩ (by rw [er, List.getElem?_append_left (List.getElem?_eq_some_iff.mp e).1]; exact e)
  | dict q e =>
    obtain ⟨o', h1, h2⟩ := q
    obtain ⟨r, er⟩ := x.ext.bt
    exact .dict ⟨o', hk _ h1, h2⟩ (by rw [er, List.getElem?_append_left (List.getElem?_eq_some_iff.mp e).1]; exact e)

theorem getD_ok {l ep n : Nat} {σ : Hp} {xs : List AV} (h : getD l ep n σ = some xs) : ∃ es, σ[l]? = some (.dict (some ep) es) ∧ es.length = n ∧ xs = es.map (·.1) := by
  unfold getD at h
  cases e : dct σ[l]? with
  | none => rw [e] at h; cases h
  | some p =>
    rw [e] at h
    simp only at h
    by_cases q : p.1 = some ep ∧ p.2.length = n
    · rw [if_pos q] at h
      cases h
      exact ⟨p.2, by rw [dct_ok e, q.1], q.2, rfl⟩
    · rw [if_neg q] at h; cases h
theorem KV.at {own : Addr → Ow} {bt : List Addr} {h : Heap} {es : List (AV × AV)} {kvs : List ((Str ⊕ Int) × Value)} (r : KV T own bt h es kvs) : ∀ {i : Nat} {p : AV × AV}, es[i]? = some p → ∃ w, kvs[i]? = some (kOf p.1, w) ∧ keyOk p.1 := by
  induction r with
  | nil => intro i p e; cases e
  | cons ok _ _ ih =>
    intro i p e
    cases i with
    | zero => cases e; exact ⟨_, rfl, ok⟩
    | succ i => exact ih e
theorem ups_get (a : Int) : ∀ (k i : Nat), (ups a k)[i]? = if i < k then some (.int (a + i)) else none
  | 0, i => by simp [ups]
  | k + 1, 0 => by simp [ups]
  | k + 1, i + 1 => by
    rw [ups, List.getElem?_cons_succ, ups_get (a + 1) k i]
    by_cases h : i < k
    · rw [if_pos h, if_pos (by omega)]; congr 2; omega
    · rw [if_neg h, if_neg (by omega)]

/-- one address is touched, from the view of the iterator -/
theorem touch_it (I : Inv T W) {J : Addr} {src : Src} {i : Nat} (h : ItOk T W J src i) {h' : Heap} {k : Nat} (hs : ∀ b o, b ≠ J → W.h.get? b = some o → h'.get? b = some o) :
    Inv T { W with s := { W.s with heap := h', toks := k } } ∧ Le (fun a => a = J) W { W with s := { W.s with heap := h', toks := k } } :=
  I.touch (s' := { W.s with heap := h', toks := k }) h.own h.base rfl h.frX hs rfl rfl

theorem does_next_item (I : Inv T W) {J : Addr} {src : Src} {i : Nat} (h : ItOk T W J src i) {xs : List AV} {av : AV} (hx : srcGet src W.σ = some xs) (hi : xs[i]? = some av) {Q : Option Value → Shared → Prop} {E : Value → Shared → Prop}
    (q : ∀ v W', Inv T W' → Le (fun a => a = J) W W' → W'.σ = W.σ → ItOk T W' J src (i + 1) → W'.V T av v → Q (some v) W'.s) : wpAny T.M A (pyNext (.ref J)) Q E W.s := by
  have key : ∀ {h' : Heap} {k : Nat} {v : Value}, Heap.SameBut J W.h h' → ItAt T { W with s := { W.s with heap := h', toks := k } } J src (i + 1) → W.V T av v → Q (some v) { W.s with heap := h', toks := k } := fun hs hit r => by
    obtain ⟨I', l'⟩ := touch_it I h fun b o n e => (hs.2 b n).trans e
    exact q _ _ I' l' rfl ⟨h.own, h.base, hit⟩ (r.leX l' h.frX)
  cases h.it with
  | rng hit =>
    rename_i a k
    simp only [srcGet, Option.some.injEq] at hx
    subst hx
    rw [ups_get] at hi
    split at hi
    · cases hi
      rename_i hik
      refine wpAny_pyNext_range_item hit (by omega) fun h' hit' hs => ?_
      refine key hs (.rng ?_) (.int _ _)
      have e1 : a + ((i + 1 : Nat) : Int) = a + i + 1 := by omega
      have e2 : (k : Int) - ((i + 1 : Nat) : Int) = k - i - 1 := by omega
      rw [e1, e2]; exact hit'
    · cases hi
  | list hit e =>
    rename_i l k a
    have hσ : W.σ[l]? = some (.list xs) := lst_ok hx
    obtain ⟨_, vs, m, ea, _, h1, h2, h3⟩ := I.listAt hσ (.ref e)
    cases ea
    obtain ⟨v, ev, rv⟩ := vrs_at h2 hi
    refine wpAny_pyNext_list_item hit ⟨_, h1, rfl, m, rfl⟩ ev fun h' hit' hs => ?_
    exact key hs (.list hit' e) rv
  | dict hit e =>
    rename_i l ep k a
    obtain ⟨es, hσ, rfl, hxs⟩ := getD_ok hx
    subst hxs
    obtain ⟨_, kvs, n, ea, _, hd, hn, kv, _, _⟩ := I.dict hσ (.ref e)
    cases ea
    obtain rfl := hn ep rfl
    rw [List.getElem?_map] at hi
    obtain ⟨p, hp, rfl⟩ := Option.map_eq_some_iff.mp hi
    obtain ⟨w, ew, ok⟩ := kv.at hp
    refine wpAny_pyNext_dict_item (by rw [kv.length]; exact hit) hd ew fun key' h' hkey hit' hs => ?_
    exact key (k := W.s.toks) hs (.dict (by rw [← kv.length]; exact hit') e) (vr_key ok hkey)

theorem does_next_end (I : Inv T W) (hh : A.handled = none) {J : Addr} {src : Src} {i : Nat} (h : ItOk T W J src i) {xs : List AV} (hx : srcGet src W.σ = some xs) (hi : xs[i]? = none) {Q : Option Value → Shared → Prop} {E : Value → Shared → Prop}
    (q : ∀ W', Inv T W' → Le (fun a => a = J) W W' → W'.σ = W.σ → Q none W'.s) : wpAny T.M A (pyNext (.ref J)) Q E W.s := by
  have key : ∀ {h' : Heap}, Heap.ExtBut J W.h h' → Q none { W.s with heap := h' } := fun hs => by
    obtain ⟨I', l'⟩ := touch_it (k := W.s.toks) I h fun b o n e => hs b o n e
    exact q _ I' l' rfl
  cases h.it with
  | rng hit =>
    rename_i a k
    simp only [srcGet, Option.some.injEq] at hx
    subst hx
    rw [ups_get] at hi
    split at hi
    · cases hi
    · exact wpAny_pyNext_range_end hh hit (by omega) fun h' hs => key hs
  | list hit e =>
    rename_i l k a
    have hσ : W.σ[l]? = some (.list xs) := lst_ok hx
    obtain ⟨_, vs, m, ea, _, h1, h2, h3⟩ := I.listAt hσ (.ref e)
    cases ea
    refine wpAny_pyNext_list_end hh hit (items := vs) ⟨_, h1, rfl, m, rfl⟩ ?_ fun h' hs => key hs
    rw [List.getElem?_eq_none_iff] at hi
    exact Array.getElem?_eq_none (by rw [vrs_size h2]; exact hi)
  | dict hit e =>
    rename_i l ep k a
    obtain ⟨es, hσ, rfl, hxs⟩ := getD_ok hx
    subst hxs
    obtain ⟨_, kvs, n, ea, _, hd, hn, kv, _, _⟩ := I.dict hσ (.ref e)
    cases ea
    obtain rfl := hn ep rfl
    rw [List.getElem?_map, Option.map_eq_none_iff, List.getElem?_eq_none_iff] at hi
    exact wpAny_pyNext_dict_end hh (by rw [kv.length]; exact hit) hd (by rw [List.getElem?_eq_none_iff, kv.length]; exact hi) fun h' hs => key hs

theorem does_iter (I : Inv T W) {av : AV} {v : Value} {src : Src} (r : W.V T av v) (e : srcA W.σ av = some src) {Q : Value → Shared → Prop} {E : Value → Shared → Prop}
    (q : ∀ J W', Inv T W' → Le noX W W' → W'.σ = W.σ → W.h.get? J = none → (∀ b o, W.h.get? b = some o → W'.h.get? b = some o) → ItOk T W' J src 0 → Q (.ref J) W'.s) : wpAny T.M A (pyIter v) Q E W.s := by
  have key : ∀ ob : Obj, ob.isFreed = false → ItAt T { W with s := { W.s with heap := W.h.push ob } } W.h.objs.size src 0 → Q (.ref W.h.objs.size) { W.s with heap := W.h.push ob } := fun ob hf hit => by
    have g := I.grow (s' := { W.s with heap := W.h.push ob }) (fun a q e => Heap.get?_push_of_some _ e) rfl rfl
    refine q _ _ g.1 g.2 rfl (get_size _) (fun a q e => Heap.get?_push_of_some _ e) ⟨own_new I (get_size _), ?_, hit⟩
    cases z : T.base.get? W.h.objs.size with
    | none => rfl
    | some o => exact absurd (Heap.lt_size (I.base _ _ z)) (Nat.lt_irrefl _)
  cases r with
  | ref hl =>
    rename_i l a
    have e0 : srcA W.σ (.ref l) = match lst W.σ[l]? with | some xs => some (.list l xs.length) | none => (match dct W.σ[l]? with | some p => p.1.map fun ep => .dict l ep p.2.length | none => none) := rfl
    rw [e0] at e
    cases hx : lst W.σ[l]? with
    | some xs =>
      rw [hx] at e
      cases e
      obtain ⟨_, vs, m, ea, _, h1, h2, h3⟩ := I.listAt (lst_ok hx) (.ref hl)
      cases ea
      exact wpAny_pyIter_list ⟨_, h1, rfl, m, rfl⟩ (key _ rfl (.list ⟨_, Heap.get?_push_size _ rfl, rfl, rfl⟩ hl))
    | none =>
      rw [hx] at e
      simp only at e
      cases hy : dct W.σ[l]? with
      | none => rw [hy] at e; cases e
      | some p =>
        rw [hy] at e
        obtain ⟨ep, e1, rfl⟩ := Option.map_eq_some_iff.mp e
        obtain ⟨_, kvs, n, ea, _, hd, hn, kv, _, hs⟩ := I.dict (dct_ok hy) (.ref hl)
        cases ea
        obtain rfl := hn ep e1
        refine wpAny_pyIter_dict hs hd (key _ rfl (.dict ⟨_, Heap.get?_push_size _ rfl, rfl, ?_⟩ hl))
        rw [kv.length]; rfl
  | rng h1 h2 h3 h4 h5 h6 =>
    rename_i x y a t u v'
    cases e
    have hl : (lim : Int) = 16777216 := rfl
    refine wpAny_pyIter_range h1 (small_one (by omega) (by omega) (by omega) (by omega)) (key _ rfl (.rng ?_))
    have e1 : Builtin.Range.rangeSize x y 1 = (((y - x).toNat : Nat) : Int) := by rw [rangeSize_one]; split <;> omega
    rw [e1]
    have := Heap.get?_push_size W.h (o := { cls := .type "range_iterator", data := .fields #[rawInt x, rawInt (((y - x).toNat : Nat) : Int), rawInt 1] }) rfl
    simpa using this
  | _ => cases e
end
end Mine

/-! Soundness, part 15b: comprehensions (typed by hand). -/
set_option Elab.async false
namespace Mine
open PySem PySem.SeqAt PySem.Spec PySem.W PySem.Calls

section
variable {T : Tp} {A : Around} {W : Wd}

theorem does_self {J : Addr} {src : Src} {i : Nat} (h : ItOk T W J src i) {Q : Value → Shared → Prop} {E : Value → Shared → Prop} (q : Q (.ref J) W.s) : wpAny T.M A (pyIter (.ref J)) Q E W.s := by
  cases h.it with
  | rng hit => exact wpAny_pyIter_rangeiter hit q
  | list hit _ => exact wpAny_pyIter_listiter hit q
  | dict hit _ => exact wpAny_pyIter_keyiter hit q

/-! ### the closure -/
noncomputable def closL (cells : List (Str × Addr)) : List (Str × NameKind) → List (Str × Addr) → List (Str × Addr)
  | [], acc => acc
  | (n, k) :: r, acc => if k == .free then closL cells r ((n, (cells.lookup n).getD 0) :: acc) else closL cells r acc

theorem closure_eq {scope : Scope} {env : Env} (h : ∀ p ∈ scope.names, p.2 = .free → ∃ c, env.cells.lookup p.1 = some c) : closureFor scope env = pure (closL env.cells scope.names []) := by
  unfold closureFor
  have key : ∀ (names : List (Str × NameKind)) (acc : List (Str × Addr)), (∀ p ∈ names, p.2 = .free → ∃ c, env.cells.lookup p.1 = some c) →
      (forIn names acc fun (x : Str × NameKind) (cs : List (Str × Addr)) => match x with
          | (name, kind) => if (kind == NameKind.free) = true then (do let c ← cellOf env name; pure (ForInStep.yield ((name, c) :: cs)) : Sem (ForInStep (List (Str × Addr)))) else pure (ForInStep.yield cs)) = pure (closL env.cells names acc) := by
    intro names
    induction names with
    | nil => intro acc _; rfl
    | cons p r ih =>
      intro acc hp
      obtain ⟨nm, k⟩ := p
      rw [List.forIn_cons]
      simp only [closL]
      by_cases hk : (k == NameKind.free) = true
      · obtain ⟨c, hc⟩ := hp (nm, k) (by simp) (eq_of_beq hk)
        simp only [hk, if_true]
        have e : cellOf env nm = pure c := by unfold cellOf; rw [hc]
        rw [e, pure_bind, pure_bind]
        simp only
        rw [ih _ fun q hq => hp q (by simp [hq]), hc]
        rfl
      · simp only [hk, if_false, Bool.false_eq_true]
        rw [pure_bind]
        exact ih _ fun q hq => hp q (by simp [hq])
  have e := key scope.names [] h
  show (forIn scope.names [] _ >>= fun cs => pure cs) = _
  rw [bind_pure]
  exact e

theorem closL_get {cells : List (Str × Addr)} {y : Str} {c : Addr} (hc : cells.lookup y = some c) : ∀ (names : List (Str × NameKind)) (acc : List (Str × Addr)), (acc.lookup y = some c ∨ (acc.lookup y = none ∧ (y, NameKind.free) ∈ names)) → (closL cells names acc).lookup y = some c
  | [], acc, h => by
    rcases h with h | ⟨_, h⟩
    · exact h
    · cases h
  | (n, k) :: r, acc, h => by
    simp only [closL]
    by_cases hk : (k == NameKind.free) = true
    · rw [if_pos hk]
      refine closL_get hc r _ ?_
      by_cases hn : (y == n) = true
      · have : y = n := eq_of_beq hn
        subst this
        exact .inl (by simp [hc])
      · have hn' : (y == n) = false := by simpa using hn
        rcases h with h | ⟨h1, h2⟩
        · exact .inl (by rw [List.lookup_cons, hn']; exact h)
        · refine .inr ⟨by rw [List.lookup_cons, hn']; exact h1, ?_⟩
          rcases List.mem_cons.mp h2 with q | q
          · cases q; simp at hn
          · exact q
    · rw [if_neg hk]
      refine closL_get hc r _ ?_
      rcases h with h | ⟨h1, h2⟩
      · exact .inl h
      · refine .inr ⟨h1, ?_⟩
        rcases List.mem_cons.mp h2 with q | q
        · cases q; exact absurd rfl hk
        · exact q
end
end Mine

/-! Soundness, part 15c: comprehensions (typed by hand). -/
set_option Elab.async false
namespace Mine
open PySem PySem.SeqAt PySem.Spec PySem.W PySem.Calls

theorem relabel_eq (sc : Scope) (env : Env) : relabel sc env = relabelS sc env.scope := rfl

theorem relabel_free {sc : Scope} (hf : (sc.kind == ScopeKind.function) = true) : ∀ {names : List (Str × NameKind)} {y : Str}, names.lookup y = some .free → sc.names.lookup y = some .cell →
    (names.map fun (n, k) => if (k == NameKind.free && sc.kind == .function && sc.names.lookup n == some .cell) then (n, NameKind.cell) else (n, k)).lookup y = some .cell
  | [], _, h, _ => by simp at h
  | (n, k) :: r, y, h, hc => by
    have ih := @relabel_free sc hf r y
    show List.lookup y ((if (k == NameKind.free && sc.kind == .function && sc.names.lookup n == some .cell) = true then (n, NameKind.cell) else (n, k)) :: _) = _
    cases hx : y == n with
    | true =>
      simp only [List.lookup_cons, hx] at h
      cases h
      have : y = n := eq_of_beq hx
      subst this
      rw [hf, hc]
      simp
    | false =>
      simp only [List.lookup_cons, hx] at h
      by_cases hq : (k == NameKind.free && sc.kind == .function && sc.names.lookup n == some .cell) = true
      · rw [if_pos hq]; simp only [List.lookup_cons, hx]; exact ih h hc
      · rw [if_neg hq]; simp only [List.lookup_cons, hx]; exact ih h hc
theorem relabel_cell {sc : Scope} : ∀ {names : List (Str × NameKind)} {y : Str}, (∀ p ∈ names, p.2 ≠ .cell) →
    (names.map fun (n, k) => if (k == NameKind.free && sc.kind == .function && sc.names.lookup n == some .cell) then (n, NameKind.cell) else (n, k)).lookup y = some .cell → (y, NameKind.free) ∈ names ∧ sc.names.lookup y = some .cell
  | [], _, _, h => by simp at h
  | (n, k) :: r, y, hc, h => by
    have ih := @relabel_cell sc r y fun p hp => hc p (by simp [hp])
    have h' : List.lookup y ((if (k == NameKind.free && sc.kind == .function && sc.names.lookup n == some .cell) = true then (n, NameKind.cell) else (n, k)) :: (r.map fun (n, k) => if (k == NameKind.free && sc.kind == .function && sc.names.lookup n == some .cell) then (n, NameKind.cell) else (n, k))) = some .cell := h
    by_cases hq : (k == NameKind.free && sc.kind == .function && sc.names.lookup n == some .cell) = true
    · rw [if_pos hq] at h'
      cases hx : y == n with
      | true =>
        have : y = n := eq_of_beq hx
        subst this
        simp only [Bool.and_eq_true, beq_iff_eq] at hq
        exact ⟨by rw [hq.1.1]; simp, hq.2⟩
      | false =>
        simp only [List.lookup_cons, hx] at h'
        exact ⟨by simp [(ih h').1], (ih h').2⟩
    · rw [if_neg hq] at h'
      cases hx : y == n with
      | true =>
        simp only [List.lookup_cons, hx, Option.some.injEq] at h'
        exact absurd h' (hc (n, k) (by simp))
      | false =>
        simp only [List.lookup_cons, hx] at h'
        exact ⟨by simp [(ih h').1], (ih h').2⟩
theorem lookup_mem {names : List (Str × NameKind)} {y : Str} {k : NameKind} (h : names.lookup y = some k) : (y, k) ∈ names := by
  obtain ⟨l1, l2, e, _⟩ := List.lookup_eq_some_iff.mp h
  rw [e]; simp

structure ScOk (sc' sc : Scope) (nm : Str) : Prop where
  kind : sc'.kind = .function
  nm : sc'.names.lookup nm = some .local
  cell : ∀ p ∈ sc'.names, p.2 ≠ .cell
  loc : ∀ p ∈ sc'.names, p.2 = .local → sc'.names.lookup p.1 = some .local
  free : ∀ p ∈ sc'.names, p.2 = .free → sc.names.lookup p.1 = some .cell
theorem scOk_of {sc' sc : Scope} {nm : Str} (h : scOk sc' sc nm = true) : ScOk sc' sc nm := by
  simp only [scOk, Bool.and_eq_true, beq_iff_eq, List.all_eq_true, Bool.or_eq_true, Bool.not_eq_true', beq_eq_false_iff_ne] at h
  obtain ⟨⟨h1, h2⟩, h3⟩ := h
  exact ⟨h1, h2, fun p hp => (h3 p hp).1.1, fun p hp q => (h3 p hp).1.2.resolve_left fun z => z q, fun p hp q => (h3 p hp).2.resolve_left fun z => z q⟩

section
variable {T : Tp} {G : Gl} {n : Nat} {C : Cx} {A : Around}

theorem Fm.comp {W : Wd} {env : Env} {sl : List (Nat × Str)} {vs : Vs} (F : Fm T A W env sl vs) {sc : Scope} {nm : Str} (ok : ScOk sc env.scope nm) {Ca : Addr} (hC : W.own Ca = .free) {m : Str → Option Value} (hns : W.h.Ns Ca m) {v : Value} {av : AV}
    (hm : m nm = some v) (r : W.V T av v) {x : Nat} : Fm T A W (compEnvC sc (closL env.cells sc.names []) Ca env) (compSl sc env.scope sl x nm) (vs.set x (some av)) where
  stk := F.stk
  kind := ok.kind
  glob := F.glob
  bi := F.bi
  cells := fun y h => by
    obtain ⟨h1, h2⟩ := relabel_cell (sc := env.scope) ok.cell h
    obtain ⟨c, hc⟩ := F.cells y h2
    exact ⟨c, closL_get hc _ _ (.inr ⟨rfl, h1⟩)⟩
  rd := fun i y hi aw e => by
    rcases List.mem_cons.mp hi with q | q
    · cases q
      by_cases hl : x < vs.length
      · rw [List.getElem?_set_self hl] at e
        cases e
        exact ⟨v, r, .inl ⟨lookup_relabel_local ok.nm, hC, m, hns, hm⟩⟩
      · rw [List.getElem?_eq_none (by simpa using hl)] at e; cases e
    · obtain ⟨q1, q2⟩ := List.mem_filter.mp q
      simp only [Bool.and_eq_true, Bool.not_eq_true', beq_eq_false_iff_ne, beq_iff_eq] at q2
      obtain ⟨⟨h1, h2⟩, h3⟩ := q2
      rw [getElem?_set_ne' (fun z => h1 z.symm)] at e
      obtain ⟨w, rw', d⟩ := F.rd i y q1 aw e
      refine ⟨w, rw', ?_⟩
      rcases d with ⟨k, _⟩ | ⟨k, c, ec, f, nn⟩
      · have : env.scope.names.lookup y = some .local := k
        rw [h3] at this; cases this
      · exact .inr ⟨relabel_free (by rw [F.kind]; rfl) h2 h3, c, closL_get ec _ _ (.inr ⟨rfl, lookup_mem h2⟩), f, nn⟩

theorem tests_false {env : Env} (ifs : List Expr) : (forIn ifs false fun c r => if r = true then (do let ok ← isTrue c env (eval c env); pure (ForInStep.yield ok) : Sem (ForInStep Bool)) else pure (ForInStep.yield r)) = pure false :=
  forIn_yield_id' ifs
where
  forIn_yield_id' {env : Env} : ∀ ifs : List Expr, (forIn ifs false fun c r => if r = true then (do let ok ← isTrue c env (eval c env); pure (ForInStep.yield ok) : Sem (ForInStep Bool)) else pure (ForInStep.yield r)) = pure false
    | [] => rfl
    | e :: r => by
      rw [List.forIn_cons]
      simp only [Bool.false_eq_true, if_false]
      rw [pure_bind]
      exact forIn_yield_id' r

theorem does_tests : ∀ (ms : List ME), (∀ m ∈ ms, ST T G n C m) → ∀ (es : List Expr) (sl : List (Nat × Str)) (W : Wd) (env : Env) (vs : Vs), mtEs G env.scope sl ms es = true → AOk n C.hd A → Fm T A W env sl vs → Inv T W →
    evConds C ms W.σ vs ≠ .fail → Does T A noX W (forIn es true fun c r => if r = true then (do let ok ← isTrue c env (eval c env); pure (ForInStep.yield ok) : Sem (ForInStep Bool)) else pure (ForInStep.yield r)) (evConds C ms W.σ vs) BW := by
  intro ms
  induction ms with
  | nil =>
    intro _ es sl W env vs h _ _ I _
    rw [mtEs_nil h]
    exact wpAny_pure ⟨true, W, rfl, rfl, I, .refl _ _, rfl⟩
  | cons m ms ih' =>
    intro ih es sl W env vs h a F I hn
    obtain ⟨e, es, rfl, _, h1, h2⟩ := mtEs_cons h
    have eq : evConds C (m :: ms) W.σ vs = (evT C m W.σ vs).bind fun b h => match b with | true => evConds C ms h vs | false => .ok false h := by
      rw [evConds_q2]
      unfold evT
      cases ev C m W.σ vs with
      | ok v k => simp only [Out.bind]; rcases truth k v with _ | _ | _ <;> rfl
      | exc c k => rfl
      | fail => rfl
    rw [eq] at hn ⊢
    obtain ⟨n1, n2⟩ := Out.bind_ok hn
    rw [List.forIn_cons]
    simp only [if_true]
    refine wpAny_bind (wpAny_bind ((ih m (List.mem_cons_self ..) e sl A W env vs h1 a F I n1).cps (fun b W' b' e1 I' l' r => wpAny_pure ?_) fun _ _ q => q.bind))
    cases r
    cases b with
    | true => exact (ih' (fun q hq => ih q (List.mem_cons_of_mem _ hq)) es sl W' env vs h2 a (F.le l') I' (n2 true W'.σ e1)).up l' (by rw [e1]; rfl)
    | false => exact wpAny_of_eq (tests_false es) ⟨false, W', rfl, by rw [e1]; rfl, I', l', rfl⟩
end
end Mine

/-! Soundness, part 15d: comprehensions, the loop (typed by hand). -/
set_option Elab.async false
namespace Mine
open PySem PySem.SeqAt PySem.Spec PySem.W PySem.Calls

section
variable {T : Tp} {G : Gl} {n : Nat} {C : Cx} {A : Around}

theorem Inv.adopt {W : Wd} (I : Inv T W) {D : Addr} (hD : W.own D = .free) (hb : T.base.get? D = none) (hi : cStatics < D) {arr : Array Value} {k : Nat} {ys : List AV} (ho : W.h.get? D = some { cls := .type "list", data := .seq arr k }) (r : W.Vs T ys arr.toList) (hl : ys.length ≤ lim) :
    Inv T (W.take D D (.list ys)) ∧ Le (fun b => b = D ∨ b = D) W (W.take D D (.list ys)) ∧ (W.take D D (.list ys)).V T (.ref W.σ.length) (.ref D) := by
  have fx : FrX (fun b => b = D ∨ b = D) W.own W.h := fun a q => ⟨by have q : a = D := q.elim id id; rw [q]; exact hD, fun o e => by
    have q : a = D := q.elim id id
    subst q
    rw [ho] at e; cases e
    exact .inr (.inr ⟨by simp, by simp⟩)⟩
  exact I.take (o := .list ys) hD hD hb hb ⟨_, ho⟩ ⟨_, ho⟩ hi fx fun x => ⟨arr, k, ho, r.ext x fx, hl⟩

/-- the state of a comprehension's loop: frame Ca, list D, iterator J -/
structure CS (T : Tp) (W : Wd) (J Ca D : Addr) (src : Src) (i : Nat) (ys : List AV) : Prop where
  inv : Inv T W
  it : ItOk T W J src i
  ownC : W.own Ca = .free
  baseC : T.base.get? Ca = none
  ns : ∃ m, W.h.Ns Ca m
  ownD : W.own D = .free
  baseD : T.base.get? D = none
  list : ∃ arr k, W.h.get? D = some { cls := .type "list", data := .seq arr k } ∧ W.Vs T ys arr.toList

/-- the same without the iterator -/
structure CB (T : Tp) (W : Wd) (Ca D : Addr) (ys : List AV) : Prop where
  inv : Inv T W
  ownC : W.own Ca = .free
  baseC : T.base.get? Ca = none
  ns : ∃ m, W.h.Ns Ca m
  ownD : W.own D = .free
  baseD : T.base.get? D = none
  list : ∃ arr k, W.h.get? D = some { cls := .type "list", data := .seq arr k } ∧ W.Vs T ys arr.toList
theorem CS.b {W : Wd} {J Ca D : Addr} {src : Src} {i : Nat} {ys : List AV} (c : CS T W J Ca D src i ys) : CB T W Ca D ys := ⟨c.inv, c.ownC, c.baseC, c.ns, c.ownD, c.baseD, c.list⟩
theorem CB.s {W : Wd} {J Ca D : Addr} {src : Src} {i : Nat} {ys : List AV} (c : CB T W Ca D ys) (it : ItOk T W J src i) : CS T W J Ca D src i ys := ⟨c.inv, it, c.ownC, c.baseC, c.ns, c.ownD, c.baseD, c.list⟩
theorem CB.frC {W : Wd} {Ca D : Addr} {ys : List AV} (c : CB T W Ca D ys) : FrX (fun b => b = Ca) W.own W.h := fun a q => by
  subst q
  refine ⟨c.ownC, fun o e => ?_⟩
  obtain ⟨m, o', es, ep, ho, hd, _⟩ := c.ns
  rw [e] at ho; cases ho
  exact .inl ⟨es, ep, hd⟩
theorem CB.frD {W : Wd} {Ca D : Addr} {ys : List AV} (c : CB T W Ca D ys) : FrX (fun b => b = D) W.own W.h := fun a q => by
  subst q
  refine ⟨c.ownD, fun o e => ?_⟩
  obtain ⟨arr, k, ho, _⟩ := c.list
  rw [e] at ho; cases ho
  exact .inr (.inr ⟨by simp, by simp⟩)

/-- kept where neither the frame nor the list is touched -/
theorem CB.leX {X : Addr → Prop} {W W' : Wd} {Ca D : Addr} {ys : List AV} (c : CB T W Ca D ys) (l : Le X W W') (I' : Inv T W') (fx : FrX X W.own W.h) (hC : ¬ X Ca) (hD : ¬ X D) : CB T W' Ca D ys where
  inv := I'
  ownC := let ⟨_, nn⟩ := c.ns; let ⟨_, z⟩ := ns_at nn; (l.ext.ow _ _ z hC (by rw [c.ownC]; exact Ow.noConfusion)).trans c.ownC
  baseC := c.baseC
  ns := let ⟨m, nn⟩ := c.ns; ⟨m, ns_ko nn fun o ho => l.ext.kp _ o ho c.ownC hC⟩
  ownD := let ⟨_, _, ho, _⟩ := c.list; (l.ext.ow _ _ ho hD (by rw [c.ownD]; exact Ow.noConfusion)).trans c.ownD
  baseD := c.baseD
  list := by
    obtain ⟨arr, k, ho, r⟩ := c.list
    obtain ⟨o', e', kk⟩ := l.ext.kp _ _ ho c.ownD hD
    rw [kk.same (fun _ _ q => nomatch q)] at e'
    exact ⟨arr, k, e', VRs.ext l.ext fx r⟩

/-- the frame is written -/
theorem CB.setC {W : Wd} {Ca D : Addr} {ys : List AV} (c : CB T W Ca D ys) (hCD : Ca ≠ D) {h' : Heap} {k : Nat} {m : Str → Option Value} (hn : h'.Ns Ca m) (hs : ∀ a o, a ≠ Ca → W.h.get? a = some o → h'.get? a = some o) :
    CB T { W with s := { W.s with heap := h', toks := k } } Ca D ys ∧ Le (fun b => b = Ca) W { W with s := { W.s with heap := h', toks := k } } := by
  obtain ⟨I', l'⟩ := c.inv.touch (X := fun b => b = Ca) (a := Ca) (s' := { W.s with heap := h', toks := k }) c.ownC c.baseC rfl c.frC hs rfl rfl
  refine ⟨⟨I', c.ownC, c.baseC, ⟨m, hn⟩, c.ownD, c.baseD, ?_⟩, l'⟩
  obtain ⟨arr, j, ho, r⟩ := c.list
  exact ⟨arr, j, hs _ _ (fun q => hCD q.symm) ho, VRs.ext l'.ext c.frC r⟩

/-- the list grows -/
theorem CB.setD {W : Wd} {Ca D : Addr} {ys : List AV} (c : CB T W Ca D ys) (hCD : Ca ≠ D) {h' : Heap} {k j : Nat} {arr : Array Value} {w : AV} {v : Value} (ho : ∃ j, W.h.get? D = some { cls := .type "list", data := .seq arr j }) (r : W.Vs T ys arr.toList) (rv : W.V T w v)
    (hn : h'.get? D = some { cls := .type "list", data := .seq (arr.push v) j }) (hs : ∀ a o, a ≠ D → W.h.get? a = some o → h'.get? a = some o) :
    CB T { W with s := { W.s with heap := h', toks := k } } Ca D (ys ++ [w]) ∧ Le (fun b => b = D) W { W with s := { W.s with heap := h', toks := k } } := by
  obtain ⟨I', l'⟩ := c.inv.touch (X := fun b => b = D) (a := D) (s' := { W.s with heap := h', toks := k }) c.ownD c.baseD rfl c.frD hs rfl rfl
  refine ⟨⟨I', c.ownC, c.baseC, ?_, c.ownD, c.baseD, arr.push v, j, hn, ?_⟩, l'⟩
  · obtain ⟨m, nn⟩ := c.ns
    exact ⟨m, ns_ko nn fun o ho => ⟨o, hs _ o hCD ho, .refl o⟩⟩
  · have h1 := VRs.ext l'.ext c.frD r
    have h2 := VR.ext l'.ext c.frD rv
    simpa using h1.append (.cons h2 .nil)

theorem does_comp_loop {W₀ W₁ : Wd} {env : Env} {sl : List (Nat × Str)} {vs : Vs} {elt : ME} {x : Nat} {conds : List ME} {src : Src} {J Ca D : Addr} {elt' iter : Expr} {nm : Str} {px pos : Pos} {ifs : List Expr} {sc : Scope}
    (hse : SE T G n C elt) (hst : ∀ m ∈ conds, ST T G n C m) (ok : ScOk sc env.scope nm) (hmE : mtE G (relabelS sc env.scope) (compSl sc env.scope sl x nm) elt elt' = true) (hmC : mtEs G (relabelS sc env.scope) (compSl sc env.scope sl x nm) conds ifs = true)
    (a : AOk n C.hd A) (hh : A.handled = none) (F : Fm T A W₀ env sl vs) (l01 : Le noX W₀ W₁) (hfr : ∀ b, (b = J ∨ b = Ca ∨ b = D) → W₀.h.get? b = none) (hJC : J ≠ Ca) (hJD : J ≠ D) (hCD : Ca ≠ D) {r0 : Out AV} (hr : r0 ≠ .fail)
    {R : Result → Shared → Prop} (hR : ∀ W' ys, CB T W' Ca D ys → Le (fun b => b = J ∨ b = Ca ∨ b = D) W₁ W' → r0 = newList ys W'.σ → R (.ok .next) W'.s)
    {W : Wd} {i m : Nat} {ys : List AV} (c : CS T W J Ca D src i ys) (l : Le (fun b => b = J ∨ b = Ca ∨ b = D) W₁ W)
    (e : (match iterR (fun st => srcGet src st.1) Out.fail (compF (fun h vs => evConds C conds h vs) (fun h vs => ev C elt h vs) x vs) m i (W.σ, ys) with | .go st => newList st.2 st.1 | .stop o => o) = r0) :
    codeAny T.M A (.compLoop (.ListComp elt' [⟨.Name nm px, iter, ifs, 0⟩] sc pos) 0 (.ref J) (.ref D) (compEnvC sc (closL env.cells sc.names []) Ca env)) R W.s := by
  refine codeAny_compLoop_tests (fun m s => ∃ W i ys, W.s = s ∧ CS T W J Ca D src i ys ∧ Le (fun b => b = J ∨ b = Ca ∨ b = D) W₁ W ∧
    (match iterR (fun st => srcGet src st.1) Out.fail (compF (fun h vs => evConds C conds h vs) (fun h vs => ev C elt h vs) x vs) m i (W.σ, ys) with | .go st => newList st.2 st.1 | .stop o => o) = r0) (fun m s ⟨W, i, ys, es, c, l, e⟩ => ?_) m ⟨W, i, ys, rfl, c, l, e⟩
  subst es
  cases m with
  | zero => simp only [iterR] at e; exact absurd e.symm hr
  | succ m =>
    simp only [iterR] at e
    cases hg : srcGet src W.σ with
    | none => rw [hg] at e; exact absurd e.symm hr
    | some xs =>
      rw [hg] at e
      simp only at e
      have hJC' : ¬ (Ca = J) := fun q => hJC q.symm
      have hJD' : ¬ (D = J) := fun q => hJD q.symm
      cases hi : xs[i]? with
      | none =>
        rw [hi] at e
        refine does_next_end c.inv hh c.it hg hi fun W' I' l' es => ?_
        exact hR W' ys (c.b.leX l' I' c.it.frX hJC' hJD') (l.trans (l'.mono fun _ q => .inl q)) (by rw [← e, es])
      | some av =>
        rw [hi] at e
        simp only at e
        refine does_next_item c.inv c.it hg hi fun v W1 I1 l1 es1 it1 r1 => ?_
        have c1 := c.b.leX l1 I1 c.it.frX hJC' hJD'
        obtain ⟨m1, nn1⟩ := c1.ns
        refine wpAny_assign_Name (wpAny_storeName_local (lookup_relabel_local ok.nm) nn1 (fun h2 hn2 hs2 => ?_) (by show (sc.kind == _ || (sc.kind == _ && _)) = false; rw [ok.kind]; rfl))
        obtain ⟨c2, l2⟩ := c1.setC hCD (k := W1.s.toks + 1) hn2 fun b o q e => (hs2.2 b q).trans e
        have it2 := it1.leX l2 c1.frC hJC
        have r2 := r1.leX l2 c1.frC
        have lX2 : Le (fun b => b = J ∨ b = Ca ∨ b = D) W₁ { W1 with s := { W1.s with heap := h2, toks := W1.s.toks + 1 } } := (l.trans (l1.mono fun _ q => .inl q)).trans (l2.mono fun _ q => .inr (.inl q))
        have F2 : Fm T A { W1 with s := { W1.s with heap := h2, toks := W1.s.toks + 1 } } env sl vs := F.le (Le.lose l01 lX2 fun b o e _ _ q => by rw [hfr b q] at e; cases e)
        have FC := F2.comp (x := x) ok c2.ownC hn2 (by simp) r2
        have hf : compF (fun h vs => evConds C conds h vs) (fun h vs => ev C elt h vs) x vs av (W.σ, ys) = _ := rfl
        simp only [compF] at e
        have n1 : evConds C conds W1.σ (vs.set x (some av)) ≠ .fail := fun q => by
          rw [es1] at q
          rw [q] at e; exact hr e.symm
        refine (does_tests conds hst ifs _ _ _ _ hmC a FC c2.inv n1).cps (fun b W3 b' e3 I3 l3 r3 => ?_) fun _ _ ⟨_, _, _, _, q, _⟩ => absurd (by rw [show evConds C conds W.σ (vs.set x (some av)) = _ from es1 ▸ q] at e; exact e.symm) hr
        cases r3
        have e3' : evConds C conds W.σ (vs.set x (some av)) = .ok b W3.σ := by rw [← es1]; exact e3
        rw [e3'] at e
        have c3 := c2.leX l3 I3 .no id id
        have it3 := it2.leX l3 .no id
        have lX3 := lX2.trans l3.ofNo
        cases b with
        | false =>
          simp only [Bool.false_eq_true, if_false]
          exact ⟨m, Nat.lt_succ_self _, W3, i + 1, ys, rfl, c3.s it3, lX3, e⟩
        | true =>
          simp only [if_true]
          simp only at e
          have n2 : ev C elt W3.σ (vs.set x (some av)) ≠ .fail := fun q => by
            rw [q] at e; exact hr e.symm
          refine (hse elt' _ A W3 _ _ hmE a (FC.le l3) I3 n2).cps (fun w W4 vw e4 I4 l4 r4 => ?_) fun _ _ ⟨_, _, _, _, q, _⟩ => absurd (by rw [q] at e; exact e.symm) hr
          rw [e4] at e
          simp only at e
          have c4 := c3.leX l4 I4 .no id id
          have it4 := it3.leX l4 .no id
          obtain ⟨arr, k4, ho4, ra4⟩ := c4.list
          have hl : ys.length < lim := by
            rcases Nat.lt_or_ge ys.length lim with q | q
            · exact q
            · rw [if_neg (by omega)] at e; exact absurd e.symm hr
          rw [if_pos hl] at e
          refine wpAny_list_append_plain ⟨k4, ho4⟩ (fun h5 hn5 hs5 => ?_) (by have := vrs_size ra4; rw [← lim_eq]; omega)
          obtain ⟨k5, ho5⟩ := hn5
          obtain ⟨c5, l5⟩ := c4.setD hCD (k := W4.s.toks) ⟨k4, ho4⟩ ra4 r4 ho5 fun b o q e => (hs5.2 b q).trans e
          exact ⟨m, Nat.lt_succ_self _, _, i + 1, ys ++ [w], rfl, c5.s (it4.leX l5 c4.frD hJD), (lX3.trans l4.ofNo).trans (l5.mono fun _ q => .inr (.inr q)), e⟩
end
end Mine

/-! Soundness, part 15e: comprehensions as expressions and stores (typed by hand). -/
set_option Elab.async false
namespace Mine
open PySem PySem.SeqAt PySem.Spec PySem.W PySem.Calls

section
variable {T : Tp} {G : Gl} {n : Nat} {C : Cx} {A : Around}

theorem comp_block {W₁ W₂ : Wd} {env : Env} {sl : List (Nat × Str)} {vs : Vs} {elt : ME} {x : Nat} {conds : List ME} {src : Src} {J : Addr} {elt' iter : Expr} {nm : Str} {px pos : Pos} {ifs : List Expr} {sc : Scope}
    (hse : SE T G n C elt) (hst : ∀ m ∈ conds, ST T G n C m) (ok : ScOk sc env.scope nm) (hmE : mtE G (relabelS sc env.scope) (compSl sc env.scope sl x nm) elt elt' = true) (hmC : mtEs G (relabelS sc env.scope) (compSl sc env.scope sl x nm) conds ifs = true)
    (a : AOk n C.hd A) (hh : A.handled = none) (F : Fm T A W₁ env sl vs) (I₂ : Inv T W₂) (l12 : Le noX W₁ W₂) (hJ : W₁.h.get? J = none) (hk : ∀ b o, W₁.h.get? b = some o → W₂.h.get? b = some o) (it : ItOk T W₂ J src 0) {r0 : Out AV} (hr : r0 ≠ .fail)
    (e : (match Mine.iter src Out.fail (compF (fun h vs => evConds C conds h vs) (fun h vs => ev C elt h vs) x vs) (W₂.σ, []) with | .go st => Mine.newList st.2 st.1 | .stop o => o) = r0) {E : Value → Shared → Prop}
    {RR : Value → Addr → Result → Shared → Prop} (hRR : ∀ D Ca W' av, r0 = .ok av W'.σ → Inv T W' → Le (fun b => b = J) W₂ W' → W₂.h.get? Ca = none → W'.own Ca = .free → T.base.get? Ca = none → (∃ m, W'.h.Ns Ca m) → W'.V T av (.ref D) → RR (.ref D) Ca (.ok .next) W'.s) :
    wpAny T.M A (PySem.newList []) (fun acc s₃ => wpAny T.M A (newFunctionEnv sc env.globals (closL env.cells sc.names []) [] env.qual none .none (some env)) (fun cenv s₄ =>
      codeAny T.M A (.compStart (.ListComp elt' [⟨.Name nm px, iter, ifs, 0⟩] sc pos) 0 (.ref J) acc { cenv with scope := relabel sc env }) (RR acc cenv.locals) s₄) E s₃) E W₂.s := by
  refine wpAny_newObj_type (wpAny_newFunctionEnv ok.cell (by intro y hy; simp at hy) (fun h₁ hns₁ hsb₁ => ?_) ok.kind)
  dsimp only at hns₁ hsb₁ ⊢
  generalize hH2 : W₂.s.heap.push { cls := .type "list", dict := none, data := .seq ([] : List Value).toArray } = H2 at hns₁ hsb₁ ⊢
  have hC : H2.objs.size = W₂.s.heap.objs.size + 1 := by rw [← hH2, Heap.size_push]
  have hN : W₂.s.heap.objs.size < H2.objs.size := by rw [hC]; exact Nat.lt_succ_self _
  have hCD : H2.objs.size ≠ W₂.s.heap.objs.size := Nat.ne_of_gt hN
  have old : ∀ b o, W₂.s.heap.get? b = some o → h₁.get? b = some o := fun b o e => by
    have hb := Heap.lt_size e
    exact hsb₁.extBut b o (Nat.ne_of_lt (Nat.lt_trans hb hN)) (Heap.get?_push_of_some _ (hH2 ▸ Heap.get?_push_of_some _ e))
  have g := I₂.grow (s' := { W₂.s with heap := h₁, toks := W₂.s.toks + ([] : List (Str × Value)).length }) old rfl rfl
  have hfD : W₂.h.get? W₂.s.heap.objs.size = none := get_size _
  have hfC : W₂.h.get? H2.objs.size = none := by
    cases q : W₂.h.get? H2.objs.size with
    | none => rfl
    | some o => exact absurd (Nat.lt_trans (Heap.lt_size q) hN) (Nat.lt_irrefl _)
  have bs : ∀ b, W₂.h.get? b = none → T.base.get? b = none := fun b q => by
    cases z : T.base.get? b with
    | none => rfl
    | some o => have := I₂.base b o z; rw [q] at this; cases this
  obtain ⟨oJ, hoJ, _⟩ := it.it.there
  have hlJ := Heap.lt_size hoJ
  have old1 : ∀ b, W₂.h.get? b = none → W₁.h.get? b = none := fun b q => by
    cases z : W₁.h.get? b with
    | none => rfl
    | some o => have e' := hk b o z; rw [q] at e'; cases e'
  have c0 : CS T { W₂ with s := { W₂.s with heap := h₁, toks := W₂.s.toks + ([] : List (Str × Value)).length } } J H2.objs.size W₂.s.heap.objs.size src 0 [] := {
    inv := g.1
    it := it.leX g.2 .no id
    ownC := own_new I₂ hfC
    baseC := bs _ hfC
    ns := ⟨_, hns₁⟩
    ownD := own_new I₂ hfD
    baseD := bs _ hfD
    list := ⟨#[], 0, hsb₁.extBut _ _ (Nat.ne_of_lt hN) (Heap.get?_push_of_some _ (hH2 ▸ Heap.get?_push_size _ rfl)), .nil⟩ }
  have loop : codeAny T.M A (.compLoop (.ListComp elt' [⟨.Name nm px, iter, ifs, 0⟩] sc pos) 0 (.ref J) (.ref W₂.s.heap.objs.size) (compEnvC sc (closL env.cells sc.names []) H2.objs.size env)) (RR (.ref W₂.s.heap.objs.size) H2.objs.size)
      { W₂.s with heap := h₁, toks := W₂.s.toks + ([] : List (Str × Value)).length } := by
    refine does_comp_loop (W₀ := W₁) (W₁ := { W₂ with s := { W₂.s with heap := h₁, toks := W₂.s.toks + ([] : List (Str × Value)).length } }) (src := src) (i := 0) (m := srcN src + 1) (ys := []) hse hst ok hmE hmC a hh F (l12.trans g.2) (fun b q => ?_) (Nat.ne_of_lt (Nat.lt_trans hlJ hN)) (Nat.ne_of_lt hlJ) hCD hr
      (fun W' ys cb lX er => ?_) c0 (.refl _ _) ?_
    · rcases q with rfl | rfl | rfl
      · exact hJ
      · exact old1 _ hfC
      · exact old1 _ hfD
    · obtain ⟨arr, k, ho, ra⟩ := cb.list
      have hl : ys.length ≤ lim := by
        rcases Nat.lt_or_ge lim ys.length with q | q
        · rw [er] at hr; unfold Mine.newList at hr; rw [if_neg (by omega)] at hr; exact absurd rfl hr
        · exact q
      obtain ⟨I', l', rv⟩ := cb.inv.adopt cb.ownD cb.baseD I₂.high ho ra hl
      refine hRR W₂.s.heap.objs.size H2.objs.size (W'.take W₂.s.heap.objs.size W₂.s.heap.objs.size (.list ys)) (.ref W'.σ.length) ?_ I' ?_ hfC ?_ cb.baseC cb.ns rv
      · rw [er]; unfold Mine.newList; rw [if_pos hl]
      · refine Le.lose (Le.lose (W₁ := { W₂ with s := { W₂.s with heap := h₁, toks := W₂.s.toks + ([] : List (Str × Value)).length } }) (g.2.ofNo (X := fun b => b = J)) lX fun b o e _ nx q => ?_) l' fun b o e _ nx q => ?_
        · rcases q with q | rfl | rfl
          · exact nx q
          · rw [hfC] at e; cases e
          · rw [hfD] at e; cases e
        · have q : b = W₂.s.heap.objs.size := q.elim id id
          rw [q, hfD] at e; cases e
      · exact (if_neg (fun q => hCD (q.elim id id))).trans cb.ownC
    · rw [iter_eq] at e; exact e
  exact codeAny_compStart_list loop (does_self (W := { W₂ with s := { W₂.s with heap := h₁, toks := W₂.s.toks + ([] : List (Str × Value)).length } }) c0.it loop)

/-- the frame of a comprehension is emptied -/
theorem comp_gone {W' : Wd} (I : Inv T W') {Ca : Addr} (hC : W'.own Ca = .free) (hb : T.base.get? Ca = none) {m : Str → Option Value} (hn : W'.h.Ns Ca m) {h' : Heap} (hs : Heap.SameBut Ca W'.h h') :
    FrX (fun b => b = Ca) W'.own W'.h ∧ Inv T { W' with s := { W'.s with heap := h' } } ∧ Le (fun b => b = Ca) W' { W' with s := { W'.s with heap := h' } } := by
  have fx : FrX (fun b => b = Ca) W'.own W'.h := fun a q => by
    subst q
    refine ⟨hC, fun o e => ?_⟩
    obtain ⟨o', es, ep, ho, hd, _⟩ := hn
    rw [e] at ho; cases ho
    exact .inl ⟨es, ep, hd⟩
  exact ⟨fx, I.touch (X := fun b => b = Ca) (a := Ca) (s' := { W'.s with heap := h' }) hC hb rfl fx (fun b o q e => (hs.2 b q).trans e) rfl rfl⟩

theorem does_comp {W : Wd} {env : Env} {sl : List (Nat × Str)} {vs : Vs} {elt src : ME} {x : Nat} {conds : List ME} {elt' iter : Expr} {nm : Str} {px pos : Pos} {ifs : List Expr} {sc : Scope}
    (hse : SE T G n C elt) (hss : SE T G n C src) (hst : ∀ m ∈ conds, ST T G n C m) (ok : ScOk sc env.scope nm) (hns : ∀ v, foldedSetIterable iter env v = pure v) (hmS : mtE G env.scope sl src iter = true) (hmE : mtE G (relabelS sc env.scope) (compSl sc env.scope sl x nm) elt elt' = true)
    (hmC : mtEs G (relabelS sc env.scope) (compSl sc env.scope sl x nm) conds ifs = true) (a : AOk n C.hd A) (F : Fm T A W env sl vs) (I : Inv T W) (hn : ev C (.comp elt x src conds) W.σ vs ≠ .fail) :
    Does T A noX W (eval (.ListComp elt' [⟨.Name nm px, iter, ifs, 0⟩] sc pos) env) (ev C (.comp elt x src conds) W.σ vs) (VW T) := by
  have hcl : closureFor sc env = pure (closL env.cells sc.names []) := closure_eq fun p hp q => F.cells _ (ok.free p hp q)
  rw [ev_q26] at hn ⊢
  obtain ⟨n1, n2⟩ := Out.bind_ok hn
  rw [eval_ListComp]
  refine wpAny_comprehension_free (use := none) rfl hns hcl ok.kind ok.loc ((hss iter sl A W env vs hmS a F I n1).cps (fun av W1 v e1 I1 l1 r1 => ?_) fun _ _ q => q.bind)
  have n3 := n2 av W1.σ e1
  cases hs : srcA W1.σ av with
  | none => rw [hs] at n3; exact absurd rfl n3
  | some sr =>
    rw [hs] at n3
    simp only at n3
    have hd : C.hd = false := by
      cases q : C.hd with
      | false => rfl
      | true => rw [q, if_pos rfl] at n3; exact absurd rfl n3
    rw [hd] at n3
    simp only [Bool.false_eq_true, if_false] at n3
    refine does_iter I1 r1 hs fun J W2 I2 l2 es2 hJ hk2 it2 => ?_
    refine comp_block (r0 := _) (x := x) (vs := vs) (sl := sl) hse hst ok hmE hmC a (a.handled hd) (F.le l1) I2 l2 hJ hk2 it2 n3 (by rw [es2]; try rfl) fun D Ca W' av' er I' lJ hfC oC bC hnC rv => ?_
    obtain ⟨m, hnC⟩ := hnC
    refine ⟨m, hnC, fun h' hsb => ?_⟩
    obtain ⟨fx, I'', l''⟩ := comp_gone I' oC bC hnC hsb
    refine ⟨av', _, rfl, ?_, I'', ?_, rv.leX l'' fx⟩
    · rw [e1]; simp only [Out.bind, hs, hd, Bool.false_eq_true, if_false]; exact er
    · refine l1.trans (Le.lose (Le.lose l2 lJ fun b o e _ _ q => ?_) l'' fun b o e ht _ q => ?_)
      · rw [q, hJ] at e; cases e
      · obtain ⟨o', e'⟩ := l2.ext.df b o e id ht
        rw [q, hfC] at e'; cases e'
end
end Mine

/-! Soundness, part 15f: methods of lists and texts (typed by hand). -/
set_option Elab.async false
namespace Mine
open PySem PySem.SeqAt PySem.Spec PySem.W PySem.Calls PyProof.Rows

theorem joinT_flat (sep : List Nat) : ∀ (r : List (List Nat)) (x : List Nat), joinT sep (x :: r) = x ++ r.flatMap (fun t => sep ++ t)
  | [], x => by simp [joinT]
  | y :: r, x => by
    rw [joinT, joinT_flat sep r y]
    simp
theorem glue_fold (sep : List Nat) : ∀ (r : List (List Nat)) (acc : List Nat), (r.map tS).foldl (fun a p => a ++ (tS sep).cps ++ p.cps) acc.toArray = (acc ++ r.flatMap (fun t => sep ++ t)).toArray
  | [], acc => by simp
  | y :: r, acc => by
    rw [List.map_cons, List.foldl_cons]
    have : acc.toArray ++ (tS sep).cps ++ (tS y).cps = (acc ++ sep ++ y).toArray := by simp [tS]
    rw [this, glue_fold sep r]
    simp
theorem join_tS (sep : List Nat) (ts : List (List Nat)) : Txt.join (tS sep) (ts.map tS) = tS (joinT sep ts) := by
  show Builtin.Str.glued _ _ = _
  unfold Builtin.Str.glued
  cases ts with
  | nil => rfl
  | cons x r =>
    rw [joinT_flat]
    have := glue_fold sep r x
    show Str.mk _ = Str.mk _
    congr 1

theorem joinT_len (sep : List Nat) : ∀ ts : List (List Nat), (joinT sep ts).length ≤ (ts.map (·.length)).sum + ts.length * sep.length
  | [] => by simp [joinT]
  | [x] => by simp [joinT]
  | x :: y :: r => by
    have := joinT_len sep (y :: r)
    simp only [joinT, List.length_append, List.map_cons, List.sum_cons, List.length_cons, Nat.add_mul] at this ⊢
    omega
theorem joinT_mem (sep : List Nat) {c : Nat} : ∀ {ts : List (List Nat)}, c ∈ joinT sep ts → c ∈ sep ∨ ∃ t ∈ ts, c ∈ t
  | [], h => by simp [joinT] at h
  | [x], h => .inr ⟨x, by simp, h⟩
  | x :: y :: r, h => by
    simp only [joinT, List.mem_append] at h
    rcases h with (h | h) | h
    · exact .inr ⟨x, by simp, h⟩
    · exact .inl h
    · rcases joinT_mem sep h with q | ⟨t, h1, h2⟩
      · exact .inl q
      · exact .inr ⟨t, by simp [h1], h2⟩

section
variable {T : Tp} {G : Gl} {n : Nat} {C : Cx} {A : Around} {W : Wd}

theorem texts_vals {xs : List AV} {vs : List Value} (r : W.Vs T xs vs) : ∀ {ts : List (List Nat)}, textsA xs = some ts → StrsAre vs (ts.map tS) ∧ ∀ t ∈ ts, okS t := by
  induction r with
  | nil => intro ts e; cases e; exact ⟨.nil, fun t h => by cases h⟩
  | cons a _ ih =>
    intro ts e
    rw [textsA, mapO_cons] at e
    cases a with
    | str tk ok =>
      rename_i xs _ _ _
      cases e2 : mapO asStr xs with
      | none => rw [e2] at e; cases e
      | some ms =>
        rw [e2] at e
        cases e
        obtain ⟨h1, h2⟩ := ih e2
        exact ⟨.cons _ _ h1, fun u hu => by
          rcases List.mem_cons.mp hu with rfl | hu
          · exact ok
          · exact h2 u hu⟩
    | _ => cases e

noncomputable def bmId : Bm → String
  | .append => "list.append"
  | .join => "str.join"
  | .get => "dict.get"
  | .pop => "dict.pop"

/-- the method's place -/
theorem bm_on (I : Inv T W) {m : Bm} {x : AV} {v : Value} (r : W.V T x v) (hk : bmKd m x W.σ = true) {pos : Pos} {trees : List (Bool × Sem Value)} {Q : Value → Shared → Prop} {E : Value → Shared → Prop}
    (h : wpAny T.M A (callWith pos (.builtin (bmId m)) [v] trees []) Q E W.s) : MethodOn T.prog T.w A (bmNm m) pos v trees Q E W.s := by
  cases m with
  | append =>
    obtain ⟨xs, hx⟩ := Option.isSome_iff_exists.mp hk
    obtain ⟨l, rfl, hx'⟩ := listAt_ok hx
    obtain ⟨a, vs, k, rfl, _, ho, _⟩ := I.listAt hx' r
    exact ⟨"list", "list.append", F.plainAttrs_list, F.slot_list_append, F.type_list_append, ⟨_, ho, rfl⟩, fun b e => by cases e; exact ⟨_, ho, rfl⟩, h⟩
  | join =>
    cases r with
    | str t ok => exact ⟨"str", "str.join", F.plainAttrs_str, F.slot_str_join, F.type_str_join, typeIs_str _ _ _, fun b e => (by cases e), h⟩
    | _ => cases hk
  | get =>
    obtain ⟨p, hx⟩ := Option.isSome_iff_exists.mp hk
    obtain ⟨l, rfl, hx'⟩ := dictAt_ok hx
    obtain ⟨d, kvs, n, rfl, _, hd, _⟩ := I.dict hx' r
    exact ⟨"dict", "dict.get", F.plainAttrs_dict, F.slot_dict_get, F.type_dict_get, hd.dictOf.typeIs, hd.dictOf.mapOf.noDict, h⟩
  | pop =>
    obtain ⟨p, hx⟩ := Option.isSome_iff_exists.mp hk
    obtain ⟨l, rfl, hx'⟩ := dictAt_ok hx
    obtain ⟨d, kvs, n, rfl, _, hd, _⟩ := I.dict hx' r
    exact ⟨"dict", "dict.pop", F.plainAttrs_dict, F.slot_dict_pop, F.type_dict_pop, hd.dictOf.typeIs, hd.dictOf.mapOf.noDict, h⟩

theorem does_appA (I : Inv T W) {x w : AV} {v vw : Value} (rx : W.V T x v) (rw' : W.V T w vw) (hn : appA x w W.σ ≠ .fail) : Does T A noX W (call (.builtin "list.append") [v, vw]) (appA x w W.σ) (VW T) := by
  cases x with
  | ref l =>
    have e0 : appA (.ref l) w W.σ = match lst W.σ[l]? with | some xs => if xs.length < lim then .ok .none (W.σ.set l (.list (xs ++ [w]))) else .fail | none => .fail := rfl
    rw [e0] at hn ⊢
    cases hx : lst W.σ[l]? with
    | none => rw [hx] at hn; exact absurd rfl hn
    | some xs =>
      rw [hx] at hn
      by_cases hl : xs.length < lim
      · simp only [if_pos hl]
        obtain ⟨a, vs, k, rfl, hb, ho, ra, _⟩ := I.listAt (lst_ok hx) rx
        refine wpAny_list_append_plain ⟨k, ho⟩ (fun h' hn' hs => ?_) (by have := vrs_size ra; rw [← lim_eq]; omega)
        obtain ⟨k', ho'⟩ := hn'
        have own_a := I.ownb _ _ hb
        have g := I.upd (o := .list (xs ++ [w])) (s' := { W.s with heap := h' }) hb (fun b q f e => ?_) (fun b q => ?_) rfl rfl fun x => ⟨vs.push vw, k', ho', ?_, ?_⟩
        · exact ⟨.none, _, rfl, rfl, g.1, g.2, .none⟩
        · by_cases z : b = a
          · subst z; exact ⟨_, ho'⟩
          · exact ⟨q, (hs.2 b z).trans e⟩
        · exact hs.2 b fun z => q (z ▸ own_a)
        · have h1 := VRs.ext x .no ra
          have h2 := VR.ext x .no rw'
          rw [Array.toList_push]
          exact h1.append (.cons h2 .nil)
        · rw [List.length_append]; exact hl
      · simp only [if_neg hl] at hn; exact absurd rfl hn
  | _ => exact absurd rfl hn
theorem does_joinA (I : Inv T W) {x w : AV} {v vw : Value} (rx : W.V T x v) (rw' : W.V T w vw) (hn : joinA x w W.σ ≠ .fail) : Does T A noX W (call (.builtin "str.join") [v, vw]) (joinA x w W.σ) (VW T) := by
  cases rx with
  | str tk oks =>
    rename_i sep
    have e0 : joinA (.str sep) w W.σ = match (listAt W.σ w).bind textsA with | some ts => if (ts.map (·.length)).sum + ts.length * sep.length ≤ lim then .ok (.str (joinT sep ts)) W.σ else .fail | none => .fail := rfl
    rw [e0] at hn ⊢
    cases hts : (listAt W.σ w).bind textsA with
    | none => rw [hts] at hn; exact absurd rfl hn
    | some ts =>
      rw [hts] at hn
      by_cases hl : (ts.map (·.length)).sum + ts.length * sep.length ≤ lim
      · simp only [if_pos hl]
        obtain ⟨xs, h0, hts'⟩ := Option.bind_eq_some_iff.mp hts
        obtain ⟨l, rfl, hx⟩ := listAt_ok h0
        obtain ⟨a, vs, k, rfl, hb, ho, ra, _⟩ := I.listAt hx rw'
        obtain ⟨h1, h2⟩ := texts_vals ra hts'
        have hsum : ((ts.map tS).map (·.length)).sum + (ts.map tS).length * (tS sep).length ≤ 16777216 := by
          rw [List.map_map, List.length_map, tS_length]
          have e2 : ((fun x : Str => x.length) ∘ tS) = (fun t : List Nat => t.length) := funext fun t => tS_length t
          rw [e2]; exact hl
        refine join_list ⟨_, ho, rfl, k, rfl⟩ h1 hsum fun t' k' => ?_
        rw [join_tS]
        have g := I.toks k'
        refine ⟨_, { W with s := { W.s with toks := k' } }, rfl, rfl, g.1, g.2, .str _ ⟨fun c hc => ?_, Nat.le_trans (joinT_len sep ts) hl⟩⟩
        rcases joinT_mem sep hc with q | ⟨t, q1, q2⟩
        · exact oks.1 c q
        · exact (h2 t q1).1 c q2
      · simp only [if_neg hl] at hn; exact absurd rfl hn
  | _ => exact absurd rfl hn
theorem does_popA (I : Inv T W) {x w : AV} {v vw : Value} (rx : W.V T x v) (rw' : W.V T w vw) (hn : popA x w W.σ ≠ .fail) : Does T A noX W (call (.builtin "dict.pop") [v, vw]) (popA x w W.σ) (VW T) := by
  cases x with
  | ref l =>
    have e0 : popA (.ref l) w W.σ = match dct W.σ[l]? with | some p => if isKey w then (match dget p.2 w with | some v => .ok v (W.σ.set l (.dict (p.1.map (· + 1)) (ddel p.2 w))) | none => .fail) else .fail | none => .fail := rfl
    rw [e0] at hn ⊢
    cases hx : dct W.σ[l]? with
    | none => rw [hx] at hn; exact absurd rfl hn
    | some p =>
      rw [hx] at hn
      simp only at hn ⊢
      cases hk : isKey w with
      | false => rw [hk] at hn; exact absurd rfl hn
      | true =>
        rw [hk] at hn
        simp only [if_true] at hn ⊢
        cases hg : dget p.2 w with
        | none => rw [hg] at hn; exact absurd rfl hn
        | some r =>
          simp only
          obtain ⟨d, kvs, n, rfl, hb, hd, hep, kv, hl, _⟩ := I.dict (dct_ok hx) rx
          obtain ⟨k1, k2⟩ := key_of rw' hk
          obtain ⟨u, eu, ru⟩ := (kv.get k2).1 r hg
          refine call_meetsIn F.slot_dict_pop hd.dictOf.typeIs F.entry_dict_pop (F.args_dict_pop_2 _ _) (meets_pop (knd := kKind T.prog T.w) d k1 ?_) ⟨kvs, u, n, hd, by rw [kv.length, sizeLine_eq]; exact hl, eu, fun h' hd' hs => ?_⟩
          · rcases kIs_shape k1 with ⟨_, _, _, rfl⟩ | ⟨_, _, _, rfl⟩ <;> rfl
          have own_d := I.ownb _ _ hb
          have g := I.upd (o := .dict (p.1.map (· + 1)) (ddel p.2 w)) (s' := { W.s with heap := h', toks := W.s.toks + 1 }) hb (fun b q f e => ?_) (fun b q => hs.2 b fun z => q (z ▸ own_d)) rfl rfl
            fun x => ⟨_, n + 1, hd', fun e he => ?_, (kv.ext x .no).del k2 hd.nodup, Nat.le_trans (ddel_length _ _) hl⟩
          · exact ⟨r, _, rfl, rfl, g.1, g.2, ru.le g.2⟩
          · by_cases z : b = d
            · subst z; obtain ⟨o, _, ho, _⟩ := hd'; exact ⟨o, ho⟩
            · exact ⟨q, (hs.2 b z).trans e⟩
          · obtain ⟨e', h1, rfl⟩ := Option.map_eq_some_iff.mp he
            rw [hep e' h1]
  | _ => exact absurd rfl hn
theorem does_getA (I : Inv T W) {x w y : AV} {v vw vy : Value} (rx : W.V T x v) (rw' : W.V T w vw) (ry : W.V T y vy) (hn : getA x w y W.σ ≠ .fail) : Does T A noX W (call (.builtin "dict.get") [v, vw, vy]) (getA x w y W.σ) (VW T) := by
  unfold getA at hn ⊢
  cases hx : dictAt W.σ x with
  | none => rw [hx] at hn; exact absurd rfl hn
  | some p =>
    rw [hx] at hn
    simp only at hn ⊢
    cases hk : isKey w with
    | false => rw [hk] at hn; exact absurd rfl hn
    | true =>
      simp only [if_true]
      obtain ⟨l, rfl, hx'⟩ := dictAt_ok hx
      obtain ⟨d, kvs, n, rfl, hb, hd, hep, kv, hl, hs⟩ := I.dict hx' rx
      obtain ⟨k1, k2⟩ := key_of rw' hk
      refine Does.keep I fun Q E q => call_meetsIn F.slot_dict_get hd.dictOf.typeIs F.entry_dict_get (F.args_dict_get_3 _ _ _) (meets_dict_get_default (kKind T.prog T.w) d k1 hs vy) ⟨_, hd.dictOf.mapOf, ?_⟩
      refine q _ _ ?_
      cases hg : dget p.2 w with
      | none => rw [(kv.get k2).2 hg]; exact ry
      | some r => obtain ⟨u, eu, ru⟩ := (kv.get k2).1 r hg; rw [eu]; exact ru

theorem does_bmA (I : Inv T W) {m : Bm} {x : AV} {as : List AV} {v : Value} {vals : List Value} (rx : W.V T x v) (r : W.Vs T as vals) (hn : bmA m x as W.σ ≠ .fail) : Does T A noX W (call (.builtin (bmId m)) (v :: vals)) (bmA m x as W.σ) (VW T) := by
  cases r with
  | nil => exact absurd rfl hn
  | cons rw' r' =>
    cases r' with
    | nil =>
      cases m with
      | append => exact does_appA I rx rw' hn
      | join => exact does_joinA I rx rw' hn
      | pop => exact does_popA I rx rw' hn
      | get => exact absurd rfl hn
    | cons ry r'' =>
      cases r'' with
      | cons _ _ => exact absurd rfl hn
      | nil =>
        cases m with
        | get => exact does_getA I rx rw' ry hn
        | _ => exact absurd rfl hn
end
end Mine

/-! Soundness: instances (typed by hand). -/
set_option Elab.async false
set_option maxRecDepth 100000
namespace Mine
open PySem PySem.SeqAt PySem.Spec PySem.W PySem.Calls PyProof.Rows Builtin Builtin.ObjectAttr

theorem isStr_str {x nm : Str} {t : Tok} : (Value.str x t).isStr nm = (x == nm) := rfl

section
variable {T : Tp} {own : Addr → Ow} {bt : List Addr} {h : Heap}
theorem fnd_hit {e : DictEntry} {r : List DictEntry} {nm : Str} {t : Tok} (h : e.key = .str nm t) : fnd (e :: r) nm = some e.val := by
  unfold fnd
  rw [List.find?_cons, h, isStr_str, beq_self_eq_true]; rfl
theorem fnd_miss {e : DictEntry} {r : List DictEntry} {x nm : Str} {t : Tok} (h : e.key = .str x t) (q : x ≠ nm) : fnd (e :: r) nm = fnd r nm := by
  unfold fnd
  rw [List.find?_cons, h, isStr_str, beq_eq_false_iff_ne.mpr q]
theorem fnd_put {nm : Str} {hsh : Int} {tk : Tok} {v : Value} : ∀ {es : List DictEntry}, (∀ e ∈ es, ∃ x t, e.key = .str x t) → fnd (putL nm hsh (.str nm tk) v es) nm = some v ∧ ∀ nm', nm ≠ nm' → fnd (putL nm hsh (.str nm tk) v es) nm' = fnd es nm' := by
  intro es
  induction es with
  | nil => intro _; exact ⟨fnd_hit rfl, fun nm' q => fnd_miss rfl q⟩
  | cons e r ih =>
    intro hk
    obtain ⟨x, t, hx⟩ := hk e (List.mem_cons_self ..)
    obtain ⟨i1, i2⟩ := ih fun e' h' => hk e' (List.mem_cons_of_mem _ h')
    unfold putL
    rw [hx, isStr_str]
    by_cases z : x = nm
    · subst z
      rw [if_pos (beq_self_eq_true x)]
      exact ⟨fnd_hit rfl, fun nm' q => (fnd_miss rfl q).trans (fnd_miss hx q).symm⟩
    · rw [if_neg (by simpa using z)]
      refine ⟨(fnd_miss hx z).trans i1, fun nm' q => ?_⟩
      by_cases y : x = nm'
      · subst y; rw [fnd_hit hx, fnd_hit hx]
      · rw [fnd_miss hx y, fnd_miss hx y, i2 nm' q]
theorem putL_mem {nm : Str} {hsh : Int} {key v : Value} : ∀ {es : List DictEntry} {e : DictEntry}, e ∈ putL nm hsh key v es → e.key = key ∨ ∃ e' ∈ es, e.key = e'.key := by
  intro es
  induction es with
  | nil => intro e h; rcases List.mem_singleton.mp h with rfl; exact .inl rfl
  | cons d r ih =>
    intro e h
    unfold putL at h
    split at h
    · rcases List.mem_cons.mp h with rfl | h
      · exact .inr ⟨d, List.mem_cons_self .., rfl⟩
      · exact .inr ⟨e, List.mem_cons_of_mem _ h, rfl⟩
    · rcases List.mem_cons.mp h with rfl | h
      · exact .inr ⟨_, List.mem_cons_self .., rfl⟩
      · exact (ih h).imp id fun ⟨e', q, z⟩ => ⟨e', List.mem_cons_of_mem _ q, z⟩
theorem putL_length {nm : Str} {hsh : Int} {key v : Value} : ∀ {es : List DictEntry}, (putL nm hsh key v es).length ≤ es.length + 1 := by
  intro es
  induction es with
  | nil => exact Nat.le_refl _
  | cons d r ih => unfold putL; split <;> simp only [List.length_cons] at * <;> omega
theorem any_ref {es : List DictEntry} (hk : ∀ e ∈ es, ∃ x t, e.key = .str x t) : es.any (·.refKey) = false := by
  rw [List.any_eq_false]
  intro e he
  obtain ⟨x, t, q⟩ := hk e he
  simp [DictEntry.refKey, q]

theorem look_of {es : Array DictEntry} {n : Nat} {nm : Str} (hk : ∀ e ∈ es.toList, ∃ x t, e.key = .str x t) : lookIn nm { cls := .type "dict", data := .dict es n } = some (fnd es.toList nm) := by
  show (match es.toList.find? (·.key.isStr nm) with | some e => some (some e.val) | none => if es.toList.any (·.refKey) then none else some none) = _
  unfold fnd
  cases es.toList.find? (·.key.isStr nm) with
  | some e => rfl
  | none => rw [any_ref hk]; rfl
end

section
variable {T : Tp} {A : Around} {W : Wd}

theorem handed_VR {av : AV} {v : Value} (r : W.V T av v) : handedIn v = true := by cases r <;> rfl

structure InstOk (T : Tp) (C : Addr) (cl : Cl) : Prop where
  keep : keepIn T.K (.ref C) = true
  makes : makesIn T.K C = true
  init : ∀ f, cl.init = some f → findIn T.K (.ref C) "__init__" = some (some (.ref (T.fa f))) ∧ PySem.W.isFn T.K (.ref (T.fa f)) = true
  get : plainGet T.K C "" = true
  dict : hasDictIn T.K C = true
  set : findIn T.K (.ref C) "__setattr__" = some (some (.builtin "object.__setattr__"))
  over : plainOver T.K C = true
  attrs : ∀ nm ∈ T.P.attrs, (∃ a, findIn T.K (.ref C) nm = some a ∧ noGet T.K a = true) ∧ takerIn T.K C nm = some none
  meths : ∀ m f, cl.meths.lookup m = some f → ∃ nm, T.P.methNames[m]? = some nm ∧ findIn T.K (.ref C) nm = some (some (.ref (T.fa f))) ∧ PySem.W.isFn T.K (.ref (T.fa f)) = true ∧ keepIn T.K (.ref (T.fa f)) = true ∧ nm ∉ T.P.attrs

theorem lookup_mem' {l : List (Nat × Nat)} {m f : Nat} (h : l.lookup m = some f) : (m, f) ∈ l := by
  obtain ⟨l1, l2, e, _⟩ := List.lookup_eq_some_iff.mp h
  rw [e]; simp

theorem Tp.Ok.inst (O : T.Ok) {c : Nat} {cl : Cl} (e : T.P.cls[c]? = some cl) (hx : cl.exc = false) : InstOk T (T.ca c) cl := by
  have h := clsB_get O.cl c cl e
  rw [hx, Nat.zero_add] at h
  simp only [Bool.false_eq_true, if_false, instB, Bool.and_eq_true, beq_iff_eq, List.all_eq_true] at h
  obtain ⟨⟨⟨⟨⟨⟨⟨⟨h0, h1⟩, h2⟩, h3⟩, h4⟩, h5⟩, h6⟩, h7⟩, h8⟩ := h
  refine ⟨h0, h1, fun f hf => ?_, h3, h4, h5, h6, fun nm hm => ?_, fun m f hf => ?_⟩
  · rw [hf] at h2
    simpa using h2
  · obtain ⟨q1, q2⟩ := h7 nm hm
    refine ⟨?_, q2⟩
    cases z : findIn T.K (.ref (T.ca c)) nm with
    | none => rw [z] at q1; cases q1
    | some a => rw [z] at q1; exact ⟨a, rfl, q1⟩
  · have q := h8 (m, f) (lookup_mem' hf)
    cases z : T.P.methNames[m]? with
    | none => rw [z] at q; cases q
    | some nm =>
      rw [z] at q
      simp only [Bool.and_eq_true, beq_iff_eq, Bool.not_eq_true'] at q
      exact ⟨nm, rfl, q.1.1.1, q.1.1.2, q.1.2, fun hm => by have := q.2; rw [List.contains_iff_mem.mpr hm] at this; cases this⟩

theorem instAt_ok {σ : Hp} {v : AV} {p : Nat × List (Option AV)} (h : instAt σ v = some p) : ∃ l, v = .ref l ∧ σ[l]? = some (.inst p.1 p.2) := by
  cases v with
  | ref l => exact ⟨l, rfl, ins_ok h⟩
  | _ => cases h

theorem Inv.inst (I : Inv T W) {l c : Nat} {fs : List (Option AV)} {v : Value} (e : W.σ[l]? = some (.inst c fs)) (r : W.V T (.ref l) v) :
    ∃ cl a dx ents n, (T.P.cls[c]? = some cl ∧ cl.exc = false) ∧ v = .ref a ∧ W.bt[l]? = some a ∧ W.h.get? a = some { cls := .ref (T.ca c), dict := some dx, data := .plain } ∧ W.own dx = .loc l ∧ dx ≠ a ∧ W.h.get? dx = some { cls := .type "dict", data := .dict ents n } ∧
      IR T W.own W.bt W.h fs ents.toList := by
  cases r with
  | ref q =>
    obtain ⟨⟨cl, h0⟩, dx, ents, n, h1, h2, h3, h4, h5⟩ := I.obj _ _ _ e q
    exact ⟨cl, _, dx, ents, n, h0, rfl, q, h1, h2, h3, h4, h5⟩

theorem does_attrA (O : T.Ok) (I : Inv T W) {x r : AV} {a : Nat} {nm : Str} {v : Value} (rx : W.V T x v) (hnm : T.P.attrs[a]? = some nm) (e : attrA W.σ x a = some r) {expr : Bool} :
    Does T A noX W (getAttr v nm expr) (.ok r W.σ) (VW T) := by
  obtain ⟨p, hp, e1⟩ := Option.bind_eq_some_iff.mp e
  obtain ⟨z, hz, e2⟩ := Option.bind_eq_some_iff.mp e1
  have e3 : z = some r := e2
  subst e3
  obtain ⟨l, rfl, hσ⟩ := instAt_ok hp
  obtain ⟨cl, b, dx, ents, n, ⟨hcl, hx⟩, rfl, hb, h1, h2, h3, h4, hk, _, h5⟩ := I.inst hσ rx
  obtain ⟨v, ev, rv⟩ := (h5 a nm hnm).1 r hz
  have ok := O.inst hcl hx
  obtain ⟨⟨at', ha, hn⟩, _⟩ := ok.attrs nm (List.mem_of_getElem? hnm)
  have X := O.X.keeps I.base
  exact Does.keep I fun Q E q => get_value X (ox := { cls := .ref (T.ca p.1), dict := some dx, data := .plain }) (od := some { cls := .type "dict", data := .dict ents n }) ⟨h1, rfl, rfl, h4⟩ (plainGet_of ok.get).1
    (findObj_own ok.dict ha hn ((look_of fun e he => let ⟨x, t, q, _⟩ := hk e he; ⟨x, t, q⟩).trans (by rw [ev]))) (handed_VR rv) (q v _ rv)

/-- a method of an instance -/
theorem does_method (O : T.Ok) (I : Inv T W) {x : AV} {m f : Nat} {nm : Str} {v : Value} (rx : W.V T x v) (hnm : T.P.methNames[m]? = some nm) (e : methF T.P W.σ x m = some f) {pl : Sem Bool}
    {Q : Value × List Value → Shared → Prop} {E : Value → Shared → Prop} (q : Callee T (.ref (T.fa f)) → Q (.ref (T.fa f), [v]) W.s) : wpAny T.M A (getMethod v nm pl) Q E W.s := by
  obtain ⟨p, hp, e1⟩ := Option.bind_eq_some_iff.mp e
  obtain ⟨cl', hcl', e2⟩ := Option.bind_eq_some_iff.mp e1
  obtain ⟨l, rfl, hσ⟩ := instAt_ok hp
  obtain ⟨cl, b, dx, ents, n, ⟨hcl, hx⟩, rfl, hb, h1, h2, h3, h4, hk, _, h5⟩ := I.inst hσ rx
  rw [hcl] at hcl'; cases hcl'
  have ok := O.inst hcl hx
  obtain ⟨nm', hnm', hf, hfn, hkp, hno⟩ := ok.meths m f e2
  rw [hnm] at hnm'; cases hnm'
  have X := O.X.keeps I.base
  refine method_fn X (ox := { cls := .ref (T.ca p.1), dict := some dx, data := .plain }) (od := some { cls := .type "dict", data := .dict ents n }) ⟨h1, rfl, rfl, h4⟩ (plainGet_of ok.get).1 (plainGet_of ok.get).2 hf (beq_iff_eq.mp hfn) ?_ (q fun h k => let ⟨kp, hk, l⟩ := looks_keep (M := T.M) hkp (O.X.keeps k); ⟨kp, hk.imp id .inl, l⟩)
  show (lookIn nm _).map _ = _
  rw [look_of fun e he => let ⟨x, t, q, _⟩ := hk e he; ⟨x, t, q⟩]
  have : fnd ents.toList nm = none := by
    unfold fnd
    rw [List.find?_eq_none.mpr fun e he => ?_]
    · rfl
    · obtain ⟨x, t, q, hm⟩ := hk e he
      rw [q, isStr_str]
      intro z
      exact hno (eq_of_beq z ▸ hm)
  rw [this]; rfl
end
end Mine

/-! Soundness: attributes are written, instances made (typed by hand). -/
set_option Elab.async false
set_option maxRecDepth 100000
namespace Mine
open PySem PySem.SeqAt PySem.Spec PySem.W PySem.Calls PyProof.Rows Builtin Builtin.ObjectAttr

theorem putL_hit {nm : Str} {hsh : Int} {key v w : Value} : ∀ {es : List DictEntry}, fnd es nm = some w → (putL nm hsh key v es).length = es.length := by
  intro es
  induction es with
  | nil => intro e; cases e
  | cons d r ih =>
    intro e
    unfold putL
    split
    · rfl
    · rename_i q
      unfold fnd at e
      rw [List.find?_cons, Bool.eq_false_iff.mpr q] at e
      rw [List.length_cons, List.length_cons, ih e]

theorem nodupA_inj : ∀ {l : List Str} {i j : Nat} {x : Str}, nodupA l = true → l[i]? = some x → l[j]? = some x → i = j := by
  intro l
  induction l with
  | nil => intro i j x _ e; cases e
  | cons y r ih =>
    intro i j x h e1 e2
    rw [nodupA, Bool.and_eq_true, Bool.not_eq_true'] at h
    have no : ∀ k, r[k]? ≠ some y := fun k q => by
      have := List.contains_iff_mem.mpr (List.mem_of_getElem? q)
      rw [this] at h; cases h.1
    cases i with
    | zero =>
      cases e1
      cases j with
      | zero => rfl
      | succ j => exact absurd e2 (no j)
    | succ i =>
      cases j with
      | zero => cases e2; exact absurd e1 (no i)
      | succ j => rw [ih h.2 e1 e2]

section
variable {T : Tp} {A : Around} {W : Wd}

/-- the store into an instance's own dict -/
theorem store_own {K : Frag} {prog : Program} {w : World} {C x dx : Addr} {s : Shared} {name : Str} {tk : Tok} {v : Value} {ents : Array DictEntry} {n : Nat} {Q : Fin → Shared → Prop} {E : Value → Shared → Prop} {b : Bool} (X : K.In s.heap) (hx : s.heap.get? x = some { cls := .ref C, dict := some dx, data := .plain })
    (hd : s.heap.get? dx = some { cls := .type "dict", data := .dict ents n }) (hh : hasDictIn K C = true) (hk : ∀ e ∈ ents.toList, ∃ x t, e.key = .str x t) (hz : ents.size ≤ 1000)
    (h : ∀ h' hsh t, h'.get? dx = some { cls := .type "dict", data := .dict (putL name hsh (.str name t) v ents.toList).toArray (putN name ents.toList n) } → Heap.SameBut dx s.heap h' → Q (.done (.ret .none)) { s with heap := h', toks := s.toks + 1 }) :
    wpAny (model prog w) A (storeInOwnDict (.ref x) (.ref C) (.str name tk) name v b) Q E s := by
  obtain ⟨cd, hc, hd'⟩ := any_some hh
  refine wpAny_bind (wpAny_pure (wpAny_bind (wpAny_bind (wpAny_loadPart hx (wpAny_bind ((looks_clsIn X hc).here ?_))))))
  rw [hd']
  refine wpAny_pure (a := some dx) (wpAny_bind (wpAny_pure (wpAny_bind ?_)))
  unfold nsSet
  refine wpAny_bind (wpAny_bind (wpAny_askSetting (wpAny_pure (wpAny_bind (wpAny_mkText (wpAny_bind (wpAny_loadPart hd ?_)))))))
  dsimp only
  have c : (!ents.any (·.key.isStr name) && ents.any (·.refKey)) = false := by
    rw [← Array.any_toList, ← Array.any_toList, any_ref hk, Bool.and_false]
  rw [aRefKeyMayBeTheName_at, c]
  have e : ∀ hsh t, Obj.putName name hsh (.str name t) v { cls := .type "dict", data := .dict ents n } = { cls := .type "dict", data := .dict (putL name hsh (.str name t) v ents.toList).toArray (putN name ents.toList n) } := fun hsh t => by
    have := putName_dict name hsh (.str name t) v ents.toList n
    simpa only [dictOf, Array.toArray_toList] using this
  refine wpAny_updatePart hd ?_
  have D' := Heap.get?_update_self (Obj.putName name (PyData.keyHash w.params name) (.str name s.toks) v) hd (by rw [e]; rfl)
  rw [e] at D'
  have hz' : (putL name (PyData.keyHash w.params name) (.str name s.toks) v ents.toList).toArray.size ≤ sizeLine := by
    rw [List.size_toArray, sizeLine_eq]
    have := putL_length (nm := name) (hsh := PyData.keyHash w.params name) (key := .str name s.toks) (v := v) (es := ents.toList)
    have e2 : ents.toList.length = ents.size := Array.length_toList
    omega
  refine wpAny_bind (wpAny_lookBehind D' (pastItsLine_dict (Nat.le_succ_of_le hz')) ?_)
  exact wpAny_pure (h _ _ _ D' (Heap.SameBut.update ..))

theorem does_setAttrA (O : T.Ok) (I : Inv T W) {x v : AV} {a : Nat} {nm : Str} {vx vv : Value} {σ' : Hp} (rx : W.V T x vx) (rv : W.V T v vv) (hnm : T.P.attrs[a]? = some nm) (e : setAttrA x a v W.σ = some σ') :
    Does T A noX W (setAttr vx nm vv) (.ok () σ') (fun _ _ _ => True) := by
  cases x with
  | ref l =>
    have e0 : setAttrA (.ref l) a v W.σ = match ins W.σ[l]? with | some p => if a < p.2.length then some (W.σ.set l (.inst p.1 (p.2.set a (some v)))) else none | none => none := rfl
    rw [e0] at e
    cases hσ : ins W.σ[l]? with
    | none => rw [hσ] at e; cases e
    | some p =>
      rw [hσ] at e
      simp only at e
      by_cases hl : a < p.2.length
      · rw [if_pos hl] at e
        cases e
        obtain ⟨cl, b, dx, ents, n, ⟨hcl, hx⟩, rfl, hb, h1, h2, h3, h4, hk, ⟨hc1, hc2⟩, h5⟩ := I.inst (ins_ok hσ) rx
        have hk' : ∀ e ∈ ents.toList, ∃ x t, e.key = .str x t := fun e he => let ⟨x, t, q, _⟩ := hk e he; ⟨x, t, q⟩
        have ok := O.inst hcl hx
        have X := O.X.keeps I.base
        have hz : ents.size ≤ 1000 := by
          rw [Array.length_toList] at hc1
          exact Nat.le_trans hc1 (Nat.le_trans List.countP_le_length hc2)
        have II : ∀ s : Shared, s.heap = W.h → InstAt s.heap b { cls := .ref (T.ca p.1), dict := some dx, data := .plain } (T.ca p.1) (some { cls := .type "dict", data := .dict ents n }) := fun s q => by rw [q]; exact ⟨h1, rfl, rfl, h4⟩
        refine set_plain X (II _ rfl) ok.set (osa_open (s := { W.s with toks := W.s.toks + 1 }) X (II _ rfl) ok.over (ok.attrs nm (List.mem_of_getElem? hnm)).2 fun bb => store_own (A := A.in1) (s := { W.s with toks := W.s.toks + 1 }) X h1 h4 ok.dict hk' hz fun h' hsh t hd' hs => ?_)
        show PostE _ _ _ _ _ _ _
        have own_b := I.ownb _ _ hb
        obtain ⟨f1, f2⟩ := fnd_put (nm := nm) (hsh := hsh) (tk := t) (v := vv) hk'
        have g := I.upd (o := .inst p.1 (p.2.set a (some v))) (s' := { W.s with heap := h', toks := W.s.toks + 1 + 1 }) hb (fun c q f e => ?_) (fun c q => hs.2 c fun z => q (z ▸ h2)) rfl rfl
          fun x => ⟨⟨cl, hcl, hx⟩, dx, _, _, (hs.2 b (Ne.symm h3)).trans h1, h2, h3, hd', ?_, ⟨?_, by rw [List.length_set]; exact hc2⟩, fun i nm' hi => ?_⟩
        · exact ⟨(), _, rfl, rfl, g.1, g.2, trivial⟩
        · by_cases z : c = dx
          · subst z; exact ⟨_, hd'⟩
          · exact ⟨q, (hs.2 c z).trans e⟩
        · intro e he
          rw [List.toList_toArray] at he
          rcases putL_mem he with q | ⟨e', he', q⟩
          · exact ⟨nm, t, q, List.mem_of_getElem? hnm⟩
          · obtain ⟨x, t, z, m⟩ := hk e' he'
            exact ⟨x, t, q.trans z, m⟩
        · rw [List.toList_toArray, List.countP_set hl]
          have h6 := h5 a nm hnm
          cases q : p.2[a] with
          | none =>
            have := putL_length (nm := nm) (hsh := hsh) (key := .str nm t) (v := vv) (es := ents.toList)
            simp only [Option.isSome_none, Option.isSome_some, if_true, Bool.false_eq_true, if_false]
            omega
          | some w =>
            obtain ⟨w', ew, _⟩ := h6.1 w (by rw [List.getElem?_eq_getElem hl, q])
            rw [putL_hit ew]
            simp only [Option.isSome_some, if_true]
            have : 0 < p.2.countP (·.isSome) := List.countP_pos_iff.mpr ⟨_, List.getElem_mem hl, by rw [q]; rfl⟩
            omega
        · rw [List.toList_toArray]
          by_cases q : nm = nm'
          · subst q
            obtain rfl := nodupA_inj O.at_ hnm hi
            rw [f1, List.getElem?_set_self hl]
            refine ⟨fun av z => ?_, fun z => absurd rfl (z v)⟩
            cases z
            exact ⟨vv, rfl, rv.ext x .no⟩
          · rw [f2 nm' q, List.getElem?_set_ne (fun z => by rw [z, hi] at hnm; cases hnm; exact q rfl)]
            obtain ⟨k1, k2⟩ := h5 i nm' hi
            exact ⟨fun av z => let ⟨u, e1, e2⟩ := k1 av z; ⟨u, e1, e2.ext x .no⟩, k2⟩
      · rw [if_neg hl] at e; cases e
  | _ => cases e
end
end Mine

/-! Soundness: instances are made (typed by hand). -/
set_option Elab.async false
set_option maxRecDepth 100000
namespace Mine
open PySem PySem.SeqAt PySem.Spec PySem.W PySem.Calls PyProof.Rows

section
variable {T : Tp} {A : Around} {W : Wd} {n : Nat} {C : Cx}

theorem callee_cls (O : T.Ok) {c : Nat} {cl : Cl} (e : T.P.cls[c]? = some cl) (hx : cl.exc = false) : Callee T (.ref (T.ca c)) := fun h k => by
  obtain ⟨kp, hk, l⟩ := looks_keep (M := T.M) (O.inst e hx).keep (O.X.keeps k)
  exact ⟨kp, hk.imp id .inl, l⟩

theorem initAt_ok {P : Pr} {c f : Nat} (h : initAt P c = some f) : ∃ cl, P.cls[c]? = some cl ∧ cl.exc = false ∧ cl.init = some f ∧ P.attrs.length ≤ 1000 := by
  unfold initAt at h
  cases e : P.cls[c]? with
  | none => rw [e] at h; cases h
  | some cl =>
    rw [e] at h
    simp only at h
    by_cases q : (cl.exc || decide (1000 < P.attrs.length)) = true
    · rw [if_pos q] at h; cases h
    · rw [if_neg q] at h
      simp only [Bool.or_eq_true, decide_eq_true_eq, not_or, Bool.not_eq_true] at q
      exact ⟨cl, rfl, q.1, h, by omega⟩

theorem tc_weight (args : Args) : (Code.builtin "type.__call__" args).weight ≤ 1 := by
  have e1 : (Code.builtin "type.__call__" args).frames = 0 := by kernel_rfl
  have e2 : (Code.builtin "type.__call__" args).isGuard = false := by kernel_rfl
  have e3 : (Code.builtin "type.__call__" args).isCaller = false := by kernel_rfl
  unfold Code.weight
  rw [e1, e2, e3]
  split <;> decide
theorem tc_units (args : Args) : (Code.builtin "type.__call__" args).cUnits ≤ 9 := by
  have e : (Code.builtin "type.__call__" args).cUnits = (Code.builtin "type.__call__" {}).cUnits := by kernel_rfl
  rw [e]; decide +kernel
theorem tc_envs (args : Args) : (Code.builtin "type.__call__" args).envs = [] := by kernel_rfl
theorem under_ok {hd : Bool} {args : Args} (a : AOk n hd A) : AOkC n hd (A.under (.builtin "type.__call__" args)) := by
  have w := tc_weight args
  have u := tc_units args
  refine ⟨?_, ?_, a.handled⟩
  · unfold Around.under
    have := a.depth
    dsimp only
    omega
  · unfold Around.under
    have := a.units
    dsimp only
    omega
theorem under_frames {args : Args} : (A.under (.builtin "type.__call__" args)).frames = A.frames := by
  unfold Around.under
  dsimp only
  rw [tc_envs]; rfl

theorem does_newA (O : T.Ok) (I : Inv T W) (hC : CallsOk T n C.call) (hP : C.P = T.P) {c : Nat} {xs : List AV} {vals : List Value} (a : AOk n C.hd A) (S : St T A W) (r : W.Vs T xs vals) (hn : newA C c xs W.σ ≠ .fail) :
    Does T A noX W (call (.ref (T.ca c)) vals) (newA C c xs W.σ) (VW T) := by
  unfold newA at hn ⊢
  rw [hP] at hn ⊢
  cases hf : initAt T.P c with
  | none => rw [hf] at hn; exact absurd rfl hn
  | some f =>
    rw [hf] at hn
    simp only at hn ⊢
    obtain ⟨cl, hcl, hx, hi, hl⟩ := initAt_ok hf
    have ok := O.inst hcl hx
    obtain ⟨h1, h2⟩ := ok.init f hi
    have X := O.X.keeps I.base
    have hk : ∀ b o, W.h.get? b = some o → ((W.h.push emptyDict).push (instObj (T.ca c) W.h.objs.size)).get? b = some o := fun b o e => Heap.get?_push_of_some _ (Heap.get?_push_of_some _ e)
    have hx1 : ((W.h.push emptyDict).push (instObj (T.ca c) W.h.objs.size)).get? (W.h.objs.size + 1) = some (instObj (T.ca c) W.h.objs.size) := by
      have := Heap.get?_push_size (W.h.push emptyDict) (o := instObj (T.ca c) W.h.objs.size) rfl
      rwa [Heap.size_push] at this
    have hd1 : ((W.h.push emptyDict).push (instObj (T.ca c) W.h.objs.size)).get? W.h.objs.size = some emptyDict := Heap.get?_push_of_some _ (Heap.get?_push_size _ rfl)
    have hN : ∀ b, W.h.objs.size ≤ b → W.h.get? b = none := fun b hb => by
      cases q : W.h.get? b with
      | none => rfl
      | some o => exact absurd (Heap.lt_size q) (Nat.not_lt.mpr hb)
    have g := I.grow (s' := { W.s with heap := (W.h.push emptyDict).push (instObj (T.ca c) W.h.objs.size) }) hk rfl rfl
    have nx := hN (W.h.objs.size + 1) (Nat.le_succ _)
    have nd := hN W.h.objs.size (Nat.le_refl _)
    have fx : FrX (fun b => b = W.h.objs.size + 1 ∨ b = W.h.objs.size) W.own ((W.h.push emptyDict).push (instObj (T.ca c) W.h.objs.size)) := fun b q => by
      rcases q with rfl | rfl
      · exact ⟨own_new I nx, fun o e => by rw [hx1] at e; cases e; exact .inr (.inr ⟨by simp, by simp⟩)⟩
      · exact ⟨own_new I nd, fun o e => by rw [hd1] at e; cases e; exact .inl ⟨_, _, rfl⟩⟩
    obtain ⟨I2, l2, v2⟩ := g.1.take (D := W.h.objs.size + 1) (D2 := W.h.objs.size) (o := .inst c (List.replicate T.P.attrs.length none)) (own_new I nx) (own_new I nd) (base_new I nx) (base_new I nd) ⟨_, hx1⟩ ⟨_, hd1⟩ (Nat.lt_succ_of_lt I.high) fx
      fun x => ⟨⟨cl, hcl, hx⟩, W.h.objs.size, #[], 0, hx1, if_pos (.inr rfl), Nat.ne_of_lt (Nat.lt_succ_self _), hd1, fun e he => (nomatch he), ⟨Nat.zero_le _, by rw [List.length_replicate]; exact hl⟩, fun i nm _ => ⟨fun av q => absurd (List.mem_replicate.mp (List.mem_of_getElem? q)).2 (fun z => nomatch z), fun _ => rfl⟩⟩
    · have l3 : Le noX W (Wd.take { W with s := { W.s with heap := (W.h.push emptyDict).push (instObj (T.ca c) W.h.objs.size) } } (W.h.objs.size + 1) W.h.objs.size (.inst c (List.replicate T.P.attrs.length none))) :=
        g.2.lose l2 fun b o e _ _ q => by
          rcases q with rfl | rfl
          · rw [nx] at e; cases e
          · rw [nd] at e; cases e
      obtain ⟨n1, n2⟩ := Out.bind_ok hn
      have S' : St T (A.under (.builtin "type.__call__" ⟨.ref (T.ca c) :: vals, []⟩)) (Wd.take { W with s := { W.s with heap := (W.h.push emptyDict).push (instObj (T.ca c) W.h.objs.size) } } (W.h.objs.size + 1) W.h.objs.size (.inst c (List.replicate T.P.attrs.length none))) := by
        obtain ⟨l, e, k⟩ := S.le l3
        exact ⟨l, by rw [under_frames]; exact e, k⟩
      have key := hC.code C.hd f (.ref W.σ.length :: xs) (.ref (W.h.objs.size + 1) :: vals) _ _ (under_ok a) S' I2 (.cons v2 (r.le l3)) n1
      refine wpAny_call (make_core (h := W.s.heap) (makes_of X ok.makes) (looks_findIn X h1) (fun self => bind_fn X self (beq_iff_eq.mp h2)) (.inl rfl) (codeAny_mono key fun r s' z => ?_))
      cases r with
      | error e =>
        obtain ⟨d, W', b, e1, e2, I', l', z⟩ := z
        exact ⟨d, W', b, e1, by show (C.call _ _ _ _).bind _ = _; rw [show C.call C.hd f (.ref W.σ.length :: xs) (W.σ ++ [.inst c (List.replicate T.P.attrs.length none)]) = _ from e2]; rfl, I', l3.trans l', z⟩
      | ok fl =>
        cases fl with
        | ret v =>
          obtain ⟨av, W', e1, e2, I', l', rv⟩ := z
          have n3 := n2 av W'.σ e2
          cases av with
          | none =>
            cases rv
            exact ⟨rfl, .ref W.σ.length, W', e1, by rw [show C.call C.hd f (.ref W.σ.length :: xs) (W.σ ++ [.inst c (List.replicate T.P.attrs.length none)]) = _ from e2]; rfl, I', l3.trans l', v2.le l'⟩
          | _ => exact absurd rfl n3
        | _ => exact z.elim
end
end Mine

/-! Soundness: dict displays (typed by hand). -/
set_option Elab.async false
namespace Mine
open PySem PySem.SeqAt PySem.Spec PySem.W PySem.Calls PyProof.Rows

noncomputable def flatP : List (Value × Value) → List Value
  | [] => []
  | p :: r => p.1 :: p.2 :: flatP r

theorem inter_ok : ∀ {ks : List (Option Expr)} {vs es : List Expr}, inter ks vs = some es → ks.all (·.isSome) = true ∧ ks.length = vs.length := by
  intro ks
  induction ks with
  | nil =>
    intro vs es h
    cases vs with
    | nil => exact ⟨rfl, rfl⟩
    | cons _ _ => cases h
  | cons k ks ih =>
    intro vs es h
    cases k with
    | none => cases h
    | some k =>
      cases vs with
      | nil => cases h
      | cons v vs =>
        obtain ⟨r, e, _⟩ := Option.map_eq_some_iff.mp (show (inter ks vs).map (fun r => k :: v :: r) = some es from h)
        obtain ⟨h1, h2⟩ := ih e
        exact ⟨by rw [List.all_cons, h1]; rfl, by rw [List.length_cons, List.length_cons, h2]⟩

section
variable {T : Tp} {G : Gl} {n : Nat} {C : Cx}

theorem does_pairs {A : Around} {env : Env} {sl : List (Nat × Str)} {vs : Vs} {pos : Pos} : ∀ (ks : List (Option Expr)) (vals es : List Expr) (ms : List ME) (W : Wd), (∀ m ∈ ms, SE T G n C m) → inter ks vals = some es → mtEs G env.scope sl ms es = true → AOk n C.hd A → Fm T A W env sl vs → Inv T W → evs C ms W.σ vs ≠ .fail →
    Does T A noX W (evalPairs (pairTrees ks vals env pos)) (evs C ms W.σ vs) (fun W' as r => W'.Vs T as (flatP r)) := by
  intro ks
  induction ks with
  | nil =>
    intro vals es ms W _ hi hm _ _ I _
    cases vals with
    | cons _ _ => cases hi
    | nil =>
      cases hi
      cases ms with
      | cons m ms => obtain ⟨_, _, q, _⟩ := mtEs_cons hm; cases q
      | nil => exact Does.ok (evalPairs_nil ⟨W, rfl, rfl, I, .refl _ _, .nil⟩)
  | cons k ks ih =>
    intro vals es ms W hs hi hm a F I hn
    cases k with
    | none => cases hi
    | some k =>
      cases vals with
      | nil => cases hi
      | cons v vals =>
        obtain ⟨r, hr, rfl⟩ := Option.map_eq_some_iff.mp (show (inter ks vals).map (fun r => k :: v :: r) = some es from hi)
        cases ms with
        | nil => cases mtEs_nil hm
        | cons m1 ms =>
          obtain ⟨_, _, q, _, h1, hm2⟩ := mtEs_cons hm
          cases q
          cases ms with
          | nil => cases mtEs_nil hm2
          | cons m2 ms =>
            obtain ⟨_, _, q, _, h2, hm3⟩ := mtEs_cons hm2
            cases q
            rw [evs_q2] at hn ⊢
            obtain ⟨n1, n2⟩ := Out.bind_ok hn
            refine pairTrees_cons_walk ((hs m1 (List.mem_cons_self ..) k sl A W env vs h1 a F I n1).cps (fun x W1 vx e1 I1 l1 r1 => ?_) fun _ _ q => q.bind)
            have n3 := n2 x W1.σ e1
            rw [evs_q2] at n3
            obtain ⟨n4, n5⟩ := Out.bind_ok (Out.bind_ok n3).1
            have up : ∀ {e : Value} {s : Shared} {r : Out (List AV)}, PostX T noX W1 r e s → (r = (ev C m2 W1.σ vs).bind fun y h => (evs C ms h vs).bind fun ys h => .ok (y :: ys) h) → PostX T noX W ((ev C m1 W.σ vs).bind fun x h => (evs C (m2 :: ms) h vs).bind fun xs h => .ok (x :: xs) h) e s := fun q z => by
              refine (q.bind (f := fun xs h => .ok (x :: xs) h)).up l1 ?_
              rw [e1]
              show (evs C (m2 :: ms) W1.σ vs).bind _ = _
              rw [evs_q2, z]
            refine (hs m2 (List.mem_cons_of_mem _ (List.mem_cons_self ..)) v sl A W1 env vs h2 a (F.le l1) I1 n4).cps (fun y W2 vy e2 I2 l2 r2 => ?_) fun _ _ q => up q.bind rfl
            have n6 := Out.bind_ok (n5 y W2.σ e2)
            refine (ih vals r ms W2 (fun m hm => hs m (List.mem_cons_of_mem _ (List.mem_cons_of_mem _ hm))) hr hm3 a (F.le (l1.trans l2)) I2 n6.1).cps (fun ys W3 vys e3 I3 l3 r3 => ?_) fun _ _ q => up ((q.bind (f := fun ys h => .ok (y :: ys) h)).up l2 (r₀ := (ev C m2 W1.σ vs).bind fun y h => (evs C ms h vs).bind fun ys h => .ok (y :: ys) h) (by rw [e2]; rfl)) rfl
            refine ⟨x :: y :: ys, W3, rfl, ?_, I3, (l1.trans l2).trans l3, .cons ((r1.le l2).le l3) (.cons (r2.le l3) r3)⟩
            rw [e1]
            show (evs C (m2 :: ms) W1.σ vs).bind _ = _
            rw [evs_q2, e2]
            show ((evs C ms W2.σ vs).bind _).bind _ = _
            rw [e3]; rfl

theorem pairs_cons (k v : AV) (r : List AV) : pairs (k :: v :: r) = (pairs r).map fun l => (k, v) :: l := rfl
theorem distinct_key {es : List (AV × AV)} (h : distinct es = true) : ∀ p ∈ es, isKey p.1 = true := by
  induction es with
  | nil => intro p hp; cases hp
  | cons q r ih =>
    intro p hp
    have h := Bool.and_eq_true_iff.mp h
    rcases List.mem_cons.mp hp with rfl | hp
    · exact (Bool.and_eq_true_iff.mp h.1).1
    · exact ih h.2 p hp
theorem carry {W : Wd} : ∀ {rs : List (Value × Value)} {as : List AV} {kv : List (AV × AV)}, W.Vs T as (flatP rs) → pairs as = some kv → (∀ p ∈ kv, isKey p.1 = true) → ∃ kvs, Carries (kKind T.prog T.w) rs kvs ∧ KV T W.own W.bt W.h kv kvs := by
  intro rs
  induction rs with
  | nil =>
    intro as kv r e _
    cases r
    cases e
    exact ⟨[], trivial, .nil⟩
  | cons p rs ih =>
    intro as kv r e hk
    obtain ⟨k, v⟩ := p
    cases r with
    | cons a r =>
      cases r with
      | cons b r =>
        rw [pairs_cons] at e
        obtain ⟨kv', e', rfl⟩ := Option.map_eq_some_iff.mp e
        obtain ⟨kvs, h1, h2⟩ := ih r e' fun q hq => hk q (List.mem_cons_of_mem _ hq)
        obtain ⟨k1, k2⟩ := key_of a (hk _ (List.mem_cons_self ..))
        exact ⟨(kOf _, v) :: kvs, (show _ ∧ _ ∧ _ from ⟨k1, rfl, h1⟩), .cons (p := (_, _)) k2 b h2⟩

theorem evs_nil {ms : List ME} {h k : Hp} {vs : Vs} (e : evs C ms h vs = .ok [] k) : ms = [] := by
  cases ms with
  | nil => rfl
  | cons m ms =>
    rw [evs_q2] at e
    cases e1 : ev C m h vs with
    | ok x h1 =>
      rw [e1] at e
      cases e2 : evs C ms h1 vs with
      | ok xs h2 => have e : (evs C ms h1 vs).bind (fun xs h => Out.ok (x :: xs) h) = _ := e; rw [e2] at e; cases e
      | exc _ _ => have e : (evs C ms h1 vs).bind (fun xs h => Out.ok (x :: xs) h) = _ := e; rw [e2] at e; cases e
      | fail => have e : (evs C ms h1 vs).bind (fun xs h => Out.ok (x :: xs) h) = _ := e; rw [e2] at e; cases e
    | exc _ _ => rw [e1] at e; cases e
    | fail => rw [e1] at e; cases e
theorem does_dict {A : Around} {W : Wd} {env : Env} {sl : List (Nat × Str)} {vs : Vs} {pos : Pos} {ks : List (Option Expr)} {vals es : List Expr} {ms : List ME} (hs : ∀ m ∈ ms, SE T G n C m) (hi : inter ks vals = some es) (hm : mtEs G env.scope sl ms es = true) (a : AOk n C.hd A) (F : Fm T A W env sl vs) (I : Inv T W)
    (hl : ks.length ≤ 15) (hn : ((evs C ms (W.σ ++ [.dict (some 0) []]) vs).bind fun xs h => match pairs xs with | some kv => putDict W.σ.length kv h | none => .fail) ≠ .fail) :
    Does T A noX W (eval (.Dict ks vals pos) env) ((evs C ms (W.σ ++ [.dict (some 0) []]) vs).bind fun xs h => match pairs xs with | some kv => putDict W.σ.length kv h | none => .fail) (VW T) := by
  obtain ⟨h1, h2⟩ := inter_ok hi
  obtain ⟨I0, l0, v0⟩ := I.push (s' := { W.s with heap := W.h.push { cls := .type "dict", data := .dict #[] } }) (o := .dict (some 0) []) (Heap.get?_push_size _ rfl) (fun a q e => Heap.get?_push_of_some _ e) rfl rfl
    fun x => ⟨[], 0, ⟨_, #[], Heap.get?_push_size _ rfl, ⟨rfl, rfl, rfl⟩, rfl, fun e he => (nomatch he), .nil, List.nodup_nil⟩, fun e he => by cases he; rfl, .nil, Nat.zero_le _⟩
  by_cases h0 : ks = []
  · subst h0
    cases vals with
    | cons _ _ => cases h2
    | nil =>
      cases hi
      cases ms with
      | cons m ms => obtain ⟨_, _, q, _⟩ := mtEs_cons hm; cases q
      | nil =>
        refine wpAny_Dict_empty ⟨.ref W.σ.length, _, rfl, ?_, I0, l0, v0⟩
        show putDict W.σ.length [] (W.σ ++ [.dict (some 0) []]) = _
        have e1 : emptyAt W.σ.length (W.σ ++ [.dict (some 0) []]) = true := by
          unfold emptyAt
          rw [List.getElem?_append_right (Nat.le_refl _), Nat.sub_self]; rfl
        unfold putDict
        rw [e1]; rfl
  · obtain ⟨n1, n2⟩ := Out.bind_ok hn
    refine wpAny_Dict_walk (knd := kKind T.prog T.w) h1 h2 h0 hl ((does_pairs ks vals es ms (W.push (.dict (some 0) []) { W.s with heap := W.h.push { cls := .type "dict", data := .dict #[] } }) hs hi hm a (F.le l0) I0 n1).cps (fun as W1 rs e1 I1 l1 r1 => ?_) fun _ _ q => (q.up l0 rfl).bind)
    have n3 := n2 as W1.σ e1
    cases hp : pairs as with
    | none => rw [hp] at n3; exact absurd rfl n3
    | some kv =>
      rw [hp] at n3
      have n3 : putDict W.σ.length kv W1.σ ≠ .fail := n3
      unfold putDict at n3
      by_cases hd : (distinct kv && decide (kv.length ≤ 15) && emptyAt W.σ.length W1.σ) = true
      · simp only [Bool.and_eq_true, decide_eq_true_eq] at hd
        obtain ⟨kvs, c1, c2⟩ := carry r1 hp (distinct_key hd.1.1)
        have hne : kv ≠ [] := fun z => by
          subst z
          have e2 : as = [] := by
            cases as with
            | nil => rfl
            | cons x as => cases as with
              | nil => cases hp
              | cons y as => rw [pairs_cons] at hp; obtain ⟨_, _, q⟩ := Option.map_eq_some_iff.mp hp; cases q
          subst e2
          have e3 := evs_nil e1
          subst e3
          have e4 := mtEs_nil hm
          subst e4
          cases ks with
          | nil => exact h0 rfl
          | cons k ks => cases k with
            | none => cases hi
            | some k => cases vals with
              | nil => cases hi
              | cons v vals => obtain ⟨_, _, q⟩ := Option.map_eq_some_iff.mp (show (inter ks vals).map (fun r => k :: v :: r) = some [] from hi); cases q
        have hem := hd.2
        unfold emptyAt at hem
        cases hx : dct W1.σ[W.σ.length]? with
        | none => rw [hx] at hem; cases hem
        | some p =>
          rw [hx] at hem
          have hp2 : p.2 = [] := List.isEmpty_iff.mp hem
          obtain ⟨d, kvs0, n0, e0, hb, hd0, _, kv0, _, _⟩ := I1.dict (dct_ok hx) (v0.le l1)
          cases e0
          rw [hp2] at kv0
          cases kv0
          refine ⟨kvs, c1, hd0.dictOf, fun h' hd2 hsb => ?_⟩
          rw [merged_nil_of_nodup _ (c2.nodup hd.1.1)] at hd2
          obtain ⟨ep, hd3⟩ := hd2.dictAt
          have own_d := I1.ownb _ _ hb
          have g := I1.upd (o := .dict none kv) (s' := { W1.s with heap := h', toks := W1.s.toks + rs.length }) hb (fun b q f e => ?_) (fun b q => hsb.2 b fun z => q (z ▸ own_d)) rfl rfl
            fun x => ⟨kvs, ep, hd3, fun e he => (nomatch he), c2.ext x .no, Nat.le_trans hd.1.2 (by decide)⟩
          · refine ⟨.ref W.σ.length, _, rfl, ?_, g.1, (l0.trans l1).trans g.2, (v0.le l1).le g.2⟩
            rw [show evs C ms (W.σ ++ [.dict (some 0) []]) vs = _ from e1]
            show (match pairs as with | some kv => putDict W.σ.length kv W1.σ | none => .fail) = _
            rw [hp]
            show putDict W.σ.length kv W1.σ = _
            unfold putDict
            rw [if_pos (by simp only [Bool.and_eq_true, decide_eq_true_eq]; exact hd), if_neg (fun z => hne (List.isEmpty_iff.mp z))]
          · by_cases z : b = W.h.objs.size
            · subst z; obtain ⟨o, _, ho, _⟩ := hd3; exact ⟨o, ho⟩
            · exact ⟨q, (hsb.2 b z).trans e⟩
      · rw [if_neg hd] at n3; exact absurd rfl n3
end
end Mine

/-! Soundness, part 12: all expressions (typed by hand). -/
set_option Elab.async false
namespace Mine
open PySem PySem.SeqAt PySem.Spec PySem.W PySem.Calls

section
variable {T : Tp} {G : Gl} {n : Nat} {C : Cx}

theorem does_part {m : ME} (ih : SE T G n C m) {e : Option Expr} {sl : List (Nat × Str)} {A : Around} {W : Wd} {env : Env} {vs : Vs} (hm : mO m (mtE G env.scope sl m) e = true) (a : AOk n C.hd A) (F : Fm T A W env sl vs) (I : Inv T W) (hn : ev C m W.σ vs ≠ .fail) :
    Does T A noX W (evalPart e env) (ev C m W.σ vs) (VW T) := by
  rcases mO_inv hm with ⟨rfl, rfl⟩ | ⟨e', rfl, hm⟩
  · exact Does.ok (wpAny_evalPart_none ⟨W, rfl, rfl, I, .refl _ _, .none⟩)
  · exact wpAny_evalPart_some (ih e' sl A W env vs hm a F I hn)

theorem folded_no {v : Expr} (h : notSet v = true) (env : Env) (x : Value) : foldedSetIterable v env x = pure x := by
  cases v with
  | Set _ _ _ => cases h
  | _ => rfl
theorem few_args {pos : Pos} {env : Env} {es : List Expr} (h : plainArgs es = true) (hl : es.length < 30) : ((backTo pos (starEach es env)).all (fun x => !x.1) && (backToKw pos (keywordEach [] env)).all (fun x => x.1.isSome)
      && decide (es.length + ([] : List Keyword).length + (if ([] : List Keyword).isEmpty then 0 else 1) < 30)) = true := by
  have h1 : (backTo pos (starEach es env)).all (fun x => !x.1) = true := by
    have := backTo_plain (env := env) (pos := pos) h
    rw [List.any_eq_false] at this
    rw [List.all_eq_true]
    intro p hp
    have := this p hp
    simpa using this
  rw [h1]
  have h2 : (backToKw pos (keywordEach [] env)).all (fun x => x.1.isSome) = true := rfl
  rw [h2]
  simpa using hl

/-- a call of a value, with its arguments -/
theorem does_args {A : Around} {W : Wd} {env : Env} {sl : List (Nat × Str)} {vs : Vs} {pos : Pos} {f : Value} {first : List Value} {args : List ME} {as : List Expr} {g : List AV → Hp → Out AV} (ih : ∀ m ∈ args, SE T G n C m) (h : mtEs G env.scope sl args as = true) (hk : Callee T f)
    (a : AOk n C.hd A) (F : Fm T A W env sl vs) (I : Inv T W) (hn : (evs C args W.σ vs).bind g ≠ .fail)
    (hc : ∀ xs vals W', Inv T W' → Le noX W W' → evs C args W.σ vs = .ok xs W'.σ → W'.Vs T xs vals → g xs W'.σ ≠ .fail → Does T A noX W' (call f (first ++ vals)) (g xs W'.σ) (VW T)) :
    Does T A noX W (callWith pos f first (backTo pos (starEach as env)) []) ((evs C args W.σ vs).bind g) (VW T) := by
  cases args with
  | nil =>
    obtain rfl := mtEs_nil h
    exact does_callWith0 I hk (hc [] [] W I (.refl _ _) rfl .nil hn)
  | cons m ms =>
    obtain ⟨n1, n2⟩ := Out.bind_ok hn
    obtain ⟨e, r, rfl, _⟩ := mtEs_cons h
    exact does_callWith (mtEs_plain h) hk (does_evs (m :: ms) ih (e :: r) sl A W env vs pos h a F I n1) fun xs vals W' I' l' e1 rr => hc xs vals W' I' l' e1 rr (n2 xs W'.σ e1)

theorem kdName_name {sc : Scope} {k : Kd} {e : Expr} (h : kdName G sc k e = true) : ∃ x p, e = .Name x p := by
  cases k with
  | cls d => obtain ⟨x, p, h, _⟩ := clsName_name h; exact ⟨x, p, h⟩
  | _ => obtain ⟨x, p, h, _⟩ := biName_name h; exact ⟨x, p, h⟩
/-- the name of a class, for isinstance -/
theorem does_kd {A : Around} {W : Wd} {env : Env} {sl : List (Nat × Str)} {vs : Vs} {k : Kd} {e : Expr} (hT : T.Ok) (hG : GlOk T G) (I : Inv T W) (F : Fm T A W env sl vs) (h : kdName G env.scope k e = true) {Q : Value → Shared → Prop} {E : Value → Shared → Prop} (q : Q (kdV T k) W.s) : wpAny T.M A (eval e env) Q E W.s := by
  cases k with
  | cls d =>
    obtain ⟨x, p, rfl, h1, h2⟩ := clsName_name h
    exact does_global hT hG I F h1 h2 (by rw [hG.ca]; exact q)
  | _ =>
    obtain ⟨x, p, rfl, h1⟩ := biName_name h
    exact does_bi_name hT hG I F h1 q
theorem base_eq {o' : Expr} {nm : Str} {env : Env} (h6 : noSuper o' = true) : attributeBase o' nm env (eval o' env) = eval o' env := by
  cases o' with
  | Call _ _ _ _ => cases h6
  | _ => rfl
theorem attr_eval {A : Around} {s : Shared} {env : Env} {o : Expr} {nm : Str} {pos : Pos} {Q : Value → Shared → Prop} {E : Value → Shared → Prop} (hb : noSuper o = true) (h : wpAny T.M A (eval o env) (fun o s₁ => wpAny T.M A (getAttr o nm true) Q E s₁) E s) :
    wpAny T.M A (eval (.Attribute o nm pos) env) Q E s := by
  rw [arm_eval_Attribute, base_eq hb]
  exact wpAny_bind (wpAny_mono h (fun o s₁ h₁ => wpAny_bind (wpAny_standAt (wpAny_bind (wpAny_holding (wpAny_mono h₁ (fun r s₂ h₂ => wpAny_bind (wpAny_letTemporaryGo (wpAny_pure h₂))) fun _ _ y => y))))) fun _ _ y => y)
theorem meth_eval {A : Around} {s : Shared} {env : Env} {o : Expr} {nm : Str} {apos pos : Pos} {args : List Expr} {Q : Value → Shared → Prop} {E : Value → Shared → Prop} (hb : noSuper o = true) (hp : plainArgs args = true) (hl : args.length < 30) (hline : apos.endLine = pos.line)
    (h : wpAny T.M A (eval o env) (fun o' s₁ => ∀ pl, wpAny T.M A (getMethod o' nm pl) (fun p s₂ => wpAny T.M A (callWith pos p.1 p.2 (backTo pos (starEach args env)) []) Q E s₂) E s₁) E s) :
    wpAny T.M A (eval (.Call (.Attribute o nm apos) args [] pos) env) Q E s := by
  rw [arm_eval_Call, base_eq hb]
  refine wpAny_bind (wpAny_mono h (fun ov s₁ h₁ => wpAny_bind (wpAny_standAt ?_)) fun _ _ e => e)
  have hform : methodCallForm (args.length + ([] : List Keyword).length) (backTo pos (starEach args env)) (backToKw pos (keywordEach [] env)) = true := few_args hp hl
  have hpos : methodCallPos true o env apos pos = pure pos := by unfold methodCallPos; simp [hline]
  unfold methodCall
  rw [hform]
  exact wpAny_bind (wpAny_holding (wpAny_mono (h₁ _) (fun p s₂ h₂ => wpAny_bind (wpAny_of_eq hpos h₂)) fun _ _ e => e))

theorem sound_e_aux (hT : T.Ok) (hG : GlOk T G) (hP : C.P = T.P) (hC : CallsOk T n C.call) (k : Nat) (ih : ∀ m : ME, sizeOf m < k → SE T G n C m) (m : ME) (hk : sizeOf m < k + 1) : SE T G n C m := by
  intro e sl A W env vs hm a F I hn
  have hu : A.units + 65 < cLine := by have := a.units; omega
  cases m with
  | none =>
    obtain ⟨c, hx, h⟩ := any_inv hm
    obtain ⟨_, _, rfl⟩ := asC_inv hx
    obtain rfl := isNoneC_eq h
    exact does_none I
  | bool b =>
    obtain ⟨c, hx, h⟩ := any_inv hm
    obtain ⟨_, _, rfl⟩ := asC_inv hx
    cases c with
    | bool c => obtain rfl := eq_of_beq (show (b == c) = true from h); exact does_bool I
    | _ => cases h
  | int i =>
    obtain ⟨c, hx, h⟩ := any_inv hm
    obtain ⟨_, _, rfl⟩ := asC_inv hx
    obtain rfl := isIntC_eq h
    exact does_int I
  | str s =>
    obtain ⟨c, hx, h⟩ := any_inv hm
    obtain ⟨_, _, rfl⟩ := asC_inv hx
    cases c with
    | str c =>
      have h' : (c == tS s) = true ∧ okSb s = true := by rw [← Bool.and_eq_true]; exact h
      obtain rfl := eq_of_beq h'.1
      exact does_str I (okS_of h'.2)
    | _ => cases h
  | var i =>
    obtain ⟨x, hx, h⟩ := any_inv hm
    obtain ⟨_, rfl⟩ := asName_inv hx
    rw [Bool.and_eq_true] at h
    rw [ev_q6] at hn ⊢
    split at hn
    · rename_i v hv
      exact does_var F I (List.contains_iff_mem.mp h.1) hv (by simpa using h.2)
    · exact absurd rfl hn
  | bin op l r =>
    obtain ⟨l', op', r', p, rfl, h1, h2, h3⟩ := inv_bin hm
    rw [ev_q7] at hn ⊢
    obtain ⟨n1, n2⟩ := Out.bind_ok hn
    refine does_bin (y := fun h => ev C r h vs) (z := fun a b h => binA op a b h) (ih l (by simp at hk; omega) _ sl A W env vs h2 a F I n1) (fun x W' I' l' e' => ih r (by simp at hk; omega) _ sl A W' env vs h3 a (F.le l') I' (Out.bind_ok (n2 x W'.σ e')).1) fun x y vx vy W' I' l' ee rx ry => ?_
    obtain ⟨σ, e1, e2⟩ := ee
    exact does_binA I' h1 rx ry ((Out.bind_ok (n2 x σ e1)).2 y W'.σ e2)
  | not e0 =>
    obtain ⟨e', p, rfl, hm⟩ := inv_not hm
    rw [ev_q8] at hn ⊢
    obtain ⟨n1, n2⟩ := Out.bind_ok hn
    refine wpAny_UnaryOp ((ih e0 (by simp at hk; omega) _ sl A W env vs hm a F I n1).cps (fun x W' v e1 I' l' r => ?_) fun _ _ q => q.bind)
    have n3 := n2 x W'.σ e1
    refine PyProof.Rows.not_of (does_truthD (α := AV) (g := fun b h => .ok (.bool (!b)) h) I' r n3 fun b W'' I'' l'' es q => ?_)
    exact ⟨.bool (!b), W'', rfl, by rw [e1]; simp only [Out.bind, q, es], I'', l'.trans l'', .bool _⟩
  | and es =>
    obtain ⟨es', p, rfl, hm⟩ := inv_and hm
    exact does_and .And es (fun m' hm' => ih m' (by have := List.sizeOf_lt_of_mem hm'; simp at hk; omega)) _ sl A W env vs _ hm a F I hn
  | or es =>
    obtain ⟨es', p, rfl, hm⟩ := inv_or hm
    exact does_and .Or es (fun m' hm' => ih m' (by have := List.sizeOf_lt_of_mem hm'; simp at hk; omega)) _ sl A W env vs _ hm a F I hn
  | cmp l op r =>
    obtain ⟨l', op', r', p, rfl, h1, h2, h0, h3⟩ := inv_cmp hm
    rw [ev_q11] at hn ⊢
    obtain ⟨n1, n2⟩ := Out.bind_ok hn
    refine wpAny_Compare1 (does_two (y := fun h => ev C r h vs) (z := fun x y h => match cmpA op x y h with | some b => .ok (.bool b) h | Option.none => .fail) (ih l (by simp at hk; omega) _ sl A W env vs h2 a F I n1)
      (fun x W' I' l' e' => ih r (by simp at hk; omega) _ sl A W' env vs h3 a (F.le l') I' (Out.bind_ok (n2 x W'.σ e')).1) (fun x y vx vy W' I' l' ee rx ry => ?_) (fun _ _ q => q) fun _ _ q => q) (marks_of op' h0)
    obtain ⟨σ, e1, e2⟩ := ee
    have n4 := (Out.bind_ok (n2 x σ e1)).2 y W'.σ e2
    cases q : cmpA op x y W'.σ with
    | none => rw [q] at n4; exact absurd rfl n4
    | some b => exact Does.keep I' fun Q E qq => does_cmpA I' h1 rx ry hu q Q E fun k => qq _ _ (.bool _)
  | list es =>
    obtain ⟨x, hx, h⟩ := any_inv hm
    obtain ⟨_, rfl⟩ := asLst_inv hx
    rw [ev_q15] at hn ⊢
    exact does_spliced_list (does_evs es (fun m' hm' => ih m' (by have := List.sizeOf_lt_of_mem hm'; simp at hk; omega)) _ sl A W env vs _ h a F I (Out.bind_ok hn).1) hn
  | idx o i =>
    obtain ⟨o', i', p, rfl, h0, h1, h2⟩ := inv_sub hm
    rw [ev_q17] at hn ⊢
    obtain ⟨n1, n2⟩ := Out.bind_ok hn
    refine PyProof.Rows.Subscript_ (does_two (y := fun h => ev C i h vs) (z := fun x y h => someA (idxA x y h) h) (ih o (by simp at hk; omega) _ sl A W env vs h1 a F I n1)
        (fun x W' I' l' e' => ih i (by simp at hk; omega) _ sl A W' env vs h2 a (F.le l') I' (Out.bind_ok (n2 x W'.σ e')).1) (fun x y vx vy W' I' l' ee rx ry => ?_) (fun _ _ q => q) fun _ _ q => q)
    obtain ⟨σ, e1, e2⟩ := ee
    have n4 := (Out.bind_ok (n2 x σ e1)).2 y W'.σ e2
    cases q : idxA x y W'.σ with
    | none => rw [q] at n4; exact absurd rfl n4
    | some b => exact does_idxA I' h0 rx ry q
  | slice o lo hi =>
    obtain ⟨o', lo', hi', p', p, rfl, h1, h2, h3⟩ := inv_slice hm
    rw [ev_q18] at hn ⊢
    obtain ⟨n1, n2⟩ := Out.bind_ok hn
    refine PyProof.Rows.Subscript_ ((ih o (by simp at hk; omega) _ sl A W env vs h1 a F I n1).cps (fun x W1 vx e1 I1 l1 rx => ?_) fun _ _ q => q.bind)
    obtain ⟨m1, m2⟩ := Out.bind_ok (n2 x W1.σ e1)
    refine wpAny_Slice ((does_part (ih lo (by simp at hk; omega)) h2 a (F.le l1) I1 m1).cps (fun y W2 vy e2 I2 l2 ry => ?_) fun _ _ q => q.bind.up l1 (by rw [e1]; rfl))
    obtain ⟨k1, k2⟩ := Out.bind_ok (m2 y W2.σ e2)
    refine (does_part (ih hi (by simp at hk; omega)) h3 a (F.le (l1.trans l2)) I2 k1).cps (fun z W3 vz e3 I3 l3 rz => ?_) fun _ _ q => q.bind.up (l1.trans l2) (by rw [e1]; show (ev C lo W1.σ vs).bind _ = _; rw [e2]; rfl)
    refine wpAny_evalPart_none ?_
    have g := I3.grow (s' := { W3.s with heap := W3.h.push { cls := .type "slice", data := .fields #[vy, vz, .none] } }) (fun a q e => Heap.get?_push_of_some _ e) rfl rfl
    refine (does_sliceA g.1 ((rx.le (l2.trans l3)).le g.2) ((ry.le l3).le g.2) (rz.le g.2) (Heap.get?_push_size _ rfl) (k2 z W3.σ e3)).up (((l1.trans l2).trans l3).trans g.2) ?_
    rw [e1]; show (ev C lo W1.σ vs).bind _ = _; rw [e2]; show (ev C hi W2.σ vs).bind _ = _; rw [e3]; rfl
  | call f args =>
    obtain ⟨fe, as, p, rfl, h1, h2⟩ := inv_call hm
    obtain ⟨x, p', rfl, h3, h4⟩ := callOk_name h1
    rw [ev_q20] at hn ⊢
    refine wpAny_Call_NameR (does_global hT hG I F h3 h4 ?_)
    have hke := hG.callee x f h4
    rw [hG.fa]
    exact does_args (fun m' hm' => ih m' (by have := List.sizeOf_lt_of_mem hm'; simp at hk; omega)) h2 hke a F I hn fun xs vals W' I' l' _ r n2 => hC.does C.hd f xs vals A W' a.call (F.stk.le l') I' r n2
  | bi b args =>
    obtain ⟨fe, as, p, rfl, h1, h2⟩ := inv_bi hm
    obtain ⟨x, p', rfl, h3⟩ := biName_name h1
    rw [ev_q23] at hn ⊢
    have hdh : ∀ xs h, (if C.hd then Out.fail else biA b xs h) ≠ .fail → C.hd = false := fun xs h q => by
      cases z : C.hd with
      | false => rfl
      | true => rw [z, if_pos rfl] at q; exact absurd rfl q
    have hdf : ∀ xs h, (if C.hd then Out.fail else biA b xs h) ≠ .fail → biA b xs h = (if C.hd then Out.fail else biA b xs h) := fun xs h q => by
      rw [hdh xs h q]; rfl
    refine wpAny_Call_NameR (does_bi_name hT hG I F h3 ?_)
    exact does_args (fun m' hm' => ih m' (by have := List.sizeOf_lt_of_mem hm'; simp at hk; omega)) h2 (callee_bi b) a F I hn fun xs vals W' I' _ _ r n2 => (hdf xs W'.σ n2) ▸ does_biA I' (a.handled (hdh xs W'.σ n2)) r ((hdf xs W'.σ n2) ▸ n2)
  | inst e0 k =>
    obtain ⟨fe, y, z, p, rfl, h1, hs, h2, h5⟩ := inv_inst hm
    obtain ⟨x, p', rfl, h3⟩ := biName_name h1
    obtain ⟨z, pz, rfl⟩ := kdName_name h5
    rw [ev_q25] at hn ⊢
    obtain ⟨n1, n2⟩ := Out.bind_ok hn
    refine wpAny_Call_NameR (does_bi_name hT hG I F h3 ?_)
    refine callWith_of (P := fun h => T.base.StaysIn h) (by rw [starEach_plain hs]; rfl) (callee_builtin _) ?_
    rw [starEach_plain hs]
    refine evalArgs_plain (spliced_cons ((ih e0 (by simp at hk; omega) _ sl A W env vs h2 a F I n1).cps (fun x W' v e1 I' l' r => ?_) fun _ _ q => q.bind))
    refine spliced_cons (does_kd hT hG I' (F.le l') h5 (spliced_nil ⟨I'.base, ?_⟩))
    have n3 := n2 x W'.σ e1
    rw [hP] at n3
    cases q : instA T.P W'.σ x k with
    | none => rw [q] at n3; exact absurd rfl n3
    | some b => exact (does_instA hT I' r q).up l' (by rw [e1]; simp only [Out.bind, hP, q])
  | powc p q =>
    obtain ⟨⟨l, op, r⟩, hx, h⟩ := any_inv hm
    obtain ⟨_, rfl⟩ := asBin_inv hx
    simp only [Bool.and_eq_true, decide_eq_true_eq] at h
    obtain ⟨⟨⟨⟨rfl, h4⟩, h5⟩, h6⟩, h7⟩ := h
    obtain ⟨c, hc, h6⟩ := any_inv h6
    obtain ⟨d, hd, h7⟩ := any_inv h7
    obtain ⟨_, _, rfl⟩ := asC_inv hc
    obtain ⟨_, _, rfl⟩ := asC_inv hd
    obtain rfl := isIntC_eq h6
    obtain rfl := isIntC_eq h7
    refine wpAny_BinOp (wpAny_Constant_int (wpAny_Constant_int (PyProof.Rows.pow_int_small (by omega) (by omega) (by omega) ?_)))
    have g := I.toks (W.s.toks + 1 + 1 + 1)
    refine ⟨_, { W with s := { W.s with toks := W.s.toks + 1 + 1 + 1 } }, rfl, ?_, g.1, g.2, .int _ _⟩
    show _ = Out.ok _ W.σ
    congr 2
  | isNone e0 =>
    obtain ⟨l', c, k', p', p, rfl, h2, h3⟩ := inv_is hm
    obtain rfl := isNoneC_eq h3
    rw [ev_isNone] at hn ⊢
    obtain ⟨n1, n2⟩ := Out.bind_ok hn
    refine wpAny_Compare1 ((ih e0 (by simp at hk; omega) _ sl A W env vs h2 a F I n1).cps (fun x W' vx e1 I' l' rx => ?_) fun _ _ q => q.bind) rfl
    exact wpAny_Constant_none (does_is_none rx ⟨.bool (isNA x), W', rfl, by rw [e1]; rfl, I', l', .bool _⟩)
  | isTrue e0 =>
    obtain ⟨l', c, k', p', p, rfl, h2, h3⟩ := inv_is hm
    obtain rfl := isTrueC_eq h3
    rw [ev_isTrue] at hn ⊢
    obtain ⟨n1, n2⟩ := Out.bind_ok hn
    refine wpAny_Compare1 ((ih e0 (by simp at hk; omega) _ sl A W env vs h2 a F I n1).cps (fun x W' vx e1 I' l' rx => ?_) fun _ _ q => q.bind) rfl
    exact wpAny_Constant_bool (does_is_true rx ⟨.bool (isTA x), W', rfl, by rw [e1]; rfl, I', l', .bool _⟩)
  | bm m o args =>
    obtain ⟨o', apos, as, pos, rfl, h2, h4, h5, h6, h3⟩ := inv_bm hm
    rw [ev_q24] at hn ⊢
    obtain ⟨n1, n2⟩ := Out.bind_ok hn
    have hbase : attributeBase o' (bmNm m) env (eval o' env) = eval o' env := by
      cases o' with
      | Call _ _ _ _ => cases h6
      | _ => rfl
    refine wpAny_Call_method_late hbase (few_args (mtEs_plain h4) h2) (by simpa using h5) rfl ((ih o (by simp at hk; omega) _ sl A W env vs h3 a F I n1).cps (fun x W1 vx e1 I1 l1 r1 => ?_) fun _ _ q => q.bind)
    have n3 := n2 x W1.σ e1
    by_cases hb : bmKd m x W1.σ = true
    · rw [if_pos hb] at n3
      refine bm_on I1 r1 hb ?_
      have key := does_args (first := [vx]) (pos := pos) (fun m' hm' => ih m' (by have := List.sizeOf_lt_of_mem hm'; simp at hk; omega)) h4 (callee_builtin (bmId m)) a (F.le l1) I1 n3 fun xs vals W' I' l' _ r n4 => does_bmA I' (r1.le l') r n4
      exact key.up l1 (by rw [e1]; simp only [Out.bind, if_pos hb])
    · rw [if_neg hb] at n3; exact absurd rfl n3
  | tup es =>
    obtain ⟨x, hx, h⟩ := any_inv hm
    obtain ⟨_, _, rfl⟩ := asTup_inv hx
    rw [ev_q14] at hn ⊢
    exact does_spliced_tup (does_evs es (fun m' hm' => ih m' (by have := List.sizeOf_lt_of_mem hm'; simp at hk; omega)) _ sl A W env vs _ h a F I (Out.bind_ok hn).1) hn
  | dict es =>
    obtain ⟨x, hx, h⟩ := any_inv hm
    obtain ⟨ks, vals, p, rfl, hi, hl⟩ := asDict_inv hx
    rw [ev_q16] at hn ⊢
    exact does_dict (fun m' hm' => ih m' (by have := List.sizeOf_lt_of_mem hm'; simp at hk; omega)) hi h a F I hl hn
  | attr o i =>
    obtain ⟨o', nm, p, rfl, h1, h2, h3⟩ := inv_attr hm
    rw [ev_q19] at hn ⊢
    obtain ⟨n1, n2⟩ := Out.bind_ok hn
    refine attr_eval h2 ((ih o (by simp at hk; omega) _ sl A W env vs h3 a F I n1).cps (fun x W' v e1 I' l' r => ?_) fun _ _ q => q.bind)
    have n3 := n2 x W'.σ e1
    cases q : attrA W'.σ x i with
    | none => rw [q] at n3; exact absurd rfl n3
    | some b => exact (does_attrA hT I' r (by rw [← hG.attrs]; exact h1) q).up l' (by rw [e1]; show someA (attrA W'.σ x i) W'.σ = _; rw [q]; rfl)
  | new c args =>
    obtain ⟨fe, as, p, rfl, h1, h2⟩ := inv_new hm
    obtain ⟨x, p', rfl, h3, h4⟩ := clsName_name h1
    rw [ev_q21] at hn ⊢
    refine wpAny_Call_NameR (does_global hT hG I F h3 h4 ?_)
    rw [hG.ca]
    by_cases hc : (initAt C.P c).isSome = true
    · rw [if_pos hc] at hn ⊢
      obtain ⟨f, hf⟩ := Option.isSome_iff_exists.mp hc
      rw [hP] at hf
      obtain ⟨cl, hc1, hc2, _⟩ := initAt_ok hf
      exact does_args (fun m' hm' => ih m' (by have := List.sizeOf_lt_of_mem hm'; simp at hk; omega)) h2 (callee_cls hT hc1 hc2) a F I hn fun xs vals W' I' l' _ r n2 => does_newA hT I' hC hP a (F.stk.le l') r n2
    · rw [if_neg hc] at hn; exact absurd rfl hn
  | meth o m args =>
    obtain ⟨o', nm, apos, as, pos, rfl, h7, h2, h4, h5, h6, h3⟩ := inv_meth hm
    rw [ev_q22] at hn ⊢
    obtain ⟨n1, n2⟩ := Out.bind_ok hn
    refine meth_eval h6 (mtEs_plain h4) h2 h5 ((ih o (by simp at hk; omega) _ sl A W env vs h3 a F I n1).cps (fun x W1 vx e1 I1 l1 r1 pl => ?_) fun _ _ q => q.bind)
    have n3 := n2 x W1.σ e1
    rw [hP] at n3
    cases q : methF T.P W1.σ x m with
    | none => rw [q] at n3; exact absurd rfl n3
    | some f =>
      rw [q] at n3
      refine does_method hT I1 r1 (by rw [← hG.meths]; exact h7) q fun hcal => ?_
      have key := does_args (first := [vx]) (pos := pos) (fun m' hm' => ih m' (by have := List.sizeOf_lt_of_mem hm'; simp at hk; omega)) h4 hcal a (F.le l1) I1 n3 fun xs vals W' I' l' _ r n4 => hC.does C.hd f (x :: xs) (vx :: vals) A W' a.call (F.stk.le (l1.trans l')) I' (.cons (r1.le l') r) n4
      exact key.up l1 (by rw [e1]; show (match methF C.P W1.σ x m with | some f => (evs C args W1.σ vs).bind fun xs h => C.call C.hd f (x :: xs) h | none => .fail) = _; rw [hP, q])
  | comp elt x src conds =>
    obtain ⟨elt', nm, px, it, ifs, sc', p, rfl, h6, h2, h3, h4, h5⟩ := inv_comp hm
    have st := tests_of k ih
    exact does_comp (ih elt (by simp at hk; omega)) (ih src (by simp at hk; omega)) (fun m' hm' => st m' (by have := List.sizeOf_lt_of_mem hm'; simp at hk; omega)) (scOk_of h2) (folded_no h6 _) h3 h5 h4 a F I hn

theorem sound_e (hT : T.Ok) (hG : GlOk T G) (hP : C.P = T.P) (hC : CallsOk T n C.call) (m : ME) : SE T G n C m := by
  have h : ∀ k, ∀ m : ME, sizeOf m < k → SE T G n C m := fun k => by
    induction k with
    | zero => intro m h; omega
    | succ k ih => exact fun m hk => sound_e_aux hT hG hP hC k ih m hk
  exact h _ m (Nat.lt_succ_self _)

theorem sound_t (hT : T.Ok) (hG : GlOk T G) (hP : C.P = T.P) (hC : CallsOk T n C.call) (m : ME) : ST T G n C m :=
  tests_of (sizeOf m + 1) (fun m' _ => sound_e hT hG hP hC m') m (Nat.lt_succ_self _)
end
end Mine

/-! Soundness: an exception leaves a frame (typed by hand). -/
set_option Elab.async false
namespace Mine
open PySem PySem.SeqAt PySem.Spec PySem.W PySem.Calls

noncomputable def frs (l : List Env) : List Addr := l.filterMap (·.frame)

section
variable {T : Tp} {A : Around} {W : Wd}

theorem Stk.fr {l : List Env} (S : Stk T W l) {a : Addr} (h : a ∈ frs l) : W.own a = .free ∧ T.base.get? a = none ∧ ∃ o, W.h.get? a = some o ∧ ∃ es n, o.data = .dict es n := by
  obtain ⟨env, he, hf⟩ := List.mem_filterMap.mp h
  obtain ⟨_, L, o, h1, h2, h3, h4, h5⟩ := S env he
  rw [hf] at h1; cases h1
  exact ⟨h2, h3, o, h4, h5⟩
theorem Stk.fun {r : List Addr} : ∀ {l l' : List Env}, Stk T W l → (∀ e ∈ l, e ∈ l') → W.h.FunFrames (hideAll W.h (frs l' ++ r)) l := by
  intro l
  induction l with
  | nil => intro _ _ _; trivial
  | cons env l ih =>
    intro l' S hs
    obtain ⟨k, L, o, h1, h2, h3, h4, es, n, h5⟩ := S env (List.mem_cons_self ..)
    exact ⟨k, ⟨L, o, h1, hideAll_none _ (List.mem_append_left _ (List.mem_filterMap.mpr ⟨env, hs env (List.mem_cons_self ..), h1⟩)), h4, fun vs q => by rw [h5] at q; cases q⟩, ih (fun e he => S e (List.mem_cons_of_mem _ he)) fun e he => hs e (List.mem_cons_of_mem _ he)⟩

/-- an exception with a traceback -/
noncomputable def Trd (T : Tp) (W : Wd) (c : Nat) (a : Addr) : Prop :=
  W.own a = .exc ∧ ∃ o vs, W.h.get? a = some o ∧ o.cls = .ref (T.ca c) ∧ o.data = .fields vs ∧ (vs[0]?).isSome = true ∧
    ∃ b ob ts, vs[1]? = some (.ref b) ∧ W.own b = .tb ∧ W.h.get? b = some ob ∧ ob.data = .fields ts ∧ ts[3]? = some .none
theorem Trd.fly {c : Nat} {a : Addr} (h : Trd T W c a) : Fly T W c a := let ⟨h0, o, vs, h1, h2, h3, h4, h5⟩ := h; ⟨h0, o, vs, h1, h2, h3, h4, .inr h5⟩

/-- the state behind -/
theorem Inv.left (I : Inv T W) {l : List Env} (S : Stk T W l) {c : Nat} {e : Addr} (he : W.own e = .exc) {Told : List Addr} (hold : ∀ b ∈ Told, W.own b = .tb) {h' : Heap} {a0 : Value}
    (k1 : (hideAll W.h (frs l ++ e :: Told)).StaysIn h') (k3 : h'.TracedW (hideAll W.h (frs l ++ e :: Told)) e (.ref (T.ca c)) a0) (k4 : W.h.UpToSlots h') (hc : ∀ o, W.h.get? e = some o → o.cls = .ref (T.ca c)) :
    ∃ W', W'.s = { W.s with heap := h' } ∧ W'.σ = W.σ ∧ Inv T W' ∧ Le noX W W' ∧ Trd T W' c e := by
  obtain ⟨oe, vs, Tn, oT, ts, q1, ⟨q2, q3⟩, q4, q5, q6, q7, q8, q9, q10⟩ := k3
  have keep : ∀ a o, W.h.get? a = some o → a ∉ frs l → a ≠ e → a ∉ Told → h'.get? a = some o := fun a o ha n1 n2 n3 => k1 a o (hideAll_get _ ha fun q => by
    rcases List.mem_append.mp q with q | q
    · exact n1 q
    · rcases List.mem_cons.mp q with q | q
      · exact n2 q
      · exact n3 q)
  have frame : ∀ a, a ∈ frs l → W.own a = .free := fun a q => (S.fr q).1
  have hTn : (W.h.get? Tn = none) ∨ Tn ∈ Told := by
    cases z : W.h.get? Tn with
    | none => exact .inl rfl
    | some o =>
      right
      by_cases f1 : Tn ∈ frs l
      · exfalso
        obtain ⟨_, _, o', ho', es, n, hd⟩ := S.fr f1
        obtain ⟨sl, hs⟩ := k4 Tn o' ho' fun vs q => by rw [hd] at q; cases q
        rw [q8] at hs
        cases hs
        rw [hd] at q9; cases q9
      · refine Classical.byContradiction fun f3 => ?_
        have := hideAll_get (frs l ++ e :: Told) z fun q => by
          rcases List.mem_append.mp q with q | q
          · exact f1 q
          · rcases List.mem_cons.mp q with q | q
            · exact q7 q
            · exact f3 q
        rw [q6] at this; cases this
  have oTn : W.own Tn = .free ∨ W.own Tn = .tb := hTn.imp (own_new I) (hold Tn)
  have nold : ∀ a, W.own a ≠ .tb → a ∉ Told := fun a q z => q (hold a z)
  have nTn : ∀ a o, W.h.get? a = some o → W.own a ≠ .tb → a ≠ Tn := fun a o ha q z => by
    subst z
    rcases hTn with z | z
    · rw [z] at ha; cases ha
    · exact q (hold _ z)
  let own' : Addr → Ow := fun a => if a = Tn then .tb else if a ∈ Told then .free else W.own a
  have ow' : ∀ a o, W.h.get? a = some o → W.own a ≠ .tb → own' a = W.own a := fun a o ha q => by
    show (if a = Tn then Ow.tb else if a ∈ Told then .free else W.own a) = _
    rw [if_neg (nTn a o ha q), if_neg (nold a q)]
  have df : ∀ a o, W.h.get? a = some o → W.own a ≠ .tb → ∃ o', h'.get? a = some o' := fun a o ha q => by
    by_cases f1 : a ∈ frs l
    · obtain ⟨_, _, o', ho', es, n, hd⟩ := S.fr f1
      obtain ⟨sl, hs⟩ := k4 a o' ho' fun vs q => by rw [hd] at q; cases q
      exact ⟨_, hs⟩
    · by_cases f2 : a = e
      · subst f2; exact ⟨_, q1⟩
      · exact ⟨o, keep a o ha f1 f2 (nold a q)⟩
  have x : Ext noX W.own W.bt W.h own' W.bt h' := by
    refine ⟨fun a o ha f _ => ?_, fun a o ha f => ?_, fun a o ha f => (ow' a o ha (by rw [f]; exact Ow.noConfusion)).trans f, fun a o ha _ q => df a o ha q, fun a o ha _ q => ow' a o ha q, [], (List.append_nil _).symm⟩
    · by_cases f1 : a ∈ frs l
      · obtain ⟨_, _, o', ho', es, n, hd⟩ := S.fr f1
        obtain ⟨sl, hs⟩ := k4 a o' ho' fun vs q => by rw [hd] at q; cases q
        rw [ha] at ho'; cases ho'
        exact ⟨_, hs, .inr ⟨⟨es, n, hd⟩, sl, rfl⟩⟩
      · exact ⟨o, keep a o ha f1 (fun z => by rw [z, he] at f; cases f) (nold a (by rw [f]; exact Ow.noConfusion)), .refl o⟩
    · by_cases f2 : a = e
      · subst f2; exact ⟨oe, q1, q2.trans (hc o ha).symm⟩
      · exact ⟨o, keep a o ha (fun z => by rw [frame a z] at f; cases f) f2 (nold a (by rw [f]; exact Ow.noConfusion)), rfl⟩
  have loc : ∀ a i o, W.own a = .loc i → W.h.get? a = some o → h'.get? a = some o := fun a i o f ha =>
    keep a o ha (fun z => by rw [frame a z] at f; cases f) (fun z => by rw [z, he] at f; cases f) (nold a (by rw [f]; exact Ow.noConfusion))
  refine ⟨{ own := own', bt := W.bt, σ := W.σ, s := { W.s with heap := h' } }, rfl, rfl, ⟨I.len, fun i a ea => ?_, fun a q => ?_, fun i o a eo ea => ?_, fun b o eb => ?_, I.st, I.hi⟩, ⟨x, rfl, rfl⟩, ?_⟩
  · have f := I.ownb i a ea
    obtain ⟨o, ho⟩ := (I.lt a (by rw [f]; exact Ow.noConfusion)).1
    exact (ow' a o ho (by rw [f]; exact Ow.noConfusion)).trans f
  · have q : (if a = Tn then Ow.tb else if a ∈ Told then .free else W.own a) ≠ .free := q
    by_cases z : a = Tn
    · subst z
      refine ⟨⟨oT, q8⟩, ?_⟩
      rcases hTn with z | z
      · exact base_new I z
      · exact (I.lt _ (by rw [hold _ z]; exact Ow.noConfusion)).2
    · rw [if_neg z] at q
      by_cases y : a ∈ Told
      · rw [if_pos y] at q; exact absurd rfl q
      · rw [if_neg y] at q
        obtain ⟨⟨o, ho⟩, hb⟩ := I.lt a q
        refine ⟨?_, hb⟩
        by_cases f2 : a = e
        · subst f2; exact ⟨_, q1⟩
        · exact ⟨o, keep a o ho (fun z => q (frame a z)) f2 y⟩
  · exact (I.obj i o a eo ea).mono x .no (I.ownb i a ea) fun b q f e' => loc b i q f e'
  · have hb := I.base b o eb
    refine keep b o hb (fun z => ?_) (fun z => ?_) fun z => ?_
    · rw [(S.fr z).2.1] at eb; cases eb
    · rw [z, (I.lt e (by rw [he]; exact Ow.noConfusion)).2] at eb; cases eb
    · rw [(I.lt b (by rw [hold b z]; exact Ow.noConfusion)).2] at eb; cases eb
  · obtain ⟨o, ho⟩ := (I.lt e (by rw [he]; exact Ow.noConfusion)).1
    refine ⟨(ow' e o ho (by rw [he]; exact Ow.noConfusion)).trans he, oe, vs, q1, q2, q4, by rw [q3]; rfl, Tn, oT, ts, q5, if_pos rfl, q8, q9, q10⟩

theorem Fly.cls {c : Nat} {e : Addr} (f : Fly T W c e) : ∀ o, W.h.get? e = some o → o.cls = .ref (T.ca c) := fun o ho => by
  obtain ⟨_, o', vs, h1, h2, _⟩ := f
  rw [ho] at h1; cases h1; exact h2

theorem stays_hide {h : Heap} {r : List Addr} : (hideAll h r).StaysIn h := fun b o q => of_hideAll _ q

/-- an exception leaves a frame -/
theorem does_leaving (I : Inv T W) {env : Env} {outer : List Env} (hfr : A.frames = some (env :: outer)) (S : Stk T W (env :: outer)) {c : Nat} {e : Addr} (fl : Fly T W c e) {Q : Unit → Shared → Prop} {E : Value → Shared → Prop}
    (h : ∀ W', W'.σ = W.σ → Inv T W' → Le noX W W' → Fly T W' c e → Q () W'.s) : wpAny T.M A (leaving env (.ref e)) Q E W.s := by
  obtain ⟨_, L, o, hf, _⟩ := S env (List.mem_cons_self ..)
  have fl' := fl
  obtain ⟨he, oe, vs, h1, h2, h3, h4, h5⟩ := fl
  obtain ⟨a0, ha0⟩ := Option.isSome_iff_exists.mp h4
  rcases h5 with h5 | ⟨b, ob, ts, h5, h6, h7, h8, h9⟩
  · refine wpAny_leaving_firstW (base := hideAll W.h (frs (env :: outer) ++ [e])) hfr (S.fun fun _ q => q) hf h1 stays_hide (hideAll_none _ (List.mem_append_right _ (List.mem_singleton.mpr rfl))) h3 h5 ha0 fun h' k => ?_
    obtain ⟨k1, _, k3, k4⟩ := k
    rw [h2] at k3
    obtain ⟨W', e1, e2, I', l', f'⟩ := I.left S he (Told := []) (fun b q => nomatch q) k1 k3 k4 fl'.cls
    rw [← e1]; exact h W' e2 I' l' f'.fly
  · have hbe : b ≠ e := fun z => by rw [z, he] at h6; cases h6
    refine wpAny_leaving_nextW (base := hideAll W.h (frs (env :: outer) ++ [e, b])) (cls := .ref (T.ca c)) (a0 := a0) hfr (S.fun fun _ q => q) hf ⟨oe, vs, b, ob, ts, h1, ⟨h2, ha0⟩, h3, h5, hideAll_none _ (List.mem_append_right _ (List.mem_cons_of_mem _ (List.mem_singleton.mpr rfl))), hbe, h7, h8, h9⟩ stays_hide (hideAll_none _ (List.mem_append_right _ (List.mem_cons_self ..))) fun h' k => ?_
    obtain ⟨k1, _, k3, k4⟩ := k
    obtain ⟨W', e1, e2, I', l', f'⟩ := I.left S he (Told := [b]) (fun b' q => by rw [List.mem_singleton.mp q]; exact h6) k1 k3 k4 fl'.cls
    rw [← e1]; exact h W' e2 I' l' f'.fly
end
end Mine

/-! Soundness: an exception is raised, and lands (typed by hand). -/
set_option Elab.async false
namespace Mine
open PySem PySem.SeqAt PySem.Spec PySem.W PySem.Calls PyProof.Rows

section
variable {T : Tp} {A : Around} {W : Wd}

theorem Trd.flying {c : Nat} {e : Addr} (f : Trd T W c e) {l : List Env} (S : Stk T W l) : ∃ b a0, W.own b = .tb ∧ Heap.FlyingW (hideAll W.h (frs l ++ [e, b])) l e (.ref (T.ca c)) a0 W.h := by
  obtain ⟨he, oe, vs, h1, h2, h3, h4, b, ob, ts, h5, h6, h7, h8, h9⟩ := f
  obtain ⟨a0, ha0⟩ := Option.isSome_iff_exists.mp h4
  have hbe : b ≠ e := fun z => by rw [z, he] at h6; cases h6
  exact ⟨b, a0, h6, stays_hide, hideAll_none _ (List.mem_append_right _ (List.mem_cons_self ..)), S.fun fun _ q => q, oe, vs, b, ob, ts, h1, ⟨h2, ha0⟩, h3, h5, hideAll_none _ (List.mem_append_right _ (List.mem_cons_of_mem _ (List.mem_singleton.mpr rfl))), hbe, h7, h8, h9⟩

/-- the exception lands once more -/
theorem does_again (I : Inv T W) {l : List Env} (S : Stk T W l) {c : Nat} {e : Addr} (fl : Trd T W c e) {Q : Unit → Shared → Prop} {E : Value → Shared → Prop}
    (h : ∀ W', W'.σ = W.σ → Inv T W' → Le noX W W' → Trd T W' c e → Q () W'.s) : wpAny T.M A (setFlight (.ref e) none) Q E W.s := by
  obtain ⟨b, a0, hb, fw⟩ := fl.flying S
  refine lands_againW fw fun h' k k4 => ?_
  obtain ⟨W', e1, e2, I', l', f'⟩ := I.left S fl.1 (Told := [b]) (fun b' q => by rw [List.mem_singleton.mp q]; exact hb) k.1 k.2.2.2 k4 fl.fly.cls
  rw [← e1]; exact h W' e2 I' l' f'

/-- the exception is seen by a try -/
theorem does_land (I : Inv T W) {env : Env} {outer : List Env} (hfr : A.frames = some (env :: outer)) (S : Stk T W (env :: outer)) {c : Nat} {e : Addr} (fl : Fly T W c e) {Q : Unit → Shared → Prop} {E : Value → Shared → Prop}
    (h : ∀ W', W'.σ = W.σ → Inv T W' → Le noX W W' → Trd T W' c e → Q () W'.s) : wpAny T.M A (noteFrame (.ref e) env) (fun _ s₂ => wpAny T.M A (setFlight (.ref e) none) Q E s₂) E W.s := by
  obtain ⟨_, L, o, hf, _⟩ := S env (List.mem_cons_self ..)
  have fl' := fl
  obtain ⟨he, oe, vs, h1, h2, h3, h4, h5⟩ := fl
  rcases h5 with h5 | h5
  · obtain ⟨a0, ha0⟩ := Option.isSome_iff_exists.mp h4
    have hz : 1 < vs.size := (Array.getElem?_eq_some_iff.mp h5).1
    unfold noteFrame
    simp only [hf]
    refine wpAny_bind (wpAny_field h1 h3 h5 ?_)
    rw [if_neg (by decide)]
    refine wpAny_entryW (base := hideAll W.h (frs (env :: outer) ++ [e])) hfr (S.fun fun _ q => q) hf h1 stays_hide (hideAll_none _ (List.mem_append_right _ (List.mem_singleton.mpr rfl))) h3 hz ha0 fun h' k => ?_
    obtain ⟨k1, k2, k3, k4⟩ := k
    rw [h2] at k3
    refine wpAny_landsW (base := hideAll W.h (frs (env :: outer) ++ [e])) (l := env :: outer) (L := L) (a0 := a0) (cls := .ref (T.ca c)) ⟨k1, hideAll_none _ (List.mem_append_right _ (List.mem_singleton.mpr rfl)), k2, k3⟩ fun h'' j j4 => ?_
    obtain ⟨W', e1, e2, I', l', f'⟩ := I.left S he (Told := []) (fun b q => nomatch q) j.1 j.2.2.2 (Heap.UpToSlots.trans k4 j4) fl'.cls
    rw [← show W'.s = _ from e1]; exact h W' e2 I' l' f'
  · have tr : Trd T W c e := ⟨he, oe, vs, h1, h2, h3, h4, h5⟩
    obtain ⟨b, a0, hb, fw⟩ := tr.flying S
    refine wpAny_looks_onW hfr hf fw fun h' k k4 => wpAny_landsW k fun h'' j j4 => ?_
    obtain ⟨W', e1, e2, I', l', f'⟩ := I.left S he (Told := [b]) (fun b' q => by rw [List.mem_singleton.mp q]; exact hb) j.1 j.2.2.2 (Heap.UpToSlots.trans k4 j4) fl'.cls
    rw [← show W'.s = _ from e1]; exact h W' e2 I' l' f'

theorem x_match {M : Model} {s : Shared} {e : Addr} {D spec : Value} {Q : Bool → Shared → Prop} {E : Value → Shared → Prop} (h1 : Looks M s.heap (isInstance spec (.type "tuple")) false) (h2 : Looks M s.heap (isExcClass spec) true) (h3 : Looks M s.heap (typeOf (.ref e)) D) (h4 : Looks M s.heap (isSubtype D spec) true)
    (q : Q true s) : wpAny M A (excMatches (.ref e) spec) Q E s := by
  obtain ⟨hh, g, d, t, os⟩ := s
  unfold excMatches
  refine wpAny_bind (h1.at ?_)
  simp only [Bool.false_eq_true, if_false]
  refine wpAny_bind (wpAny_pure ?_)
  simp only [List.forIn_cons, List.forIn_nil]
  refine wpAny_bind (wpAny_bind (wpAny_bind (h2.at ?_)))
  simp only [Bool.not_true, Bool.false_eq_true, if_false]
  refine wpAny_pure (wpAny_pure (wpAny_bind (h3.at (wpAny_bind (wpAny_bind (wpAny_bind (h4.at ?_)))))))
  simp only [if_true]
  exact wpAny_pure (wpAny_pure (wpAny_pure q))

/-- what is known of an exception's class as an object -/
theorem own_obj {K : Frag} {h₀ : Heap} {C : Addr} {bmB : List Value} {newId : String} (X : K.In h₀) (q : excIn K C bmB newId = true) : OwnCls "" C bmB newId (fun _ => some (.ref C)) h₀ := by
  refine ⟨rfl, ?_⟩
  unfold excIn at q
  split at q
  · rename_i dd cd sl ho
    split at q
    · rename_i C' bm k0 k1 k2 k3 n k5 hm hs
      simp only [Bool.and_eq_true, beq_iff_eq, Bool.not_eq_true'] at q
      obtain ⟨⟨⟨⟨⟨rfl, rfl⟩, hdel⟩, ht⟩, hok⟩, hni⟩ := q
      obtain ⟨nm, bs, mro, ns, qn, hd, sn, sub, ab, col, del⟩ := cd
      dsimp only at hm hdel hok hni
      subst hm hdel
      have hsl : sl = #[k0, k1, k2, k3, some (.builtin n), k5] := by
        obtain ⟨l⟩ := sl
        simp only at hs
        rw [hs]
      subst hsl
      exact ⟨bm, ns, nm, qn, bs, hd, sn, sub, ab, col, dd, k0, k1, k2, k3, k5, _, X _ _ ho, .of_isNs (isNs_of_in X hok), nsMap_none_of_in X hok hni, tail_of_in X ht⟩
    · cases q
  · cases q

theorem Tp.Ok.matches (O : T.Ok) (I : Inv T W) {d c : Nat} (h : instX T.P d c = some true) {e : Addr} {o : Obj} (ho : W.h.get? e = some o) (hc : o.cls = .ref (T.ca d)) {Q : Bool → Shared → Prop} {E : Value → Shared → Prop} (q : Q true W.s) : wpAny T.M A (excMatches (.ref e) (.ref (T.ca c))) Q E W.s := by
  obtain ⟨cl, cd, e1, e2, e3⟩ := instX_ok h
  have X := O.X.keeps I.base
  have hp := O.pair e1 e2
  rw [← e3] at hp
  have hp : (isIn T.K (.ref (T.ca d)) (T.ca c) && (subIn T.K (.ref (T.ca d)) (.ref (T.ca c)) == some true)) = true := hp
  have hb := (O.exc e2).1
  unfold excB at hb
  simp only [Bool.and_eq_true, beq_iff_eq] at hb hp
  refine x_match (looks_instIn X hb.1.1.1.1.1.1.1) ?_ (hc ▸ (Looks.ld ho).andThen .now) (looks_subIn X hp.2) q
  have his : Looks T.M W.h (isType (.ref (T.ca c))) true := by
    obtain ⟨cdD, hcD⟩ := Option.isSome_iff_exists.mp hb.1.2
    unfold clsIn at hcD
    split at hcD
    · rename_i c' d' cd' sl' ho
      intro A' Q' E' s' k q
      unfold isType loadHead
      exact wpAny_bind (wpAny_loadPart (k _ _ (X _ _ ho)) (wpAny_pure q))
    · cases hcD
  exact his.andThen (looks_subIn X hb.1.1.1.1.1.1.2)

/-- an exception is made and raised -/
theorem does_raise (O : T.Ok) (I : Inv T W) (hh : A.handled = none) {c : Nat} {cl : Cl} (hc : excAt T.P c = some cl) {env : Env} {x : Str} {np cpos pos : Pos} {a1 : Expr} (hs : notStar a1 = true)
    (hx : ∀ Q E s, (T.base.StaysIn s.heap) → Q (.ref (T.ca c)) s → wpAny T.M A (eval (.Name x np) env) Q E s) (ha : ∀ Q E, (∀ v k, Q v { W.s with toks := k }) → wpAny T.M A (eval a1 env) Q E W.s) {Q : Flow → Shared → Prop} {E : Value → Shared → Prop}
    (h : ∀ W' e, W'.σ = W.σ → Inv T W' → Le noX W W' → Fly T W' c e → E (.ref e) W'.s) : wpAny T.M A (exec (.Raise (some (.Call (.Name x np) [a1] [] cpos)) none pos) env) Q E W.s := by
  have hb := (O.exc hc).1
  unfold excB at hb
  simp only [Bool.and_eq_true, beq_iff_eq] at hb
  obtain ⟨bm, N, nm, q, bs, hdct, sn, sub, ab, col, dd, k0, k1, k2, k3, k5, mN, hC, hN, hni, TL⟩ := (own_obj (O.X.keeps I.base) hb.1.1.1.1.1.2).obj
  refine wpAny_Raise_call_subU (C := T.ca c) (nm := nm) (q := q) (N := N) (bs := bs) (bm := bm) (hdct := hdct) (sn := sn) (sub := sub) (ab := ab) (col := col) (dd := dd) (k0 := k0) (k1 := k1) (k2 := k2) (k3 := k3) (k5 := k5) (mN := mN) F.excBase_ValueError (by decide) F.excBase_ValueError (TL.hasType (by decide)) hh ?_ hni (hx _ _ _ I.base ⟨rfl, ?_⟩)
  · rw [starEach_plain hs]; rfl
  rw [starEach_plain hs]
  refine evalArgs_plain (spliced_cons (ha _ _ fun v k => spliced_nil ⟨rfl, by show (1 : Nat) ≤ sizeLine; rw [sizeLine_eq]; decide, hC, hN, TL, fun h' e hm => ?_⟩))
  obtain ⟨t, ht, htn, _⟩ := hm.there
  have g := I.grow (s' := { W.s with heap := h', toks := k }) hm.keeps rfl rfl
  have hn : W.own e = .free := own_new I hm.new
  let W' : Wd := { W with own := fun a => if a = e then .exc else W.own a, s := { W.s with heap := h', toks := k } }
  have x : Ext noX W.own W.bt W.h W'.own W.bt h' := ⟨fun a o e _ _ => ⟨o, hm.keeps a o e, .refl o⟩, fun a o e _ => ⟨o, hm.keeps a o e, rfl⟩,
    fun a o ha f => (if_neg (fun z => by rw [z, hm.new] at ha; cases ha)).trans f, fun a o e _ _ => ⟨o, hm.keeps a o e⟩, fun a o ha _ _ => if_neg (fun z => by rw [z, hm.new] at ha; cases ha), [], (List.append_nil _).symm⟩
  refine h W' e rfl ⟨I.len, fun i a ea => ?_, fun a q => ?_, fun i o a eo ea => ?_, fun b o eb => hm.keeps b o (I.base b o eb), I.st, I.hi⟩ ⟨x, rfl, rfl⟩ ⟨if_pos rfl, _, _, ht, rfl, rfl, rfl, .inl rfl⟩
  · have f := I.ownb i a ea
    exact (if_neg (fun z => by rw [z, hn] at f; cases f)).trans f
  · by_cases z : a = e
    · subst z; exact ⟨⟨_, ht⟩, base_new I hm.new⟩
    · have q : (if a = e then Ow.exc else W.own a) ≠ .free := q
      rw [if_neg z] at q
      exact ⟨let ⟨o, ho⟩ := (I.lt a q).1; ⟨o, hm.keeps a o ho⟩, (I.lt a q).2⟩
  · exact (I.obj i o a eo ea).mono x .no (I.ownb i a ea) fun b q f e' => hm.keeps b q e'
end
end Mine

/-! Soundness, part 16: statements (typed by hand). -/
set_option Elab.async false
set_option genInjectivity false
set_option genSizeOf false
set_option bootstrap.genMatcherCode false
namespace Mine
open PySem PySem.SeqAt PySem.Spec PySem.W PySem.Calls

/-- the name of a slot -/
noncomputable def slotName (sl : List (Nat × Str)) (i : Nat) (e : Expr) : Bool := (asName e).any fun x => sl.contains (i, x)
noncomputable def noOther : Expr → Bool
  | .SetComp .. => false
  | .DictComp .. => false
  | _ => true
inductive ViewS where
  | A (ts : List Expr) (v : Expr) (p : Pos)
  | E (v : Expr) (p : Pos)
  | I (t : Expr) (a b : List Stmt) (p : Pos)
  | F (t it : Expr) (b o : List Stmt) (p : Pos)
  | R (v : Option Expr) (p : Pos)
  | P (p : Pos)
  | Z (e c : Option Expr) (p : Pos)
  | Y (b : List Stmt) (hs : List ExceptHandler) (o f : List Stmt) (p : Pos)
  | other
noncomputable def viewS : Stmt → ViewS
  | .Assign ts v p => .A ts v p
  | .Expr v p => .E v p
  | .If t a b p => .I t a b p
  | .For t it b o p => .F t it b o p
  | .Return v p => .R v p
  | .Pass p => .P p
  | .Raise e c p => .Z e c p
  | .Try b hs o f p => .Y b hs o f p
  | _ => .other
noncomputable def ViewS.st : ViewS → Option Stmt
  | .A ts v p => some (.Assign ts v p)
  | .E v p => some (.Expr v p)
  | .I t a b p => some (.If t a b p)
  | .F t it b o p => some (.For t it b o p)
  | .R v p => some (.Return v p)
  | .P p => some (.Pass p)
  | .Z e c p => some (.Raise e c p)
  | .Y b hs o f p => some (.Try b hs o f p)
  | .other => none
theorem viewS_st (s : Stmt) : ∀ s', (viewS s).st = some s' → s = s' := by
  cases s <;> intro e' h <;> first | exact Option.some.inj h | cases h
noncomputable def viewH : ExceptHandler → Option Expr × Option Str × List Stmt × Pos
  | .ExceptHandler t n b p => (t, n, b, p)
mutual
noncomputable def mtS (G : Gl) (sc : Scope) (sl : List (Nat × Str)) (m : MS) (s : ViewS) : Bool := match m with
  | .set x e => (match s with
    | .A ts v _ => (one ts).any (slotName sl x) && noOther v && mtE G sc sl e v
    | _ => false)
  | .expr e => (match s with
    | .E v _ => notComp v && mtE G sc sl e v
    | _ => false)
  | .ifs t a b => (match s with
    | .I t' a' b' _ => mtE G sc sl t t' && mtSs G sc sl a a' && mtSs G sc sl b b'
    | _ => false)
  | .loop x src body => (match s with
    | .F tgt it b' orelse _ => slotName sl x tgt && notSet it && mtE G sc sl src it && orelse.isEmpty && mtSs G sc sl body b'
    | _ => false)
  | .ret e => (match s with
    | .R v _ => mO e (mtE G sc sl e) v
    | _ => false)
  | .pass => (match s with
    | .P _ => true
    | _ => false)
  | .setAttr o a e => (match s with
    | .A ts v _ => notComp v && mtE G sc sl e v && (one ts).any fun t => (asAttr t).any fun y => (G.attrs[a]? == some y.2.1) && mtE G sc sl o y.1
    | _ => false)
  | .setItem o i e => (match s with
    | .A ts v _ => notComp v && mtE G sc sl e v && (one ts).any fun t => (asSub t).any fun y => notSlice y.2 && mtE G sc sl o y.1 && mtE G sc sl i y.2
    | _ => false)
  | .raise c msg => (match s with
    | .Z e k _ => k.isNone && e.any fun e => (asCall e).any fun x => x.2.2.1.isEmpty && clsName G sc c x.1 && (one x.2.1).any fun a => (asC a).any (isStrC msg)
    | _ => false)
  | .try_ body c x hb => (match s with
    | .Y b hs o f _ => o.isEmpty && f.isEmpty && mtSs G sc sl body b && (one hs).any fun h => (viewH h).1.any (clsName G sc c) && (viewH h).2.1.any (fun nm => sl.contains (x, nm) && sc.names.lookup nm == some .local) && !(viewH h).2.2.1.isEmpty && mtSs G sc sl hb (viewH h).2.2.1
    | _ => false)
noncomputable def mtSs (G : Gl) (sc : Scope) (sl : List (Nat × Str)) (ms : List MS) (ss : List Stmt) : Bool := match ms with
  | [] => ss.isEmpty
  | m :: ms => (ss.head?).any (fun s => mtS G sc sl m (viewS s)) && mtSs G sc sl ms ss.tail
end
theorem mtSs_nil {G : Gl} {sc : Scope} {sl : List (Nat × Str)} {ss : List Stmt} (h : mtSs G sc sl [] ss = true) : ss = [] := List.isEmpty_iff.mp h
theorem mtSs_cons {G : Gl} {sc : Scope} {sl : List (Nat × Str)} {m : MS} {ms : List MS} {ss : List Stmt} (h : mtSs G sc sl (m :: ms) ss = true) : ∃ s r, ss = s :: r ∧ mtS G sc sl m (viewS s) = true ∧ mtSs G sc sl ms r = true := by
  have h : ((ss.head?).any (fun s => mtS G sc sl m (viewS s)) && mtSs G sc sl ms ss.tail) = true := h
  rw [Bool.and_eq_true] at h
  cases ss with
  | nil => exact absurd h.1 (by simp)
  | cons s r => exact ⟨s, r, rfl, h.1, h.2⟩

theorem slotName_name {sl : List (Nat × Str)} {i : Nat} {e : Expr} (h : slotName sl i e = true) : ∃ x p, e = .Name x p ∧ (i, x) ∈ sl := by
  obtain ⟨x, hx, h⟩ := any_inv h
  obtain ⟨p, rfl⟩ := asName_inv hx
  exact ⟨x, p, rfl, List.contains_iff_mem.mp h⟩
section
variable {G : Gl} {sc : Scope} {sl : List (Nat × Str)} {s : Stmt}
theorem invS_set {x : Nat} {e : ME} (h : mtS G sc sl (.set x e) (viewS s) = true) : ∃ nm p v pos, s = .Assign [.Name nm p] v pos ∧ (x, nm) ∈ sl ∧ noOther v = true ∧ mtE G sc sl e v = true := by
  have q := viewS_st s
  revert q h
  cases viewS s with
  | A ts v pos =>
    intro h q
    have h : ((one ts).any (slotName sl x) && noOther v && mtE G sc sl e v) = true := h
    simp only [Bool.and_eq_true] at h
    obtain ⟨t, h1, h2⟩ := any_inv h.1.1
    obtain rfl := one_inv h1
    obtain ⟨nm, p, rfl, h3⟩ := slotName_name h2
    exact ⟨nm, p, v, pos, q _ rfl, h3, h.1.2, h.2⟩
  | _ => intro h; cases h
theorem invS_expr {e : ME} (h : mtS G sc sl (.expr e) (viewS s) = true) : ∃ v pos, s = .Expr v pos ∧ notComp v = true ∧ mtE G sc sl e v = true := by
  have q := viewS_st s
  revert q h
  cases viewS s with
  | E v pos =>
    intro h q
    have h : (notComp v && mtE G sc sl e v) = true := h
    rw [Bool.and_eq_true] at h
    exact ⟨v, pos, q _ rfl, h.1, h.2⟩
  | _ => intro h; cases h
theorem invS_ifs {t : ME} {a b : List MS} (h : mtS G sc sl (.ifs t a b) (viewS s) = true) : ∃ t' a' b' pos, s = .If t' a' b' pos ∧ mtE G sc sl t t' = true ∧ mtSs G sc sl a a' = true ∧ mtSs G sc sl b b' = true := by
  have q := viewS_st s
  revert q h
  cases viewS s with
  | I t' a' b' pos =>
    intro h q
    have h : (mtE G sc sl t t' && mtSs G sc sl a a' && mtSs G sc sl b b') = true := h
    simp only [Bool.and_eq_true] at h
    exact ⟨t', a', b', pos, q _ rfl, h.1.1, h.1.2, h.2⟩
  | _ => intro h; cases h
theorem invS_loop {x : Nat} {src : ME} {body : List MS} (h : mtS G sc sl (.loop x src body) (viewS s) = true) : ∃ nm p it b' pos, s = .For (.Name nm p) it b' [] pos ∧ (x, nm) ∈ sl ∧ notSet it = true ∧ mtE G sc sl src it = true ∧ mtSs G sc sl body b' = true := by
  have q := viewS_st s
  revert q h
  cases viewS s with
  | F tgt it b' o pos =>
    intro h q
    have h : (slotName sl x tgt && notSet it && mtE G sc sl src it && o.isEmpty && mtSs G sc sl body b') = true := h
    simp only [Bool.and_eq_true, List.isEmpty_iff] at h
    obtain ⟨⟨⟨⟨h1, h2⟩, h3⟩, rfl⟩, h4⟩ := h
    obtain ⟨nm, p, rfl, h5⟩ := slotName_name h1
    exact ⟨nm, p, it, b', pos, q _ rfl, h5, h2, h3, h4⟩
  | _ => intro h; cases h
theorem invS_ret {e : ME} (h : mtS G sc sl (.ret e) (viewS s) = true) : ∃ v pos, s = .Return v pos ∧ mO e (mtE G sc sl e) v = true := by
  have q := viewS_st s
  revert q h
  cases viewS s with
  | R v pos => intro h q; exact ⟨v, pos, q _ rfl, h⟩
  | _ => intro h; cases h
theorem invS_setAttr {o e : ME} {a : Nat} (h : mtS G sc sl (.setAttr o a e) (viewS s) = true) : ∃ o' nm p v pos, s = .Assign [.Attribute o' nm p] v pos ∧ notComp v = true ∧ mtE G sc sl e v = true ∧ G.attrs[a]? = some nm ∧ mtE G sc sl o o' = true := by
  have q := viewS_st s
  revert q h
  cases viewS s with
  | A ts v pos =>
    intro h q
    have h : (notComp v && mtE G sc sl e v && (one ts).any fun t => (asAttr t).any fun y => (G.attrs[a]? == some y.2.1) && mtE G sc sl o y.1) = true := h
    simp only [Bool.and_eq_true] at h
    obtain ⟨t, h1, h2⟩ := any_inv h.2
    obtain rfl := one_inv h1
    obtain ⟨⟨o', nm, p⟩, h3, h4⟩ := any_inv h2
    obtain rfl := asAttr_inv h3
    simp only [Bool.and_eq_true, beq_iff_eq] at h4
    exact ⟨o', nm, p, v, pos, q _ rfl, h.1.1, h.1.2, h4.1, h4.2⟩
  | _ => intro h; cases h
theorem invS_setItem {o i e : ME} (h : mtS G sc sl (.setItem o i e) (viewS s) = true) : ∃ o' i' p v pos, s = .Assign [.Subscript o' i' p] v pos ∧ notComp v = true ∧ mtE G sc sl e v = true ∧ mtE G sc sl o o' = true ∧ mtE G sc sl i i' = true := by
  have q := viewS_st s
  revert q h
  cases viewS s with
  | A ts v pos =>
    intro h q
    have h : (notComp v && mtE G sc sl e v && (one ts).any fun t => (asSub t).any fun y => notSlice y.2 && mtE G sc sl o y.1 && mtE G sc sl i y.2) = true := h
    simp only [Bool.and_eq_true] at h
    obtain ⟨t, h1, h2⟩ := any_inv h.2
    obtain rfl := one_inv h1
    obtain ⟨⟨o', i'⟩, h3, h4⟩ := any_inv h2
    obtain ⟨p, rfl⟩ := asSub_inv h3
    simp only [Bool.and_eq_true] at h4
    exact ⟨o', i', p, v, pos, q _ rfl, h.1.1, h.1.2, h4.1.2, h4.2⟩
  | _ => intro h; cases h
theorem invS_raise {c : Nat} {msg : List Nat} (h : mtS G sc sl (.raise c msg) (viewS s) = true) : ∃ x np k p cpos pos, s = .Raise (some (.Call (.Name x np) [.Constant (.str (tS msg)) k p] [] cpos)) none pos ∧ isGlob sc x = true ∧ G.gv x = some (some (.ref (G.ca c))) := by
  have q := viewS_st s
  revert q h
  cases viewS s with
  | Z e kk pos =>
    intro h q
    have h : (kk.isNone && e.any fun e => (asCall e).any fun x => x.2.2.1.isEmpty && clsName G sc c x.1 && (one x.2.1).any fun a => (asC a).any (isStrC msg)) = true := h
    rw [Bool.and_eq_true] at h
    obtain ⟨h0, h⟩ := h
    cases kk with
    | some _ => cases h0
    | none =>
      obtain ⟨e, rfl, h⟩ := any_inv h
      obtain ⟨⟨fe, as, kws, cpos⟩, hx, h⟩ := any_inv h
      obtain rfl := asCall_inv hx
      have h : (kws.isEmpty && clsName G sc c fe && (one as).any fun a => (asC a).any (isStrC msg)) = true := h
      simp only [Bool.and_eq_true, List.isEmpty_iff] at h
      obtain ⟨⟨rfl, h1⟩, h2⟩ := h
      obtain ⟨x, np, rfl, h3, h4⟩ := clsName_name h1
      obtain ⟨a, h5, h6⟩ := any_inv h2
      obtain rfl := one_inv h5
      obtain ⟨cc, h7, h8⟩ := any_inv h6
      obtain ⟨k, p, rfl⟩ := asC_inv h7
      cases cc with
      | str t =>
        have h9 : (t == tS msg) = true := (Bool.and_eq_true_iff.mp (show (t == tS msg && okSb msg) = true from h8)).1
        obtain rfl := eq_of_beq h9
        exact ⟨x, np, k, p, cpos, pos, q _ rfl, h3, h4⟩
      | _ => cases h8
  | _ => intro h; cases h
theorem invS_try {body hb : List MS} {c x : Nat} (h : mtS G sc sl (.try_ body c x hb) (viewS s) = true) : ∃ b y np nm b0 b1 hp pos, s = .Try b [.ExceptHandler (some (.Name y np)) (some nm) (b0 :: b1) hp] [] [] pos ∧ mtSs G sc sl body b = true ∧ isGlob sc y = true ∧ G.gv y = some (some (.ref (G.ca c))) ∧ (x, nm) ∈ sl ∧ sc.names.lookup nm = some .local ∧ mtSs G sc sl hb (b0 :: b1) = true := by
  have q := viewS_st s
  revert q h
  cases viewS s with
  | Y b hs o f pos =>
    intro h q
    have h : (o.isEmpty && f.isEmpty && mtSs G sc sl body b && (one hs).any fun h => (viewH h).1.any (clsName G sc c) && (viewH h).2.1.any (fun nm => sl.contains (x, nm) && sc.names.lookup nm == some .local) && !(viewH h).2.2.1.isEmpty && mtSs G sc sl hb (viewH h).2.2.1) = true := h
    simp only [Bool.and_eq_true, List.isEmpty_iff] at h
    obtain ⟨⟨⟨rfl, rfl⟩, h1⟩, h2⟩ := h
    obtain ⟨⟨t, n, b', hp⟩, h3, h4⟩ := any_inv h2
    obtain rfl := one_inv h3
    simp only [viewH, Bool.and_eq_true] at h4
    obtain ⟨⟨⟨h5, h6⟩, h7⟩, h8⟩ := h4
    obtain ⟨t, rfl, h5⟩ := any_inv h5
    obtain ⟨n, rfl, h6⟩ := any_inv h6
    have h6 : (sl.contains (x, n) && sc.names.lookup n == some .local) = true := h6
    simp only [Bool.and_eq_true, beq_iff_eq] at h6
    obtain ⟨y, np, rfl, h9, h10⟩ := clsName_name h5
    cases b' with
    | nil => cases h7
    | cons b0 b1 => exact ⟨b, y, np, n, b0, b1, hp, pos, q _ rfl, h1, h9, h10, List.contains_iff_mem.mp h6.1, h6.2, h8⟩
  | _ => intro h; cases h
theorem invS_pass (h : mtS G sc sl .pass (viewS s) = true) : ∃ pos, s = .Pass pos := by
  have q := viewS_st s
  revert q h
  cases viewS s with
  | P pos => intro h q; exact ⟨pos, q _ rfl⟩
  | _ => intro h; cases h
end

section
variable {T : Tp} {G : Gl} {n : Nat} {C : Cx}

/-- the frame's names stand -/
noncomputable def NsL (W : Wd) (env : Env) : Prop := (∃ m, W.h.Ns env.locals m) ∧ W.own env.locals = .free
noncomputable def PostS (T : Tp) (A : Around) (env : Env) (sl : List (Nat × Str)) (W : Wd) (r : OutS) (f : Flow) (s' : Shared) : Prop :=
  ∃ W', W'.s = s' ∧ Inv T W' ∧ Le (frX env) W W' ∧ ((∃ vs', r = .next W'.σ vs' ∧ f = .next ∧ Fs T A W' env sl vs') ∨ ∃ av v, r = .ret av W'.σ ∧ f = .ret v ∧ W'.V T av v ∧ NsL W' env)
noncomputable def PostSX (T : Tp) (A : Around) (env : Env) (sl : List (Nat × Str)) (W : Wd) (r : OutS) (e : Value) (s' : Shared) : Prop :=
  ∃ c W' a vs', W'.s = s' ∧ r = .exc c W'.σ vs' ∧ Inv T W' ∧ Le (frX env) W W' ∧ Fs T A W' env sl vs' ∧ e = .ref a ∧ Fly T W' c a
noncomputable def DoesS (T : Tp) (A : Around) (env : Env) (sl : List (Nat × Str)) (W : Wd) (t : Sem Flow) (r : OutS) : Prop := wpAny T.M A t (PostS T A env sl W r) (PostSX T A env sl W r) W.s

theorem PostSX.up {A : Around} {env : Env} {sl : List (Nat × Str)} {W₀ W : Wd} {r r₀ : OutS} {e : Value} {s' : Shared} (h : PostSX T A env sl W r e s') (l : Le (frX env) W₀ W) (q : ∀ c σ vs, r = .exc c σ vs → r₀ = .exc c σ vs) : PostSX T A env sl W₀ r₀ e s' :=
  let ⟨c, W', a, vs', e1, e2, I, l', F, e3, f⟩ := h; ⟨c, W', a, vs', e1, q _ _ _ e2, I, l.trans l', F, e3, f⟩
theorem PostX.toS {α : Type} {A : Around} {env : Env} {sl : List (Nat × Str)} {W : Wd} {vs : Vs} {x : Out α} {r : OutS} {e : Value} {s' : Shared} (h : PostX T noX W x e s') (F : Fs T A W env sl vs) (q : ∀ c σ, x = .exc c σ → r = .exc c σ vs) : PostSX T A env sl W r e s' :=
  let ⟨c, W', a, e1, e2, I, l', e3, f⟩ := h; ⟨c, W', a, vs, e1, q _ _ e2, I, l'.ofNo, F.le l', e3, f⟩
theorem DoesS.up {A : Around} {env : Env} {sl : List (Nat × Str)} {W₀ W : Wd} {t : Sem Flow} {r r₀ : OutS} (h : DoesS T A env sl W t r) (l : Le (frX env) W₀ W) (e : r₀ = r) : wpAny T.M A t (PostS T A env sl W₀ r₀) (PostSX T A env sl W₀ r₀) W.s := by
  subst e
  exact wpAny_mono h (fun f _ ⟨W', e, I, l', r⟩ => ⟨W', e, I, l.trans l', r⟩) fun _ _ q => q.up l fun _ _ _ z => z

noncomputable def SS (T : Tp) (G : Gl) (n : Nat) (C : Cx) (m : MS) : Prop :=
  ∀ (st : Stmt) (sl : List (Nat × Str)) (A : Around) (W : Wd) (env : Env) (vs : Vs), mtS G env.scope sl m (viewS st) = true → AOk n C.hd A → Fs T A W env sl vs → Inv T W → ex C m W.σ vs ≠ .fail → DoesS T A env sl W (exec st env) (ex C m W.σ vs)

theorem does_exs : ∀ (ms : List MS), (∀ m ∈ ms, SS T G n C m) → ∀ (ss : List Stmt) (sl : List (Nat × Str)) (A : Around) (W : Wd) (env : Env) (vs : Vs), mtSs G env.scope sl ms ss = true → AOk n C.hd A → Fs T A W env sl vs → Inv T W → exs C ms W.σ vs ≠ .fail →
    DoesS T A env sl W (execs ss env) (exs C ms W.σ vs) := by
  intro ms
  induction ms with
  | nil =>
    intro _ ss sl A W env vs h _ F I _
    rw [mtSs_nil h]
    exact wpAny_execs_nil ⟨W, rfl, I, .refl _ _, .inl ⟨vs, rfl, rfl, F⟩⟩
  | cons m ms ih' =>
    intro ih ss sl A W env vs h a F I hn
    obtain ⟨s, ss, rfl, h1, h2⟩ := mtSs_cons h
    rw [exs_q2] at hn ⊢
    have n1 : ex C m W.σ vs ≠ .fail := fun q => by rw [q] at hn; exact hn rfl
    refine wpAny_execs_cons (wpAny_mono (ih m (List.mem_cons_self ..) s sl A W env vs h1 a F I n1) (fun f _ ⟨W', e, I', l', d⟩ => ?_) fun _ _ q => q.up (.refl _ _) fun c σ vs z => by rw [z])
    subst e
    rcases d with ⟨vs', e1, rfl, F'⟩ | ⟨av, v, e1, rfl, r⟩
    · rw [e1] at hn ⊢
      simp only at hn ⊢
      exact (ih' (fun m' hm => ih m' (List.mem_cons_of_mem _ hm)) ss sl A W' env vs' h2 a F' I' hn).up l' rfl
    · rw [e1]
      exact ⟨W', rfl, I', l', .inr ⟨av, v, rfl, rfl, r⟩⟩

theorem swaps_no {v : Expr} (h : notComp v = true) (t : Option Expr) (k : Nat) (env : Env) : swapsWith v t k env = pure false := by
  cases v with
  | ListComp _ _ _ _ => cases h
  | SetComp _ _ _ _ => cases h
  | DictComp _ _ _ _ _ => cases h
  | _ => rfl

theorem Rd.leD {X : Addr → Prop} {W W' : Wd} {env : Env} {x : Str} {v : Value} (r : Rd W env x v) (l : Le X W W') (hd : ∀ a, frX env a → ¬ X a) : Rd W' env x v := by
  rcases r with ⟨k, f, m, nn, e⟩ | ⟨k, c, e, f, nn⟩
  · have hx := hd _ (.inl rfl)
    exact .inl ⟨k, (let ⟨_, z⟩ := ns_at nn; (l.ext.ow _ _ z hx (by rw [f]; exact Ow.noConfusion)).trans f), m, ns_ko nn fun o ho => l.ext.kp _ o ho f hx, e⟩
  · have hx := hd c (.inr ⟨x, e⟩)
    exact .inr ⟨k, c, e, (let ⟨_, z⟩ := cell_at nn; (l.ext.ow _ _ z hx (by rw [f]; exact Ow.noConfusion)).trans f), cell_ko nn fun o ho => l.ext.kp _ o ho f hx⟩

theorem Fs.leD {X : Addr → Prop} {A : Around} {W W' : Wd} {env : Env} {sl : List (Nat × Str)} {vs : Vs} (F : Fs T A W env sl vs) (l : Le X W W') (fx : FrX X W.own W.h) (hd : ∀ a, Mine.frX env a → ¬ X a) (hst : St T A W') : Fs T A W' env sl vs where
  frame := F.frame
  top := F.top
  fm := ⟨hst, F.fm.kind, F.fm.glob, F.fm.bi, F.fm.cells, fun i x hi av e => let ⟨v, r, d⟩ := F.fm.rd i x hi av e; ⟨v, r.leX l fx, d.leD l hd⟩⟩
  ns := let ⟨m, nn⟩ := F.ns; ⟨m, ns_ko nn fun o ho => l.ext.kp _ o ho F.ownL (hd _ (.inl rfl))⟩
  ownL := let ⟨_, nn⟩ := F.ns; let ⟨_, z⟩ := ns_at nn; (l.ext.ow _ _ z (hd _ (.inl rfl)) (by rw [F.ownL]; exact Ow.noConfusion)).trans F.ownL
  baseL := F.baseL
  kinds := F.kinds
  cell := fun x c e => let ⟨h1, h2, h3, v, h4⟩ := F.cell x c e; let ⟨_, z⟩ := cell_at h4; ⟨(l.ext.ow _ _ z (hd _ (.inr ⟨x, e⟩)) (by rw [h1]; exact Ow.noConfusion)).trans h1, h2, h3, v, cell_ko h4 fun o ho => l.ext.kp _ o ho h1 (hd _ (.inr ⟨x, e⟩))⟩
  cinj := F.cinj
  inj := F.inj
  inj2 := F.inj2
  len := F.len

theorem St.one {A : Around} {W W' : Wd} {J : Addr} (S : St T A W) (l : Le (fun b => b = J) W W') (h : ∀ env outer, A.frames = some outer → env ∈ outer → env.frame ≠ some J) : St T A W' := by
  obtain ⟨l0, e, k⟩ := S
  exact ⟨l0, e, k.leX l fun env he L hL q => h env l0 e he (by rw [hL, show L = J from q])⟩
theorem St.no {A : Around} {W : Wd} {J : Addr} (S : St T A W) (h : W.h.get? J = none) : ∀ env outer, A.frames = some outer → env ∈ outer → env.frame ≠ some J := fun env outer e he q => by
  obtain ⟨l0, e0, k⟩ := S
  rw [e] at e0; cases e0
  obtain ⟨_, L, o, h1, _, _, h4, _⟩ := k env he
  rw [q] at h1; cases h1
  rw [h] at h4; cases h4

/-- the loop, from any turn on -/
theorem does_loop {A : Around} {W₁ : Wd} {env : Env} {sl : List (Nat × Str)} {x : Nat} {nm : Str} {p : Pos} {body : List MS} {body' : List Stmt} {src : Src} {J : Addr} (hh : A.handled = none) (hS : ∀ env outer, A.frames = some outer → env ∈ outer → env.frame ≠ some J) (hx : (x, nm) ∈ sl)
    (hb : ∀ (W : Wd) (vs : Vs), Fs T A W env sl vs → Inv T W → exs C body W.σ vs ≠ .fail → DoesS T A env sl W (execs body' env) (exs C body W.σ vs)) {r0 : OutS} (hr : r0 ≠ .fail) (hJ : ¬ frX env J)
    (f : AV → Hp × Vs → It (Hp × Vs) OutS) (hf : f = fun v (st : Hp × Vs) => match exs C body st.1 (st.2.set x (some v)) with | .next h vs => .go (h, vs) | .ret v h => .stop (.ret v h) | _ => .stop .fail)
    {R : Result → Shared → Prop} (hR : ∀ W' fl, Inv T W' → Le (fun b => frX env b ∨ b = J) W₁ W' → ((∃ vs', r0 = .next W'.σ vs' ∧ fl = .next ∧ Fs T A W' env sl vs') ∨ ∃ av v, r0 = .ret av W'.σ ∧ fl = .ret v ∧ W'.V T av v ∧ NsL W' env) → R (.ok fl) W'.s)
    {W : Wd} {vs : Vs} {i m : Nat} (I : Inv T W) (l : Le (fun b => frX env b ∨ b = J) W₁ W) (F : Fs T A W env sl vs) (it : ItOk T W J src i)
    (e : (match iterR (fun st => srcGet src st.1) OutS.fail f m i (W.σ, vs) with | .go st => OutS.next st.1 st.2 | .stop o => o) = r0) :
    codeAny T.M A (.forLoop (.Name nm p) (.ref J) body' [] env) R W.s := by
  refine codeAny_forLoop (fun m s => ∃ W vs i, W.s = s ∧ Inv T W ∧ Le (fun b => frX env b ∨ b = J) W₁ W ∧ Fs T A W env sl vs ∧ ItOk T W J src i ∧
    (match iterR (fun st => srcGet src st.1) OutS.fail f m i (W.σ, vs) with | .go st => OutS.next st.1 st.2 | .stop o => o) = r0) (fun m s ⟨W, vs, i, es, I, l, F, it, e⟩ => ?_) m ⟨W, vs, i, rfl, I, l, F, it, e⟩
  subst es
  cases m with
  | zero => simp only [iterR] at e; exact absurd e.symm hr
  | succ m =>
    simp only [iterR] at e
    cases hg : srcGet src W.σ with
    | none => rw [hg] at e; exact absurd e.symm hr
    | some xs =>
      rw [hg] at e
      simp only at e
      cases hi : xs[i]? with
      | none =>
        rw [hi] at e
        refine does_next_end I hh it hg hi fun W' I' l' es => wpAny_execs_nil ?_
        have l2 : Le (fun b => frX env b ∨ b = J) W W' := l'.mono fun _ q => .inr q
        exact hR W' .next I' (l.trans l2) (.inl ⟨vs, by rw [← e, es], rfl, F.leD l' it.frX (fun b hb q => hJ (q ▸ hb)) (F.fm.stk.one l' hS)⟩)
      | some av =>
        rw [hi] at e
        simp only at e
        refine does_next_item I it hg hi fun v W' I' l' es it' r => ?_
        have F' : Fs T A W' env sl vs := F.leD l' it.frX (fun b hb q => hJ (q ▸ hb)) (F.fm.stk.one l' hS)
        refine wpAny_assign_Name (does_store F' I' hx r fun W'' I'' l'' es' F'' => ?_)
        have it'' : ItOk T W'' J src (i + 1) := it'.leX l'' F'.frX hJ
        have hf' : f av (W.σ, vs) = match exs C body W.σ (vs.set x (some av)) with | .next h vs => .go (h, vs) | .ret v h => .stop (.ret v h) | _ => .stop .fail := by rw [hf]
        have hσ : W''.σ = W.σ := es'.trans es
        have n1 : exs C body W''.σ (vs.set x (some av)) ≠ .fail := fun q => by
          rw [hσ] at q
          rw [hf', q] at e
          exact hr e.symm
        refine wpAny_mono (hb W'' _ F'' I'' n1) (fun fl _ ⟨W3, e3, I3, l3, d⟩ => ?_) fun _ _ ⟨c, W3, _, vs3, _, z, _⟩ => absurd (by rw [hσ] at z; rw [hf', z] at e; exact e.symm) hr
        subst e3
        have lall : Le (fun b => frX env b ∨ b = J) W W3 := ((l'.mono fun _ q => .inr q).trans (l''.mono fun _ q => .inl q)).trans (l3.mono fun _ q => .inl q)
        rw [hσ] at d
        rcases d with ⟨vs', e1, rfl, F3⟩ | ⟨av', v', e1, rfl, r3⟩
        · refine ⟨m, Nat.lt_succ_self _, W3, vs', i + 1, rfl, I3, l.trans lall, F3, it''.leX l3 F''.frX hJ, ?_⟩
          rw [← e, hf', e1]
        · refine hR W3 (.ret v') I3 (l.trans lall) (.inr ⟨av', v', ?_, rfl, r3⟩)
          rw [← e, hf', e1]

/-- what was made on the way is forgotten -/
theorem Le.forget {X : Addr → Prop} {W₀ W₁ W₂ : Wd} {J : Addr} (l : Le noX W₀ W₁) (l' : Le (fun b => X b ∨ b = J) W₁ W₂) (h : W₀.h.get? J = none) : Le X W₀ W₂ :=
  Le.lose l.ofNo l' fun b o e _ nx q => q.elim nx fun z => by rw [z, h] at e; cases e

theorem comp_only {sc : Scope} {sl : List (Nat × Str)} {m : ME} {elt' : Expr} {gs : List Comprehension} {sc' : Scope} {p : Pos} (h : mtE G sc sl m (.ListComp elt' gs sc' p) = true) : ∃ elt x src conds, m = .comp elt x src conds := by
  cases m with
  | comp elt x src conds => exact ⟨elt, x, src, conds, rfl⟩
  | _ => cases h

theorem nextO_ok {vs : Vs} {r : Out Unit} (h : nextO vs r ≠ .fail) : r ≠ .fail := fun q => by rw [q] at h; exact h rfl
theorem PostX.nextO {A : Around} {env : Env} {sl : List (Nat × Str)} {W : Wd} {vs : Vs} {r : Out Unit} {e : Value} {s' : Shared} (h : PostX T noX W r e s') (F : Fs T A W env sl vs) : PostSX T A env sl W (nextO vs r) e s' := h.toS F fun c σ z => by rw [z]; rfl
theorem Fs.mark {A : Around} {W : Wd} {env : Env} {sl : List (Nat × Str)} {vs : Vs} {e : Option Value} (F : Fs T A W env sl vs) : Fs T (A.mark e) W env sl vs :=
  ⟨⟨F.fm.stk, F.fm.kind, F.fm.glob, F.fm.bi, F.fm.cells, F.fm.rd⟩, F.frame, F.top, F.ns, F.ownL, F.baseL, F.kinds, F.cell, F.cinj, F.inj, F.inj2, F.len⟩
theorem evT_exc {t : ME} {h : Hp} {vs : Vs} {d : Nat} {σ : Hp} {f : AV → Hp → OutS} (z : evT C t h vs = .exc d σ) : (match ev C t h vs with | .ok v h => f v h | .exc c h => .exc c h vs | .fail => .fail) = .exc d σ vs := by
  unfold evT at z
  cases e : ev C t h vs with
  | ok v k =>
    rw [e] at z
    have z : (match truth k v with | some b => Out.ok b k | none => .fail) = .exc d σ := z
    cases y : truth k v <;> rw [y] at z <;> cases z
  | exc c k => rw [e] at z; cases z; rfl
  | fail => rw [e] at z; cases z
theorem does_setItemA {A : Around} {W : Wd} (I : Inv T W) {x k v : AV} {vx vk vv : Value} {σ' : Hp} (rx : W.V T x vx) (rk : W.V T k vk) (rv : W.V T v vv) (e : setItemA x k v W.σ = some σ') : Does T A noX W (setItem vx vk vv) (.ok () σ') (fun _ _ _ => True) := by
  cases x with
  | ref l =>
    have e0 : setItemA (.ref l) k v W.σ = match dct W.σ[l]? with | some p => if isKey k && decide (p.2.length < lim) then some (W.σ.set l (.dict (if (dget p.2 k).isSome then p.1 else p.1.map (· + 1)) (dput p.2 k v))) else none | none => none := rfl
    rw [e0] at e
    cases hx : dct W.σ[l]? with
    | none => rw [hx] at e; cases e
    | some p =>
      rw [hx] at e
      simp only at e
      by_cases hk : (isKey k && decide (p.2.length < lim)) = true
      · rw [if_pos hk] at e
        cases e
        simp only [Bool.and_eq_true, decide_eq_true_eq] at hk
        obtain ⟨d, kvs, n, rfl, hb, hd, hep, kv, hl, _⟩ := I.dict (dct_ok hx) rx
        obtain ⟨k1, k2⟩ := key_of rk hk.1
        refine setItem_at (knd := kKind T.prog T.w) k1 hd (by rw [kv.length, sizeLine_eq]; exact hl) fun h' hd' hs => ?_
        rw [kv.isSome k2] at hd'
        have own_d := I.ownb _ _ hb
        have g := I.upd (o := .dict (if (dget p.2 k).isSome then p.1 else p.1.map (· + 1)) (dput p.2 k v)) (s' := { W.s with heap := h', toks := W.s.toks + 1 }) hb (fun b q f e => ?_) (fun b q => hs.2 b fun z => q (z ▸ own_d)) rfl rfl
          fun x => ⟨_, _, hd', fun e he => ?_, (kv.ext x .no).put k2 (rv.ext x .no) hd.nodup, Nat.le_trans (dput_length _ _ _) hk.2⟩
        · exact ⟨(), _, rfl, rfl, g.1, g.2, trivial⟩
        · by_cases z : b = d
          · subst z; obtain ⟨o, _, ho, _⟩ := hd'; exact ⟨o, ho⟩
          · exact ⟨q, (hs.2 b z).trans e⟩
        · by_cases z : (dget p.2 k).isSome = true
          · rw [if_pos z] at he ⊢; exact hep e he
          · rw [if_neg z] at he ⊢
            obtain ⟨e', h1, rfl⟩ := Option.map_eq_some_iff.mp he
            rw [hep e' h1]
      · rw [if_neg hk] at e; cases e
  | _ => cases e

theorem sound_s_aux (hT : T.Ok) (hG : GlOk T G) (hP : C.P = T.P) (hC : CallsOk T n C.call) (k : Nat) (ih : ∀ (hd : Bool) (m : MS), sizeOf m < k → SS T G n ⟨C.P, hd, C.call⟩ m) (m : MS) (hk : sizeOf m < k + 1) : SS T G n C m := by
  intro st sl A W env vs hm a F I hn
  cases m with
  | set x e =>
      obtain ⟨nm, p, v, pos, rfl, hx, h2, h3⟩ := invS_set hm
      rw [ex_q1] at hn ⊢
      have n1 : ev C e W.σ vs ≠ .fail := fun q => by rw [q] at hn; exact hn rfl
      have plain : swapsWith v (some (.Name nm p)) pos.line env = pure false → DoesS T A env sl W (exec (.Assign [.Name nm p] v pos) env) (match ev C e W.σ vs with | .ok v h => .next h (vs.set x (some v)) | .exc c h => .exc c h vs | .fail => .fail) := fun hsw => by
        refine wpAny_Assign_Name ((sound_e hT hG hP hC e v sl A W env vs h3 a F.fm I n1).cps (fun av W' val e1 I' l' r => ?_) fun _ _ q => q.toS F fun c σ z => by rw [z]) hsw
        refine does_store (F.le l') I' hx r fun W'' I'' l'' es F'' => ?_
        rw [e1]
        exact ⟨W'', rfl, I'', l'.ofNo.trans l'', .inl ⟨_, by rw [es], rfl, F''⟩⟩
      by_cases hcv : notComp v = true
      · exact plain (swaps_no hcv _ _ _)
      · cases v <;> first | exact absurd rfl hcv | cases h2 | skip
        rename_i elt' gs sc cpos
        have hsw : swapsWith (.ListComp elt' gs sc cpos) (some (.Name nm p)) pos.line env = pure (env.blockKind == .function && env.kindOf nm == some .local && p.line == (Expr.ListComp elt' gs sc cpos).pos.line && !(sc.names.any fun (n, k) => n == nm && (k == .local || k == .cell))) := rfl
        cases hb : (env.blockKind == .function && env.kindOf nm == some .local && p.line == (Expr.ListComp elt' gs sc cpos).pos.line && !(sc.names.any fun (n, k) => n == nm && (k == .local || k == .cell))) with
        | false => exact plain (by rw [hsw, hb])
        | true =>
          rw [hb] at hsw
          obtain ⟨elt, y, src, conds, rfl⟩ := comp_only h3
          obtain ⟨_, cn, px, it, ifs, _, _, he, h6, h2, h3', h4, h5⟩ := inv_comp h3
          cases he
          have ok := scOk_of h2
          have hcl : closureFor sc env = pure (closL env.cells sc.names []) := closure_eq fun p hp q => F.fm.cells _ (ok.free p hp q)
          unfold DoesS
          rw [exec_Assign_Name_used _ _ _ _ hsw]
          refine wpAny_bind (wpAny_standAt (wpAny_bind ?_))
          rw [ev_q26] at n1 hn ⊢
          obtain ⟨m1, m2⟩ := Out.bind_ok n1
          show wpAny _ A (do let _ ← comprehension (.ListComp elt' [⟨.Name cn px, it, ifs, 0⟩] sc cpos) sc env _ (PySem.newList []) false (eval it env) (some (assign (.Name nm p) env))) _ _ W.s
          refine wpAny_bind (wpAny_mono (wpAny_comprehension_free (use := some (assign (.Name nm p) env)) (Q := fun _ s' => PostS T A env sl W _ .next s') rfl (folded_no h6 _) hcl ok.kind ok.loc
            ((sound_e hT hG hP hC src it sl A W env vs h3' a F.fm I m1).cps (fun av W1 v e1 I1 l1 r1 => ?_) fun _ _ q => q.toS F fun c σ z => by rw [z]; rfl)) (fun _ s' hq => wpAny_pure (wpAny_pure hq)) fun _ _ e => e)
          have n3 := m2 av W1.σ e1
          cases hs : srcA W1.σ av with
          | none => rw [hs] at n3; exact absurd rfl n3
          | some sr =>
            rw [hs] at n3
            simp only at n3
            have hd : C.hd = false := by
              cases q : C.hd with
              | false => rfl
              | true => rw [q, if_pos rfl] at n3; exact absurd rfl n3
            rw [hd] at n3
            simp only [Bool.false_eq_true, if_false] at n3
            refine does_iter I1 r1 hs fun J W2 I2 l2 es2 hJ hk2 it2 => ?_
            refine comp_block (r0 := _) (x := y) (vs := vs) (sl := sl) (sound_e hT hG hP hC elt) (fun m _ => sound_t hT hG hP hC m) ok h5 h4 a (a.handled hd) (F.fm.le l1) I2 l2 hJ hk2 it2 n3 (by rw [es2]; try rfl) fun D Ca W' av' er I' lJ hfC oC bC hnC rv => ?_
            obtain ⟨m, hnC⟩ := hnC
            have hfC1 : W1.h.get? Ca = none := by
              cases z : W1.h.get? Ca with
              | none => rfl
              | some o => have e' := hk2 Ca o z; rw [hfC] at e'; cases e'
            have hfX : ¬ frX env Ca := fun q => by
              rcases q with q | ⟨z, q⟩
              · obtain ⟨m', n'⟩ := (F.le l1).ns
                obtain ⟨o, w⟩ := ns_at n'
                rw [← q, hfC1] at w; cases w
              · obtain ⟨_, _, _, w, n'⟩ := (F.le l1).cell z Ca q
                obtain ⟨o, w⟩ := cell_at n'
                rw [hfC1] at w; cases w
            have LW : Le noX W W' := l1.trans (Le.lose l2 lJ fun b o e _ _ q => by rw [q, hJ] at e; cases e)
            show wpAny _ A (assign (.Name nm p) env (.ref D)) _ _ _
            refine wpAny_assign_Name (does_store (F.le LW) I' hx rv fun W3 I3 l3 es3 F3 => ?_)
            obtain ⟨oc, hoc⟩ := ns_at hnC
            have hn3 : W3.h.Ns Ca m := ns_ko hnC fun o ho => l3.ext.kp _ o ho oC hfX
            refine ⟨m, hn3, fun h' hsb => ?_⟩
            obtain ⟨fx, I4, l4⟩ := comp_gone I3 ((l3.ext.ow _ _ hoc hfX (by rw [oC]; exact Ow.noConfusion)).trans oC) bC hn3 hsb
            refine ⟨_, rfl, I4, Le.lose (LW.ofNo.trans l3) l4 (fun b o e ht _ q => by obtain ⟨o', e'⟩ := l1.ext.df b o e id ht; rw [q, hfC1] at e'; cases e'), .inl ⟨vs.set x (some av'), ?_, rfl, F3.leD l4 fx (fun b hb q => hfX (q ▸ hb)) (F3.fm.stk.one l4 ((F.fm.stk.le l1).no hfC1))⟩⟩
            rw [e1]
            simp only [Out.bind, hs, hd, Bool.false_eq_true, if_false, er, es3]
  | expr e =>
    obtain ⟨v, pos, rfl, hm1, hm2⟩ := invS_expr hm
    rw [ex_q4] at hn ⊢
    have n1 : ev C e W.σ vs ≠ .fail := fun q => by rw [q] at hn; exact hn rfl
    refine wpAny_Expr_any ((sound_e hT hG hP hC e v sl A W env vs hm2 a F.fm I n1).cps (fun av W' val e1 I' l' r => ?_) fun _ _ q => q.toS F fun c σ z => by rw [z]) (by unfold interactive; rw [F.fm.kind]; rfl) (swaps_no hm1 _ _ _)
    rw [e1]
    exact ⟨W', rfl, I', l'.ofNo, .inl ⟨vs, rfl, rfl, F.le l'⟩⟩
  | ifs t b c =>
    obtain ⟨t', b', c', pos, rfl, h1, h2, h3⟩ := invS_ifs hm
    rw [ex_q5] at hn ⊢
    have n1 : evT C t W.σ vs ≠ .fail := fun q => by
      unfold evT at q
      cases z : ev C t W.σ vs with
      | ok v h =>
        rw [z] at q hn
        simp only [Out.bind] at q hn
        cases y : truth h v with
        | none => rw [y] at hn; exact hn rfl
        | some b => rw [y] at q; cases q
      | exc c h => rw [z] at q; cases q
      | fail => rw [z] at hn; exact hn rfl
    refine wpAny_If ((sound_t hT hG hP hC t t' sl A W env vs h1 a F.fm I n1).cps (fun bb W' b2 e1 I' l' r => ?_) fun _ _ q => q.toS F fun d σ z => evT_exc z)
    cases r
    unfold evT at e1
    cases z : ev C t W.σ vs with
    | fail => rw [z] at e1; cases e1
    | exc c h => rw [z] at e1; cases e1
    | ok v h =>
      rw [z] at e1 hn
      simp only [Out.bind] at e1 hn
      cases y : truth h v with
      | none => rw [y] at e1; cases e1
      | some b3 =>
        rw [y] at e1 hn
        simp only [Out.ok.injEq] at e1
        obtain ⟨rfl, rfl⟩ := e1
        cases b3 with
        | true =>
          simp only [y] at hn ⊢
          exact (does_exs b (fun m' hm' => ih C.hd m' (by have := List.sizeOf_lt_of_mem hm'; simp at hk; omega)) b' sl A W' env vs h2 a (F.le l') I' hn).up l'.ofNo rfl
        | false =>
          simp only [y] at hn ⊢
          exact (does_exs c (fun m' hm' => ih C.hd m' (by have := List.sizeOf_lt_of_mem hm'; simp at hk; omega)) c' sl A W' env vs h3 a (F.le l') I' hn).up l'.ofNo rfl
  | loop x src body =>
    obtain ⟨nm, p, it, b', pos, rfl, hx, h2, h3, h4⟩ := invS_loop hm
    rw [ex_q6] at hn ⊢
    have n1 : ev C src W.σ vs ≠ .fail := fun q => by rw [q] at hn; exact hn rfl
    refine wpAny_For ((sound_e hT hG hP hC src it sl A W env vs h3 a F.fm I n1).cps (fun av W' val e1 I' l' r => ?_) fun _ _ q => q.toS F fun c σ z => by rw [z]) (folded_no h2 _)
    rw [e1] at hn
    simp only at hn
    cases hs : srcA W'.σ av with
    | none => rw [hs] at hn; exact absurd rfl hn
    | some sr =>
      rw [hs] at hn
      have hd : C.hd = false := by
        cases q : C.hd with
        | false => rfl
        | true => rw [q] at hn; exact absurd rfl hn
      simp only [hd, Bool.false_eq_true, if_false, iter_eq] at hn
      refine does_iter I' r hs fun J W'' I'' l'' es hJ _ it'' => ?_
      have F'' := (F.le l').le l''
      have hJ' : ¬ frX env J := fun q => by
        have F1 := F.le l'
        rcases q with q | ⟨y, q⟩
        · obtain ⟨m', n'⟩ := F1.ns
          obtain ⟨o, z⟩ := ns_at n'
          rw [← q, hJ] at z; cases z
        · obtain ⟨_, _, _, w, n'⟩ := F1.cell y J q
          obtain ⟨o, z⟩ := cell_at n'
          rw [hJ] at z; cases z
      refine does_loop (src := sr) (vs := vs) (i := 0) (m := srcN sr + 1) (a.handled hd) ((F.fm.stk.le l').no hJ) hx (fun W3 vs3 F3 I3 n3 => does_exs body (fun m' hm' => ih C.hd m' (by have := List.sizeOf_lt_of_mem hm'; simp at hk; omega)) b' sl A W3 env vs3 h4 a F3 I3 n3) hn hJ' _ rfl
        (fun W3 fl I3 l3 d => ?_) I'' (.refl _ W'') F'' it'' (by rw [es]; try rfl)
      refine ⟨W3, rfl, I3, l'.ofNo.trans (Le.forget l'' l3 hJ), ?_⟩
      rw [e1]
      simp only [hs, hd, Bool.false_eq_true, if_false, iter_eq]
      exact d
  | ret e =>
    obtain ⟨v, pos, rfl, hm⟩ := invS_ret hm
    rw [ex_q7] at hn ⊢
    have n1 : ev C e W.σ vs ≠ .fail := fun q => by rw [q] at hn; exact hn rfl
    rcases mO_inv hm with ⟨rfl, rfl⟩ | ⟨v, rfl, hm'⟩
    · exact wpAny_Return_none ⟨W, rfl, I, .refl _ _, .inr ⟨.none, .none, rfl, rfl, .none, F.ns, F.ownL⟩⟩
    · refine wpAny_Return_some ((sound_e hT hG hP hC e v sl A W env vs hm' a F.fm I n1).cps (fun av W' val e1 I' l' r => ?_) fun _ _ q => q.toS F fun c σ z => by rw [z])
      rw [e1]
      exact ⟨W', rfl, I', l'.ofNo, .inr ⟨av, val, rfl, rfl, r, (F.le l').ns, (F.le l').ownL⟩⟩
  | pass =>
    obtain ⟨pos, rfl⟩ := invS_pass hm
    exact wpAny_Pass ⟨W, rfl, I, .refl _ _, .inl ⟨vs, rfl, rfl, F⟩⟩

  | setAttr o i e =>
    obtain ⟨o', nm, p, v, pos, rfl, h1, h2, h3, h4⟩ := invS_setAttr hm
    rw [ex_q2] at hn ⊢
    obtain ⟨n1, n2⟩ := Out.bind_ok (nextO_ok hn)
    refine plainObj_wpAny_Assign_Attribute ((sound_e hT hG hP hC e v sl A W env vs h2 a F.fm I n1).cps (fun av W1 val e1 I1 l1 r1 => ?_) fun _ _ q => q.bind.nextO F) (swaps_no h1 _ _ _)
    obtain ⟨m1, m2⟩ := Out.bind_ok (n2 av W1.σ e1)
    refine (sound_e hT hG hP hC o o' sl A W1 env vs h4 a (F.fm.le l1) I1 m1).cps (fun ax W2 vx e2 I2 l2 r2 => ?_) fun _ _ q => (q.bind.up l1 (by rw [e1]; rfl)).nextO F
    have m3 := m2 ax W2.σ e2
    cases hs : setAttrA ax i av W2.σ with
    | none => rw [hs] at m3; exact absurd rfl m3
    | some σ' =>
      refine (does_setAttrA hT I2 r2 (r1.le l2) (by rw [← hG.attrs]; exact h3) hs).cps (fun _ W3 _ e3 I3 l3 _ => ?_) fun _ _ q => absurd q (fun ⟨_, _, _, _, z, _⟩ => nomatch z)
      have eR : ((ev C e W.σ vs).bind fun v h => (ev C o h vs).bind fun x h => doneO (setAttrA x i v h)) = .ok () W3.σ := by
        rw [e1]; show (ev C o W1.σ vs).bind _ = _; rw [e2]; show doneO (setAttrA ax i av W2.σ) = _; rw [hs]; exact e3
      rw [eR]
      exact ⟨W3, rfl, I3, ((l1.trans l2).trans l3).ofNo, .inl ⟨vs, rfl, rfl, ((F.le l1).le l2).le l3⟩⟩
  | setItem o i e =>
    obtain ⟨o', i', p, v, pos, rfl, h1, h2, h3, h4⟩ := invS_setItem hm
    rw [ex_q3] at hn ⊢
    obtain ⟨n1, n2⟩ := Out.bind_ok (nextO_ok hn)
    refine wpAny_Assign_Subscript ((sound_e hT hG hP hC e v sl A W env vs h2 a F.fm I n1).cps (fun av W1 val e1 I1 l1 r1 => ?_) fun _ _ q => q.bind.nextO F) (swaps_no h1 _ _ _)
    obtain ⟨m1, m2⟩ := Out.bind_ok (n2 av W1.σ e1)
    refine (sound_e hT hG hP hC o o' sl A W1 env vs h3 a (F.fm.le l1) I1 m1).cps (fun ax W2 vx e2 I2 l2 r2 => ?_) fun _ _ q => (q.bind.up l1 (by rw [e1]; rfl)).nextO F
    obtain ⟨k1, k2⟩ := Out.bind_ok (m2 ax W2.σ e2)
    refine (sound_e hT hG hP hC i i' sl A W2 env vs h4 a (F.fm.le (l1.trans l2)) I2 k1).cps (fun ak W3 vk e3 I3 l3 r3 => ?_) fun _ _ q => (q.bind.up (l1.trans l2) (by rw [e1]; show (ev C o W1.σ vs).bind _ = _; rw [e2]; rfl)).nextO F
    have m3 := k2 ak W3.σ e3
    cases hs : setItemA ax ak av W3.σ with
    | none => rw [hs] at m3; exact absurd rfl m3
    | some σ' =>
      refine (does_setItemA I3 (r2.le l3) r3 ((r1.le l2).le l3) hs).cps (fun _ W4 _ e4 I4 l4 _ => ?_) fun _ _ q => absurd q (fun ⟨_, _, _, _, z, _⟩ => nomatch z)
      have eR : ((ev C e W.σ vs).bind fun v h => (ev C o h vs).bind fun x h => (ev C i h vs).bind fun k h => doneO (setItemA x k v h)) = .ok () W4.σ := by
        rw [e1]; show (ev C o W1.σ vs).bind _ = _; rw [e2]; show (ev C i W2.σ vs).bind _ = _; rw [e3]; show doneO (setItemA ax ak av W3.σ) = _; rw [hs]; exact e4
      rw [eR]
      exact ⟨W4, rfl, I4, (((l1.trans l2).trans l3).trans l4).ofNo, .inl ⟨vs, rfl, rfl, (((F.le l1).le l2).le l3).le l4⟩⟩
  | raise c msg =>
    obtain ⟨x, np, k', p, cpos, pos, rfl, h1, h2⟩ := invS_raise hm
    rw [ex_q9] at hn ⊢
    by_cases hr : (C.hd || (excAt C.P c).isNone) = true
    · rw [if_pos hr] at hn; exact absurd rfl hn
    · rw [if_neg hr]
      simp only [Bool.or_eq_true, not_or, Bool.not_eq_true, Option.isNone_eq_false_iff] at hr
      obtain ⟨cl, hcl⟩ := Option.isSome_iff_exists.mp hr.2
      rw [hP] at hcl
      refine does_raise hT I (a.handled hr.1) hcl (a1 := .Constant (.str (tS msg)) k' p) rfl (fun Q E s hs hq => ?_) (fun Q E hq => wpAny_Constant_str (hq _ _)) fun W' e es I' l' f => ⟨c, W', e, vs, rfl, by rw [es], I', l'.ofNo, F.le l', rfl, f⟩
      simp only [isGlob, Bool.and_eq_true, beq_iff_eq, Bool.not_eq_true'] at h1
      exact Name_function_global F.fm.kind h1.1 (loadGlobal_global (by rw [F.fm.glob]; exact hT.g.keeps hs) (by rw [← hG.ca]; exact hG.sm x _ h2) hq) h1.2
  | try_ body c x hb =>
    obtain ⟨b, y, np, nm, b0, b1, hp, pos, rfl, h1, h2, h3, h4, h5, h6⟩ := invS_try hm
    rw [ex_q10] at hn ⊢
    have n1 : exs C body W.σ vs ≠ .fail := fun q => by rw [q] at hn; exact hn rfl
    refine wpAny_Try_except (wpAny_mono (does_exs body (fun m' hm' => ih C.hd m' (by have := List.sizeOf_lt_of_mem hm'; simp at hk; omega)) b sl A W env vs h1 a F I n1) (fun f s' hp => ?_) fun e s' hp => ?_)
    · obtain ⟨W', e, I', l', d⟩ := hp
      subst e
      rcases d with ⟨vs', e1, rfl, F'⟩ | ⟨av, v, e1, rfl, r⟩
      · rw [e1]
        exact wpAny_execs_nil ⟨W', rfl, I', l', .inl ⟨vs', rfl, rfl, F'⟩⟩
      · rw [e1]
        exact ⟨W', rfl, I', l', .inr ⟨av, v, rfl, rfl, r⟩⟩
    · obtain ⟨d, W1, ea, vs1, e1, e2, I1, l1, F1, rfl, fl⟩ := hp
      subst e1
      rw [e2] at hn ⊢
      simp only at hn ⊢
      rw [hP] at hn ⊢
      cases hi : instX T.P d c with
      | none => rw [hi] at hn; exact absurd rfl hn
      | some bb =>
        cases bb with
        | false => rw [hi] at hn; exact absurd rfl hn
        | true =>
          rw [hi] at hn
          simp only at hn ⊢
          by_cases hd : C.hd = true
          · rw [if_pos hd] at hn; exact absurd rfl hn
          · rw [if_neg hd] at hn ⊢
            obtain ⟨outer, hfr, hno⟩ := F1.top
            obtain ⟨l0, e0, S1⟩ := F1.fm.stk
            rw [hfr] at e0; cases e0
            refine does_land I1 hfr S1 fl fun W2 es2 I2 l2 f2 => ?_
            have F2 := F1.le l2
            obtain ⟨o2, ho2⟩ := (I2.lt ea (by rw [f2.1]; exact Ow.noConfusion)).1
            refine wpAny_handleBy_cons (codeAny_handlers_test (does_global (A := A.mark (some (.ref ea))) hT hG I2 (F2.mark).fm h2 h3 ?_)) (by intro z; cases z)
            rw [hG.ca]
            refine hT.matches I2 hi ho2 (f2.fly.cls o2 ho2) (codeAny_handlers_suite_as ?_)
            obtain ⟨l0, e0, S2⟩ := F2.fm.stk
            refine does_again I2 S2 f2 fun W3 es3 I3 l3 f3 => ?_
            obtain ⟨o3, ho3⟩ := (I3.lt ea (by rw [f3.1]; exact Ow.noConfusion)).1
            refine does_store (F2.le l3).mark I3 h4 (.exc ho3 (f3.fly.cls o3 ho3) f3.1) fun W4 I4 l4 es4 F4 => ?_
            have hσ : W4.σ = W1.σ := es4.trans (es3.trans es2)
            have n4 : exs ⟨C.P, true, C.call⟩ hb W4.σ (vs1.set x (some (.exc d))) ≠ .fail := fun q => by
              rw [hσ] at q
              rw [hP] at q
              rw [q] at hn; exact hn rfl
            have a' : AOk n true (A.mark (some (.ref ea))) := ⟨a.depth, a.units, fun z => nomatch z⟩
            have L4 : Le (frX env) W W4 := ((l1.trans l2.ofNo).trans l3.ofNo).trans l4
            refine wpAny_mono (does_exs hb (fun m' hm' => ih true m' (by have := List.sizeOf_lt_of_mem hm'; simp at hk; omega)) (b0 :: b1) sl (A.mark (some (.ref ea))) W4 env _ h6 a' F4 I4 n4) (fun f s' hp => ?_) fun e s' hp => ?_
            · obtain ⟨W5, e5, I5, l5, dd⟩ := hp
              subst e5
              rw [hσ, hP] at dd
              rcases dd with ⟨vs', e6, rfl, F'⟩ | ⟨av, v, e6, rfl, r⟩
              · rw [e6] at hn; exact absurd rfl hn
              · rw [e6]
                show wpAny T.M A (do bindName env nm .none; unbindBehindTheSuite env nm _) _ _ _
                obtain ⟨r, ⟨m5, hn5⟩, ho5⟩ := r
                have fx : FrX (fun b => b = env.locals) W5.own W5.h := fun b q => by
                  subst q
                  obtain ⟨o, es, ep, h1, h2, _⟩ := hn5
                  exact ⟨ho5, fun o' e => by rw [h1] at e; cases e; exact .inl ⟨_, _, h2⟩⟩
                refine wpAny_nameGoes h5 hn5 (by rw [F.fm.kind]; rfl) fun h' m' hn6 hs6 => ?_
                obtain ⟨I6, l6⟩ := I5.touch (X := fun b => b = env.locals) (s' := { W5.s with heap := h', toks := W5.s.toks + 1 }) ho5 F.baseL rfl fx (fun b o q e => (hs6.2 b q).trans e) rfl rfl
                exact ⟨_, rfl, I6, (L4.trans l5).trans (l6.mono fun b q => .inl q), .inr ⟨av, v, rfl, rfl, r.leX l6 fx, ⟨m', hn6⟩, ho5⟩⟩
            · obtain ⟨d', W5, ea', vs5, e5, e6, _⟩ := hp
              rw [hσ, hP] at e6
              rw [e6] at hn; exact absurd rfl hn

theorem sound_s (hT : T.Ok) (hG : GlOk T G) (hP : C.P = T.P) (hC : CallsOk T n C.call) (m : MS) : SS T G n C m := by
  have h : ∀ k, ∀ (hd : Bool) (m : MS), sizeOf m < k → SS T G n ⟨C.P, hd, C.call⟩ m := fun k => by
    induction k with
    | zero => intro hd m h; omega
    | succ k ih => exact fun hd m hk => sound_s_aux (C := ⟨C.P, hd, C.call⟩) hT hG hP hC k ih m hk
  exact h _ C.hd m (Nat.lt_succ_self _)
end
end Mine

set_option Elab.async false
namespace Mine
open PySem
theorem zip_lookup : ∀ {names : List Str} {vals : List Value}, names.Nodup → vals.length = names.length → (names.filterMap fun n => ((names.zip vals).lookup n).map (n, ·)) = names.zip vals
  | [], [], _, _ => rfl
  | n :: ns, v :: vs, hd, hl => by
    have hd' := List.nodup_cons.mp hd
    have ih := zip_lookup hd'.2 (by simpa using hl : vs.length = ns.length)
    simp only [List.zip_cons_cons, List.filterMap_cons, List.lookup_cons, BEq.rfl, Option.map_some]
    congr 1
    refine Eq.trans ?_ ih
    have key : ∀ l : List Str, (∀ x ∈ l, x ≠ n) → (l.filterMap fun x => (match x == n with | true => some v | false => List.lookup x (ns.zip vs)).map (x, ·)) = l.filterMap fun x => (List.lookup x (ns.zip vs)).map (x, ·) := by
      intro l
      induction l with
      | nil => intro _; rfl
      | cons y l ihl =>
        intro hy
        have h1 : (y == n) = false := by simpa using hy y (by simp)
        rw [List.filterMap_cons, List.filterMap_cons, ihl fun x hx => hy x (by simp [hx])]
        simp only [h1]
    exact key ns fun x hx e => hd'.1 (e ▸ hx)
  | [], _ :: _, _, h => by simp at h
  | _ :: _, [], _, h => by simp at h
theorem zip_found {names : List Str} {vals : List Value} (hl : vals.length = names.length) : names.filter (fun n => ((names.zip vals).lookup n).isNone) = [] := by
  rw [List.filter_eq_nil_iff]
  intro n hn
  simp only [Option.isNone_iff_eq_none]
  intro h
  rw [List.lookup_eq_none_iff] at h
  obtain ⟨i, hi, rfl⟩ := List.getElem_of_mem hn
  have hv : i < vals.length := by omega
  have : (names[i], vals[i]) ∈ names.zip vals := by
    rw [List.mem_iff_getElem]
    exact ⟨i, by simp; omega, by simp⟩
  have := h _ this
  simp at this

theorem bind_simple {fd : FuncData} {as : List Arg} {ds : List Expr} {kd : List (Option Expr)} {vals : List Value} (hp : fd.params = ⟨[], as, none, [], kd, none, ds⟩) (hd : fd.defaults = .none) (hn : (as.map (·.arg)).Nodup)
    (hl : vals.length = as.length) : bindArgs fd ⟨vals, []⟩ = pure ((as.map (·.arg)).zip vals) := by
  have hl' : vals.length = (as.map (·.arg)).length := by simpa using hl
  unfold bindArgs
  rw [hp, hd]
  have hs : seqItems? Value.none = (pure none : Sem (Option (Array Value))) := rfl
  simp only [List.map_nil, List.nil_append, List.append_nil, hs, pure_bind]
  generalize hg : as.map (·.arg) = names at hn hl' ⊢
  simp [hl', zip_found hl', zip_lookup hn hl']
end Mine

/-! Soundness, part 17: calls of the text's defs (typed by hand). -/
set_option Elab.async false
namespace Mine
open PySem PySem.SeqAt PySem.Spec PySem.W PySem.Calls

noncomputable def slots (fn : Fn) : List (Nat × Str) := (fn.names.take fn.nl).zipIdx.map fun p => (p.2, p.1)
theorem mem_slots {fn : Fn} {i : Nat} {x : Str} : (i, x) ∈ slots fn ↔ (fn.names.take fn.nl)[i]? = some x := by
  unfold slots
  simp only [List.mem_map, Prod.mk.injEq, Prod.exists]
  constructor
  · rintro ⟨a, b, h, rfl, rfl⟩
    exact List.mem_zipIdx_iff_getElem?.mp h
  · intro h
    exact ⟨x, i, List.mem_zipIdx_iff_getElem?.mpr h, rfl, rfl⟩

/-- a def of the text as the abstract one says -/
structure FnOk (T : Tp) (G : Gl) (f : Nat) (fn : Fn) : Prop where
  obj : ∃ o fd body as kd ds, T.base.get? (T.fa f) = some o ∧ o.data = .func fd ∧ T.base.CodeRec fd.code fd.qualname ∧ fd.body = .stmts body ∧ fd.params = ⟨[], as, none, [], kd, none, ds⟩ ∧ fd.defaults = .none ∧ fd.closure = [] ∧
    fd.globals = mainGlobals ∧ fd.builtins = builtinsNs ∧ fd.scope.kind = .function ∧ fd.scope.isCoroutine = false ∧ fd.scope.isGenerator = false ∧ as.map (·.arg) = fn.names.take fn.np ∧ mtSs G fd.scope (slots fn) fn.body body = true ∧
    (∀ x ∈ fn.names.take fn.nl, fd.scope.names.lookup x = some .local ∨ fd.scope.names.lookup x = some .cell)
  np : fn.np ≤ fn.nl
  nl : fn.nl ≤ fn.names.length
  nodup : (fn.names.take fn.nl).Nodup

theorem Le.forgetAll {Y : Addr → Prop} {W₀ W₁ W₂ : Wd} (l : Le noX W₀ W₁) (l' : Le Y W₁ W₂) (h : ∀ b, Y b → W₀.h.get? b = none) : Le noX W₀ W₂ :=
  Le.lose l l' fun b o e _ _ q => by rw [h b q] at e; cases e

theorem bindL_skip {k : Str → Option NameKind} {x : Str} : ∀ {binds : List (Str × Value)} {m : Str → Option Value}, (∀ p ∈ binds, p.1 ≠ x) → bindL k binds m x = m x
  | [], _, _ => rfl
  | (y, v) :: r, m, h => by
    rw [bindL, bindL_skip fun p hp => h p (by simp [hp])]
    have : x ≠ y := fun e => h (y, v) (by simp) e.symm
    split
    · simp [this]
    · rfl
theorem bindC_skip {k : Str → Option NameKind} {x : Str} : ∀ {binds : List (Str × Value)} {m : Str → Option Value}, (∀ p ∈ binds, p.1 ≠ x) → bindC k binds m x = m x
  | [], _, _ => rfl
  | (y, v) :: r, m, h => by
    rw [bindC, bindC_skip fun p hp => h p (by simp [hp])]
    have : x ≠ y := fun e => h (y, v) (by simp) e.symm
    split
    · rfl
    · simp [this]
theorem bindL_at {k : Str → Option NameKind} {x : Str} {v : Value} (hk : k x = some .local) : ∀ {names : List Str} {vals : List Value} {m : Str → Option Value} {i : Nat}, names.Nodup → names[i]? = some x → vals[i]? = some v → bindL k (names.zip vals) m x = some v
  | n :: ns, w :: vs, m, 0, hd, e1, e2 => by
    simp at e1 e2; subst e1 e2
    rw [List.zip_cons_cons, bindL, bindL_skip]
    · rw [if_pos hk]; simp
    · intro p hp e
      exact (List.nodup_cons.mp hd).1 (e ▸ (List.of_mem_zip hp).1)
  | n :: ns, w :: vs, m, i + 1, hd, e1, e2 => by
    rw [List.zip_cons_cons, bindL]
    exact bindL_at hk (List.nodup_cons.mp hd).2 (by simpa using e1) (by simpa using e2)
  | [], _, _, _, _, e1, _ => by simp at e1
  | _ :: _, [], _, _, _, _, e2 => by simp at e2
theorem bindC_at {k : Str → Option NameKind} {x : Str} {v : Value} (hk : k x ≠ some .local) : ∀ {names : List Str} {vals : List Value} {m : Str → Option Value} {i : Nat}, names.Nodup → names[i]? = some x → vals[i]? = some v → bindC k (names.zip vals) m x = some v
  | n :: ns, w :: vs, m, 0, hd, e1, e2 => by
    simp at e1 e2; subst e1 e2
    rw [List.zip_cons_cons, bindC, bindC_skip]
    · rw [if_neg hk]; simp
    · intro p hp e
      exact (List.nodup_cons.mp hd).1 (e ▸ (List.of_mem_zip hp).1)
  | n :: ns, w :: vs, m, i + 1, hd, e1, e2 => by
    rw [List.zip_cons_cons, bindC]
    exact bindC_at hk (List.nodup_cons.mp hd).2 (by simpa using e1) (by simpa using e2)
  | [], _, _, _, _, e1, _ => by simp at e1
  | _ :: _, [], _, _, _, _, e2 => by simp at e2

theorem pairwise_inj {l : List (Str × Addr)} (h : l.Pairwise fun x y => x.2 ≠ y.2) {x y : Str} {c : Addr} (h1 : l.lookup x = some c) (h2 : l.lookup y = some c) : x = y := by
  have m1 : (x, c) ∈ l := by
    obtain ⟨l1, l2, e, _⟩ := List.lookup_eq_some_iff.mp h1
    rw [e]; simp
  have m2 : (y, c) ∈ l := by
    obtain ⟨l1, l2, e, _⟩ := List.lookup_eq_some_iff.mp h2
    rw [e]; simp
  obtain ⟨i, hi, e1⟩ := List.getElem_of_mem m1
  obtain ⟨j, hj, e2⟩ := List.getElem_of_mem m2
  rw [List.pairwise_iff_getElem] at h
  rcases Nat.lt_trichotomy i j with q | q | q
  · exact absurd (by rw [e1, e2]) (h i j hi hj q)
  · subst q; rw [e1] at e2; cases e2; rfl
  · exact absurd (by rw [e1, e2]) (h j i hj hi q)

section
variable {T : Tp} {G : Gl}

theorem calls_step (hT : T.Ok) (hG : GlOk T G) {n : Nat} (hC : CallsOk T n (callF T.P n)) (hF : ∀ f fn, T.P.fns[f]? = some fn → fn.body ≠ [] → FnOk T G f fn) (hd : Bool) (f : Nat) (as : List AV) (vals : List Value) (A : Around) (W : Wd) (a : AOkC (n + 1) hd A) (S : St T A W)
    (I : Inv T W) (r : W.Vs T as vals) (hn : callF T.P (n + 1) hd f as W.σ ≠ .fail) :
    codeAny T.M A (.call (.ref (T.fa f)) ⟨vals, []⟩) (fun r s' => match r with | .ok (.ret v) => PostE T noX W (callF T.P (n + 1) hd f as W.σ) (VW T) v s' | .ok _ => False | .error e => PostX T noX W (callF T.P (n + 1) hd f as W.σ) e s') W.s := by
  rw [callF_q2] at hn ⊢
  cases hf : T.P.fns[f]? with
  | none => rw [hf] at hn; exact absurd rfl hn
  | some fn =>
    rw [hf] at hn
    simp only at hn ⊢
    by_cases hc : as.length = fn.np ∧ fn.body.isEmpty = false
    · rw [if_pos hc] at hn ⊢
      have hnp := hc.1
      have ok := hF f fn hf (fun q => by rw [q] at hc; exact absurd hc.2 (by simp))
      obtain ⟨o, fd, body, ps, kd, ds, h1, h2, h3, h4, h5, h6, h7, h8, h9, h10, h11, h12, h13, h14, h15⟩ := ok.obj
      have hlv : vals.length = ps.length := by
        have e1 := r.length
        have e2 : (ps.map (·.arg)).length = (fn.names.take fn.np).length := by rw [h13]
        simp only [List.length_map, List.length_take] at e2
        have := ok.np; have := ok.nl
        omega
      have hnd : (fn.names.take fn.np).Nodup := by
        have e : fn.names.take fn.np = (fn.names.take fn.nl).take fn.np := by rw [List.take_take, Nat.min_eq_left ok.np]
        rw [e]; exact ok.nodup.sublist (List.take_sublist _ _)
      have hbind := bind_simple (fd := fd) (vals := vals) h5 h6 (by rw [h13]; exact hnd) hlv
      rw [h13] at hbind
      refine codeAny_call_cells (binds := (fn.names.take fn.np).zip vals) (body := body) (by have := a.depth; omega) (I.base _ _ h1) h2 (hT.nolimit.keeps I.base) ?_ h4 hbind h7 (fun p hp => ?_) (fun s₁ x => ?_) h11 h12 h10
      · obtain ⟨c, o', vs', t, e1, e2, e3⟩ := h3
        exact ⟨c, o', vs', t, e1, I.base _ _ e2, e3⟩
      · have hm := (List.of_mem_zip hp).1
        have hm' : p.1 ∈ fn.names.take fn.nl := by
          have e : fn.names.take fn.np = (fn.names.take fn.nl).take fn.np := by rw [List.take_take, Nat.min_eq_left ok.np]
          rw [e] at hm; exact List.mem_of_mem_take hm
        rcases h15 p.1 hm' with q | q
        · exact .inl q
        · exact .inr ⟨q, cellsFrom_some _ _ _ (.inl q)⟩
      · obtain ⟨h', tk, es⟩ := x.toInCall.same
        have g := I.grow (s' := s₁) x.toInCall.keep (by rw [es]) (by rw [es])
        have hL : (callEnvC fd W.s.heap.objs.size (T.fa f)).locals = W.s.heap.objs.size := rfl
        have hnone : ∀ b, W.s.heap.objs.size ≤ b → W.s.heap.get? b = none := fun b hb' => by
          cases q : W.s.heap.get? b with
          | none => rfl
          | some o' => exact absurd (Heap.lt_size q) (Nat.not_lt.mpr hb')
        have hbase : ∀ b, W.s.heap.objs.size ≤ b → T.base.get? b = none := fun b hb' => by
          cases q : T.base.get? b with
          | none => rfl
          | some o' => have := I.base b o' q; rw [hnone b hb'] at this; cases this
        have habove : ∀ y c, (callEnvC fd W.s.heap.objs.size (T.fa f)).cells.lookup y = some c → W.s.heap.objs.size < c := fun y c e => by
          have m1 : (y, c) ∈ (callEnvC fd W.s.heap.objs.size (T.fa f)).cells := by
            obtain ⟨l1, l2, e', _⟩ := List.lookup_eq_some_iff.mp e
            rw [e']; simp
          exact x.above y c m1
        have hle : Le noX W { W with s := s₁ } := g.2
        have hfg : ∀ b, frX (callEnvC fd W.s.heap.objs.size (T.fa f)) b → W.h.get? b = none := fun b q => by
          rcases q with rfl | ⟨y, q⟩
          · exact hnone _ (Nat.le_refl _)
          · exact hnone _ (Nat.le_of_lt (habove y b q))
        obtain ⟨l0, el0, S0⟩ := S
        have hfr : (A.deeper (callEnvC fd W.s.heap.objs.size (T.fa f))).frames = some (callEnvC fd W.s.heap.objs.size (T.fa f) :: l0) := by
          show A.frames.map _ = _
          rw [el0]; rfl
        have hstk : Stk T { W with s := s₁ } (callEnvC fd W.s.heap.objs.size (T.fa f) :: l0) := fun env he => by
          rcases List.mem_cons.mp he with rfl | he
          · obtain ⟨o, es, ep, o1, o2, _⟩ := x.toInCall.ns
            exact ⟨by rw [show (callEnvC fd W.s.heap.objs.size (T.fa f)).scope.kind = _ from h10]; decide, _, o, rfl, own_new I (hnone _ (Nat.le_refl _)), hbase _ (Nat.le_refl _), o1, es, ep, o2⟩
          · exact S0.leX hle (fun _ _ _ _ => id) env he
        have F : Fs T (A.deeper (callEnvC fd W.s.heap.objs.size (T.fa f))) { W with s := s₁ } (callEnvC fd W.s.heap.objs.size (T.fa f)) (slots fn) (as.map some ++ List.replicate (fn.names.length - fn.np) none) := {
          frame := rfl
          top := ⟨l0, hfr, fun e he L hL q => by
            obtain ⟨_, L', o, e1, _, _, e2, _⟩ := S0 e he
            rw [hL] at e1; cases e1
            rw [hfg L q] at e2; cases e2⟩
          fm := ⟨⟨_, hfr, hstk⟩, h10, h8, h9, fun y q => by
              have := cellsFrom_some (x := y) fd.scope.names (W.s.heap.objs.size + 1) [] (.inl q)
              obtain ⟨c, e⟩ := Option.isSome_iff_exists.mp this
              exact ⟨c, e⟩, fun i y hy av e => by
              have hy' := mem_slots.mp hy
              have hi : i < as.length := by
                rcases Nat.lt_or_ge i as.length with q | q
                · exact q
                · rw [List.getElem?_append_right (by simpa using q)] at e
                  have := List.mem_of_getElem? e
                  simp at this
              rw [List.getElem?_append_left (by simpa using hi), List.getElem?_map] at e
              obtain ⟨av', e1, e2⟩ := Option.map_eq_some_iff.mp e
              cases e2
              obtain ⟨v, ev, rv⟩ := r.get e1
              have hyn : (fn.names.take fn.np)[i]? = some y := by
                rw [List.getElem?_take] at hy' ⊢
                split at hy'
                · rw [if_pos (by omega)]; exact hy'
                · cases hy'
              refine ⟨v, rv.le hle, ?_⟩
              rcases h15 y (List.mem_of_getElem? hy') with q | q
              · exact .inl ⟨q, own_new I (hnone _ (Nat.le_refl _)), _, x.toInCall.ns, bindL_at q hnd hyn ev⟩
              · have := cellsFrom_some (x := y) fd.scope.names (W.s.heap.objs.size + 1) [] (.inl q)
                obtain ⟨c, ec⟩ := Option.isSome_iff_exists.mp this
                have hc := x.cell y c ec
                rw [bindC_at (by show fd.scope.names.lookup y ≠ _; rw [q]; simp) hnd hyn ev] at hc
                exact .inr ⟨q, c, ec, own_new I (hnone _ (Nat.le_of_lt (habove y c ec))), hc⟩⟩
          ns := ⟨_, x.toInCall.ns⟩
          ownL := own_new I (hnone _ (Nat.le_refl _))
          baseL := hbase _ (Nat.le_refl _)
          kinds := fun i y hy => h15 y (List.mem_of_getElem? (mem_slots.mp hy))
          cell := fun y c e => ⟨own_new I (hnone _ (Nat.le_of_lt (habove y c e))), hbase _ (Nat.le_of_lt (habove y c e)), Nat.ne_of_gt (habove y c e), _, x.cell y c e⟩
          cinj := fun y z c e1 e2 => pairwise_inj x.apart e1 e2
          inj := fun i j y hi hj => by
            have h1 := mem_slots.mp hi; have h2 := mem_slots.mp hj
            exact (List.getElem?_inj (List.getElem?_eq_some_iff.mp h1).1 ok.nodup).mp (h1.trans h2.symm)
          inj2 := fun i y z hi hj => by
            have h1 := mem_slots.mp hi; have h2 := mem_slots.mp hj
            rw [h1] at h2; cases h2; rfl
          len := fun i y hi => by
            have h1 := (List.getElem?_eq_some_iff.mp (mem_slots.mp hi)).1
            simp only [List.length_take] at h1
            simp only [List.length_append, List.length_map, List.length_replicate]
            have := ok.np; have := ok.nl
            omega }
        have a' : AOk n hd (A.deeper (callEnvC fd W.s.heap.objs.size (T.fa f))) := ⟨by have := a.depth; show A.depth + 1 + _ + 1 < _; omega, by have := a.units; show A.units + 3 + _ + _ < _; omega, a.handled⟩
        have n1 : exs ⟨T.P, hd, callF T.P n⟩ fn.body W.σ (as.map some ++ List.replicate (fn.names.length - fn.np) none) ≠ .fail := fun q => by rw [q] at hn; exact hn rfl
        have hd' := does_exs (C := ⟨T.P, hd, callF T.P n⟩) fn.body (fun m _ => sound_s hT hG rfl hC m) body (slots fn) _ { W with s := s₁ } _ _ h14 a' F g.1 n1
        refine wpAny_mono hd' (fun fl _ ⟨W', e, I', l', d⟩ => ?_) fun ee _ ⟨c, W', ea, vs', e, e1, I', l', F', e2, fl⟩ => ?_
        · subst e
          have lf := Le.forgetAll hle l' hfg
          rcases d with ⟨vs', e1, rfl, _⟩ | ⟨av, v, e1, rfl, rv, _⟩
          · have e1' : exs ⟨T.P, hd, callF T.P n⟩ fn.body W.σ (as.map some ++ List.replicate (fn.names.length - fn.np) none) = .next W'.σ vs' := e1
            exact ⟨.none, W', rfl, by simp only [e1'], I', lf, .none⟩
          · have e1' : exs ⟨T.P, hd, callF T.P n⟩ fn.body W.σ (as.map some ++ List.replicate (fn.names.length - fn.np) none) = .ret av W'.σ := e1
            exact ⟨av, W', rfl, by simp only [e1'], I', lf, rv⟩
        · subst e e2
          obtain ⟨l1, q1, q2⟩ := F'.fm.stk
          rw [hfr] at q1; cases q1
          refine does_leaving I' hfr q2 fl fun W2 es2 I2 l2 f2 => ?_
          have e1' : exs ⟨T.P, hd, callF T.P n⟩ fn.body W.σ (as.map some ++ List.replicate (fn.names.length - fn.np) none) = .exc c W'.σ vs' := e1
          exact ⟨c, W2, ea, rfl, by simp only [e1']; rw [es2], I2, (Le.forgetAll hle l' hfg).trans l2, rfl, f2⟩
    · rw [if_neg hc] at hn; exact absurd rfl hn

theorem calls_ok (hT : T.Ok) (hG : GlOk T G) (hF : ∀ f fn, T.P.fns[f]? = some fn → fn.body ≠ [] → FnOk T G f fn) : ∀ n, CallsOk T n (callF T.P n)
  | 0 => ⟨fun hd f as vals A W _ _ _ _ hn => absurd rfl hn⟩
  | n + 1 => ⟨fun hd f as vals A W a S I r hn => calls_step hT hG (calls_ok hT hG hF n) hF hd f as vals A W a S I r hn⟩
end
end Mine

/-! Soundness, part 18: the head's written part answers for the text's defs (typed by hand). -/
set_option Elab.async false
namespace Mine
open PySem PySem.SeqAt PySem.Spec PySem.W PySem.Calls PyProof.Rows

/-- a name of the text: a def or a class, or nobody's -/
noncomputable def gvOf (K : Frag) (x : Str) : Option (Option Value) := match nsIn K mainGlobals x with
  | some (some (.ref a)) => if keepIn K (.ref a) then some (some (.ref a)) else none
  | some (some _) => none
  | some none => some none
  | none => none
noncomputable def asRef : Option (Option Value) → Addr
  | some (some (.ref a)) => a
  | _ => 0
noncomputable def caOf (K : Frag) (P : Pr) (c : Nat) : Addr := match P.cls[c]? with
  | some cl => asRef (nsIn K mainGlobals cl.name)
  | none => 0
/-- the class whose method it is -/
noncomputable def ownerOf (f : Nat) : Nat → List Cl → Option Nat
  | _, [] => none
  | c, cl :: r => if cl.init == some f || cl.meths.any (fun p => p.2 == f) then some c else ownerOf f (c + 1) r
noncomputable def faOf (K : Frag) (P : Pr) (f : Nat) : Addr := match P.fns[f]? with
  | some fn => (match ownerOf f 0 P.cls with
    | some c => asRef (findIn K (.ref (caOf K P c)) fn.name)
    | none => asRef (nsIn K mainGlobals fn.name))
  | none => 0
noncomputable abbrev glOf (K : Frag) (P : Pr) : Gl := ⟨gvOf K, faOf K P, caOf K P, P.attrs, P.methNames⟩
/-- all that is asked of the head's written part -/
noncomputable def allB (K : Frag) (P : Pr) : Bool := clsB K P (caOf K P) (faOf K P) 0 P.cls && (P.cls.isEmpty || gsB K) && nodupA P.attrs && (K.lookup cStatics).isSome

noncomputable def plainPs (names : List Str) (p : Arguments) : Bool := p.posonlyargs.isEmpty && p.vararg.isNone && p.kwonlyargs.isEmpty && p.kwarg.isNone && p.args.map (·.arg) == names
noncomputable def isNoneV : Value → Bool
  | .none => true
  | _ => false
noncomputable def bodyOk (G : Gl) (sc : Scope) (fn : Fn) : FuncBody → Bool
  | .stmts body => mtSs G sc (slots fn) fn.body body
  | _ => false
noncomputable def nodupS : List Str → Bool
  | [] => true
  | x :: r => !r.contains x && nodupS r
theorem nodupS_of : ∀ {l : List Str}, nodupS l = true → l.Nodup
  | [], _ => .nil
  | x :: r, h => by
    simp only [nodupS, Bool.and_eq_true, Bool.not_eq_true'] at h
    refine List.nodup_cons.mpr ⟨fun q => ?_, nodupS_of h.2⟩
    have h1 := h.1
    rw [List.contains_iff_mem.mpr q] at h1
    exact Bool.noConfusion h1
noncomputable def isFunK : ScopeKind → Bool
  | .function => true
  | _ => false
noncomputable def isLC : Option NameKind → Bool
  | some .local => true
  | some .cell => true
  | _ => false
noncomputable def fdOk (K : Frag) (P : Pr) (fn : Fn) (fd : FuncData) : Bool :=
  codeIn K fd.code fd.qualname && bodyOk (glOf K P) fd.scope fn fd.body && plainPs (fn.names.take fn.np) fd.params && isNoneV fd.defaults && fd.closure.isEmpty && (fd.globals == mainGlobals) && (fd.builtins == builtinsNs) &&
    isFunK fd.scope.kind && !fd.scope.isCoroutine && !fd.scope.isGenerator && (fn.names.take fn.nl).all (fun x => isLC (fd.scope.names.lookup x)) && decide (fn.np ≤ fn.nl) && decide (fn.nl ≤ fn.names.length) && nodupS (fn.names.take fn.nl)
noncomputable def fnOk (K : Frag) (P : Pr) (f : Nat) (fn : Fn) : Bool := match K.lookup (faOf K P f) with
  | some ⟨_, _, .func fd, _⟩ => fdOk K P fn fd
  | _ => false
noncomputable def fnsOk (K : Frag) (P : Pr) : Nat → List Fn → Bool
  | _, [] => true
  | i, fn :: r => (fn.body.isEmpty || fnOk K P i fn) && fnsOk K P (i + 1) r

theorem fnsOk_get {K : Frag} {P : Pr} : ∀ {l : List Fn} {i : Nat}, fnsOk K P i l = true → ∀ j fn, l[j]? = some fn → fn.body ≠ [] → fnOk K P (i + j) fn = true
  | fn :: r, i, h, 0, f, e, hb => by
    cases e
    simp only [fnsOk, Bool.and_eq_true, Bool.or_eq_true, List.isEmpty_iff] at h
    rcases h.1 with q | q
    · exact absurd q hb
    · exact q
  | fn :: r, i, h, j + 1, f, e, hb => by
    simp only [fnsOk, Bool.and_eq_true] at h
    have := fnsOk_get h.2 j f (by simpa using e) hb
    rw [show i + (j + 1) = i + 1 + j by omega]; exact this

theorem fn_of {T : Tp} {K : Frag} (X : K.In T.base) (hfa : T.fa = faOf K T.P) {f : Nat} {fn : Fn} (h : fnOk K T.P f fn = true) : FnOk T (glOf K T.P) f fn := by
  unfold fnOk at h
  split at h
  · rename_i c d fd sl ho
    simp only [fdOk, Bool.and_eq_true, decide_eq_true_eq, Bool.not_eq_true', beq_iff_eq, List.isEmpty_iff, List.all_eq_true] at h
    obtain ⟨⟨⟨⟨⟨⟨⟨⟨⟨⟨⟨⟨⟨h1, h2⟩, h3⟩, h4⟩, h5⟩, h6⟩, h7⟩, h8⟩, h9⟩, h10⟩, h11⟩, h12⟩, h13⟩, h14⟩ := h
    refine ⟨?_, h12, h13, nodupS_of h14⟩
    have hb : ∃ body, fd.body = .stmts body ∧ mtSs (glOf K T.P) fd.scope (slots fn) fn.body body = true := by
      cases q : fd.body with
      | stmts body => rw [q] at h2; exact ⟨body, rfl, h2⟩
      | _ => rw [q] at h2; cases h2
    obtain ⟨body, hb1, hb2⟩ := hb
    have hp : ∃ as kd ds, fd.params = ⟨[], as, none, [], kd, none, ds⟩ ∧ as.map (·.arg) = fn.names.take fn.np := by
      cases q : fd.params with
      | mk po as va ko kd kw ds =>
        rw [q] at h3
        simp only [plainPs, Bool.and_eq_true, List.isEmpty_iff, Option.isNone_iff_eq_none, beq_iff_eq] at h3
        obtain ⟨⟨⟨⟨rfl, rfl⟩, rfl⟩, rfl⟩, e⟩ := h3
        exact ⟨as, kd, ds, rfl, e⟩
    obtain ⟨as, kd, ds, hp1, hp2⟩ := hp
    have hdn : fd.defaults = .none := by
      cases q : fd.defaults <;> rw [q] at h4 <;> first | rfl | cases h4
    have hk : fd.scope.kind = .function := by
      cases q : fd.scope.kind <;> rw [q] at h8 <;> first | rfl | cases h8
    refine ⟨⟨c, d, .func fd, sl⟩, fd, body, as, kd, ds, ?_, rfl, codeRec_of X h1, hb1, hp1, hdn, h5, h6, h7, hk, h9, h10, hp2, hb2, fun x hx => ?_⟩
    · rw [hfa]; exact X _ _ ho
    · have := h11 x hx
      cases q : fd.scope.names.lookup x with
      | none => rw [q] at this; cases this
      | some k => rw [q] at this; cases k <;> first | exact .inl rfl | exact .inr rfl | cases this
  · cases h

theorem gl_of {T : Tp} {K : Frag} (X : K.In T.base) (hT : T.Ok) (hfa : T.fa = faOf K T.P) (hca : T.ca = caOf K T.P) : GlOk T (glOf K T.P) where
  sm := fun x v e => by
    simp only [gvOf] at e
    split at e
    · rename_i a q
      split at e
      · cases e; exact mg_of X hT.g q
      · cases e
    · cases e
    · cases e
    · cases e
  nn := fun x e => by
    simp only [gvOf] at e
    split at e
    · split at e <;> cases e
    · cases e
    · rename_i q; exact ns_none_of X hT.g q
    · cases e
  fa := hfa.symm
  ca := hca.symm
  attrs := rfl
  meths := rfl
  callee := fun x f e => by
    simp only [gvOf] at e
    split at e
    · rename_i a q
      split at e
      · rename_i hi
        injection e with e; injection e with e; injection e with e
        rw [hfa, ← e]
        intro h k
        obtain ⟨kp, hk, l⟩ := looks_keep (M := T.M) hi (X.keeps k)
        exact ⟨kp, hk.imp id .inl, l⟩
      · cases e
    · cases e
    · cases e
    · cases e

/-- the whole law's call -/
theorem law_call {prog : Program} {w : World} {P : Pr} {s₁ : Shared} {mg mb : Str → Option Value} {K : Frag} {loose : List Str} {pv : Program} {fa l : Addr} {lw n : Nat} {x : Str} {ns : List Int} {vs : List Value} {Q : Value → Shared → Prop} {E : Value → Shared → Prop}
    (X : K.In s₁.heap) (TR : TopRead pv loose mg mb s₁.heap) (hf : fnsOk K P 0 P.fns = true) (hB : allB K P = true) (hx : mg x = some (.ref fa)) (hl : nsIn K mainGlobals x = some (some (.ref (faOf K P lw))))
    (hL : s₁.heap.IsList l vs.toArray) (hI : IntsAre vs ns) (hn : ns.length ≤ lim) (hA : n ≤ 20) (hc : ∃ hp, callF P n false lw [.scr ns] [] = .ok (.bool true) hp)
    (hR : ∀ s', (∀ b o, s₁.heap.get? b = some o → s'.heap.get? b = some o) → s'.os = s₁.os → s'.gens = s₁.gens → Q (.bool true) s') :
    wpAny (model prog w) callerA (PySem.call (.ref fa) [.ref l]) Q E s₁ := by
  obtain ⟨hp, hc⟩ := hc
  simp only [allB, Bool.and_eq_true, Bool.or_eq_true, List.isEmpty_iff] at hB
  obtain ⟨⟨⟨b1, b2⟩, b3⟩, b4⟩ := hB
  let T : Tp := { prog, w, P, base := s₁.heap, mg, mb, fa := faOf K P, ca := caOf K P, K := K }
  have hT : T.Ok := ⟨TR.g, TR.b, TR.nolimit, TR.builtins, X, b1, b2, b3⟩
  have hG := gl_of (T := T) X hT rfl rfl
  obtain ⟨oS, hoS⟩ := Option.isSome_iff_exists.mp b4
  have hfa : fa = faOf K P lw := by
    have := mg_of X TR.g hl
    rw [hx] at this
    injection this with this; injection this
  let W : Wd := { own := fun _ => .free, bt := [], σ := [], s := s₁ }
  have I : Inv T W := ⟨rfl, fun l a e => by simp [W] at e, fun a e => absurd rfl e, fun l o a e => by simp [W] at e, fun _ _ e => e, ⟨oS, X _ _ hoS⟩, fun l a e => by simp [W] at e⟩
  have C := calls_ok hT hG (fun f fn e hb => fn_of (T := T) X rfl (by simpa using fnsOk_get hf f fn e hb)) n
  obtain ⟨ob, ho, hcl, n', hda⟩ := hL
  have rv : W.Vs T [.scr ns] [.ref l] := .cons (.scr ho hcl hda hn (fun i x e => by
      obtain ⟨t, e'⟩ := hI.get i x e
      exact ⟨t, by simpa using e'⟩) (by simpa using hI.length)) .nil
  have a : AOkC n false callerA := by
    have e1 : callerA.depth = 301 := by decide
    have e2 : callerA.units = 4 := rfl
    have e3 : recursionLimit = 1000 := rfl
    exact ⟨by omega, by have : 1000 ≤ cLine := by decide
                        omega, fun _ => rfl⟩
  have D := C.does false lw [.scr ns] [.ref l] callerA W a ⟨[], rfl, fun _ h => nomatch h⟩ I rv (by show callF P n false lw [.scr ns] [] ≠ _; rw [hc]; simp)
  rw [hfa]
  refine wpAny_mono D ?_ fun e s' q => ?_
  case refine_2 =>
    obtain ⟨c, W', _, _, q, _⟩ := q
    have q' : callF P n false lw [.scr ns] [] = .exc c W'.σ := q
    rw [hc] at q'; cases q'
  rintro v s' ⟨av, W', rfl, q, I', l', r⟩
  have q' : callF P n false lw [.scr ns] [] = .ok av W'.σ := q
  rw [hc] at q'
  cases q'
  cases r
  exact hR W'.s I'.base l'.os l'.gens
end Mine

set_option Elab.async false
namespace Mine
/-- is_number -/
noncomputable def fn_is_number : Fn := { name := "is_number", np := 1, nl := 1, names := ["thing"], body := [.ret (.and [.inst (.var 0) .int, .not (.inst (.var 0) .bool)])] }


/-- _law_whole -/
noncomputable def fn_l_whole : Fn := { name := "_law_whole", np := 1, nl := 1, names := ["_law_got"], body := [.ret (.and [.inst (.var 0) .int, .not (.inst (.var 0) .bool)])] }

/-- _law_sign_by -/
noncomputable def fn_l_sign_by : Fn := { name := "_law_sign_by", np := 1, nl := 2, names := ["_law_cell", "_law_some"], body := [.set 1 (.str [32, 33, 34, 35, 36, 38, 39, 40, 41, 42, 43, 44, 45, 46, 47, 48, 49, 50, 51, 52, 53, 54, 55, 56, 57, 58, 59, 60, 61, 62, 63, 64, 65, 66, 67, 68, 69, 70, 71, 72, 73, 74, 75, 76, 77, 78, 79, 80, 81, 82, 83, 84, 85, 86, 87, 88, 89, 90, 91, 92, 93, 94, 95, 96]),
  .set 1 (.bin .add (.var 1) (.str [97, 98, 99, 100, 101, 102, 103, 104, 105, 106, 107, 108, 109, 110, 111, 112, 113, 114, 115, 116, 117, 118, 119, 120, 121, 122, 123, 124, 125, 126, 10])),
  .ret (.idx (.var 1) (.bin .mod (.var 0) (.int 95)))] }

/-- _law_text_by -/
noncomputable def fn_l_text_by : Fn := { name := "_law_text_by", np := 2, nl := 7, names := ["_law_cell", "_law_size", "_law_signs", "_law_block", "_law_got", "_law_number", "_law_k"], body := [.set 2 (.idx (.list [.int 2, .int 95, .int 95, .int 1]) (.bin .mod (.var 0) (.int 4))),
  .set 3 (.var 1),
  .ifs (.cmp (.bin .mod (.var 0) (.int 4)) .eq (.int 2)) [.set 3 (.bi .min [.var 1, .bin .add (.int 1) (.bin .mod (.bin .div (.var 0) (.int 4)) (.int 50))])] [],
  .ifs (.cmp (.var 3) .eq (.int 0)) [.ret (.str [])] [],
  .set 4 (.str []),
  .set 5 (.var 0),
  .loop 6 (.bi .range [.var 3]) [.set 5 (.bin .mod (.bin .add (.bin .mul (.var 5) (.int 48271)) (.int 11)) (.int 2147483647)),
  .set 4 (.bin .add (.var 4) (.call 10 [.bin .add (.int 65) (.bin .mod (.bin .div (.var 5) (.int 7)) (.var 2))]))],
  .ret (.slice (.bin .mul (.var 4) (.bin .add (.bin .div (.var 1) (.var 3)) (.int 1))) .none (.var 1))] }

/-- _law_alike -/
noncomputable def fn_l_alike : Fn := { name := "_law_alike", np := 2, nl := 3, names := ["_law_got", "_law_due", "_law_k"], body := [.ifs (.isNone (.var 1)) [.ret (.isNone (.var 0))] [],
  .ifs (.isTrue (.var 1)) [.ret (.isTrue (.var 0))] [],
  .ifs (.inst (.var 1) .str) [.ret (.and [.inst (.var 0) .str, .cmp (.var 0) .eq (.var 1)])] [],
  .ifs (.inst (.var 1) .int) [.ret (.and [.call 9 [.var 0], .cmp (.var 0) .eq (.var 1)])] [],
  .ifs (.and [.inst (.var 1) .tup, .not (.inst (.var 0) .tup)]) [.ret (.bool false)] [],
  .ifs (.and [.inst (.var 1) .list, .not (.inst (.var 0) .list)]) [.ret (.bool false)] [],
  .ifs (.cmp (.bi .len [.var 0]) .ne (.bi .len [.var 1])) [.ret (.bool false)] [],
  .loop 2 (.bi .range [.bi .len [.var 1]]) [.ifs (.not (.call 12 [.idx (.var 0) (.var 2), .idx (.var 1) (.var 2)])) [.ret (.bool false)] []],
  .ret (.bool true)] }

/-- _law_word_of -/
noncomputable def fn_l_word_of : Fn := { name := "_law_word_of", np := 1, nl := 2, names := ["_law_e", "_law_words"], body := [.set 1 (.list []),
  .ifs (.inst (.var 0) (.cls 1)) [.expr (.bm .append (.var 1) [.str [110, 111, 32, 115, 105, 122, 101]])] [],
  .ifs (.inst (.var 0) (.cls 2)) [.expr (.bm .append (.var 1) [.str [110, 111, 32, 110, 97, 109, 101]])] [],
  .ifs (.inst (.var 0) (.cls 3)) [.expr (.bm .append (.var 1) [.str [110, 111, 116, 32, 116, 104, 101, 114, 101]])] [],
  .ifs (.inst (.var 0) (.cls 4)) [.expr (.bm .append (.var 1) [.str [110, 111, 32, 112, 108, 97, 99, 101]])] [],
  .ifs (.inst (.var 0) (.cls 5)) [.expr (.bm .append (.var 1) [.str [110, 111, 32, 116, 101, 120, 116]])] [],
  .ifs (.inst (.var 0) (.cls 6)) [.expr (.bm .append (.var 1) [.str [116, 111, 111, 32, 108, 111, 110, 103]])] [],
  .ifs (.inst (.var 0) (.cls 7)) [.expr (.bm .append (.var 1) [.str [116, 111, 111, 32, 109, 97, 110, 121]])] [],
  .ifs (.inst (.var 0) (.cls 8)) [.expr (.bm .append (.var 1) [.str [110, 111, 32, 110, 111, 116, 101]])] [],
  .ret (.tup [.bm .join (.str []) [.var 1], .inst (.var 0) .value])] }

/-- _law_answer -/
noncomputable def fn_l_answer : Fn := { name := "_law_answer", np := 3, nl := 4, names := ["_law_stock", "_law_way", "_law_number", "_law_e"], body := [.try_ [.ifs (.cmp (.var 1) .eq (.int 0)) [.ret (.tup [.str [116, 111, 108, 100], .meth (.var 0) 2 [.var 2]])] [],
  .ret (.tup [.str [116, 111, 108, 100], .meth (.var 0) 4 [.var 2]])] 0 3 [.ret (.call 13 [.var 3])]] }

/-- _law_counted -/
noncomputable def fn_l_counted : Fn := { name := "_law_counted", np := 3, nl := 3, names := ["_law_stock", "_law_plain", "_law_number"], body := [.ret (.call 12 [.meth (.var 0) 3 [.var 2], .bm .get (.idx (.var 1) (.str [99, 111, 117, 110, 116, 115])) [.var 2, .int 0]])] }

/-- _law_look -/
noncomputable def fn_l_look : Fn := { name := "_law_look", np := 4, nl := 6, names := ["_law_stock", "_law_plain", "_law_number", "_law_kept", "_law_listed", "_law_due"], body := [.set 4 (.meth (.var 0) 5 []),
  .expr (.bm .append (.var 3) [.tup [.var 4, .bi .list [.var 4]]]),
  .set 5 (.tup [.str [110, 111, 116, 32, 116, 104, 101, 114, 101], .bool true]),
  .ifs (.cmp (.var 2) .isin (.idx (.var 1) (.str [116, 101, 120, 116, 115]))) [.set 5 (.tup [.str [116, 111, 108, 100], .idx (.idx (.var 1) (.str [116, 101, 120, 116, 115])) (.var 2)])] [],
  .ifs (.or [.not (.call 12 [.var 4, .bi .sorted [.idx (.var 1) (.str [116, 101, 120, 116, 115])]]), .not (.call 12 [.call 14 [.var 0, .int 1, .var 2], .var 5])]) [.ret (.bool false)] [],
  .ret (.call 15 [.var 0, .var 1, .var 2])] }

/-- _law_needed -/
noncomputable def fn_l_needed : Fn := { name := "_law_needed", np := 3, nl := 4, names := ["_law_stock", "_law_plain", "_law_text", "_law_held", "_law_number"], body := [.set 3 (.comp (.var 4) 4 (.idx (.var 1) (.str [116, 101, 120, 116, 115])) [.cmp (.idx (.idx (.var 1) (.str [116, 101, 120, 116, 115])) (.var 4)) .eq (.var 2)]),
  .ifs (.cmp (.var 3) .eq (.list [])) [.setItem (.var 1) (.str [108, 97, 115, 116]) (.bin .add (.idx (.var 1) (.str [108, 97, 115, 116])) (.int 1)),
  .set 3 (.list [.idx (.var 1) (.str [108, 97, 115, 116])]),
  .setItem (.idx (.var 1) (.str [116, 101, 120, 116, 115])) (.idx (.var 3) (.int 0)) (.var 2)] [],
  .setItem (.idx (.var 1) (.str [99, 111, 117, 110, 116, 115])) (.idx (.var 3) (.int 0)) (.bin .add (.bm .get (.idx (.var 1) (.str [99, 111, 117, 110, 116, 115])) [.idx (.var 3) (.int 0), .int 0]) (.int 1)),
  .ret (.call 12 [.meth (.var 0) 0 [.var 2], .idx (.var 3) (.int 0)])] }

/-- _law_freed -/
noncomputable def fn_l_freed : Fn := { name := "_law_freed", np := 3, nl := 4, names := ["_law_stock", "_law_plain", "_law_number", "_law_got"], body := [.set 3 (.call 14 [.var 0, .int 0, .var 2]),
  .ifs (.cmp (.var 2) .notin (.idx (.var 1) (.str [116, 101, 120, 116, 115]))) [.ret (.call 12 [.var 3, .tup [.str [110, 111, 116, 32, 116, 104, 101, 114, 101], .bool true]])] [],
  .setItem (.idx (.var 1) (.str [99, 111, 117, 110, 116, 115])) (.var 2) (.bin .sub (.idx (.idx (.var 1) (.str [99, 111, 117, 110, 116, 115])) (.var 2)) (.int 1)),
  .ifs (.cmp (.idx (.idx (.var 1) (.str [99, 111, 117, 110, 116, 115])) (.var 2)) .eq (.int 0)) [.expr (.bm .pop (.idx (.var 1) (.str [99, 111, 117, 110, 116, 115])) [.var 2]),
  .expr (.bm .pop (.idx (.var 1) (.str [116, 101, 120, 116, 115])) [.var 2])] [],
  .ret (.call 12 [.var 3, .tup [.str [116, 111, 108, 100], .none]])] }

/-- law -/
noncomputable def fn_law : Fn := { name := "law", np := 1, nl := 11, names := ["_law_script", "_law_stocks", "_law_plains", "_law_kept", "_law_known", "_law_cell", "_law_at", "_law_number", "_law_text", "_law_thing", "_law_way", "_law_pair"], body := [.set 1 (.list [.new 9 [], .new 9 []]),
  .set 2 (.list [.dict [.str [108, 97, 115, 116], .int 0, .str [116, 101, 120, 116, 115], .dict [], .str [99, 111, 117, 110, 116, 115], .dict []], .dict [.str [108, 97, 115, 116], .int 0, .str [116, 101, 120, 116, 115], .dict [], .str [99, 111, 117, 110, 116, 115], .dict []]]),
  .set 3 (.list []),
  .set 4 (.list [.str [97]]),
  .loop 5 (.slice (.var 0) .none (.idx (.list [.int 30, .int 60]) (.bi .int [.cmp (.bi .len [.var 0]) .gt (.int 63)]))) [.set 6 (.bi .int [.cmp (.bin .mod (.bin .mod (.bin .mul (.var 5) (.int 16807)) (.int 2147483587)) (.int 4)) .eq (.int 3)]),
  .set 7 (.bin .mod (.bin .div (.var 5) (.int 7)) (.bin .add (.idx (.idx (.var 2) (.var 6)) (.str [108, 97, 115, 116])) (.int 2))),
  .ifs (.cmp (.bin .mod (.var 5) (.int 7)) .lt (.int 3)) [.expr (.bm .append (.var 4) [.call 11 [.bin .div (.var 5) (.int 7), .bin .add (.int 1) (.bin .mod (.bin .div (.var 5) (.int 28)) (.int 40))]])] [],
  .ifs (.and [.cmp (.bin .mod (.bin .div (.var 5) (.int 49)) (.int 2)) .eq (.int 1), .not (.call 15 [.idx (.var 1) (.var 6), .idx (.var 2) (.var 6), .var 7])]) [.ret (.bool false)] [],
  .ifs (.cmp (.bin .mod (.var 5) (.int 7)) .lt (.int 5)) [.set 8 (.idx (.var 4) (.idx (.list [.bin .sub (.bi .len [.var 4]) (.int 1), .bin .mod (.bin .div (.var 5) (.int 14)) (.bi .len [.var 4])]) (.bi .int [.cmp (.bin .mod (.var 5) (.int 7)) .gt (.int 2)]))),
  .ifs (.not (.call 17 [.idx (.var 1) (.var 6), .idx (.var 2) (.var 6), .var 8])) [.ret (.bool false)] []] [.ifs (.not (.call 18 [.idx (.var 1) (.var 6), .idx (.var 2) (.var 6), .var 7])) [.ret (.bool false)] []],
  .ifs (.and [.cmp (.bin .mod (.bin .div (.var 5) (.int 98)) (.int 2)) .eq (.int 1), .not (.call 15 [.idx (.var 1) (.var 6), .idx (.var 2) (.var 6), .var 7])]) [.ret (.bool false)] [],
  .ifs (.not (.call 16 [.idx (.var 1) (.var 6), .idx (.var 2) (.var 6), .var 7, .var 3])) [.ret (.bool false)] []],
  .loop 9 (.list [.bool true, .none, .str [49]]) [.loop 10 (.bi .range [.int 2]) [.ifs (.not (.call 12 [.call 14 [.idx (.var 1) (.int 0), .var 10, .var 9], .tup [.str [110, 111, 116, 32, 116, 104, 101, 114, 101], .bool true]])) [.ret (.bool false)] []],
  .ifs (.not (.call 12 [.meth (.idx (.var 1) (.int 0)) 3 [.var 9], .int 0])) [.ret (.bool false)] []],
  .ret (.cmp (.comp (.var 11) 11 (.var 3) [.cmp (.idx (.var 11) (.int 0)) .ne (.idx (.var 11) (.int 1))]) .eq (.list []))] }

/-- Stock.__init__ -/
noncomputable def fn_Stock_init : Fn := { name := "__init__", np := 1, nl := 1, names := ["self"], body := [.setAttr (.var 0) 0 (.dict []),
  .setAttr (.var 0) 1 (.dict []),
  .setAttr (.var 0) 2 (.dict []),
  .setAttr (.var 0) 3 (.int 0)] }

/-- Stock.need -/
noncomputable def fn_Stock_need : Fn := { name := "need", np := 2, nl := 3, names := ["self", "text", "number"], body := [.ifs (.cmp (.var 1) .notin (.attr (.var 0) 2)) [.setAttr (.var 0) 3 (.bin .add (.attr (.var 0) 3) (.int 1)),
  .setItem (.attr (.var 0) 2) (.var 1) (.attr (.var 0) 3),
  .setItem (.attr (.var 0) 0) (.attr (.var 0) 3) (.var 1),
  .setItem (.attr (.var 0) 1) (.attr (.var 0) 3) (.int 0)] [],
  .set 2 (.idx (.attr (.var 0) 2) (.var 1)),
  .setItem (.attr (.var 0) 1) (.var 2) (.bin .add (.idx (.attr (.var 0) 1) (.var 2)) (.int 1)),
  .ret (.var 2)] }

/-- Stock.has -/
noncomputable def fn_Stock_has : Fn := { name := "has", np := 2, nl := 2, names := ["self", "number"], body := [.ret (.and [.call 7 [.var 1], .cmp (.var 1) .isin (.attr (.var 0) 0)])] }

/-- Stock.free -/
noncomputable def fn_Stock_free : Fn := { name := "free", np := 2, nl := 2, names := ["self", "number"], body := [.ifs (.not (.meth (.var 0) 1 [.var 1])) [.raise 3 [110, 111, 32, 115, 117, 99, 104, 32, 112, 105, 101, 99, 101]] [],
  .setItem (.attr (.var 0) 1) (.var 1) (.bin .sub (.idx (.attr (.var 0) 1) (.var 1)) (.int 1)),
  .ifs (.cmp (.idx (.attr (.var 0) 1) (.var 1)) .eq (.int 0)) [.expr (.bm .pop (.attr (.var 0) 2) [.idx (.attr (.var 0) 0) (.var 1)]),
  .expr (.bm .pop (.attr (.var 0) 0) [.var 1]),
  .expr (.bm .pop (.attr (.var 0) 1) [.var 1])] []] }

/-- Stock.count -/
noncomputable def fn_Stock_count : Fn := { name := "count", np := 2, nl := 2, names := ["self", "number"], body := [.ifs (.not (.meth (.var 0) 1 [.var 1])) [.ret (.int 0)] [],
  .ret (.idx (.attr (.var 0) 1) (.var 1))] }

/-- Stock.piece -/
noncomputable def fn_Stock_piece : Fn := { name := "piece", np := 2, nl := 2, names := ["self", "number"], body := [.ifs (.not (.meth (.var 0) 1 [.var 1])) [.raise 3 [110, 111, 32, 115, 117, 99, 104, 32, 112, 105, 101, 99, 101]] [],
  .ret (.idx (.attr (.var 0) 0) (.var 1))] }

/-- Stock.numbers -/
noncomputable def fn_Stock_numbers : Fn := { name := "numbers", np := 1, nl := 1, names := ["self"], body := [.ret (.bi .sorted [.bi .list [.attr (.var 0) 0]])] }

noncomputable def fn_absent : Fn := { name := "", np := 0, nl := 0, names := [], body := [] }

noncomputable def prog : Pr := {
  fns := [fn_Stock_init, fn_Stock_need, fn_Stock_has, fn_Stock_free, fn_Stock_count, fn_Stock_piece, fn_Stock_numbers, fn_is_number, fn_absent, fn_l_whole, fn_l_sign_by, fn_l_text_by, fn_l_alike, fn_l_word_of, fn_l_answer, fn_l_counted, fn_l_look, fn_l_needed, fn_l_freed, fn_law],
  cls := [{ name := "ShelfError", exc := true, ups := [0], init := Option.none, meths := [] },
    { name := "NoSize", exc := true, ups := [1, 0], init := Option.none, meths := [] },
    { name := "NoName", exc := true, ups := [2, 0], init := Option.none, meths := [] },
    { name := "NotThere", exc := true, ups := [3, 0], init := Option.none, meths := [] },
    { name := "NoPlace", exc := true, ups := [4, 0], init := Option.none, meths := [] },
    { name := "NoText", exc := true, ups := [5, 0], init := Option.none, meths := [] },
    { name := "TooLong", exc := true, ups := [6, 0], init := Option.none, meths := [] },
    { name := "TooMany", exc := true, ups := [7, 0], init := Option.none, meths := [] },
    { name := "NoNote", exc := true, ups := [8, 0], init := Option.none, meths := [] },
    { name := "Stock", exc := false, ups := [9], init := some 0, meths := [(0, 1), (1, 2), (2, 3), (3, 4), (4, 5), (5, 6)] }],
  attrs := ["kept", "many", "known", "greatest"], methNames := ["need", "has", "free", "count", "piece", "numbers"] }

/-- the law 05 -/
noncomputable abbrev law05 : Nat := 19
end Mine

/-! Plain lemmas on the abstract interpreter: equations that simp can run (typed by hand). -/
set_option Elab.async false
namespace Mine.PL

noncomputable def fin : OutS → Out AV
  | .next h _ => .ok .none h
  | .ret v h => .ok v h
  | .exc c h _ => .exc c h
  | .fail => .fail
noncomputable def bindS (o : Out AV) (vs : Vs) (k : AV → Hp → OutS) : OutS := match o with
  | .ok v h => k v h
  | .exc c h => .exc c h vs
  | .fail => .fail
noncomputable def seqS (o : OutS) (k : Hp → Vs → OutS) : OutS := match o with
  | .next h vs => k h vs
  | o => o
noncomputable def pickS (t : Option Bool) (a b : Unit → OutS) : OutS := match t with
  | some true => a ()
  | some false => b ()
  | none => .fail
noncomputable def notO (t : Option Bool) (h : Hp) : Out AV := match t with
  | some b => .ok (.bool (!b)) h
  | none => .fail
noncomputable def look (o : Option (Option AV)) (h : Hp) : Out AV := match o with
  | some (some v) => .ok v h
  | _ => .fail
noncomputable def slotO (vs : Vs) (x : Nat) (h : Hp) : Out AV := match vs[x]? with
  | some (some v) => .ok v h
  | _ => .fail
noncomputable def boolO (o : Option Bool) (h : Hp) : Out AV := match o with
  | some b => .ok (.bool b) h
  | none => .fail
/-- one turn of a loop -/
noncomputable def turn (C : Cx) (x : Nat) (body : List MS) (v : AV) (st : Hp × Vs) : It (Hp × Vs) OutS := match exs C body st.1 (st.2.set x (some v)) with
  | .next h vs => .go (h, vs)
  | .ret v h => .stop (.ret v h)
  | _ => .stop .fail
noncomputable def ended : It (Hp × Vs) OutS → OutS
  | .go st => .next st.1 st.2
  | .stop o => o
noncomputable def loopS (hd : Bool) (src : Option Src) (f : AV → Hp × Vs → It (Hp × Vs) OutS) (st : Hp × Vs) : OutS := match src with
  | some src => if hd then .fail else ended (iter src OutS.fail f st)
  | none => .fail


@[simp] theorem bind_ok {α β : Type} (a : α) (h : Hp) (f : α → Hp → Out β) : (Out.ok a h).bind f = f a h := rfl
@[simp] theorem bind_exc {α β : Type} (c : Nat) (h : Hp) (f : α → Hp → Out β) : (Out.exc c h).bind f = .exc c h := rfl
@[simp] theorem bindS_exc (c : Nat) (h : Hp) (vs : Vs) (k : AV → Hp → OutS) : bindS (.exc c h) vs k = .exc c h vs := rfl
@[simp] theorem seqS_exc (c : Nat) (h : Hp) (vs : Vs) (k : Hp → Vs → OutS) : seqS (.exc c h vs) k = .exc c h vs := rfl
@[simp] theorem fin_exc (c : Nat) (h : Hp) (vs : Vs) : fin (.exc c h vs) = .exc c h := rfl
@[simp] theorem bindS_ok (v : AV) (h : Hp) (vs : Vs) (k : AV → Hp → OutS) : bindS (.ok v h) vs k = k v h := rfl
@[simp] theorem seqS_next (h : Hp) (vs : Vs) (k : Hp → Vs → OutS) : seqS (.next h vs) k = k h vs := rfl
@[simp] theorem seqS_ret (h : Hp) (v : AV) (k : Hp → Vs → OutS) : seqS (.ret v h) k = .ret v h := rfl
@[simp] theorem pickS_true (a b : Unit → OutS) : pickS (some true) a b = a () := rfl
@[simp] theorem pickS_false (a b : Unit → OutS) : pickS (some false) a b = b () := rfl
@[simp] theorem notO_some (b : Bool) (h : Hp) : notO (some b) h = .ok (.bool (!b)) h := rfl
@[simp] theorem look_some (v : AV) (h : Hp) : look (some (some v)) h = .ok v h := rfl
@[simp] theorem slot0 (a : AV) (r : Vs) (h : Hp) : slotO (some a :: r) 0 h = .ok a h := rfl
@[simp] theorem slot1 (a0 : Option AV) (a : AV) (r : Vs) (h : Hp) : slotO (a0 :: some a :: r) 1 h = .ok a h := rfl
@[simp] theorem slot2 (a0 a1 : Option AV) (a : AV) (r : Vs) (h : Hp) : slotO (a0 :: a1 :: some a :: r) 2 h = .ok a h := rfl
@[simp] theorem slot3 (a0 a1 a2 : Option AV) (a : AV) (r : Vs) (h : Hp) : slotO (a0 :: a1 :: a2 :: some a :: r) 3 h = .ok a h := rfl
@[simp] theorem slot4 (a0 a1 a2 a3 : Option AV) (a : AV) (r : Vs) (h : Hp) : slotO (a0 :: a1 :: a2 :: a3 :: some a :: r) 4 h = .ok a h := rfl
@[simp] theorem slot5 (a0 a1 a2 a3 a4 : Option AV) (a : AV) (r : Vs) (h : Hp) : slotO (a0 :: a1 :: a2 :: a3 :: a4 :: some a :: r) 5 h = .ok a h := rfl
@[simp] theorem slot6 (a0 a1 a2 a3 a4 a5 : Option AV) (a : AV) (r : Vs) (h : Hp) : slotO (a0 :: a1 :: a2 :: a3 :: a4 :: a5 :: some a :: r) 6 h = .ok a h := rfl
@[simp] theorem slot7 (a0 a1 a2 a3 a4 a5 a6 : Option AV) (a : AV) (r : Vs) (h : Hp) : slotO (a0 :: a1 :: a2 :: a3 :: a4 :: a5 :: a6 :: some a :: r) 7 h = .ok a h := rfl
@[simp] theorem slot8 (a0 a1 a2 a3 a4 a5 a6 a7 : Option AV) (a : AV) (r : Vs) (h : Hp) : slotO (a0 :: a1 :: a2 :: a3 :: a4 :: a5 :: a6 :: a7 :: some a :: r) 8 h = .ok a h := rfl
@[simp] theorem slot9 (a0 a1 a2 a3 a4 a5 a6 a7 a8 : Option AV) (a : AV) (r : Vs) (h : Hp) : slotO (a0 :: a1 :: a2 :: a3 :: a4 :: a5 :: a6 :: a7 :: a8 :: some a :: r) 9 h = .ok a h := rfl
@[simp] theorem slot10 (a0 a1 a2 a3 a4 a5 a6 a7 a8 a9 : Option AV) (a : AV) (r : Vs) (h : Hp) : slotO (a0 :: a1 :: a2 :: a3 :: a4 :: a5 :: a6 :: a7 :: a8 :: a9 :: some a :: r) 10 h = .ok a h := rfl
@[simp] theorem slot11 (a0 a1 a2 a3 a4 a5 a6 a7 a8 a9 a10 : Option AV) (a : AV) (r : Vs) (h : Hp) : slotO (a0 :: a1 :: a2 :: a3 :: a4 :: a5 :: a6 :: a7 :: a8 :: a9 :: a10 :: some a :: r) 11 h = .ok a h := rfl
@[simp] theorem someA_some (v : AV) (h : Hp) : someA (some v) h = .ok v h := rfl
@[simp] theorem boolO_some (b : Bool) (h : Hp) : boolO (some b) h = .ok (.bool b) h := rfl
@[simp] theorem fin_ret (v : AV) (h : Hp) : fin (.ret v h) = .ok v h := rfl
@[simp] theorem fin_next (vs : Vs) (h : Hp) : fin (.next h vs) = .ok .none h := rfl

theorem callF_def {P : Pr} {n : Nat} {hd : Bool} {f : Nat} {args : List AV} {h : Hp} {fn : Fn} (e : P.fns[f]? = some fn) (l : args.length = fn.np) (b : fn.body.isEmpty = false) :
    callF P (n + 1) hd f args h = fin (exs ⟨P, hd, callF P n⟩ fn.body h (args.map some ++ List.replicate (fn.names.length - fn.np) none)) := by
  rw [callF_q2, e]
  simp only [l, b, and_self, if_true]
  cases exs ⟨P, hd, callF P n⟩ fn.body h (args.map some ++ List.replicate (fn.names.length - fn.np) none) <;> rfl

section
variable {C : Cx} {h : Hp} {vs : Vs}
@[simp] theorem ev_none : ev C .none h vs = .ok .none h := rfl
@[simp] theorem ev_bool (b : Bool) : ev C (.bool b) h vs = .ok (.bool b) h := rfl
@[simp] theorem ev_int (i : Int) : ev C (.int i) h vs = .ok (.int i) h := rfl
@[simp] theorem ev_str (s : List Nat) : ev C (.str s) h vs = .ok (.str s) h := rfl
@[simp] theorem ev_var (x : Nat) : ev C (.var x) h vs = slotO vs x h := rfl
@[simp] theorem ev_and (es : List ME) : ev C (.and es) h vs = evAnd C es h vs := rfl
@[simp] theorem ev_or (es : List ME) : ev C (.or es) h vs = evOr C es h vs := rfl
@[simp] theorem evAnd_one (e : ME) : evAnd C [e] h vs = ev C e h vs := rfl
@[simp] theorem evOr_one (e : ME) : evOr C [e] h vs = ev C e h vs := rfl
theorem ev_cmp (l : ME) (op : COp) (r : ME) : ev C (.cmp l op r) h vs = (ev C l h vs).bind fun x h => (ev C r h vs).bind fun y h => boolO (cmpA op x y h) h := rfl
theorem ev_list (es : List ME) : ev C (.list es) h vs = (evs C es h vs).bind fun xs h => newList xs h := rfl
@[simp] theorem evs_nil : evs C [] h vs = .ok [] h := rfl
theorem ev_idx (o i : ME) : ev C (.idx o i) h vs = (ev C o h vs).bind fun x h => (ev C i h vs).bind fun y h => someA (idxA x y h) h := rfl
@[simp] theorem ev_dict (es : List ME) : ev C (.dict es) h vs = (evs C es (h ++ [.dict (some 0) []]) vs).bind fun xs h' => match pairs xs with | some kv => putDict h.length kv h' | none => .fail := rfl
@[simp] theorem ev_new (c : Nat) (args : List ME) : ev C (.new c args) h vs = if (initAt C.P c).isSome then (evs C args h vs).bind fun xs h => newA C c xs h else .fail := rfl
noncomputable def isN : AV → Bool
  | .none => true
  | _ => false
noncomputable def isT : AV → Bool
  | .bool true => true
  | _ => false
@[simp] theorem ev_powc (a b : Nat) : ev C (.powc a b) h vs = .ok (.int ((a ^ b : Nat) : Int)) h := rfl
noncomputable def compE (hd : Bool) (src : Option Src) (f : AV → Hp × List AV → It (Hp × List AV) (Out AV)) (h : Hp) : Out AV := match src with
  | some src => if hd then .fail else (match iter src Out.fail f (h, []) with
    | .go st => newList st.2 st.1
    | .stop o => o)
  | none => .fail
theorem ev_comp (elt : ME) (x : Nat) (src : ME) (conds : List ME) : ev C (.comp elt x src conds) h vs = (ev C src h vs).bind fun s h => compE C.hd (srcA h s) (compF (evConds C conds) (ev C elt) x vs) h := rfl
/-- a comprehension that leaves the heap alone -/

@[simp] theorem evConds_nil : evConds C [] h vs = .ok true h := rfl
@[simp] theorem exs_nil : exs C [] h vs = .next h vs := rfl
theorem exs_cons (s : MS) (r : List MS) : exs C (s :: r) h vs = seqS (ex C s h vs) fun h vs => exs C r h vs := rfl
theorem exs_append (a b : List MS) : ∀ {h : Hp} {vs : Vs}, exs C (a ++ b) h vs = seqS (exs C a h vs) fun h vs => exs C b h vs := by
  induction a with
  | nil => intro h vs; rfl
  | cons s r ih =>
    intro h vs
    rw [List.cons_append, exs_cons, exs_cons]
    cases ex C s h vs with
    | next h vs => exact ih
    | _ => rfl
theorem exs_split (k : Nat) (l : List MS) : exs C l h vs = seqS (exs C (l.take k) h vs) fun h vs => exs C (l.drop k) h vs := by
  rw [← exs_append, List.take_append_drop]
theorem ex_set (x : Nat) (e : ME) : ex C (.set x e) h vs = bindS (ev C e h vs) vs fun v h => .next h (vs.set x (some v)) := rfl
theorem ex_ret (e : ME) : ex C (.ret e) h vs = bindS (ev C e h vs) vs fun v h => .ret v h := rfl
theorem ex_ifs (t : ME) (a b : List MS) : ex C (.ifs t a b) h vs = bindS (ev C t h vs) vs fun v h => pickS (truth h v) (fun _ => exs C a h vs) (fun _ => exs C b h vs) := rfl
theorem ex_loop (x : Nat) (src : ME) (body : List MS) : ex C (.loop x src body) h vs = bindS (ev C src h vs) vs fun s h => loopS C.hd (srcA h s) (turn C x body) (h, vs) := rfl
@[simp] theorem doneO_some (h : Hp) : doneO (some h) = .ok () h := rfl
@[simp] theorem nextO_ok (vs : Vs) (u : Unit) (h : Hp) : nextO vs (.ok u h) = .next h vs := rfl
@[simp] theorem ex_raise (c : Nat) (m : List Nat) : ex C (.raise c m) h vs = if C.hd || (excAt C.P c).isNone then .fail else .exc c h vs := rfl
@[simp] theorem ex_pass : ex C .pass h vs = .next h vs := rfl

theorem turn_next {x : Nat} {body : List MS} {v : AV} {h' : Hp} {vs' : Vs} (e : exs C body h (vs.set x (some v)) = .next h' vs') : turn C x body v (h, vs) = .go (h', vs') := by
  simp only [turn, e]
theorem loopS_go {l : List AV} {f : AV → Hp × Vs → It (Hp × Vs) OutS} {st : Hp × Vs} (e : iterL f l (h, vs) = .go st) : loopS false (some (.fixed l)) f (h, vs) = .next st.1 st.2 := by
  simp only [loopS, iter, e]; rfl
end

/-! ### the same, one small step at a time: no function stands in the terms -/
noncomputable def kBin1 (o : Out AV) (C : Cx) (op : BOp) (b : ME) (vs : Vs) : Out AV := o.bind fun x h => (ev C b h vs).bind fun y h => binA op x y h
noncomputable def kBin2 (o : Out AV) (op : BOp) (x : AV) : Out AV := o.bind fun y h => binA op x y h
noncomputable def kCmp1 (o : Out AV) (C : Cx) (op : COp) (b : ME) (vs : Vs) : Out AV := o.bind fun x h => (ev C b h vs).bind fun y h => boolO (cmpA op x y h) h
noncomputable def kCmp2 (o : Out AV) (op : COp) (x : AV) : Out AV := o.bind fun y h => boolO (cmpA op x y h) h
noncomputable def kIdx1 (o : Out AV) (C : Cx) (b : ME) (vs : Vs) : Out AV := o.bind fun x h => (ev C b h vs).bind fun y h => someA (idxA x y h) h
noncomputable def kIdx2 (o : Out AV) (x : AV) : Out AV := o.bind fun y h => someA (idxA x y h) h
noncomputable def kNot (o : Out AV) : Out AV := o.bind fun x h => notO (truth h x) h
noncomputable def kAnd2 (t : Option Bool) (C : Cx) (r : List ME) (vs : Vs) (x : AV) (h : Hp) : Out AV := match t with
  | some false => .ok x h
  | some true => evAnd C r h vs
  | none => .fail
noncomputable def kAnd (o : Out AV) (C : Cx) (r : List ME) (vs : Vs) : Out AV := o.bind fun x h => kAnd2 (truth h x) C r vs x h
noncomputable def kOr2 (t : Option Bool) (C : Cx) (r : List ME) (vs : Vs) (x : AV) (h : Hp) : Out AV := match t with
  | some true => .ok x h
  | some false => evOr C r h vs
  | none => .fail
noncomputable def kOr (o : Out AV) (C : Cx) (r : List ME) (vs : Vs) : Out AV := o.bind fun x h => kOr2 (truth h x) C r vs x h
noncomputable def kCond2 (t : Option Bool) (C : Cx) (r : List ME) (vs : Vs) (h : Hp) : Out Bool := match t with
  | some true => evConds C r h vs
  | some false => .ok false h
  | none => .fail
noncomputable def kCond (o : Out AV) (C : Cx) (r : List ME) (vs : Vs) : Out Bool := o.bind fun x h => kCond2 (truth h x) C r vs h
noncomputable def kIsN (o : Out AV) : Out AV := o.bind fun x h => match x with
  | .none => .ok (.bool true) h
  | _ => .ok (.bool false) h
noncomputable def kIsT (o : Out AV) : Out AV := o.bind fun x h => match x with
  | .bool true => .ok (.bool true) h
  | _ => .ok (.bool false) h
noncomputable def kList (o : Out (List AV)) : Out AV := o.bind fun xs h => newList xs h
noncomputable def kTup (o : Out (List AV)) : Out AV := o.bind fun xs h => tupA xs h
noncomputable def kSl1 (o : Out AV) (C : Cx) (lo hi : ME) (vs : Vs) : Out AV := o.bind fun x h => (ev C lo h vs).bind fun a h => (ev C hi h vs).bind fun b h => sliceA x a b h
noncomputable def kSl2 (o : Out AV) (C : Cx) (x : AV) (hi : ME) (vs : Vs) : Out AV := o.bind fun a h => (ev C hi h vs).bind fun b h => sliceA x a b h
noncomputable def kSl3 (o : Out AV) (x a : AV) : Out AV := o.bind fun b h => sliceA x a b h
noncomputable def kCall (o : Out (List AV)) (C : Cx) (f : Nat) : Out AV := o.bind fun xs h => C.call C.hd f xs h
noncomputable def kAttr (o : Out AV) (a : Nat) : Out AV := o.bind fun x h => someA (attrA h x a) h
noncomputable def kMeth2 (t : Option Nat) (C : Cx) (args : List ME) (vs : Vs) (x : AV) (h : Hp) : Out AV := match t with
  | some f => (evs C args h vs).bind fun xs h => C.call C.hd f (x :: xs) h
  | none => .fail
noncomputable def kMeth1 (o : Out AV) (C : Cx) (m : Nat) (args : List ME) (vs : Vs) : Out AV := o.bind fun x h => kMeth2 (methF C.P h x m) C args vs x h
noncomputable def kMeth3 (o : Out (List AV)) (C : Cx) (f : Nat) (x : AV) : Out AV := o.bind fun xs h => C.call C.hd f (x :: xs) h
noncomputable def kBi (o : Out (List AV)) (C : Cx) (b : Bi) : Out AV := o.bind fun xs h => if C.hd then .fail else biA b xs h
noncomputable def kBm2 (t : Bool) (C : Cx) (m : Bm) (args : List ME) (vs : Vs) (x : AV) (h : Hp) : Out AV := if t then (evs C args h vs).bind fun xs h => bmA m x xs h else .fail
noncomputable def kBm1 (o : Out AV) (C : Cx) (m : Bm) (args : List ME) (vs : Vs) : Out AV := o.bind fun x h => kBm2 (bmKd m x h) C m args vs x h
noncomputable def kBm3 (o : Out (List AV)) (m : Bm) (x : AV) : Out AV := o.bind fun xs h => bmA m x xs h
noncomputable def kInst (o : Out AV) (C : Cx) (k : Kd) : Out AV := o.bind fun x h => boolO (instA C.P h x k) h
noncomputable def kEvs1 (o : Out AV) (C : Cx) (r : List ME) (vs : Vs) : Out (List AV) := o.bind fun x h => (evs C r h vs).bind fun xs h => .ok (x :: xs) h
noncomputable def kEvs2 (o : Out (List AV)) (x : AV) : Out (List AV) := o.bind fun xs h => .ok (x :: xs) h
noncomputable def kSet (o : Out AV) (x : Nat) (vs : Vs) : OutS := bindS o vs fun v h => .next h (vs.set x (some v))
noncomputable def kExpr (o : Out AV) (vs : Vs) : OutS := bindS o vs fun _ h => .next h vs
noncomputable def kRet (o : Out AV) (vs : Vs) : OutS := bindS o vs fun v h => .ret v h
noncomputable def kIf2 (t : Option Bool) (C : Cx) (a b : List MS) (h : Hp) (vs : Vs) : OutS := match t with
  | some true => exs C a h vs
  | some false => exs C b h vs
  | none => .fail
noncomputable def kIf (o : Out AV) (C : Cx) (a b : List MS) (vs : Vs) : OutS := bindS o vs fun v h => kIf2 (truth h v) C a b h vs
noncomputable def kLoop (o : Out AV) (C : Cx) (x : Nat) (body : List MS) (vs : Vs) : OutS := bindS o vs fun s h => loopS C.hd (srcA h s) (turn C x body) (h, vs)
noncomputable def kSA1 (o : Out AV) (C : Cx) (ob : ME) (a : Nat) (vs : Vs) : OutS := nextO vs (o.bind fun v h => (ev C ob h vs).bind fun x h => doneO (setAttrA x a v h))
noncomputable def kSA2 (o : Out AV) (a : Nat) (v : AV) (vs : Vs) : OutS := nextO vs (o.bind fun x h => doneO (setAttrA x a v h))
noncomputable def kSI1 (o : Out AV) (C : Cx) (ob i : ME) (vs : Vs) : OutS := nextO vs (o.bind fun v h => (ev C ob h vs).bind fun x h => (ev C i h vs).bind fun k h => doneO (setItemA x k v h))
noncomputable def kSI2 (o : Out AV) (C : Cx) (i : ME) (v : AV) (vs : Vs) : OutS := nextO vs (o.bind fun x h => (ev C i h vs).bind fun k h => doneO (setItemA x k v h))
noncomputable def kSI3 (o : Out AV) (x v : AV) (vs : Vs) : OutS := nextO vs (o.bind fun k h => doneO (setItemA x k v h))
noncomputable def kSeq (o : OutS) (C : Cx) (r : List MS) : OutS := match o with
  | .next h vs => exs C r h vs
  | o => o
section
variable {C : Cx} {h : Hp} {vs : Vs} {xs : List AV} {x y : AV} {P : Pr} {cl : Bool → Nat → List AV → Hp → Out AV} {c : Nat}
@[simp] theorem ev_bin' (op : BOp) (a b : ME) : ev C (.bin op a b) h vs = kBin1 (ev C a h vs) C op b vs := rfl
@[simp] theorem kBin1_ok (op : BOp) (b : ME) : kBin1 (.ok x h) C op b vs = kBin2 (ev C b h vs) op x := rfl
@[simp] theorem kBin2_ok (op : BOp) : kBin2 (.ok y h) op x = binA op x y h := rfl
@[simp] theorem ev_cmp' (op : COp) (a b : ME) : ev C (.cmp a op b) h vs = kCmp1 (ev C a h vs) C op b vs := rfl
@[simp] theorem kCmp1_ok (op : COp) (b : ME) : kCmp1 (.ok x h) C op b vs = kCmp2 (ev C b h vs) op x := rfl
@[simp] theorem kCmp2_ok (op : COp) : kCmp2 (.ok y h) op x = boolO (cmpA op x y h) h := rfl
@[simp] theorem ev_idx' (a b : ME) : ev C (.idx a b) h vs = kIdx1 (ev C a h vs) C b vs := rfl
@[simp] theorem kIdx1_ok (b : ME) : kIdx1 (.ok x h) C b vs = kIdx2 (ev C b h vs) x := rfl
@[simp] theorem kIdx2_ok : kIdx2 (.ok y h) x = someA (idxA x y h) h := rfl
@[simp] theorem ev_not' (e : ME) : ev C (.not e) h vs = kNot (ev C e h vs) := rfl
@[simp] theorem kNot_ok : kNot (.ok x h) = notO (truth h x) h := rfl
@[simp] theorem evAnd_cons' (e e' : ME) (r : List ME) : evAnd C (e :: e' :: r) h vs = kAnd (ev C e h vs) C (e' :: r) vs := rfl
@[simp] theorem kAnd_ok (r : List ME) : kAnd (.ok x h) C r vs = kAnd2 (truth h x) C r vs x h := rfl
@[simp] theorem kAnd2_true (r : List ME) : kAnd2 (some true) C r vs x h = evAnd C r h vs := rfl
@[simp] theorem kAnd2_false (r : List ME) : kAnd2 (some false) C r vs x h = .ok x h := rfl
@[simp] theorem evOr_cons' (e e' : ME) (r : List ME) : evOr C (e :: e' :: r) h vs = kOr (ev C e h vs) C (e' :: r) vs := rfl
@[simp] theorem kOr_ok (r : List ME) : kOr (.ok x h) C r vs = kOr2 (truth h x) C r vs x h := rfl
@[simp] theorem kOr2_true (r : List ME) : kOr2 (some true) C r vs x h = .ok x h := rfl
@[simp] theorem kOr2_false (r : List ME) : kOr2 (some false) C r vs x h = evOr C r h vs := rfl
@[simp] theorem evConds_cons' (e : ME) (r : List ME) : evConds C (e :: r) h vs = kCond (ev C e h vs) C r vs := rfl
@[simp] theorem kCond_ok (r : List ME) : kCond (.ok x h) C r vs = kCond2 (truth h x) C r vs h := rfl
@[simp] theorem kCond2_true (r : List ME) : kCond2 (some true) C r vs h = evConds C r h vs := rfl
@[simp] theorem kCond2_false (r : List ME) : kCond2 (some false) C r vs h = .ok false h := rfl
@[simp] theorem ev_isN (e : ME) : ev C (.isNone e) h vs = kIsN (ev C e h vs) := rfl
@[simp] theorem kIsN_none : kIsN (.ok .none h) = .ok (.bool true) h := rfl
@[simp] theorem kIsN_bool (b : Bool) : kIsN (.ok (.bool b) h) = .ok (.bool false) h := rfl
@[simp] theorem kIsN_int (i : Int) : kIsN (.ok (.int i) h) = .ok (.bool false) h := rfl
@[simp] theorem kIsN_str (t : List Nat) : kIsN (.ok (.str t) h) = .ok (.bool false) h := rfl
@[simp] theorem kIsN_tup (t : List AV) : kIsN (.ok (.tup t) h) = .ok (.bool false) h := rfl
@[simp] theorem kIsN_ref (l : Nat) : kIsN (.ok (.ref l) h) = .ok (.bool false) h := rfl
@[simp] theorem ev_isT (e : ME) : ev C (.isTrue e) h vs = kIsT (ev C e h vs) := rfl
@[simp] theorem kIsT_true : kIsT (.ok (.bool true) h) = .ok (.bool true) h := rfl
@[simp] theorem kIsT_false : kIsT (.ok (.bool false) h) = .ok (.bool false) h := rfl
@[simp] theorem kIsT_none : kIsT (.ok .none h) = .ok (.bool false) h := rfl
@[simp] theorem kIsT_int (i : Int) : kIsT (.ok (.int i) h) = .ok (.bool false) h := rfl
@[simp] theorem kIsT_str (t : List Nat) : kIsT (.ok (.str t) h) = .ok (.bool false) h := rfl
@[simp] theorem kIsT_tup (t : List AV) : kIsT (.ok (.tup t) h) = .ok (.bool false) h := rfl
@[simp] theorem kIsT_ref (l : Nat) : kIsT (.ok (.ref l) h) = .ok (.bool false) h := rfl
@[simp] theorem ev_list' (es : List ME) : ev C (.list es) h vs = kList (evs C es h vs) := rfl
@[simp] theorem kList_ok : kList (.ok xs h) = newList xs h := rfl
@[simp] theorem ev_tup' (es : List ME) : ev C (.tup es) h vs = kTup (evs C es h vs) := rfl
@[simp] theorem kTup_ok : kTup (.ok xs h) = tupA xs h := rfl
@[simp] theorem kTup_exc : kTup (.exc c h) = .exc c h := rfl
@[simp] theorem ev_slice' (a lo hi : ME) : ev C (.slice a lo hi) h vs = kSl1 (ev C a h vs) C lo hi vs := rfl
@[simp] theorem kSl1_ok (lo hi : ME) : kSl1 (.ok x h) C lo hi vs = kSl2 (ev C lo h vs) C x hi vs := rfl
@[simp] theorem kSl2_ok (hi : ME) : kSl2 (.ok y h) C x hi vs = kSl3 (ev C hi h vs) x y := rfl
@[simp] theorem kSl3_ok (b : AV) : kSl3 (.ok b h) x y = sliceA x y b h := rfl
@[simp] theorem ev_call' (f : Nat) (args : List ME) : ev C (.call f args) h vs = kCall (evs C args h vs) C f := rfl
@[simp] theorem kCall_ok (f : Nat) : kCall (.ok xs h) C f = C.call C.hd f xs h := rfl
@[simp] theorem ev_attr' (e : ME) (a : Nat) : ev C (.attr e a) h vs = kAttr (ev C e h vs) a := rfl
@[simp] theorem kAttr_ok (a : Nat) : kAttr (.ok x h) a = someA (attrA h x a) h := rfl
@[simp] theorem ev_meth' (e : ME) (m : Nat) (args : List ME) : ev C (.meth e m args) h vs = kMeth1 (ev C e h vs) C m args vs := rfl
@[simp] theorem kMeth1_ok (m : Nat) (args : List ME) : kMeth1 (.ok x h) C m args vs = kMeth2 (methF C.P h x m) C args vs x h := rfl
@[simp] theorem kMeth2_ok (f : Nat) (args : List ME) : kMeth2 (some f) C args vs x h = kMeth3 (evs C args h vs) C f x := rfl
@[simp] theorem kMeth3_ok (f : Nat) : kMeth3 (.ok xs h) C f x = C.call C.hd f (x :: xs) h := rfl
@[simp] theorem ev_bi' (b : Bi) (args : List ME) : ev C (.bi b args) h vs = kBi (evs C args h vs) C b := rfl
@[simp] theorem kBi_ok (b : Bi) : kBi (.ok xs h) ⟨P, false, cl⟩ b = biA b xs h := rfl
@[simp] theorem ev_bm' (m : Bm) (e : ME) (args : List ME) : ev C (.bm m e args) h vs = kBm1 (ev C e h vs) C m args vs := rfl
@[simp] theorem kBm1_ok (m : Bm) (args : List ME) : kBm1 (.ok x h) C m args vs = kBm2 (bmKd m x h) C m args vs x h := rfl
@[simp] theorem kBm2_ok (m : Bm) (args : List ME) : kBm2 true C m args vs x h = kBm3 (evs C args h vs) m x := rfl
@[simp] theorem kBm3_ok (m : Bm) : kBm3 (.ok xs h) m x = bmA m x xs h := rfl
@[simp] theorem ev_inst' (e : ME) (k : Kd) : ev C (.inst e k) h vs = kInst (ev C e h vs) C k := rfl
@[simp] theorem kInst_ok (k : Kd) : kInst (.ok x h) C k = boolO (instA C.P h x k) h := rfl
@[simp] theorem evs_cons' (e : ME) (r : List ME) : evs C (e :: r) h vs = kEvs1 (ev C e h vs) C r vs := rfl
@[simp] theorem kEvs1_ok (r : List ME) : kEvs1 (.ok x h) C r vs = kEvs2 (evs C r h vs) x := rfl
@[simp] theorem kEvs2_ok : kEvs2 (.ok xs h) x = .ok (x :: xs) h := rfl
@[simp] theorem kEvs1_exc (r : List ME) : kEvs1 (.exc c h) C r vs = .exc c h := rfl
@[simp] theorem kEvs2_exc : kEvs2 (.exc c h) x = .exc c h := rfl
@[simp] theorem ex_set' (i : Nat) (e : ME) : ex C (.set i e) h vs = kSet (ev C e h vs) i vs := rfl
@[simp] theorem kSet_ok (i : Nat) : kSet (.ok x h) i vs = .next h (vs.set i (some x)) := rfl
@[simp] theorem ex_expr' (e : ME) : ex C (.expr e) h vs = kExpr (ev C e h vs) vs := rfl
@[simp] theorem kExpr_ok : kExpr (.ok x h) vs = .next h vs := rfl
@[simp] theorem ex_ret' (e : ME) : ex C (.ret e) h vs = kRet (ev C e h vs) vs := rfl
@[simp] theorem kRet_ok : kRet (.ok x h) vs = .ret x h := rfl
@[simp] theorem kRet_exc : kRet (.exc c h) vs = .exc c h vs := rfl
@[simp] theorem ex_ifs' (t : ME) (a b : List MS) : ex C (.ifs t a b) h vs = kIf (ev C t h vs) C a b vs := rfl
@[simp] theorem kIf_ok (a b : List MS) : kIf (.ok x h) C a b vs = kIf2 (truth h x) C a b h vs := rfl
@[simp] theorem kIf2_true (a b : List MS) : kIf2 (some true) C a b h vs = exs C a h vs := rfl
@[simp] theorem kIf2_false (a b : List MS) : kIf2 (some false) C a b h vs = exs C b h vs := rfl
@[simp] theorem ex_loop' (i : Nat) (src : ME) (body : List MS) : ex C (.loop i src body) h vs = kLoop (ev C src h vs) C i body vs := rfl
@[simp] theorem kLoop_ok (i : Nat) (body : List MS) : kLoop (.ok x h) C i body vs = loopS C.hd (srcA h x) (turn C i body) (h, vs) := rfl
@[simp] theorem ex_setAttr' (o : ME) (a : Nat) (e : ME) : ex C (.setAttr o a e) h vs = kSA1 (ev C e h vs) C o a vs := rfl
@[simp] theorem kSA1_ok (o : ME) (a : Nat) : kSA1 (.ok x h) C o a vs = kSA2 (ev C o h vs) a x vs := rfl
@[simp] theorem kSA2_ok (a : Nat) : kSA2 (.ok y h) a x vs = nextO vs (doneO (setAttrA y a x h)) := rfl
@[simp] theorem ex_setItem' (o i e : ME) : ex C (.setItem o i e) h vs = kSI1 (ev C e h vs) C o i vs := rfl
@[simp] theorem kSI1_ok (o i : ME) : kSI1 (.ok x h) C o i vs = kSI2 (ev C o h vs) C i x vs := rfl
@[simp] theorem kSI2_ok (i : ME) : kSI2 (.ok y h) C i x vs = kSI3 (ev C i h vs) y x vs := rfl
@[simp] theorem kSI3_ok (k : AV) : kSI3 (.ok k h) y x vs = nextO vs (doneO (setItemA y k x h)) := rfl
@[simp] theorem exs_cons' (s : MS) (r : List MS) : exs C (s :: r) h vs = kSeq (ex C s h vs) C r := rfl
@[simp] theorem kSeq_next (r : List MS) : kSeq (.next h vs) C r = exs C r h vs := rfl
@[simp] theorem kSeq_ret (r : List MS) : kSeq (.ret x h) C r = .ret x h := rfl
@[simp] theorem kSeq_exc (r : List MS) : kSeq (.exc c h vs) C r = .exc c h vs := rfl
end

section
variable (h : Hp)
@[simp] theorem add_int (a b : Int) : binA .add (.int a) (.int b) h = .ok (.int (a + b)) h := rfl
@[simp] theorem sub_int (a b : Int) : binA .sub (.int a) (.int b) h = .ok (.int (a - b)) h := rfl
@[simp] theorem mul_small (a b : Int) (q : b.natAbs < 18446744073709551616 ∨ a.natAbs < 18446744073709551616) : binA .mul (.int a) (.int b) h = .ok (.int (a * b)) h := by
  have : (small a || small b) = true := by unfold small; rcases q with q | q <;> simp [q]
  show (if (small a || small b) = true then _ else _) = _
  rw [if_pos this]
@[simp] theorem mod_int (a b : Int) (q : 0 < b) : binA .mod (.int a) (.int b) h = .ok (.int (a % b)) h := if_pos q
@[simp] theorem div_int (a b : Int) (q : 0 < b) (q' : b < 18446744073709551616) : binA .div (.int a) (.int b) h = .ok (.int (a / b)) h := if_pos ⟨q, q'⟩
@[simp] theorem add_str (a b : List Nat) (q : a.length + b.length ≤ lim) : binA .add (.str a) (.str b) h = .ok (.str (a ++ b)) h := if_pos q
@[simp] theorem mul_str (a : List Nat) (b : Int) (q : -lim ≤ b) (q1 : b ≤ lim) (q2 : a.length * b.toNat ≤ lim) : binA .mul (.str a) (.int b) h = .ok (.str (rep b.toNat a)) h := if_pos ⟨q, q1, q2⟩
@[simp] theorem eq_int (a b : Int) : cmpA .eq (.int a) (.int b) h = some (decide (a = b)) := rfl
@[simp] theorem ne_int (a b : Int) : cmpA .ne (.int a) (.int b) h = some (!decide (a = b)) := rfl
@[simp] theorem lt_int (a b : Int) : cmpA .lt (.int a) (.int b) h = some (decide (a < b)) := rfl
@[simp] theorem le_int (a b : Int) : cmpA .le (.int a) (.int b) h = some (decide (a ≤ b)) := rfl
@[simp] theorem gt_int (a b : Int) : cmpA .gt (.int a) (.int b) h = some (decide (a > b)) := rfl
@[simp] theorem ge_int (a b : Int) : cmpA .ge (.int a) (.int b) h = some (decide (a ≥ b)) := rfl
@[simp] theorem eq_str (a b : List Nat) : cmpA .eq (.str a) (.str b) h = some (decide (a = b)) := by
  show some (tS a == tS b) = _
  congr 1
  by_cases q : a = b
  · rw [q]; simp
  · have : tS a ≠ tS b := fun z => q (by have := congrArg (fun s : PySem.Str => s.cps.toList) z; simpa [tS] using this)
    rw [beq_eq_false_iff_ne.mpr this, decide_eq_false q]
@[simp] theorem truth_bool (b : Bool) : truth h (.bool b) = some b := rfl
@[simp] theorem truth_int (i : Int) : truth h (.int i) = some (decide (i ≠ 0)) := rfl
@[simp] theorem truth_str (s : List Nat) : truth h (.str s) = some (!s.isEmpty) := rfl
@[simp] theorem newList_eq (xs : List AV) (q : xs.length ≤ lim) : newList xs h = .ok (.ref h.length) (h ++ [.list xs]) := if_pos q
@[simp] theorem len_str (s : List Nat) : biA .len [.str s] h = .ok (.int s.length) h := rfl
@[simp] theorem len_scr (s : List Int) : biA .len [.scr s] h = .ok (.int s.length) h := rfl
@[simp] theorem range1 (b : Int) (q : -lim ≤ b) (q1 : b ≤ lim) : biA .range [.int b] h = .ok (.rng 0 b) h := if_pos ⟨by decide, by decide, q, q1⟩
@[simp] theorem min2 (a b : Int) : biA .min [.int a, .int b] h = .ok (.int (if b < a then b else a)) h := rfl
@[simp] theorem inst_int (i : Int) : instK h (.int i) .int = some true := rfl
@[simp] theorem inst_int_bool (i : Int) : instK h (.int i) .bool = some false := rfl
@[simp] theorem src_rng (a b : Int) : srcA h (.rng a b) = some (.fixed (ups a (b - a).toNat)) := rfl
theorem listAt_of {h : Hp} {l : Nat} {xs : List AV} (e : h[l]? = some (.list xs)) : listAt h (.ref l) = some xs := by
  show lst h[l]? = _; rw [e]; rfl
theorem len_list {l : Nat} {xs : List AV} (e : h[l]? = some (.list xs)) : biA .len [.ref l] h = .ok (.int xs.length) h := by
  show (match listAt h (.ref l) with | some xs => Out.ok (AV.int xs.length) h | none => .fail) = _; rw [listAt_of e]
theorem kd_append {l : Nat} {xs : List AV} (e : h[l]? = some (.list xs)) : bmKd .append (.ref l) h = true := by show (listAt h (.ref l)).isSome = true; rw [listAt_of e]; rfl
theorem append_list {l : Nat} {xs : List AV} (e : h[l]? = some (.list xs)) (q : xs.length < lim) (v : AV) : bmA .append (.ref l) [v] h = .ok .none (h.set l (.list (xs ++ [v]))) := by
  show (match lst h[l]? with | some xs => if xs.length < lim then Out.ok AV.none (h.set l (.list (xs ++ [v]))) else .fail | none => .fail) = _; rw [e]; exact if_pos q
theorem place_at {n k : Nat} (q : k < n) : place n (k : Int) = some k := by simp [place, q]
theorem idx_str {s : List Nat} {i : Int} {k c : Nat} (e : place s.length i = some k) (q : s[k]? = some c) : idxA (.str s) (.int i) h = some (.str [c]) := by
  show ((place s.length i).bind fun k => (s[k]?).map fun c => AV.str [c]) = _; rw [e, Option.bind_some, q]; rfl
theorem idx_list {l : Nat} {xs : List AV} {i : Int} {k : Nat} {c : AV} (e : h[l]? = some (.list xs)) (e1 : place xs.length i = some k) (q : xs[k]? = some c) : idxA (.ref l) (.int i) h = some c := by
  have e0 : dictAt h (.ref l) = none := by show dct h[l]? = none; rw [e]; rfl
  unfold idxA
  rw [e0]
  show (match lst h[l]? with | some xs => (place xs.length i).bind fun k => xs[k]? | none => none) = _; rw [e]; simp only [lst, e1, Option.bind_some, q]
end

/-- a loop over a range -/
theorem ups_inv {σ ρ : Type} {f : AV → σ → It σ ρ} (J : Nat → σ → Prop) (a : Int) (n : Nat) (step : ∀ (i : Nat) s, i < n → J i s → ∃ s', f (.int (a + i)) s = .go s' ∧ J (i + 1) s') : ∀ (m k : Nat) (s : σ), k + m = n → J k s → ∃ s', iterL f (ups (a + k) m) s = .go s' ∧ J n s'
  | 0, k, s, e, j => ⟨s, rfl, by rw [← e]; exact j⟩
  | m + 1, k, s, e, j => by
    obtain ⟨s', q, j'⟩ := step k s (by omega) j
    obtain ⟨s'', q', j''⟩ := ups_inv J a n step m (k + 1) s' (by omega) j'
    refine ⟨s'', ?_, j''⟩
    rw [ups, iterL, q]
    have : a + (k : Int) + 1 = a + ((k + 1 : Nat) : Int) := by omega
    rw [this]; exact q'
theorem range_inv {σ ρ : Type} {f : AV → σ → It σ ρ} (J : Nat → σ → Prop) (n : Nat) {s : σ} (j : J 0 s) (step : ∀ (i : Nat) s, i < n → J i s → ∃ s', f (.int i) s = .go s' ∧ J (i + 1) s') : ∃ s', iterL f (ups 0 n) s = .go s' ∧ J n s' := by
  have := ups_inv J 0 n (fun i s hi hj => by rw [Int.zero_add]; exact step i s hi hj) n 0 s (by omega) j
  simpa using this
/-- heaps that grow -/
noncomputable def Grow (h h' : Hp) : Prop := h.length ≤ h'.length ∧ ∀ i, i < h.length → h'[i]? = h[i]?
theorem Grow.refl (h : Hp) : Grow h h := ⟨Nat.le_refl _, fun _ _ => rfl⟩
theorem Grow.trans {a b c : Hp} (x : Grow a b) (y : Grow b c) : Grow a c := ⟨Nat.le_trans x.1 y.1, fun i hi => (y.2 i (Nat.lt_of_lt_of_le hi x.1)).trans (x.2 i hi)⟩
theorem Grow.app (h e : Hp) : Grow h (h ++ e) := ⟨by simp, fun i hi => by rw [List.getElem?_append_left hi]⟩
theorem Grow.get {h h' : Hp} (g : Grow h h') {l : Nat} {o : AO} (e : h[l]? = some o) : h'[l]? = some o := by
  rw [g.2 l (List.getElem?_eq_some_iff.mp e).1]; exact e
end Mine.PL

/-! Law 05, plain: the texts (typed by hand). -/
set_option Elab.async false
namespace Mine.PL

noncomputable def signs : List Nat := [32, 33, 34, 35, 36, 38, 39, 40, 41, 42, 43, 44, 45, 46, 47, 48, 49, 50, 51, 52, 53, 54, 55, 56, 57, 58, 59, 60, 61, 62, 63, 64, 65, 66, 67, 68, 69, 70, 71, 72, 73, 74, 75, 76, 77, 78, 79, 80, 81, 82, 83, 84, 85, 86, 87, 88, 89, 90, 91, 92, 93, 94, 95, 96, 97, 98, 99, 100, 101, 102, 103, 104, 105, 106, 107, 108, 109, 110, 111, 112, 113, 114, 115, 116, 117, 118, 119, 120, 121, 122, 123, 124, 125, 126, 10]
noncomputable def signBy (c : Int) : Nat := (signs[(c % 95).toNat]?).getD 0
theorem sign_by {P : Pr} {n : Nat} {h : Hp} (e : P.fns[10]? = some fn_l_sign_by) (c : Int) : callF P (n + 1) false 10 [.int c] h = .ok (.str [signBy c]) h := by
  rw [callF_def e rfl rfl]
  have hs : signs.length = 95 := rfl
  have h1 : 0 ≤ c % 95 := by omega
  have h2 : c % 95 < 95 := by omega
  have h3 : (c % 95).toNat < signs.length := by omega
  have h4 : signs[(c % 95).toNat]? = some (signBy c) := by
    unfold signBy; rw [List.getElem?_eq_getElem h3]; rfl
  have h5 : place signs.length (c % 95) = some (c % 95).toNat := by
    unfold place; rw [if_pos h1, if_pos (by omega)]
  have hl : 64 + 31 ≤ lim := by decide
  have key := idx_str h h5 h4
  have hl' : ([32, 33, 34, 35, 36, 38, 39, 40, 41, 42, 43, 44, 45, 46, 47, 48, 49, 50, 51, 52, 53, 54, 55, 56, 57, 58, 59, 60, 61, 62, 63, 64, 65, 66, 67, 68, 69, 70, 71, 72, 73, 74, 75, 76, 77, 78, 79, 80, 81, 82, 83, 84, 85, 86, 87, 88, 89, 90, 91, 92, 93, 94, 95, 96] : List Nat).length + ([97, 98, 99, 100, 101, 102, 103, 104, 105, 106, 107, 108, 109, 110, 111, 112, 113, 114, 115, 116, 117, 118, 119, 120, 121, 122, 123, 124, 125, 126, 10] : List Nat).length ≤ lim := by decide
  have hd : binA .add (.str [32, 33, 34, 35, 36, 38, 39, 40, 41, 42, 43, 44, 45, 46, 47, 48, 49, 50, 51, 52, 53, 54, 55, 56, 57, 58, 59, 60, 61, 62, 63, 64, 65, 66, 67, 68, 69, 70, 71, 72, 73, 74, 75, 76, 77, 78, 79, 80, 81, 82, 83, 84, 85, 86, 87, 88, 89, 90, 91, 92, 93, 94, 95, 96]) (.str [97, 98, 99, 100, 101, 102, 103, 104, 105, 106, 107, 108, 109, 110, 111, 112, 113, 114, 115, 116, 117, 118, 119, 120, 121, 122, 123, 124, 125, 126, 10]) h = .ok (.str signs) h := add_str h _ _ hl'
  simp [fn_l_sign_by, hd, key, -add_str]

theorem signBy_lt (c : Int) : signBy c < 128 := by
  have : ∀ k < 95, (signs[k]?).getD 0 < 128 := by decide
  exact this _ (by omega)

/-! ### the text -/
theorem rep_length (n : Nat) (s : List Nat) : (rep n s).length = n * s.length := by
  induction n with
  | zero => simp [rep]
  | succ n ih => simp [rep, ih, Nat.succ_mul]; omega
theorem rep_mem {n : Nat} {s : List Nat} {c : Nat} (h : c ∈ rep n s) : c ∈ s := by
  induction n with
  | zero => simp [rep] at h
  | succ n ih => simp only [rep, List.mem_append] at h; exact h.elim id ih

theorem text_tail {P : Pr} {n : Nat} {h : Hp} (e3 : P.fns[10]? = some fn_l_sign_by) (c z g b : Int) (z1 : z < 300) (b0 : 0 < b) (b1 : b ≤ z) (g0 : 0 < g) (g1 : g ≤ 95) :
    ∃ s, exs ⟨P, false, callF P (n + 1)⟩ (fn_l_text_by.body.drop 4) h [some (.int c), some (.int z), some (.int g), some (.int b), none, none, none] = .ret (.str s) h ∧ (∀ x ∈ s, x < 128) ∧ s.length = z.toNat := by
  have hl : (300 : Int) * 300 ≤ lim := by decide
  obtain ⟨k, rfl⟩ : ∃ k : Nat, b = k := ⟨b.toNat, by omega⟩
  obtain ⟨st, q, got, num, y, rfl, j1, j2⟩ := range_inv (f := turn ⟨P, false, callF P (n + 1)⟩ 6 [.set 5 (.bin .mod (.bin .add (.bin .mul (.var 5) (.int 48271)) (.int 11)) (.int 2147483647)),
      .set 4 (.bin .add (.var 4) (.call 10 [.bin .add (.int 65) (.bin .mod (.bin .div (.var 5) (.int 7)) (.var 2))]))])
    (fun i st => ∃ (got : List Nat) (num : Int) (y : Option AV), st = (h, [some (.int c), some (.int z), some (.int g), some (.int (k : Int)), some (.str got), some (.int num), y]) ∧ (∀ x ∈ got, x < 128) ∧ got.length = i) k
    (s := (h, [some (.int c), some (.int z), some (.int g), some (.int (k : Int)), some (.str []), some (.int c), none]))
    ⟨[], c, none, rfl, by simp, rfl⟩ (by
      rintro i _ hi ⟨got, num, y, rfl, j1, j2⟩
      refine ⟨_, turn_next (h' := h) (vs' := [some (.int c), some (.int z), some (.int g), some (.int (k : Int)), some (.str (got ++ [signBy (65 + (num * 48271 + 11) % 2147483647 / 7 % g)])), some (.int ((num * 48271 + 11) % 2147483647)), some (.int i)]) ?_, _, _, _, rfl, ?_, ?_⟩
      · have hq : got.length + 1 ≤ lim := by omega
        simp [g0, sign_by e3, hq]
      · intro x hx
        rcases List.mem_append.mp hx with q | q
        · exact j1 x q
        · rw [List.mem_singleton.mp q]; exact signBy_lt _
      · simp [j2])
  have d0 : 0 ≤ z / (k : Int) := Int.ediv_nonneg (by omega) (by omega)
  have d1 : z / (k : Int) ≤ z := Int.ediv_le_self _ (by omega)
  have d2 : z < (k : Int) * (z / (k : Int) + 1) := by
    have := Int.lt_mul_ediv_self_add (x := z) (k := (k : Int)) (by omega)
    rw [Int.mul_add]; omega
  have d4 : got.length * (z / (k : Int) + 1).toNat ≤ lim := by
    have : got.length * (z / (k : Int) + 1).toNat ≤ 300 * 300 := Nat.mul_le_mul (by omega) (by omega)
    have : 300 * 300 ≤ lim := by decide
    omega
  have d5 : z.toNat ≤ (rep (z / (k : Int) + 1).toNat got).length := by
    rw [rep_length, j2]
    have : (((z / (k : Int) + 1).toNat * k : Nat) : Int) = (k : Int) * (z / (k : Int) + 1) := by
      rw [Int.natCast_mul, Int.toNat_of_nonneg (by omega), Int.mul_comm]
    omega
  have hm := mul_str h got (z / (k : Int) + 1) (by omega) (by omega) d4
  refine ⟨(rep (z / (k : Int) + 1).toNat got).take z.toNat, ?_, fun x hx => j1 x (rep_mem (List.mem_of_mem_take hx)), by rw [List.length_take]; omega⟩
  have hsl : sliceA (.str (rep (z / (k : Int) + 1).toNat got)) .none (.int z) h = .ok (.str ((rep (z / (k : Int) + 1).toNat got).take z.toNat)) h := by
    simp only [sliceA, bound, cut]
    rw [if_pos (by omega), Nat.min_eq_left d5]; simp
  have r1 : -(lim : Int) ≤ (k : Int) := by omega
  have r2 : (k : Int) ≤ lim := by omega
  have r3 : 0 < (k : Int) := by omega
  have r4 : (k : Int) < 18446744073709551616 := by omega
  have hdv := div_int h z k r3 r4
  simp [fn_l_text_by, loopS_go q, hm, hsl, r1, r2, hdv, -mul_str, -div_int]

theorem text_by {P : Pr} {n : Nat} {h : Hp} (e3 : P.fns[10]? = some fn_l_sign_by) (e4 : P.fns[11]? = some fn_l_text_by) (c z : Int) (z0 : 0 ≤ z) (z1 : z < 300) :
    ∃ s, callF P (n + 2) false 11 [.int c, .int z] h = .ok (.str s) (h ++ [.list [.int 2, .int 95, .int 95, .int 1]]) ∧ (∀ x ∈ s, x < 128) ∧ s.length = z.toNat := by
  rw [callF_def e4 rfl rfl]
  obtain ⟨g, hg0, hg1, hg⟩ : ∃ g : Int, 0 < g ∧ g ≤ 95 ∧ idxA (.ref h.length) (.int (c % 4)) (h ++ [.list [.int 2, .int 95, .int 95, .int 1]]) = some (.int g) := by
    have q : c % 4 = ((c % 4).toNat : Int) := by omega
    have q1 : (c % 4).toNat < 4 := by omega
    rw [q]
    generalize (c % 4).toNat = k at q1
    have : ∀ j : Nat, j < 4 → ∃ g : Int, 0 < g ∧ g ≤ 95 ∧ ([.int 2, .int 95, .int 95, .int 1] : List AV)[j]? = some (.int g) := by
      intro j hj
      match j, hj with
      | 0, _ => exact ⟨2, by decide, by decide, rfl⟩
      | 1, _ => exact ⟨95, by decide, by decide, rfl⟩
      | 2, _ => exact ⟨95, by decide, by decide, rfl⟩
      | 3, _ => exact ⟨1, by decide, by decide, rfl⟩
    obtain ⟨g, g0, g1, e⟩ := this k q1
    exact ⟨g, g0, g1, idx_list (xs := [.int 2, .int 95, .int 95, .int 1]) _ (by simp) (place_at (n := 4) q1) e⟩
  have hl : 4 ≤ lim := by decide
  rw [exs_split 3]
  obtain ⟨b, b0, b1, b2, hb⟩ : ∃ b : Int, 0 ≤ b ∧ b ≤ z ∧ (b = 0 → z = 0) ∧ exs ⟨P, false, callF P (n + 1)⟩ (fn_l_text_by.body.take 3) h ([AV.int c, AV.int z].map some ++ List.replicate (fn_l_text_by.names.length - fn_l_text_by.np) none) =
      .next (h ++ [.list [.int 2, .int 95, .int 95, .int 1]]) [some (.int c), some (.int z), some (.int g), some (.int b), none, none, none] := by
    by_cases q : c % 4 = 2
    · refine ⟨if 1 + c / 4 % 50 < z then 1 + c / 4 % 50 else z, by split <;> omega, by split <;> omega, by split <;> omega, ?_⟩
      rw [q] at hg
      simp [fn_l_text_by, hg, q, hl]
    · refine ⟨z, z0, by omega, fun e => e, ?_⟩
      simp [fn_l_text_by, hg, q, hl]
  rw [hb, seqS_next]
  by_cases q : b = 0
  · refine ⟨[], ?_, by simp, by rw [b2 q]; rfl⟩
    simp [fn_l_text_by, q]
  · obtain ⟨s, e, h1, h2⟩ := text_tail (n := n) (h := h ++ [.list [.int 2, .int 95, .int 95, .int 1]]) e3 c z g b z1 (by omega) b1 hg0 hg1
    refine ⟨s, ?_, h1, h2⟩
    have : fn_l_text_by.body.drop 3 = (.ifs (.cmp (.var 3) .eq (.int 0)) [.ret (.str [])] []) :: fn_l_text_by.body.drop 4 := rfl
    rw [this, exs_cons]
    have : ex ⟨P, false, callF P (n + 1)⟩ (.ifs (.cmp (.var 3) .eq (.int 0)) [.ret (.str [])] []) (h ++ [.list [.int 2, .int 95, .int 95, .int 1]]) [some (.int c), some (.int z), some (.int g), some (.int b), none, none, none] =
      .next (h ++ [.list [.int 2, .int 95, .int 95, .int 1]]) [some (.int c), some (.int z), some (.int g), some (.int b), none, none, none] := by simp [q]
    rw [this, seqS_next, e, fin_ret]
end Mine.PL

/-! Law 05, plain: dicts over a list of entries (typed by hand). -/
set_option Elab.async false
namespace Mine.PL

/-- an entry: number, text, count -/
noncomputable abbrev En := Int × List Nat × Int
noncomputable def kE (E : List En) : List (AV × AV) := E.map fun e => (.int e.1, .str e.2.1)
noncomputable def mE (E : List En) : List (AV × AV) := E.map fun e => (.int e.1, .int e.2.2)
noncomputable def wE (E : List En) : List (AV × AV) := E.map fun e => (.str e.2.1, .int e.1)
/-- the entries are in order: numbers and texts differ, numbers from 1 to L, counts above nought -/
structure EOk (E : List En) (L : Int) : Prop where
  num : (E.map (·.1)).Nodup
  txt : (E.map (·.2.1)).Nodup
  rng : ∀ e ∈ E, 1 ≤ e.1 ∧ e.1 ≤ L
  cnt : ∀ e ∈ E, 1 ≤ e.2.2
  pos : 0 ≤ L

theorem keq_int (a b : Int) : keq (.int a) (.int b) = (a == b) := rfl
theorem keq_str (a b : List Nat) : keq (.str a) (.str b) = (a == b) := rfl

/-- by number -/
theorem dget_num (f : En → AV) (i : Int) : ∀ E : List En, dget (E.map fun e => (.int e.1, f e)) (.int i) = (E.find? fun e => e.1 == i).map f
  | [] => rfl
  | e :: r => by
    rw [List.map_cons, List.find?_cons]
    show (if keq (.int e.1) (.int i) then some (f e) else dget _ _) = _
    rw [keq_int, dget_num f i r]
    cases e.1 == i <;> rfl
theorem dget_txt (f : En → AV) (t : List Nat) : ∀ E : List En, dget (E.map fun e => (.str e.2.1, f e)) (.str t) = (E.find? fun e => e.2.1 == t).map f
  | [] => rfl
  | e :: r => by
    rw [List.map_cons, List.find?_cons]
    show (if keq (.str e.2.1) (.str t) then some (f e) else dget _ _) = _
    rw [keq_str, dget_txt f t r]
    cases e.2.1 == t <;> rfl
/-- a new key -/
theorem dput_num_new (f : En → AV) (i : Int) (v : AV) : ∀ E : List En, (∀ e ∈ E, e.1 ≠ i) → dput (E.map fun e => (.int e.1, f e)) (.int i) v = (E.map fun e => (.int e.1, f e)) ++ [(.int i, v)]
  | [], _ => rfl
  | e :: r, h => by
    rw [List.map_cons, List.cons_append, ← dput_num_new f i v r fun e' he => h e' (List.mem_cons_of_mem _ he)]
    show (if keq (.int e.1) (.int i) then _ else _) = _
    rw [keq_int, if_neg (by simpa using h e (List.mem_cons_self ..))]
theorem dput_txt_new (f : En → AV) (t : List Nat) (v : AV) : ∀ E : List En, (∀ e ∈ E, e.2.1 ≠ t) → dput (E.map fun e => (.str e.2.1, f e)) (.str t) v = (E.map fun e => (.str e.2.1, f e)) ++ [(.str t, v)]
  | [], _ => rfl
  | e :: r, h => by
    rw [List.map_cons, List.cons_append, ← dput_txt_new f t v r fun e' he => h e' (List.mem_cons_of_mem _ he)]
    show (if keq (.str e.2.1) (.str t) then _ else _) = _
    rw [keq_str, if_neg (by simpa using h e (List.mem_cons_self ..))]
/-- the count of a number set -/
noncomputable def setC (i c : Int) (E : List En) : List En := E.map fun e => if e.1 = i then (e.1, e.2.1, c) else e
theorem setC_none (i c : Int) : ∀ E : List En, (∀ e ∈ E, e.1 ≠ i) → setC i c E = E
  | [], _ => rfl
  | e :: r, h => by
    show (if e.1 = i then _ else e) :: setC i c r = _
    rw [if_neg (h e (List.mem_cons_self ..)), setC_none i c r fun e' he => h e' (List.mem_cons_of_mem _ he)]
theorem dput_cnt (i c : Int) : ∀ E : List En, (E.map (·.1)).Nodup → (∃ e ∈ E, e.1 = i) → dput (mE E) (.int i) (.int c) = mE (setC i c E)
  | [], _, ⟨_, h, _⟩ => (nomatch h)
  | e :: r, hn, ⟨e', he, q⟩ => by
    rw [List.map_cons, List.nodup_cons] at hn
    show (if keq (.int e.1) (.int i) then (AV.int e.1, AV.int c) :: mE r else (AV.int e.1, AV.int e.2.2) :: dput (mE r) (.int i) (.int c)) = mE ((if e.1 = i then (e.1, e.2.1, c) else e) :: setC i c r)
    rw [keq_int]
    by_cases z : e.1 = i
    · rw [if_pos (by simpa using z), if_pos z, setC_none i c r fun e'' h'' q' => hn.1 (z ▸ q' ▸ List.mem_map_of_mem h'')]
      rfl
    · rw [if_neg (by simpa using z), if_neg z]
      rcases List.mem_cons.mp he with rfl | he
      · exact absurd q z
      · rw [dput_cnt i c r hn.2 ⟨e', he, q⟩]; rfl
/-- a number taken out -/
noncomputable def outE (i : Int) (E : List En) : List En := E.filter fun e => !(e.1 == i)
theorem outE_none (i : Int) : ∀ E : List En, (∀ e ∈ E, e.1 ≠ i) → outE i E = E := fun E h => List.filter_eq_self.mpr fun e he => by simpa using h e he
theorem ddel_num (f : En → AV) (i : Int) : ∀ E : List En, (E.map (·.1)).Nodup → ddel (E.map fun e => (.int e.1, f e)) (.int i) = (outE i E).map fun e => (.int e.1, f e)
  | [], _ => rfl
  | e :: r, hn => by
    rw [List.map_cons, List.nodup_cons] at hn
    show (if keq (.int e.1) (.int i) then r.map _ else (AV.int e.1, f e) :: ddel (r.map _) (.int i)) = _
    rw [keq_int]
    by_cases z : e.1 = i
    · rw [if_pos (by simpa using z)]
      have : outE i (e :: r) = r := by
        unfold outE
        rw [List.filter_cons_of_neg (by simpa using z)]
        exact outE_none i r fun e'' h'' q' => hn.1 (z ▸ q' ▸ List.mem_map_of_mem h'')
      rw [this]
    · rw [if_neg (by simpa using z), ddel_num f i r hn.2]
      unfold outE
      rw [List.filter_cons_of_pos (by simpa using z), List.map_cons]
theorem ddel_txt (f : En → AV) (i : Int) (t : List Nat) : ∀ E : List En, (E.map (·.1)).Nodup → (E.map (·.2.1)).Nodup → (∃ c, (i, t, c) ∈ E) → ddel (E.map fun e => (.str e.2.1, f e)) (.str t) = (outE i E).map fun e => (.str e.2.1, f e)
  | [], _, _, ⟨_, h⟩ => (nomatch h)
  | e :: r, hn, ht, ⟨c, hc⟩ => by
    rw [List.map_cons, List.nodup_cons] at hn ht
    show (if keq (.str e.2.1) (.str t) then r.map _ else (AV.str e.2.1, f e) :: ddel (r.map _) (.str t)) = _
    rw [keq_str]
    rcases List.mem_cons.mp hc with rfl | hc
    · rw [if_pos (by simp)]
      have : outE i ((i, t, c) :: r) = r := by
        unfold outE
        rw [List.filter_cons_of_neg (by simp)]
        exact outE_none i r fun e'' h'' q' => hn.1 (show i ∈ r.map (·.1) from q' ▸ List.mem_map_of_mem (f := fun e : En => e.1) h'')
      rw [this]
    · have z : e.1 ≠ i := fun q => hn.1 (q ▸ List.mem_map_of_mem (f := fun e : En => e.1) hc)
      have y : e.2.1 ≠ t := fun q => ht.1 (q ▸ List.mem_map_of_mem (f := fun e : En => e.2.1) hc)
      rw [if_neg (by simpa using y), ddel_txt f i t r hn.2 ht.2 ⟨c, hc⟩]
      unfold outE
      rw [List.filter_cons_of_pos (by simpa using z), List.map_cons]

theorem find_num {E : List En} {L : Int} (ok : EOk E L) {e : En} (h : e ∈ E) : (E.find? fun x => x.1 == e.1) = some e := by
  have hn := ok.num
  clear ok
  induction E with
  | nil => cases h
  | cons d r ih =>
    rw [List.map_cons, List.nodup_cons] at hn
    rw [List.find?_cons]
    rcases List.mem_cons.mp h with rfl | h
    · simp
    · have : d.1 ≠ e.1 := fun q => hn.1 (q ▸ List.mem_map_of_mem (f := fun e : En => e.1) h)
      rw [show (d.1 == e.1) = false by simpa using this]
      exact ih h hn.2
theorem find_txt {E : List En} {L : Int} (ok : EOk E L) {e : En} (h : e ∈ E) : (E.find? fun x => x.2.1 == e.2.1) = some e := by
  have hn := ok.txt
  clear ok
  induction E with
  | nil => cases h
  | cons d r ih =>
    rw [List.map_cons, List.nodup_cons] at hn
    rw [List.find?_cons]
    rcases List.mem_cons.mp h with rfl | h
    · simp
    · have : d.2.1 ≠ e.2.1 := fun q => hn.1 (q ▸ List.mem_map_of_mem (f := fun e : En => e.2.1) h)
      rw [show (d.2.1 == e.2.1) = false by simpa using this]
      exact ih h hn.2
end Mine.PL

/-! Law 05, plain: a stock's methods that only look (typed by hand). -/
set_option Elab.async false
namespace Mine.PL

section
variable {h : Hp}
theorem attr_at {s a c : Nat} {fs : List (Option AV)} {v : AV} (e : h[s]? = some (.inst c fs)) (q : fs[a]? = some (some v)) : attrA h (.ref s) a = some v := by
  show (ins h[s]?).bind _ = _
  rw [e]
  show (fs[a]?).bind id = _
  rw [q]; rfl
theorem dictAt_of {k : Nat} {ep : Option Nat} {es : List (AV × AV)} (e : h[k]? = some (.dict ep es)) : dictAt h (.ref k) = some (ep, es) := by show dct h[k]? = _; rw [e]; rfl
theorem in_dict {k : Nat} {ep : Option Nat} {es : List (AV × AV)} {v : AV} (e : h[k]? = some (.dict ep es)) (q : isKey v = true) : cmpA .isin v (.ref k) h = some (dget es v).isSome := by
  show inA h v (.ref k) = _
  unfold inA
  rw [dictAt_of e]
  simp only [q, if_true]
theorem notin_dict {k : Nat} {ep : Option Nat} {es : List (AV × AV)} {v : AV} (e : h[k]? = some (.dict ep es)) (q : isKey v = true) : cmpA .notin v (.ref k) h = some (!(dget es v).isSome) := by
  show (inA h v (.ref k)).map _ = _
  rw [show inA h v (.ref k) = _ from in_dict e q]; rfl
theorem idx_dict {k : Nat} {ep : Option Nat} {es : List (AV × AV)} {v : AV} (e : h[k]? = some (.dict ep es)) (q : isKey v = true) : idxA (.ref k) v h = dget es v := by
  unfold idxA
  rw [dictAt_of e]
  simp only [q, if_true]
theorem get_dict {k : Nat} {ep : Option Nat} {es : List (AV × AV)} {v d : AV} (e : h[k]? = some (.dict ep es)) (q : isKey v = true) : bmA .get (.ref k) [v, d] h = .ok ((dget es v).getD d) h := by
  show getA (.ref k) v d h = _
  unfold getA
  rw [dictAt_of e]
  simp only [q, if_true]
theorem kd_get {k : Nat} {ep : Option Nat} {es : List (AV × AV)} (e : h[k]? = some (.dict ep es)) : bmKd .get (.ref k) h = true := by show (dictAt h (.ref k)).isSome = true; rw [dictAt_of e]; rfl
theorem kd_pop {k : Nat} {ep : Option Nat} {es : List (AV × AV)} (e : h[k]? = some (.dict ep es)) : bmKd .pop (.ref k) h = true := by show (dictAt h (.ref k)).isSome = true; rw [dictAt_of e]; rfl
theorem pop_dict {k : Nat} {ep : Option Nat} {es : List (AV × AV)} {v r : AV} (e : h[k]? = some (.dict ep es)) (q : isKey v = true) (g : dget es v = some r) : bmA .pop (.ref k) [v] h = .ok r (h.set k (.dict (ep.map (· + 1)) (ddel es v))) := by
  show (match dct h[k]? with | some p => if isKey v then (match dget p.2 v with | some r => Out.ok r (h.set k (.dict (p.1.map (· + 1)) (ddel p.2 v))) | none => .fail) else .fail | none => .fail) = _
  rw [e]
  simp only [dct, q, if_true, g]
theorem set_dict {k : Nat} {ep : Option Nat} {es : List (AV × AV)} {i v : AV} (e : h[k]? = some (.dict ep es)) (q : isKey i = true) (l : es.length < lim) : setItemA (.ref k) i v h = some (h.set k (.dict (if (dget es i).isSome then ep else ep.map (· + 1)) (dput es i v))) := by
  show (match dct h[k]? with | some p => if isKey i && decide (p.2.length < lim) then some (h.set k (.dict (if (dget p.2 i).isSome then p.1 else p.1.map (· + 1)) (dput p.2 i v))) else none | none => none) = _
  rw [e]
  simp only [dct, q, Bool.true_and, decide_eq_true l, if_true]
theorem set_attr {s a c : Nat} {fs : List (Option AV)} {v : AV} (e : h[s]? = some (.inst c fs)) (q : a < fs.length) : setAttrA (.ref s) a v h = some (h.set s (.inst c (fs.set a (some v)))) := by
  show (match ins h[s]? with | some p => if a < p.2.length then some (h.set s (.inst p.1 (p.2.set a (some v)))) else none | none => none) = _
  rw [e]
  simp only [ins, q, if_true]
theorem meth_at {s m f : Nat} {fs : List (Option AV)} (e : h[s]? = some (.inst 9 fs)) (q : ([(0, 1), (1, 2), (2, 3), (3, 4), (4, 5), (5, 6)] : List (Nat × Nat)).lookup m = some f := by rfl) : methF prog h (.ref s) m = some f := by
  refine Eq.trans ?_ q
  show (ins h[s]?).bind _ = _
  rw [e]
  rfl
end

/-- a stock with the entries E and the last number L -/
structure SAt (h : Hp) (s k m w : Nat) (E : List En) (L : Int) : Prop where
  inst : h[s]? = some (.inst 9 [some (.ref k), some (.ref m), some (.ref w), some (.int L)])
  kept : ∃ ep, h[k]? = some (.dict ep (kE E))
  many : ∃ ep, h[m]? = some (.dict ep (mE E))
  known : ∃ ep, h[w]? = some (.dict ep (wE E))

noncomputable def isI : AV → Bool
  | .int _ => true
  | _ => false
/-- what the law asks about -/
noncomputable def askable : AV → Bool
  | .int _ => true
  | .bool _ => true
  | .none => true
  | .str _ => true
  | _ => false
section
variable (P : Pr) (h : Hp)
@[simp] theorem i_int_int (i : Int) : instA P h (.int i) .int = some true := rfl
@[simp] theorem i_int_bool (i : Int) : instA P h (.int i) .bool = some false := rfl
@[simp] theorem i_int_str (i : Int) : instA P h (.int i) .str = some false := rfl
@[simp] theorem i_bool_int (b : Bool) : instA P h (.bool b) .int = some true := rfl
@[simp] theorem i_bool_bool (b : Bool) : instA P h (.bool b) .bool = some true := rfl
@[simp] theorem i_bool_str (b : Bool) : instA P h (.bool b) .str = some false := rfl
@[simp] theorem i_none_int : instA P h .none .int = some false := rfl
@[simp] theorem i_none_str : instA P h .none .str = some false := rfl
@[simp] theorem i_str_int (s : List Nat) : instA P h (.str s) .int = some false := rfl
@[simp] theorem i_str_str (s : List Nat) : instA P h (.str s) .str = some true := rfl
@[simp] theorem i_tup_str (s : List AV) : instA P h (.tup s) .str = some false := rfl
@[simp] theorem i_tup_int (s : List AV) : instA P h (.tup s) .int = some false := rfl
@[simp] theorem i_tup_tup (s : List AV) : instA P h (.tup s) .tup = some true := rfl
@[simp] theorem i_tup_list (s : List AV) : instA P h (.tup s) .list = some false := rfl
end
theorem is_number {n : Nat} {hd : Bool} {h : Hp} (v : AV) (q : askable v = true) : callF prog (n + 1) hd 7 [v] h = .ok (.bool (isI v)) h := by
  rw [callF_def (fn := fn_is_number) rfl rfl rfl]
  cases v with
  | int i => simp [fn_is_number, isI]
  | bool b => simp [fn_is_number, isI]
  | none => simp [fn_is_number, isI]
  | str s => simp [fn_is_number, isI]
  | _ => cases q
noncomputable def hasE (E : List En) : AV → Bool
  | .int i => (E.find? fun e => e.1 == i).isSome
  | _ => false
variable {n : Nat} {hd : Bool} {h : Hp} {s k m w : Nat} {E : List En} {L : Int}
theorem has_is (S : SAt h s k m w E L) (v : AV) (q : askable v = true) : callF prog (n + 2) hd 2 [.ref s, v] h = .ok (.bool (hasE E v)) h := by
  rw [callF_def (fn := fn_Stock_has) rfl rfl rfl]
  obtain ⟨ep, hk⟩ := S.kept
  have ha := attr_at (a := 0) (v := .ref k) S.inst rfl
  cases v with
  | int i =>
    have hi := in_dict (v := .int i) hk rfl
    rw [show dget (kE E) (.int i) = _ from dget_num _ i E, Option.isSome_map] at hi
    have hN := is_number (n := n) (hd := hd) (h := h) (.int i) rfl
    simp [fn_Stock_has, hN, isI, ha, hi, hasE]
  | bool b =>
    have hN := is_number (n := n) (hd := hd) (h := h) (.bool b) rfl
    simp [fn_Stock_has, hN, isI, hasE]
  | none =>
    have hN := is_number (n := n) (hd := hd) (h := h) .none rfl
    simp [fn_Stock_has, hN, isI, hasE]
  | str t =>
    have hN := is_number (n := n) (hd := hd) (h := h) (.str t) rfl
    simp [fn_Stock_has, hN, isI, hasE]
  | _ => cases q
/-- the count of a thing -/
noncomputable def countE (E : List En) : AV → Int
  | .int i => ((E.find? fun e => e.1 == i).map fun e => e.2.2).getD 0
  | _ => 0
theorem count_is (S : SAt h s k m w E L) (v : AV) (q : askable v = true) : callF prog (n + 3) hd 4 [.ref s, v] h = .ok (.int (countE E v)) h := by
  rw [callF_def (fn := fn_Stock_count) rfl rfl rfl]
  have hm := meth_at (m := 1) (f := 2) S.inst
  have ha := attr_at (a := 1) (v := .ref m) S.inst rfl
  have hh := has_is (n := n) (hd := hd) S v q
  obtain ⟨ep, hk⟩ := S.many
  cases z : hasE E v with
  | false =>
    have e : countE E v = 0 := by
      cases v with
      | int i =>
        show (Option.map _ (E.find? fun e => e.1 == i)).getD 0 = 0
        have z : (E.find? fun e => e.1 == i).isSome = false := z
        cases y : E.find? fun e => e.1 == i with
        | none => rfl
        | some e => rw [y] at z; cases z
      | _ => rfl
    rw [z] at hh
    simp [fn_Stock_count, hm, hh, e]
  | true =>
    cases v with
    | int i =>
      have z : (E.find? fun e => e.1 == i).isSome = true := z
      obtain ⟨e, he⟩ := Option.isSome_iff_exists.mp z
      have hi := idx_dict (v := .int i) hk rfl
      rw [show dget (mE E) (.int i) = _ from dget_num _ i E, he] at hi
      rw [show hasE E (.int i) = true from z] at hh
      simp [fn_Stock_count, hm, hh, ha, hi, countE, he]
    | _ => cases z
theorem piece_is (S : SAt h s k m w E L) (i : Int) {e : En} (he : (E.find? fun e => e.1 == i) = some e) : callF prog (n + 3) hd 5 [.ref s, .int i] h = .ok (.str e.2.1) h := by
  rw [callF_def (fn := fn_Stock_piece) rfl rfl rfl]
  have hm := meth_at (m := 1) (f := 2) S.inst
  have ha := attr_at (a := 0) (v := .ref k) S.inst rfl
  have hh := has_is (n := n) (hd := hd) S (.int i) rfl
  obtain ⟨ep, hk⟩ := S.kept
  have hi := idx_dict (v := .int i) hk rfl
  rw [show dget (kE E) (.int i) = _ from dget_num _ i E, he] at hi
  rw [show hasE E (.int i) = true by show (E.find? fun e => e.1 == i).isSome = true; rw [he]; rfl] at hh
  simp [fn_Stock_piece, hm, hh, ha, hi]
theorem piece_no (S : SAt h s k m w E L) (v : AV) (q : askable v = true) (z : hasE E v = false) : callF prog (n + 3) false 5 [.ref s, v] h = .exc 3 h := by
  rw [callF_def (fn := fn_Stock_piece) rfl rfl rfl]
  have hm := meth_at (m := 1) (f := 2) S.inst
  have hh := has_is (n := n) (hd := false) S v q
  rw [z] at hh
  simp [fn_Stock_piece, hm, hh, show (excAt prog 3).isNone = false from rfl]
theorem free_no (S : SAt h s k m w E L) (v : AV) (q : askable v = true) (z : hasE E v = false) : callF prog (n + 3) false 3 [.ref s, v] h = .exc 3 h := by
  rw [callF_def (fn := fn_Stock_free) rfl rfl rfl]
  have hm := meth_at (m := 1) (f := 2) S.inst
  have hh := has_is (n := n) (hd := false) S v q
  rw [z] at hh
  simp [fn_Stock_free, hm, hh, show (excAt prog 3).isNone = false from rfl]
end Mine.PL

/-! Law 05, plain: what is alike (typed by hand). -/
set_option Elab.async false
namespace Mine.PL
variable {n : Nat} {hd : Bool} {h : Hp}
noncomputable def kdF : Kd → Bool
  | .value => false
  | .cls _ => false
  | _ => true
theorem alike_int (a b : Int) : callF prog (n + 2) hd 12 [.int a, .int b] h = .ok (.bool (decide (a = b))) h := by kernel_rfl
theorem alike_str (a b : List Nat) : callF prog (n + 1) hd 12 [.str a, .str b] h = .ok (.bool (decide (a = b))) h := by
  have e : callF prog (n + 1) hd 12 [.str a, .str b] h = boolO (cmpA .eq (.str a) (.str b) h) h := by kernel_rfl
  rw [e, eq_str]; rfl
theorem alike_none (a : AV) : callF prog (n + 1) hd 12 [a, .none] h = .ok (.bool (isN a)) h := by cases a <;> kernel_rfl
theorem alike_true (a : AV) : callF prog (n + 1) hd 12 [a, .bool true] h = .ok (.bool (isT a)) h := by
  cases a with
  | bool b => cases b <;> kernel_rfl
  | _ => kernel_rfl

theorem alike_tail {m : Nat} (g d : AV) (len : Nat) (hlen : biA .len [d] h = .ok (.int len) h) (hl : len ≤ 100000) (H : ∀ k < len, ∃ x y, idxA g (.int (k : Int)) h = some x ∧ idxA d (.int (k : Int)) h = some y ∧ callF prog m false 12 [x, y] h = .ok (.bool true) h) :
    exs ⟨prog, false, callF prog m⟩ (fn_l_alike.body.drop 7) h [some g, some d, none] = .ret (.bool true) h := by
  have hlim : (100000 : Int) ≤ lim := by decide
  obtain ⟨st, q, y, rfl⟩ := range_inv (f := turn ⟨prog, false, callF prog m⟩ 2 [.ifs (.not (.call 12 [.idx (.var 0) (.var 2), .idx (.var 1) (.var 2)])) [.ret (.bool false)] []])
    (fun i st => ∃ y : Option AV, st = (h, [some g, some d, y])) len (s := (h, [some g, some d, none])) ⟨none, rfl⟩ (by
      rintro i _ hi ⟨y, rfl⟩
      obtain ⟨a, b, e1, e2, e3⟩ := H i hi
      refine ⟨_, turn_next (h' := h) (vs' := [some g, some d, some (.int i)]) ?_, _, rfl⟩
      simp [e1, e2, e3])
  have r1 : -(lim : Int) ≤ (len : Int) := by omega
  have r2 : (len : Int) ≤ lim := by omega
  simp [fn_l_alike, hlen, r1, r2, loopS_go q]
theorem alike_tup {m : Nat} (xs ys : List AV) (hl : xs.length = ys.length) (h2 : ys.length ≤ 100000) (H : ∀ (k : Nat) x y, xs[k]? = some x → ys[k]? = some y → callF prog m false 12 [x, y] h = .ok (.bool true) h) : callF prog (m + 1) false 12 [.tup xs, .tup ys] h = .ok (.bool true) h := by
  rw [callF_def (fn := fn_l_alike) rfl rfl rfl]
  rw [exs_split 7]
  have l1 : biA .len [.tup ys] h = .ok (.int ys.length) h := rfl
  have l2 : biA .len [.tup xs] h = .ok (.int ys.length) h := by rw [← hl]; rfl
  have e : exs ⟨prog, false, callF prog m⟩ (fn_l_alike.body.take 7) h ([AV.tup xs, AV.tup ys].map some ++ List.replicate (fn_l_alike.names.length - fn_l_alike.np) none) = .next h [some (.tup xs), some (.tup ys), none] := by
    simp [fn_l_alike, isN, isT, l1, l2]
  rw [e, seqS_next, alike_tail (.tup xs) (.tup ys) ys.length l1 h2 fun k hk => ?_, fin_ret]
  have k1 : k < xs.length := by omega
  refine ⟨xs[k], ys[k], ?_, ?_, H k _ _ (List.getElem?_eq_getElem k1) (List.getElem?_eq_getElem hk)⟩
  · show ((place xs.length (k : Int)).bind fun k => xs[k]?) = _
    rw [place_at k1, Option.bind_some, List.getElem?_eq_getElem k1]
  · show ((place ys.length (k : Int)).bind fun k => ys[k]?) = _
    rw [place_at hk, Option.bind_some, List.getElem?_eq_getElem hk]
theorem inst_list {a : Nat} {xs : List AV} (e : h[a]? = some (.list xs)) (k : Kd) (hk : kdF k = true) : instA prog h (.ref a) k = some (k == Kd.list) := by
  have e0 : instK h (.ref a) k = some (k == Kd.list) := by
    show (match listAt h (.ref a) with | some _ => some (k == Kd.list) | none => none) = _
    rw [listAt_of e]
  cases k <;> first | exact e0 | cases hk
theorem alike_list {m : Nat} {a b : Nat} {xs ys : List AV} (ea : h[a]? = some (.list xs)) (eb : h[b]? = some (.list ys)) (hl : xs.length = ys.length) (h2 : ys.length ≤ 100000) (H : ∀ (k : Nat) x y, xs[k]? = some x → ys[k]? = some y → callF prog m false 12 [x, y] h = .ok (.bool true) h) :
    callF prog (m + 1) false 12 [.ref a, .ref b] h = .ok (.bool true) h := by
  rw [callF_def (fn := fn_l_alike) rfl rfl rfl]
  rw [exs_split 7]
  have l1 : biA .len [.ref b] h = .ok (.int ys.length) h := len_list h eb
  have l2 : biA .len [.ref a] h = .ok (.int ys.length) h := by rw [← hl]; exact len_list h ea
  have i1 : instA prog h (.ref b) .str = some false := inst_list eb .str rfl
  have i2 : instA prog h (.ref b) .int = some false := inst_list eb .int rfl
  have i3 : instA prog h (.ref b) .tup = some false := inst_list eb .tup rfl
  have i4 : instA prog h (.ref b) .list = some true := inst_list eb .list rfl
  have i5 : instA prog h (.ref a) .list = some true := inst_list ea .list rfl
  have e : exs ⟨prog, false, callF prog m⟩ (fn_l_alike.body.take 7) h ([AV.ref a, AV.ref b].map some ++ List.replicate (fn_l_alike.names.length - fn_l_alike.np) none) = .next h [some (.ref a), some (.ref b), none] := by
    simp [fn_l_alike, isN, isT, l1, l2, i1, i2, i3, i4, i5]
  rw [e, seqS_next, alike_tail (.ref a) (.ref b) ys.length l1 h2 fun k hk => ?_, fin_ret]
  have k1 : k < xs.length := by omega
  exact ⟨xs[k], ys[k], idx_list h ea (place_at k1) (List.getElem?_eq_getElem k1), idx_list h eb (place_at hk) (List.getElem?_eq_getElem hk), H k _ _ (List.getElem?_eq_getElem k1) (List.getElem?_eq_getElem hk)⟩
end Mine.PL

/-! Law 05, plain: answers (typed by hand). -/
set_option Elab.async false
namespace Mine.PL
section
variable {C : Cx} {h : Hp} {vs : Vs}
theorem try_ret {body hb : List MS} {c x : Nat} {v : AV} {h' : Hp} (e : exs C body h vs = .ret v h') : ex C (.try_ body c x hb) h vs = .ret v h' := by
  rw [ex_q10, e]
theorem try_exc {body hb : List MS} {c x d : Nat} {v : AV} {h' h'' : Hp} {vs' : Vs} (e : exs C body h vs = .exc d h' vs') (i : instX C.P d c = some true) (hd : C.hd = false) (e' : exs ⟨C.P, true, C.call⟩ hb h' (vs'.set x (some (.exc d))) = .ret v h'') : ex C (.try_ body c x hb) h vs = .ret v h'' := by
  rw [ex_q10, e]
  simp only [i, hd, Bool.false_eq_true, if_false, e']
end
variable {n : Nat} {hd : Bool} {h : Hp} {s k m w : Nat} {E : List En} {L : Int}
noncomputable abbrev tNot : List Nat := [110, 111, 116, 32, 116, 104, 101, 114, 101]
noncomputable abbrev tTold : List Nat := [116, 111, 108, 100]
theorem x_cls (P : Pr) (h : Hp) (c d : Nat) : instA P h (.exc c) (.cls d) = instX P c d := rfl
theorem x_val (h : Hp) : instA prog h (.exc 3) .value = some true := rfl
theorem x31 : instX prog 3 1 = some false := rfl
theorem x32 : instX prog 3 2 = some false := rfl
theorem x33 : instX prog 3 3 = some true := rfl
theorem x34 : instX prog 3 4 = some false := rfl
theorem x35 : instX prog 3 5 = some false := rfl
theorem x36 : instX prog 3 6 = some false := rfl
theorem x37 : instX prog 3 7 = some false := rfl
theorem x38 : instX prog 3 8 = some false := rfl
theorem word_of : callF prog (n + 1) true 13 [.exc 3] h = .ok (.tup [.str tNot, .bool true]) (h ++ [.list [.str tNot]]) := by
  rw [callF_def (fn := fn_l_word_of) rfl rfl rfl]
  have hl : (0 : Nat) ≤ lim := Nat.zero_le _
  have e0 : (h ++ [.list []])[h.length]? = some (.list []) := by simp
  have e1 : (h ++ [.list [.str tNot]])[h.length]? = some (.list [.str tNot]) := by simp
  have a1 := kd_append (h ++ [.list []]) e0
  have a2 := append_list (h ++ [.list []]) e0 (by decide) (.str tNot)
  have a3 : (h ++ [AO.list []]).set h.length (.list ([] ++ [AV.str tNot])) = h ++ [.list [.str tNot]] := by simp
  have a4 : bmA .join (.str []) [.ref h.length] (h ++ [.list [.str tNot]]) = .ok (.str tNot) (h ++ [.list [.str tNot]]) := by
    show joinA (.str []) (.ref h.length) (h ++ [.list [.str tNot]]) = _
    simp only [joinA, listAt_of e1, Option.bind_some]
    rfl
  rw [a3] at a2
  have b1 : bmKd .join (.str []) (h ++ [.list [.str tNot]]) = true := rfl
  have t : ∀ h : Hp, tupA [.str tNot, .bool true] h = .ok (.tup [.str tNot, .bool true]) h := fun h => if_pos (by decide)
  simp [fn_l_word_of, x_cls, x31, x32, x33, x34, x35, x36, x37, x38, x_val, a1, a2, a4, b1, t]

/-- the way 0 asks free, the way 1 piece -/
noncomputable def wayF (y : Nat) : Nat := if y = 0 then 3 else 5
theorem tup2 (a b : AV) (h : Hp) : tupA [a, b] h = .ok (.tup [a, b]) h := if_pos (show (2 : Nat) ≤ lim by decide)
theorem answer_ok {fs : List (Option AV)} (e : h[s]? = some (.inst 9 fs)) (y : Nat) (hy : y < 2) (v r : AV) {h' : Hp} (q : callF prog n false (wayF y) [.ref s, v] h = .ok r h') : callF prog (n + 1) false 14 [.ref s, .int y, v] h = .ok (.tup [.str tTold, r]) h' := by
  rw [callF_def (fn := fn_l_answer) rfl rfl rfl]
  have m2 := meth_at (m := 2) (f := 3) e
  have m4 := meth_at (m := 4) (f := 5) e
  match y, hy with
  | 0, _ =>
    have q : callF prog n false 3 [.ref s, v] h = .ok r h' := q
    have b : exs ⟨prog, false, callF prog n⟩ [.ifs (.cmp (.var 1) .eq (.int 0)) [.ret (.tup [.str [116, 111, 108, 100], .meth (.var 0) 2 [.var 2]])] [], .ret (.tup [.str [116, 111, 108, 100], .meth (.var 0) 4 [.var 2]])] h [some (.ref s), some (.int 0), some v, none] = .ret (.tup [.str tTold, r]) h' := by
      simp [m2, q, tup2]
    simp [fn_l_answer, try_ret b]
  | 1, _ =>
    have q : callF prog n false 5 [.ref s, v] h = .ok r h' := q
    have b : exs ⟨prog, false, callF prog n⟩ [.ifs (.cmp (.var 1) .eq (.int 0)) [.ret (.tup [.str [116, 111, 108, 100], .meth (.var 0) 2 [.var 2]])] [], .ret (.tup [.str [116, 111, 108, 100], .meth (.var 0) 4 [.var 2]])] h [some (.ref s), some (.int 1), some v, none] = .ret (.tup [.str tTold, r]) h' := by
      simp [m4, q, tup2]
    simp [fn_l_answer, try_ret b]
theorem answer_exc {fs : List (Option AV)} (e : h[s]? = some (.inst 9 fs)) (y : Nat) (hy : y < 2) (v : AV) {h' : Hp} (q : callF prog (n + 1) false (wayF y) [.ref s, v] h = .exc 3 h') : callF prog (n + 2) false 14 [.ref s, .int y, v] h = .ok (.tup [.str tNot, .bool true]) (h' ++ [.list [.str tNot]]) := by
  rw [callF_def (fn := fn_l_answer) rfl rfl rfl]
  have m2 := meth_at (m := 2) (f := 3) e
  have m4 := meth_at (m := 4) (f := 5) e
  have hw : exs ⟨prog, true, callF prog (n + 1)⟩ [.ret (.call 13 [.var 3])] h' [some (.ref s), some (.int y), some v, some (.exc 3)] = .ret (.tup [.str tNot, .bool true]) (h' ++ [.list [.str tNot]]) := by
    have := word_of (n := n) (h := h')
    simp [this]
  match y, hy with
  | 0, _ =>
    have q : callF prog (n + 1) false 3 [.ref s, v] h = .exc 3 h' := q
    have b : exs ⟨prog, false, callF prog (n + 1)⟩ [.ifs (.cmp (.var 1) .eq (.int 0)) [.ret (.tup [.str [116, 111, 108, 100], .meth (.var 0) 2 [.var 2]])] [], .ret (.tup [.str [116, 111, 108, 100], .meth (.var 0) 4 [.var 2]])] h [some (.ref s), some (.int 0), some v, none] = .exc 3 h' [some (.ref s), some (.int 0), some v, none] := by
      simp [m2, q]
    simp [fn_l_answer, try_exc (c := 0) (x := 3) b rfl rfl hw]
  | 1, _ =>
    have q : callF prog (n + 1) false 5 [.ref s, v] h = .exc 3 h' := q
    have b : exs ⟨prog, false, callF prog (n + 1)⟩ [.ifs (.cmp (.var 1) .eq (.int 0)) [.ret (.tup [.str [116, 111, 108, 100], .meth (.var 0) 2 [.var 2]])] [], .ret (.tup [.str [116, 111, 108, 100], .meth (.var 0) 4 [.var 2]])] h [some (.ref s), some (.int 1), some v, none] = .exc 3 h' [some (.ref s), some (.int 1), some v, none] := by
      simp [m4, q]
    simp [fn_l_answer, try_exc (c := 0) (x := 3) b rfl rfl hw]
end Mine.PL

/-! Law 05, plain: the plain book, counted, need, free (typed by hand). -/
set_option Elab.async false
namespace Mine.PL
noncomputable abbrev tLast : List Nat := [108, 97, 115, 116]
noncomputable abbrev tTexts : List Nat := [116, 101, 120, 116, 115]
noncomputable abbrev tCounts : List Nat := [99, 111, 117, 110, 116, 115]
noncomputable def pE (L : Int) (t c : Nat) : List (AV × AV) := [(.str tLast, .int L), (.str tTexts, .ref t), (.str tCounts, .ref c)]
/-- the plain book -/
structure PAt (h : Hp) (p t c : Nat) (E : List En) (L : Int) : Prop where
  top : ∃ ep, h[p]? = some (.dict ep (pE L t c))
  texts : ∃ ep : Nat, h[t]? = some (.dict (some ep) (kE E))
  counts : ∃ ep, h[c]? = some (.dict ep (mE E))
variable {n : Nat} {hd : Bool} {h : Hp} {s k m w p t c : Nat} {E : List En} {L : Int}
theorem PAt.idx_texts (B : PAt h p t c E L) : idxA (.ref p) (.str tTexts) h = some (.ref t) := by obtain ⟨ep, e⟩ := B.top; rw [idx_dict e rfl]; rfl
theorem PAt.idx_counts (B : PAt h p t c E L) : idxA (.ref p) (.str tCounts) h = some (.ref c) := by obtain ⟨ep, e⟩ := B.top; rw [idx_dict e rfl]; rfl
theorem PAt.idx_last (B : PAt h p t c E L) : idxA (.ref p) (.str tLast) h = some (.int L) := by obtain ⟨ep, e⟩ := B.top; rw [idx_dict e rfl]; rfl
theorem get_count (E : List En) (i : Int) : (dget (mE E) (.int i)).getD (.int 0) = .int (countE E (.int i)) := by
  rw [show dget (mE E) (.int i) = _ from dget_num _ i E]
  show _ = AV.int ((Option.map _ (E.find? fun e => e.1 == i)).getD 0)
  cases E.find? fun e => e.1 == i <;> rfl
theorem counted_is (S : SAt h s k m w E L) (B : PAt h p t c E L) (i : Int) : callF prog (n + 4) hd 15 [.ref s, .ref p, .int i] h = .ok (.bool true) h := by
  rw [callF_def (fn := fn_l_counted) rfl rfl rfl]
  have hm := meth_at (m := 3) (f := 4) S.inst
  have hc := count_is (n := n) (hd := hd) S (.int i) rfl
  obtain ⟨ep, e⟩ := B.counts
  have hg := get_dict (v := .int i) (d := .int 0) e rfl
  rw [get_count] at hg
  have ha := alike_int (n := n + 1) (hd := hd) (h := h) (countE E (.int i)) (countE E (.int i))
  simp [fn_l_counted, hm, hc, B.idx_counts, kd_get e, hg, ha]
theorem insI_len (x : Int) : ∀ l : List Int, (insI x l).length = l.length + 1
  | [] => rfl
  | y :: r => by
    show (if y < x then y :: insI x r else x :: y :: r).length = _
    split
    · rw [List.length_cons, insI_len x r, List.length_cons]
    · rfl
theorem sortI_len : ∀ l : List Int, (sortI l).length = l.length
  | [] => rfl
  | x :: r => by show (insI x (sortI r)).length = _; rw [insI_len, sortI_len r, List.length_cons]
theorem numbers_is (S : SAt h s k m w E L) (hE : E.length < 64) : callF prog (n + 1) false 6 [.ref s] h = .ok (.ref (h.length + 1)) (h ++ [.list (E.map fun e => .int e.1), .list ((sortI (E.map (·.1))).map .int)]) := by
  rw [callF_def (fn := fn_Stock_numbers) rfl rfl rfl]
  have ha := attr_at (a := 0) (v := .ref k) S.inst rfl
  obtain ⟨ep, e⟩ := S.kept
  have hl : E.length ≤ lim := Nat.le_trans (Nat.le_of_lt hE) (by decide)
  have k1 : keysAt h (.ref k) = some (E.map fun e => .int e.1) := by
    unfold keysAt
    have e0 : listAt h (.ref k) = none := by show lst h[k]? = none; rw [e]; rfl
    rw [e0, dictAt_of e]
    show some ((kE E).map (·.1)) = _
    unfold kE
    rw [List.map_map]; rfl
  have b1 : biA .list [.ref k] h = .ok (.ref h.length) (h ++ [.list (E.map fun e => .int e.1)]) := by
    show (match keysAt h (.ref k) with | some xs => newList xs h | none => .fail) = _
    rw [k1]
    exact if_pos (by rw [List.length_map]; exact hl)
  have e1 : (h ++ [.list (E.map fun e => AV.int e.1)])[h.length]? = some (.list (E.map fun e => AV.int e.1)) := by simp
  have k2 : keysAt (h ++ [.list (E.map fun e => AV.int e.1)]) (.ref h.length) = some (E.map fun e => .int e.1) := by
    unfold keysAt
    rw [listAt_of e1]
  have i1 : intsA (E.map fun e => AV.int e.1) = some (E.map (·.1)) := by
    clear k1 b1 e1 k2 hl hE e S ha
    induction E with
    | nil => rfl
    | cons d r ih =>
      rw [List.map_cons, intsA, mapO_cons]
      rw [show mapO asInt (r.map fun e => AV.int e.1) = some (r.map (·.1)) from ih]
      rfl
  have b2 : biA .sorted [.ref h.length] (h ++ [.list (E.map fun e => AV.int e.1)]) = .ok (.ref (h.length + 1)) (h ++ [.list (E.map fun e => .int e.1), .list ((sortI (E.map (·.1))).map .int)]) := by
    show sortedA (.ref h.length) (h ++ [.list (E.map fun e => AV.int e.1)]) = _
    unfold sortedA
    rw [k2, Option.bind_some, i1]
    simp only
    rw [if_pos (by rw [List.length_map]; exact hE), newList_eq]
    · simp
    · rw [List.length_map, sortI_len, List.length_map]; exact hl
  simp [fn_Stock_numbers, ha, b1, b2]
end Mine.PL

/-! Law 05, plain: need and free (typed by hand). -/
set_option Elab.async false
namespace Mine.PL
theorem get_ne {h : Hp} {l l' : Nat} {x : AO} (q : l ≠ l') : (h.set l x)[l']? = h[l']? := List.getElem?_set_ne q
theorem get_eq {h : Hp} {l : Nat} {x o : AO} (q : h[l]? = some o) : (h.set l x)[l]? = some x := List.getElem?_set_self (List.getElem?_eq_some_iff.mp q).1
/-- all else stands -/
noncomputable def Keeps (S : List Nat) (h h' : Hp) : Prop := h'.length = h.length ∧ ∀ l, l ∉ S → h'[l]? = h[l]?
structure Dis (s k m w : Nat) : Prop where
  sk : s ≠ k
  sm : s ≠ m
  sw : s ≠ w
  km : k ≠ m
  kw : k ≠ w
  mw : m ≠ w
variable {n : Nat} {h : Hp} {s k m w : Nat} {E : List En} {L : Int}
theorem setC_keys (i c : Int) (E : List En) : kE (setC i c E) = kE E ∧ wE (setC i c E) = wE E := by
  unfold kE wE setC
  rw [List.map_map, List.map_map]
  constructor
  · apply List.map_congr_left
    intro e _
    show (AV.int (if e.1 = i then (e.1, e.2.1, c) else e).1, AV.str (if e.1 = i then (e.1, e.2.1, c) else e).2.1) = _
    split <;> rfl
  · apply List.map_congr_left
    intro e _
    show (AV.str (if e.1 = i then (e.1, e.2.1, c) else e).2.1, AV.int (if e.1 = i then (e.1, e.2.1, c) else e).1) = _
    split <;> rfl
theorem need_old (D : Dis s k m w) (S : SAt h s k m w E L) (ok : EOk E L) (hE : E.length < 1000) {e : En} (he : e ∈ E) : ∃ h', callF prog (n + 1) false 1 [.ref s, .str e.2.1] h = .ok (.int e.1) h' ∧ SAt h' s k m w (setC e.1 (e.2.2 + 1) E) L ∧ Keeps [m] h h' := by
  rw [callF_def (fn := fn_Stock_need) rfl rfl rfl]
  obtain ⟨ew, hw⟩ := S.known
  obtain ⟨em, hm⟩ := S.many
  obtain ⟨ek, hk⟩ := S.kept
  have a2 := attr_at (a := 2) (v := .ref w) S.inst rfl
  have a1 := attr_at (a := 1) (v := .ref m) S.inst rfl
  have n1 := notin_dict (v := .str e.2.1) hw rfl
  rw [show dget (wE E) (.str e.2.1) = _ from dget_txt _ _ E, find_txt ok he] at n1
  have i1 := idx_dict (v := .str e.2.1) hw rfl
  rw [show dget (wE E) (.str e.2.1) = _ from dget_txt _ _ E, find_txt ok he] at i1
  have i2 := idx_dict (v := .int e.1) hm rfl
  rw [show dget (mE E) (.int e.1) = _ from dget_num _ _ E, find_num ok he] at i2
  have hl : (mE E).length < lim := by
    unfold mE; rw [List.length_map]; exact Nat.lt_trans hE (by decide)
  have s1 := set_dict (i := .int e.1) (v := .int (e.2.2 + 1)) hm rfl hl
  rw [dput_cnt _ _ E ok.num ⟨e, he, rfl⟩] at s1
  generalize hx : (if (dget (mE E) (.int e.1)).isSome then em else em.map (· + 1)) = em' at s1
  refine ⟨h.set m (.dict em' (mE (setC e.1 (e.2.2 + 1) E))), ?_, ⟨?_, ⟨ek, ?_⟩, ⟨em', get_eq hm⟩, ⟨ew, ?_⟩⟩, by rw [List.length_set], fun l hl => ?_⟩
  · simp [fn_Stock_need, a2, a1, n1, i1, i2, s1]
  · rw [get_ne D.sm.symm]; exact S.inst
  · rw [get_ne D.km.symm, (setC_keys _ _ E).1]; exact hk
  · rw [get_ne D.mw, (setC_keys _ _ E).2]; exact hw
  · exact get_ne fun q => hl (by rw [q]; exact List.mem_singleton.mpr rfl)
theorem mapE_snoc (f : En → AV × AV) (E : List En) (e : En) : (E ++ [e]).map f = E.map f ++ [f e] := by rw [List.map_append]; rfl
theorem need_new (D : Dis s k m w) (S : SAt h s k m w E L) (ok : EOk E L) (hE : E.length < 1000) (t : List Nat) (ht : ∀ e ∈ E, e.2.1 ≠ t) :
    ∃ h', callF prog (n + 1) false 1 [.ref s, .str t] h = .ok (.int (L + 1)) h' ∧ SAt h' s k m w (E ++ [(L + 1, t, 1)]) (L + 1) ∧ Keeps [s, k, m, w] h h' := by
  rw [callF_def (fn := fn_Stock_need) rfl rfl rfl]
  obtain ⟨ew, hw⟩ := S.known
  obtain ⟨em, hm⟩ := S.many
  obtain ⟨ek, hk⟩ := S.kept
  have hL : ∀ e ∈ E, e.1 ≠ L + 1 := fun e he q => by have := (ok.rng e he).2; omega
  have l1 : (wE E).length < lim := by unfold wE; rw [List.length_map]; exact Nat.lt_trans hE (by decide)
  have l2 : (kE E).length < lim := by unfold kE; rw [List.length_map]; exact Nat.lt_trans hE (by decide)
  have l3 : (mE E).length < lim := by unfold mE; rw [List.length_map]; exact Nat.lt_trans hE (by decide)
  have l4 : (mE (E ++ [(L + 1, t, 0)])).length < lim := by
    unfold mE; rw [List.length_map, List.length_append]
    have : (1001 : Nat) < lim := by decide
    show E.length + 1 < lim
    omega
  -- the first look
  have a2 := attr_at (a := 2) (v := .ref w) S.inst rfl
  have a3 := attr_at (a := 3) (v := .int L) S.inst rfl
  have n1 := notin_dict (v := .str t) hw rfl
  have fn : (E.find? fun e => e.2.1 == t) = none := List.find?_eq_none.mpr fun e he => by simpa using ht e he
  rw [show dget (wE E) (.str t) = _ from dget_txt _ _ E, fn] at n1
  -- the last number
  have s1 := set_attr (a := 3) (v := .int (L + 1)) S.inst (show (3 : Nat) < 4 by decide)
  have I1 : (h.set s (.inst 9 [some (.ref k), some (.ref m), some (.ref w), some (.int (L + 1))]))[s]? = some (.inst 9 [some (.ref k), some (.ref m), some (.ref w), some (.int (L + 1))]) := get_eq S.inst
  have W1 : (h.set s (.inst 9 [some (.ref k), some (.ref m), some (.ref w), some (.int (L + 1))]))[w]? = _ := (get_ne D.sw).trans hw
  have K1 : (h.set s (.inst 9 [some (.ref k), some (.ref m), some (.ref w), some (.int (L + 1))]))[k]? = _ := (get_ne D.sk).trans hk
  have M1 : (h.set s (.inst 9 [some (.ref k), some (.ref m), some (.ref w), some (.int (L + 1))]))[m]? = _ := (get_ne D.sm).trans hm
  have s1 : setAttrA (.ref s) 3 (.int (L + 1)) h = some (h.set s (.inst 9 [some (.ref k), some (.ref m), some (.ref w), some (.int (L + 1))])) := s1
  have len1 : (h.set s (.inst 9 [some (.ref k), some (.ref m), some (.ref w), some (.int (L + 1))])).length = h.length := List.length_set ..
  have o1 : ∀ l, l ≠ s → (h.set s (.inst 9 [some (.ref k), some (.ref m), some (.ref w), some (.int (L + 1))]))[l]? = h[l]? := fun l q => get_ne (Ne.symm q)
  generalize h.set s (.inst 9 [some (.ref k), some (.ref m), some (.ref w), some (.int (L + 1))]) = h1 at s1 I1 W1 K1 M1 len1 o1
  have b2 := attr_at (a := 2) (v := .ref w) I1 rfl
  have b3 := attr_at (a := 3) (v := .int (L + 1)) I1 rfl
  -- known
  have s2 := set_dict (i := .str t) (v := .int (L + 1)) W1 rfl l1
  rw [show dput (wE E) (.str t) (.int (L + 1)) = wE (E ++ [(L + 1, t, 0)]) from (dput_txt_new _ t _ E ht).trans (mapE_snoc _ E (L + 1, t, 0)).symm] at s2
  generalize (if (dget (wE E) (.str t)).isSome then ew else ew.map (· + 1)) = ew' at s2
  have I2 : (h1.set w (.dict ew' (wE (E ++ [(L + 1, t, 0)]))))[s]? = _ := (get_ne D.sw.symm).trans I1
  have W2 : (h1.set w (.dict ew' (wE (E ++ [(L + 1, t, 0)]))))[w]? = _ := get_eq W1
  have K2 : (h1.set w (.dict ew' (wE (E ++ [(L + 1, t, 0)]))))[k]? = _ := (get_ne D.kw.symm).trans K1
  have M2 : (h1.set w (.dict ew' (wE (E ++ [(L + 1, t, 0)]))))[m]? = _ := (get_ne D.mw.symm).trans M1
  have len2 : (h1.set w (.dict ew' (wE (E ++ [(L + 1, t, 0)])))).length = h.length := (List.length_set ..).trans len1
  have o2 : ∀ l, l ≠ s → l ≠ w → (h1.set w (.dict ew' (wE (E ++ [(L + 1, t, 0)]))))[l]? = h[l]? := fun l q z => (get_ne (Ne.symm z)).trans (o1 l q)
  generalize h1.set w (.dict ew' (wE (E ++ [(L + 1, t, 0)]))) = h2 at s2 I2 W2 K2 M2 len2 o2
  have c0 := attr_at (a := 0) (v := .ref k) I2 rfl
  have c3 := attr_at (a := 3) (v := .int (L + 1)) I2 rfl
  -- kept
  have s3 := set_dict (i := .int (L + 1)) (v := .str t) K2 rfl l2
  rw [show dput (kE E) (.int (L + 1)) (.str t) = kE (E ++ [(L + 1, t, 0)]) from (dput_num_new _ _ _ E hL).trans (mapE_snoc _ E (L + 1, t, 0)).symm] at s3
  generalize (if (dget (kE E) (.int (L + 1))).isSome then ek else ek.map (· + 1)) = ek' at s3
  have I3 : (h2.set k (.dict ek' (kE (E ++ [(L + 1, t, 0)]))))[s]? = _ := (get_ne D.sk.symm).trans I2
  have W3 : (h2.set k (.dict ek' (kE (E ++ [(L + 1, t, 0)]))))[w]? = _ := (get_ne D.kw).trans W2
  have K3 : (h2.set k (.dict ek' (kE (E ++ [(L + 1, t, 0)]))))[k]? = _ := get_eq K2
  have M3 : (h2.set k (.dict ek' (kE (E ++ [(L + 1, t, 0)]))))[m]? = _ := (get_ne D.km).trans M2
  have len3 : (h2.set k (.dict ek' (kE (E ++ [(L + 1, t, 0)])))).length = h.length := (List.length_set ..).trans len2
  have o3 : ∀ l, l ≠ s → l ≠ w → l ≠ k → (h2.set k (.dict ek' (kE (E ++ [(L + 1, t, 0)]))))[l]? = h[l]? := fun l q z y => (get_ne (Ne.symm y)).trans (o2 l q z)
  generalize h2.set k (.dict ek' (kE (E ++ [(L + 1, t, 0)]))) = h3 at s3 I3 W3 K3 M3 len3 o3
  have d1 := attr_at (a := 1) (v := .ref m) I3 rfl
  have d3 := attr_at (a := 3) (v := .int (L + 1)) I3 rfl
  -- many
  have s4 := set_dict (i := .int (L + 1)) (v := .int 0) M3 rfl l3
  rw [show dput (mE E) (.int (L + 1)) (.int 0) = mE (E ++ [(L + 1, t, 0)]) from (dput_num_new _ _ _ E hL).trans (mapE_snoc _ E (L + 1, t, 0)).symm] at s4
  generalize (if (dget (mE E) (.int (L + 1))).isSome then em else em.map (· + 1)) = em' at s4
  have I4 : (h3.set m (.dict em' (mE (E ++ [(L + 1, t, 0)]))))[s]? = _ := (get_ne D.sm.symm).trans I3
  have W4 : (h3.set m (.dict em' (mE (E ++ [(L + 1, t, 0)]))))[w]? = _ := (get_ne D.mw).trans W3
  have K4 : (h3.set m (.dict em' (mE (E ++ [(L + 1, t, 0)]))))[k]? = _ := (get_ne D.km.symm).trans K3
  have M4 : (h3.set m (.dict em' (mE (E ++ [(L + 1, t, 0)]))))[m]? = _ := get_eq M3
  have len4 : (h3.set m (.dict em' (mE (E ++ [(L + 1, t, 0)])))).length = h.length := (List.length_set ..).trans len3
  have o4 : ∀ l, l ≠ s → l ≠ w → l ≠ k → l ≠ m → (h3.set m (.dict em' (mE (E ++ [(L + 1, t, 0)]))))[l]? = h[l]? := fun l q z y x => (get_ne (Ne.symm x)).trans (o3 l q z y)
  generalize h3.set m (.dict em' (mE (E ++ [(L + 1, t, 0)]))) = h4 at s4 I4 W4 K4 M4 len4 o4
  have e2 := attr_at (a := 2) (v := .ref w) I4 rfl
  have e1 := attr_at (a := 1) (v := .ref m) I4 rfl
  have f1 : ((E ++ [(L + 1, t, (0 : Int))]).find? fun e => e.2.1 == t) = some (L + 1, t, 0) := by rw [List.find?_append, fn]; simp
  have f2 : ((E ++ [(L + 1, t, (0 : Int))]).find? fun e => e.1 == L + 1) = some (L + 1, t, 0) := by
    rw [List.find?_append, List.find?_eq_none.mpr fun e he => by simpa using hL e he]; simp
  have i1 := idx_dict (v := .str t) W4 rfl
  rw [show dget (wE (E ++ [(L + 1, t, 0)])) (.str t) = _ from dget_txt _ _ _, f1] at i1
  have i2 := idx_dict (v := .int (L + 1)) M4 rfl
  rw [show dget (mE (E ++ [(L + 1, t, 0)])) (.int (L + 1)) = _ from dget_num _ _ _, f2] at i2
  have nd : ((E ++ [(L + 1, t, (0 : Int))]).map (·.1)).Nodup := by
    rw [List.map_append, List.nodup_append]
    refine ⟨ok.num, by simp, fun a ha b hb q => ?_⟩
    obtain ⟨e, he, rfl⟩ := List.mem_map.mp ha
    have : b = L + 1 := by simpa using hb
    exact hL e he (q.trans this)
  have s5 := set_dict (i := .int (L + 1)) (v := .int (0 + 1)) M4 rfl l4
  have sc : setC (L + 1) (0 + 1) (E ++ [(L + 1, t, 0)]) = E ++ [(L + 1, t, 1)] := by
    unfold setC
    rw [List.map_append]
    have := setC_none (L + 1) (0 + 1) E hL
    unfold setC at this
    rw [this]
    simp
  rw [dput_cnt _ _ _ nd ⟨(L + 1, t, 0), by simp, rfl⟩, sc] at s5
  generalize (if (dget (mE (E ++ [(L + 1, t, 0)])) (.int (L + 1))).isSome then em' else em'.map (· + 1)) = em'' at s5
  refine ⟨h4.set m (.dict em'' (mE (E ++ [(L + 1, t, 1)]))), ?_, ⟨?_, ⟨ek', ?_⟩, ⟨em'', get_eq M4⟩, ⟨ew', ?_⟩⟩, (List.length_set ..).trans len4, fun l hl => ?_⟩
  · simp [fn_Stock_need, a2, a3, n1, s1, b2, b3, s2, c0, c3, s3, d1, d3, s4, e2, e1, i1, i2, show setItemA (.ref m) (.int (L + 1)) (.int 1) h4 = some (h4.set m (.dict em'' (mE (E ++ [(L + 1, t, 1)])))) from s5]
  · rw [get_ne D.sm.symm]; exact I4
  · rw [get_ne D.km.symm, K4]; congr 2; unfold kE; rw [mapE_snoc, mapE_snoc]
  · rw [get_ne D.mw, W4]; congr 2; unfold wE; rw [mapE_snoc, mapE_snoc]
  · simp only [List.mem_cons, not_or, List.not_mem_nil, not_false_eq_true, and_true] at hl
    rw [get_ne (Ne.symm hl.2.2.1)]
    exact o4 l hl.1 hl.2.2.2 hl.2.1 hl.2.2.1
end Mine.PL

/-! Law 05, plain: free (typed by hand). -/
set_option Elab.async false
namespace Mine.PL
variable {n : Nat} {h : Hp} {s k m w : Nat} {E : List En} {L : Int}
/-- the entries behind a free -/
noncomputable def freeE (e : En) (E : List En) : List En := if e.2.2 = 1 then outE e.1 E else setC e.1 (e.2.2 - 1) E
theorem setC_nums (i c : Int) (E : List En) : (setC i c E).map (·.1) = E.map (·.1) ∧ (setC i c E).map (·.2.1) = E.map (·.2.1) := by
  unfold setC
  rw [List.map_map, List.map_map]
  constructor
  · apply List.map_congr_left
    intro e _
    show (if e.1 = i then (e.1, e.2.1, c) else e).1 = _
    split <;> rfl
  · apply List.map_congr_left
    intro e _
    show (if e.1 = i then (e.1, e.2.1, c) else e).2.1 = _
    split <;> rfl
theorem find_setC (i c : Int) {e : En} (he : e.1 = i) : ∀ {E : List En}, (E.find? fun x => x.1 == i) = some e → ((setC i c E).find? fun x => x.1 == i) = some (i, e.2.1, c)
  | [], h => by cases h
  | d :: r, h => by
    show (((if d.1 = i then (d.1, d.2.1, c) else d) :: setC i c r).find? fun x => x.1 == i) = _
    rw [List.find?_cons] at h ⊢
    by_cases z : d.1 = i
    · rw [show (d.1 == i) = true by simpa using z] at h
      cases h
      rw [if_pos z]
      simp [z]
    · rw [show (d.1 == i) = false by simpa using z] at h
      rw [if_neg z, show (d.1 == i) = false by simpa using z]
      exact find_setC i c he h
theorem outE_setC (i c : Int) : ∀ E : List En, outE i (setC i c E) = outE i E
  | [] => rfl
  | d :: r => by
    show (((if d.1 = i then (d.1, d.2.1, c) else d) :: setC i c r).filter fun e => !(e.1 == i)) = _
    have ih := outE_setC i c r
    unfold outE at ih ⊢
    by_cases z : d.1 = i
    · rw [if_pos z, List.filter_cons_of_neg (by simp [z]), List.filter_cons_of_neg (by simp [z]), ih]
    · rw [if_neg z, List.filter_cons_of_pos (by simp [z]), List.filter_cons_of_pos (by simp [z]), ih]
theorem free_is (D : Dis s k m w) (S : SAt h s k m w E L) (ok : EOk E L) (hE : E.length < 1000) {e : En} (he : e ∈ E) : ∃ h', callF prog (n + 3) false 3 [.ref s, .int e.1] h = .ok .none h' ∧ SAt h' s k m w (freeE e E) L ∧ Keeps [k, m, w] h h' := by
  rw [callF_def (fn := fn_Stock_free) rfl rfl rfl]
  obtain ⟨ew, hw⟩ := S.known
  obtain ⟨em, hm⟩ := S.many
  obtain ⟨ek, hk⟩ := S.kept
  have mt := meth_at (m := 1) (f := 2) S.inst
  have hh := has_is (n := n) (hd := false) S (.int e.1) rfl
  rw [show hasE E (.int e.1) = true by show (E.find? fun x => x.1 == e.1).isSome = true; rw [find_num ok he]; rfl] at hh
  have a1 := attr_at (a := 1) (v := .ref m) S.inst rfl
  have i1 := idx_dict (v := .int e.1) hm rfl
  rw [show dget (mE E) (.int e.1) = _ from dget_num _ _ E, find_num ok he] at i1
  have hl : (mE E).length < lim := by unfold mE; rw [List.length_map]; exact Nat.lt_trans hE (by decide)
  have s1 := set_dict (i := .int e.1) (v := .int (e.2.2 - 1)) hm rfl hl
  rw [dput_cnt _ _ E ok.num ⟨e, he, rfl⟩] at s1
  generalize (if (dget (mE E) (.int e.1)).isSome then em else em.map (· + 1)) = em' at s1
  have I1 : (h.set m (.dict em' (mE (setC e.1 (e.2.2 - 1) E))))[s]? = _ := (get_ne D.sm.symm).trans S.inst
  have W1 : (h.set m (.dict em' (mE (setC e.1 (e.2.2 - 1) E))))[w]? = _ := (get_ne D.mw).trans hw
  have K1 : (h.set m (.dict em' (mE (setC e.1 (e.2.2 - 1) E))))[k]? = _ := (get_ne D.km.symm).trans hk
  have M1 : (h.set m (.dict em' (mE (setC e.1 (e.2.2 - 1) E))))[m]? = _ := get_eq hm
  have len1 : (h.set m (.dict em' (mE (setC e.1 (e.2.2 - 1) E)))).length = h.length := List.length_set ..
  have o1 : ∀ l, l ≠ m → (h.set m (.dict em' (mE (setC e.1 (e.2.2 - 1) E))))[l]? = h[l]? := fun l q => get_ne (Ne.symm q)
  generalize h.set m (.dict em' (mE (setC e.1 (e.2.2 - 1) E))) = h1 at s1 I1 W1 K1 M1 len1 o1
  have b1 := attr_at (a := 1) (v := .ref m) I1 rfl
  have j1 := idx_dict (v := .int e.1) M1 rfl
  rw [show dget (mE (setC e.1 (e.2.2 - 1) E)) (.int e.1) = _ from dget_num _ _ _, find_setC e.1 (e.2.2 - 1) rfl (find_num ok he)] at j1
  by_cases q : e.2.2 = 1
  · have j1 : idxA (.ref m) (.int e.1) h1 = some (.int 0) := by rw [j1, q]; rfl
    have b2 := attr_at (a := 2) (v := .ref w) I1 rfl
    have b0 := attr_at (a := 0) (v := .ref k) I1 rfl
    have j2 := idx_dict (v := .int e.1) K1 rfl
    rw [show dget (kE E) (.int e.1) = _ from dget_num _ _ E, find_num ok he] at j2
    have p1 := pop_dict (v := .str e.2.1) (r := .int e.1) W1 rfl (by rw [show dget (wE E) (.str e.2.1) = _ from dget_txt _ _ E, find_txt ok he]; rfl)
    rw [show ddel (wE E) (.str e.2.1) = wE (outE e.1 E) from ddel_txt _ e.1 e.2.1 E ok.num ok.txt ⟨e.2.2, he⟩] at p1
    have v1 := kd_pop W1
    generalize ew.map (· + 1) = ew' at p1
    have I2 : (h1.set w (.dict ew' (wE (outE e.1 E))))[s]? = _ := (get_ne D.sw.symm).trans I1
    have W2 : (h1.set w (.dict ew' (wE (outE e.1 E))))[w]? = _ := get_eq W1
    have K2 : (h1.set w (.dict ew' (wE (outE e.1 E))))[k]? = _ := (get_ne D.kw.symm).trans K1
    have M2 : (h1.set w (.dict ew' (wE (outE e.1 E))))[m]? = _ := (get_ne D.mw.symm).trans M1
    have len2 : (h1.set w (.dict ew' (wE (outE e.1 E)))).length = h.length := (List.length_set ..).trans len1
    have o2 : ∀ l, l ≠ m → l ≠ w → (h1.set w (.dict ew' (wE (outE e.1 E))))[l]? = h[l]? := fun l q z => (get_ne (Ne.symm z)).trans (o1 l q)
    generalize h1.set w (.dict ew' (wE (outE e.1 E))) = h2 at p1 I2 W2 K2 M2 len2 o2
    have c0 := attr_at (a := 0) (v := .ref k) I2 rfl
    have p2 := pop_dict (v := .int e.1) (r := .str e.2.1) K2 rfl (by rw [show dget (kE E) (.int e.1) = _ from dget_num _ _ E, find_num ok he]; rfl)
    rw [show ddel (kE E) (.int e.1) = kE (outE e.1 E) from ddel_num _ e.1 E ok.num] at p2
    have v2 := kd_pop K2
    generalize ek.map (· + 1) = ek' at p2
    have I3 : (h2.set k (.dict ek' (kE (outE e.1 E))))[s]? = _ := (get_ne D.sk.symm).trans I2
    have W3 : (h2.set k (.dict ek' (kE (outE e.1 E))))[w]? = _ := (get_ne D.kw).trans W2
    have K3 : (h2.set k (.dict ek' (kE (outE e.1 E))))[k]? = _ := get_eq K2
    have M3 : (h2.set k (.dict ek' (kE (outE e.1 E))))[m]? = _ := (get_ne D.km).trans M2
    have len3 : (h2.set k (.dict ek' (kE (outE e.1 E)))).length = h.length := (List.length_set ..).trans len2
    have o3 : ∀ l, l ≠ m → l ≠ w → l ≠ k → (h2.set k (.dict ek' (kE (outE e.1 E))))[l]? = h[l]? := fun l q z y => (get_ne (Ne.symm y)).trans (o2 l q z)
    generalize h2.set k (.dict ek' (kE (outE e.1 E))) = h3 at p2 I3 W3 K3 M3 len3 o3
    have d1 := attr_at (a := 1) (v := .ref m) I3 rfl
    have p3 := pop_dict (v := .int e.1) (r := .int (e.2.2 - 1)) M3 rfl (by rw [show dget (mE (setC e.1 (e.2.2 - 1) E)) (.int e.1) = _ from dget_num _ _ _, find_setC e.1 (e.2.2 - 1) rfl (find_num ok he)]; rfl)
    rw [show ddel (mE (setC e.1 (e.2.2 - 1) E)) (.int e.1) = mE (outE e.1 E) from (ddel_num _ e.1 _ (by rw [(setC_nums _ _ E).1]; exact ok.num)).trans (by rw [outE_setC]; rfl)] at p3
    have v3 := kd_pop M3
    generalize em'.map (· + 1) = em'' at p3
    have fe : freeE e E = outE e.1 E := if_pos q
    rw [fe]
    refine ⟨h3.set m (.dict em'' (mE (outE e.1 E))), ?_, ⟨(get_ne D.sm.symm).trans I3, ⟨ek', (get_ne D.km.symm).trans K3⟩, ⟨em'', get_eq M3⟩, ⟨ew', (get_ne D.mw).trans W3⟩⟩, (List.length_set ..).trans len3, fun l hl => ?_⟩
    · simp [fn_Stock_free, mt, hh, a1, i1, s1, b1, j1, b2, v1, b0, j2, p1, c0, v2, p2, d1, v3, p3]
    · simp only [List.mem_cons, not_or, List.not_mem_nil, not_false_eq_true, and_true] at hl
      rw [get_ne (Ne.symm hl.2.1)]
      exact o3 l hl.2.1 hl.2.2 hl.1
  · have q' : ¬ (e.2.2 - 1 = 0) := by omega
    have fe : freeE e E = setC e.1 (e.2.2 - 1) E := if_neg q
    rw [fe]
    refine ⟨h1, ?_, ⟨I1, ⟨ek, by rw [(setC_keys _ _ E).1]; exact K1⟩, ⟨em', M1⟩, ⟨ew, by rw [(setC_keys _ _ E).2]; exact W1⟩⟩, len1, fun l hl => ?_⟩
    · simp [fn_Stock_free, mt, hh, a1, i1, s1, b1, j1, q']
    · simp only [List.mem_cons, not_or, List.not_mem_nil, not_false_eq_true, and_true] at hl
      exact o1 l hl.2.1
end Mine.PL

/-! Law 05, plain: comprehensions that leave the heap alone (typed by hand). -/
set_option Elab.async false
namespace Mine.PL
theorem iterR_pure {ρ : Type} {xs : List AV} {get : Hp × List AV → Option (List AV)} {bad : ρ} {f : AV → Hp × List AV → It (Hp × List AV) ρ} (p : AV → Bool) (g : AV → AV) (h : Hp) (hg : ∀ acc, get (h, acc) = some xs)
    (hf : ∀ v ∈ xs, ∀ acc, acc.length < lim → f v (h, acc) = .go (h, if p v then acc ++ [g v] else acc)) : ∀ (k i : Nat) (acc : List AV), i + k = xs.length → acc.length + k ≤ lim → iterR get bad f (k + 1) i (h, acc) = .go (h, acc ++ ((xs.drop i).filter p).map g) := by
  intro k
  induction k with
  | zero =>
    intro i acc e _
    have : xs.length ≤ i := by omega
    rw [iterR, hg]
    simp only
    rw [List.getElem?_eq_none this, List.drop_eq_nil_of_le this]
    simp
  | succ k ih =>
    intro i acc e hl
    have hi : i < xs.length := by omega
    rw [iterR, hg]
    simp only
    rw [List.getElem?_eq_getElem hi]
    simp only
    rw [hf _ (List.getElem_mem hi) acc (by omega)]
    simp only
    rw [List.drop_eq_getElem_cons hi]
    cases hp : p xs[i] with
    | false =>
      simp only [hp, Bool.false_eq_true, if_false]
      rw [ih (i + 1) acc (by omega) (by omega), List.filter_cons_of_neg (by simp [hp])]
    | true =>
      simp only [hp, if_true]
      rw [ih (i + 1) (acc ++ [g xs[i]]) (by omega) (by rw [List.length_append]; simp; omega), List.filter_cons_of_pos hp]
      simp
theorem compF_pure {cs : Hp → Vs → Out Bool} {el : Hp → Vs → Out AV} {x : Nat} {vs : Vs} {h : Hp} {v w : AV} {b : Bool} (hc : cs h (vs.set x (some v)) = .ok b h) (he : b = true → el h (vs.set x (some v)) = .ok w h) (acc : List AV) (hl : acc.length < lim) : compF cs el x vs v (h, acc) = .go (h, if b then acc ++ [w] else acc) := by
  cases b with
  | false => simp only [compF, hc, Bool.false_eq_true, if_false]
  | true => simp only [compF, hc, he rfl, hl, if_true]
/-- a comprehension over a dict's keys -/
theorem comp_dict {cs : Hp → Vs → Out Bool} {el : Hp → Vs → Out AV} {x : Nat} {vs : Vs} {h : Hp} {t ep : Nat} {es : List (AV × AV)} (e : h[t]? = some (.dict (some ep) es)) (hl : es.length ≤ 100000) (p : AV → Bool) (g : AV → AV) (hc : ∀ v ∈ es.map (·.1), cs h (vs.set x (some v)) = .ok (p v) h)
    (he : ∀ v ∈ es.map (·.1), p v = true → el h (vs.set x (some v)) = .ok (g v) h) : compE false (srcA h (.ref t)) (compF cs el x vs) h = .ok (.ref h.length) (h ++ [.list (((es.map (·.1)).filter p).map g)]) := by
  have s : srcA h (.ref t) = some (.dict t ep es.length) := by
    show (match lst h[t]? with | some xs => some (Src.list t xs.length) | none => (match dct h[t]? with | some p => p.1.map fun ep => Src.dict t ep p.2.length | none => none)) = _
    rw [e]; rfl
  have lim1 : (100000 : Nat) ≤ lim := by decide
  have key := iterR_pure (ρ := Out AV) (bad := Out.fail) (get := fun st => getD t ep es.length st.1) (f := compF cs el x vs) p g h (xs := es.map (·.1)) (fun acc => by
      show getD t ep es.length h = some (es.map (·.1))
      unfold getD
      rw [e]
      exact if_pos ⟨rfl, rfl⟩) (fun v hv acc ha => compF_pure (hc v hv) (he v hv) acc ha) es.length 0 [] (by rw [List.length_map]; omega) (by simp; omega)
  rw [s]
  simp only [compE, iter, Bool.false_eq_true, if_false]
  rw [key]
  simp only [List.drop_zero, List.nil_append]
  exact if_pos (by rw [List.length_map]; exact Nat.le_trans (List.length_filter_le _ _) (by rw [List.length_map]; omega))
/-- a comprehension over a list -/
theorem comp_list {cs : Hp → Vs → Out Bool} {el : Hp → Vs → Out AV} {x : Nat} {vs : Vs} {h : Hp} {t : Nat} {xs : List AV} (e : h[t]? = some (.list xs)) (hl : xs.length ≤ 100000) (p : AV → Bool) (g : AV → AV) (hc : ∀ v ∈ xs, cs h (vs.set x (some v)) = .ok (p v) h)
    (he : ∀ v ∈ xs, p v = true → el h (vs.set x (some v)) = .ok (g v) h) : compE false (srcA h (.ref t)) (compF cs el x vs) h = .ok (.ref h.length) (h ++ [.list ((xs.filter p).map g)]) := by
  have s : srcA h (.ref t) = some (.list t xs.length) := by
    show (match lst h[t]? with | some xs => some (Src.list t xs.length) | none => (match dct h[t]? with | some p => p.1.map fun ep => Src.dict t ep p.2.length | none => none)) = _
    rw [e]; rfl
  have lim1 : (100000 : Nat) ≤ lim := by decide
  have key := iterR_pure (ρ := Out AV) (bad := Out.fail) (get := fun st => getL t st.1) (f := compF cs el x vs) p g h (xs := xs) (fun acc => by show lst h[t]? = _; rw [e]; rfl) (fun v hv acc ha => compF_pure (hc v hv) (he v hv) acc ha) xs.length 0 [] (by omega) (by simp; omega)
  rw [s]
  simp only [compE, iter, Bool.false_eq_true, if_false]
  rw [key]
  simp only [List.drop_zero, List.nil_append]
  exact if_pos (by rw [List.length_map]; exact Nat.le_trans (List.length_filter_le _ _) (by omega))
end Mine.PL

/-! Law 05, plain: needed (typed by hand). -/
set_option Elab.async false
namespace Mine.PL
/-- all that is older stands, but for S -/
noncomputable def KeepG (S : List Nat) (h h' : Hp) : Prop := h.length ≤ h'.length ∧ ∀ l, l < h.length → l ∉ S → h'[l]? = h[l]?
theorem app_get {h xs : Hp} {l : Nat} {o : AO} (e : h[l]? = some o) : (h ++ xs)[l]? = some o := by
  rw [List.getElem?_append_left (List.getElem?_eq_some_iff.mp e).1]; exact e
theorem SAt.app {h xs : Hp} {s k m w : Nat} {E : List En} {L : Int} (S : SAt h s k m w E L) : SAt (h ++ xs) s k m w E L :=
  ⟨app_get S.inst, let ⟨ep, e⟩ := S.kept; ⟨ep, app_get e⟩, let ⟨ep, e⟩ := S.many; ⟨ep, app_get e⟩, let ⟨ep, e⟩ := S.known; ⟨ep, app_get e⟩⟩
theorem PAt.app {h xs : Hp} {p t c : Nat} {E : List En} {L : Int} (S : PAt h p t c E L) : PAt (h ++ xs) p t c E L :=
  ⟨let ⟨ep, e⟩ := S.top; ⟨ep, app_get e⟩, let ⟨ep, e⟩ := S.texts; ⟨ep, app_get e⟩, let ⟨ep, e⟩ := S.counts; ⟨ep, app_get e⟩⟩
theorem eq_nil_no {h : Hp} {a b : Nat} {x : Int} (ea : h[a]? = some (.list [.int x])) (eb : h[b]? = some (.list [])) : cmpA .eq (.ref a) (.ref b) h = some false := by
  show eqA h (.ref a) (.ref b) = _
  have d1 : dat h (.ref a) = some (.list [.int x]) := by show (match lst h[a]? with | some xs => (mapO datF xs).map PySem.PyData.list | none => none) = _; rw [ea]; rfl
  have d2 : dat h (.ref b) = some (.list []) := by show (match lst h[b]? with | some xs => (mapO datF xs).map PySem.PyData.list | none => none) = _; rw [eb]; rfl
  unfold eqA
  rw [d1, d2]
  rfl
theorem eq_nil_yes {h : Hp} {a b : Nat} (ea : h[a]? = some (.list [])) (eb : h[b]? = some (.list [])) : cmpA .eq (.ref a) (.ref b) h = some true := by
  show eqA h (.ref a) (.ref b) = _
  have d1 : dat h (.ref a) = some (.list []) := by show (match lst h[a]? with | some xs => (mapO datF xs).map PySem.PyData.list | none => none) = _; rw [ea]; rfl
  have d2 : dat h (.ref b) = some (.list []) := by show (match lst h[b]? with | some xs => (mapO datF xs).map PySem.PyData.list | none => none) = _; rw [eb]; rfl
  unfold eqA
  rw [d1, d2]
  rfl
variable {n : Nat} {h : Hp} {s k m w p t c : Nat} {E : List En} {L : Int}
/-- the numbers that hold a text -/
theorem held_is (B : PAt h p t c E L) (ok : EOk E L) (hE : E.length < 1000) (x : List Nat) (st : AV) (r : Option AV) : ev ⟨prog, false, callF prog n⟩ (.comp (.var 4) 4 (.idx (.var 1) (.str tTexts)) [.cmp (.idx (.idx (.var 1) (.str tTexts)) (.var 4)) .eq (.var 2)]) h [some st, some (.ref p), some (.str x), none, r] =
    .ok (.ref h.length) (h ++ [.list ((E.filter fun e => e.2.1 == x).map fun e => .int e.1)]) := by
  obtain ⟨ep, e⟩ := B.texts
  have b1 := B.idx_texts
  let q : AV → Bool := fun v => match v with
    | .int i => (E.find? fun e => e.1 == i).any fun e => e.2.1 == x
    | _ => false
  have mem : ∀ v ∈ (kE E).map (·.1), ∃ e ∈ E, v = .int e.1 := fun v hv => by
    unfold kE at hv
    rw [List.map_map] at hv
    obtain ⟨e, he, rfl⟩ := List.mem_map.mp hv
    exact ⟨e, he, rfl⟩
  have key := comp_dict (cs := evConds ⟨prog, false, callF prog n⟩ [.cmp (.idx (.idx (.var 1) (.str tTexts)) (.var 4)) .eq (.var 2)]) (el := ev ⟨prog, false, callF prog n⟩ (.var 4)) (x := 4) (vs := [some st, some (.ref p), some (.str x), none, r]) e (by unfold kE; rw [List.length_map]; omega) q id
    (fun v hv => by
      obtain ⟨d, hd, rfl⟩ := mem v hv
      have i1 := idx_dict (v := .int d.1) e rfl
      rw [show dget (kE E) (.int d.1) = _ from dget_num _ _ E, find_num ok hd] at i1
      have hq : q (.int d.1) = decide (d.2.1 = x) := by
        show ((E.find? fun e => e.1 == d.1).any fun e => e.2.1 == x) = _
        rw [find_num ok hd]
        show (d.2.1 == x) = _
        by_cases z : d.2.1 = x <;> simp [z]
      rw [hq]
      by_cases z : d.2.1 = x <;> simp [b1, i1, z])
    (fun v hv _ => by simp)
  have fin : (((kE E).map (·.1)).filter q).map id = (E.filter fun e => e.2.1 == x).map fun e => AV.int e.1 := by
    rw [List.map_id]
    have : ∀ F : List En, (∀ e ∈ F, e ∈ E) → ((kE F).map (·.1)).filter q = (F.filter fun e => e.2.1 == x).map fun e => AV.int e.1 := fun F => by
      induction F with
      | nil => intro _; rfl
      | cons d r ih =>
        intro hF
        have hd := hF d (List.mem_cons_self ..)
        have hq : q (.int d.1) = (d.2.1 == x) := by
          show ((E.find? fun e => e.1 == d.1).any fun e => e.2.1 == x) = _
          rw [find_num ok hd]; rfl
        have ih := ih fun e he => hF e (List.mem_cons_of_mem _ he)
        show ((AV.int d.1) :: (kE r).map (·.1)).filter q = _
        cases z : d.2.1 == x with
        | false => rw [List.filter_cons_of_neg (by rw [hq, z]; decide), List.filter_cons_of_neg (by rw [z]; decide), ih]
        | true => rw [List.filter_cons_of_pos (by rw [hq, z]), List.filter_cons_of_pos (by rw [z]), ih]; rfl
    exact this E fun _ q => q
  rw [fin] at key
  simp only [ev_comp, ev_idx, ev_var, ev_str, slot1, bind_ok, b1, someA_some]
  exact key
end Mine.PL

/-! Law 05, plain: needed, a text that is kept (typed by hand). -/
set_option Elab.async false
namespace Mine.PL
structure Dis7 (s k m w p t c : Nat) : Prop where
  d : Dis s k m w
  fp : s ≠ p ∧ k ≠ p ∧ m ≠ p ∧ w ≠ p
  ft : s ≠ t ∧ k ≠ t ∧ m ≠ t ∧ w ≠ t
  fc : s ≠ c ∧ k ≠ c ∧ m ≠ c ∧ w ≠ c
  pt : p ≠ t
  pc : p ≠ c
  tc : t ≠ c
variable {n : Nat} {h : Hp} {s k m w p t c : Nat} {E : List En} {L : Int}
theorem SAt.set {o : AO} {l : Nat} (S : SAt h s k m w E L) (q : s ≠ l ∧ k ≠ l ∧ m ≠ l ∧ w ≠ l) : SAt (h.set l o) s k m w E L :=
  ⟨(get_ne q.1.symm).trans S.inst, let ⟨ep, e⟩ := S.kept; ⟨ep, (get_ne q.2.1.symm).trans e⟩, let ⟨ep, e⟩ := S.many; ⟨ep, (get_ne q.2.2.1.symm).trans e⟩, let ⟨ep, e⟩ := S.known; ⟨ep, (get_ne q.2.2.2.symm).trans e⟩⟩
theorem PAt.keep {h' : Hp} (B : PAt h p t c E L) (q : h'[p]? = h[p]? ∧ h'[t]? = h[t]? ∧ h'[c]? = h[c]?) : PAt h' p t c E L :=
  ⟨let ⟨ep, e⟩ := B.top; ⟨ep, q.1.trans e⟩, let ⟨ep, e⟩ := B.texts; ⟨ep, q.2.1.trans e⟩, let ⟨ep, e⟩ := B.counts; ⟨ep, q.2.2.trans e⟩⟩
theorem filter_txt (ok : EOk E L) {e : En} (he : e ∈ E) : (E.filter fun x => x.2.1 == e.2.1) = [e] := by
  have hn := ok.txt
  clear ok
  induction E with
  | nil => cases he
  | cons d r ih =>
    rw [List.map_cons, List.nodup_cons] at hn
    rcases List.mem_cons.mp he with rfl | he
    · rw [List.filter_cons_of_pos (by simp)]
      congr 1
      rw [List.filter_eq_nil_iff]
      intro x hx q
      exact hn.1 ((beq_iff_eq.mp q) ▸ List.mem_map_of_mem (f := fun e : En => e.2.1) hx)
    · have : d.2.1 ≠ e.2.1 := fun q => hn.1 (q ▸ List.mem_map_of_mem (f := fun e : En => e.2.1) he)
      rw [List.filter_cons_of_neg (by simpa using this)]
      exact ih he hn.2
theorem EOk.setC (ok : EOk E L) (i x : Int) (hx : 1 ≤ x) : EOk (setC i x E) L := by
  refine ⟨by rw [(setC_nums i x E).1]; exact ok.num, by rw [(setC_nums i x E).2]; exact ok.txt, fun e he => ?_, fun e he => ?_, ok.pos⟩
  · obtain ⟨d, hd, rfl⟩ := List.mem_map.mp he
    have := ok.rng d hd
    by_cases z : d.1 = i
    · rw [if_pos z]; exact this
    · rw [if_neg z]; exact this
  · obtain ⟨d, hd, rfl⟩ := List.mem_map.mp he
    by_cases z : d.1 = i
    · rw [if_pos z]; exact hx
    · rw [if_neg z]; exact ok.cnt d hd
theorem needed_old (D : Dis7 s k m w p t c) (S : SAt h s k m w E L) (B : PAt h p t c E L) (ok : EOk E L) (hE : E.length < 1000) {e : En} (he : e ∈ E) :
    ∃ h', callF prog (n + 3) false 17 [.ref s, .ref p, .str e.2.1] h = .ok (.bool true) h' ∧ SAt h' s k m w (setC e.1 (e.2.2 + 1) E) L ∧ PAt h' p t c (setC e.1 (e.2.2 + 1) E) L ∧ KeepG [m, c] h h' := by
  rw [callF_def (fn := fn_l_needed) rfl rfl rfl]
  have hh := held_is (n := n + 2) B ok hE e.2.1 (.ref s) none
  rw [filter_txt ok he] at hh
  -- the heap with the two new lists
  have S1 := S.app (xs := [.list [.int e.1]] ++ [.list []])
  have B1 := B.app (xs := [.list [.int e.1]] ++ [.list []])
  rw [← List.append_assoc] at S1 B1
  have x1 : (h ++ [AO.list [.int e.1]] ++ [AO.list []])[h.length]? = some (.list [.int e.1]) := by simp
  have x2 : (h ++ [AO.list [.int e.1]] ++ [AO.list []])[h.length + 1]? = some (.list []) := by simp
  have c1 := eq_nil_no x1 x2
  have n0 : newList [] (h ++ [AO.list [.int e.1]]) = .ok (.ref (h.length + 1)) (h ++ [AO.list [.int e.1]] ++ [AO.list []]) := by
    rw [newList_eq _ _ (Nat.zero_le _)]; simp
  have len1 : (h ++ [AO.list [.int e.1]] ++ [AO.list []]).length = h.length + 2 := by simp
  have o1 : ∀ l, l < h.length → (h ++ [AO.list [.int e.1]] ++ [AO.list []])[l]? = h[l]? := fun l hl => by
    rw [List.append_assoc, List.getElem?_append_left hl]
  have lc : c < h.length := let ⟨_, q⟩ := B.counts; (List.getElem?_eq_some_iff.mp q).1
  generalize h ++ [AO.list [.int e.1]] ++ [AO.list []] = h1 at S1 B1 x1 x2 c1 n0 len1 o1
  have i0 := idx_list h1 x1 (i := 0) (k := 0) rfl rfl
  obtain ⟨ec, hc⟩ := B1.counts
  have g1 := get_dict (v := .int e.1) (d := .int 0) hc rfl
  rw [get_count, show countE E (.int e.1) = e.2.2 by show (Option.map _ (E.find? fun x => x.1 == e.1)).getD 0 = _; rw [find_num ok he]; rfl] at g1
  have hl : (mE E).length < lim := by unfold mE; rw [List.length_map]; exact Nat.lt_trans hE (by decide)
  have s1 := set_dict (i := .int e.1) (v := .int (e.2.2 + 1)) hc rfl hl
  rw [dput_cnt _ _ E ok.num ⟨e, he, rfl⟩] at s1
  generalize (if (dget (mE E) (.int e.1)).isSome then ec else ec.map (· + 1)) = ec' at s1
  have S2 := S1.set (o := .dict ec' (mE (setC e.1 (e.2.2 + 1) E))) D.fc
  have C2 : (h1.set c (.dict ec' (mE (setC e.1 (e.2.2 + 1) E))))[c]? = _ := get_eq hc
  have P2 : (h1.set c (.dict ec' (mE (setC e.1 (e.2.2 + 1) E))))[p]? = h1[p]? := get_ne D.pc.symm
  have T2 : (h1.set c (.dict ec' (mE (setC e.1 (e.2.2 + 1) E))))[t]? = h1[t]? := get_ne D.tc.symm
  have X2 : (h1.set c (.dict ec' (mE (setC e.1 (e.2.2 + 1) E))))[h.length]? = some (.list [.int e.1]) := (get_ne (Nat.ne_of_lt lc)).trans x1
  have len2 : (h1.set c (.dict ec' (mE (setC e.1 (e.2.2 + 1) E)))).length = h.length + 2 := (List.length_set ..).trans len1
  have o2 : ∀ l, l < h.length → l ≠ c → (h1.set c (.dict ec' (mE (setC e.1 (e.2.2 + 1) E))))[l]? = h[l]? := fun l hl q => (get_ne (Ne.symm q)).trans (o1 l hl)
  generalize h1.set c (.dict ec' (mE (setC e.1 (e.2.2 + 1) E))) = h2 at s1 S2 C2 P2 T2 X2 len2 o2
  have mt := meth_at (m := 0) (f := 1) S2.inst
  obtain ⟨h3, e3, S3, K3⟩ := need_old (n := n + 1) D.d S2 ok hE he
  have lm : m < h.length := let ⟨_, q⟩ := S.many; (List.getElem?_eq_some_iff.mp q).1
  have k3 : ∀ l, l ≠ m → h3[l]? = h2[l]? := fun l q => K3.2 l (by simpa using q)
  have i3 := idx_list h3 (i := 0) (k := 0) ((k3 _ (Nat.ne_of_gt lm)).trans X2) rfl rfl
  have al := alike_int (n := n) (hd := false) (h := h3) e.1 e.1
  refine ⟨h3, ?_, S3, ?_, by rw [K3.1, len2]; omega, fun l hl q => ?_⟩
  · simp [fn_l_needed, hh, n0, c1, i0, B1.idx_counts, kd_get hc, g1, s1, mt, e3, i3, al, -newList_eq]
  · obtain ⟨ep, q1⟩ := B1.top
    obtain ⟨et, q2⟩ := B1.texts
    exact ⟨⟨ep, (k3 p D.fp.2.2.1.symm).trans (P2.trans q1)⟩, ⟨et, by rw [(setC_keys _ _ E).1]; exact (k3 t D.ft.2.2.1.symm).trans (T2.trans q2)⟩, ⟨ec', (k3 c D.fc.2.2.1.symm).trans C2⟩⟩
  · simp only [List.mem_cons, not_or, List.not_mem_nil, not_false_eq_true, and_true] at q
    exact (k3 l q.1).trans (o2 l hl q.2)
end Mine.PL

/-! Law 05, plain: needed, a new text (typed by hand). -/
set_option Elab.async false
namespace Mine.PL
variable {n : Nat} {h : Hp} {s k m w p t c : Nat} {E : List En} {L : Int}
theorem EOk.add (ok : EOk E L) (x : List Nat) (hx : ∀ e ∈ E, e.2.1 ≠ x) : EOk (E ++ [(L + 1, x, 1)]) (L + 1) := by
  have hL : ∀ e ∈ E, e.1 ≠ L + 1 := fun e he q => by have := (ok.rng e he).2; omega
  refine ⟨?_, ?_, fun e he => ?_, fun e he => ?_, by have := ok.pos; omega⟩
  · rw [List.map_append, List.nodup_append]
    refine ⟨ok.num, by simp, fun a ha b hb q => ?_⟩
    obtain ⟨e, he, rfl⟩ := List.mem_map.mp ha
    have : b = L + 1 := by simpa using hb
    exact hL e he (q.trans this)
  · rw [List.map_append, List.nodup_append]
    refine ⟨ok.txt, by simp, fun a ha b hb q => ?_⟩
    obtain ⟨e, he, rfl⟩ := List.mem_map.mp ha
    have : b = x := by simpa using hb
    exact hx e he (q.trans this)
  · rcases List.mem_append.mp he with he | he
    · have := ok.rng e he; omega
    · rw [List.mem_singleton.mp he]; have := ok.pos; exact ⟨by show 1 ≤ L + 1; omega, Int.le_refl _⟩
  · rcases List.mem_append.mp he with he | he
    · exact ok.cnt e he
    · rw [List.mem_singleton.mp he]; exact Int.le_refl _
theorem needed_new (D : Dis7 s k m w p t c) (S : SAt h s k m w E L) (B : PAt h p t c E L) (ok : EOk E L) (hE : E.length < 1000) (x : List Nat) (hx : ∀ e ∈ E, e.2.1 ≠ x) :
    ∃ h', callF prog (n + 3) false 17 [.ref s, .ref p, .str x] h = .ok (.bool true) h' ∧ SAt h' s k m w (E ++ [(L + 1, x, 1)]) (L + 1) ∧ PAt h' p t c (E ++ [(L + 1, x, 1)]) (L + 1) ∧ KeepG [s, k, m, w, p, t, c] h h' := by
  rw [callF_def (fn := fn_l_needed) rfl rfl rfl]
  have hL : ∀ e ∈ E, e.1 ≠ L + 1 := fun e he q => by have := (ok.rng e he).2; omega
  have hh := held_is (n := n + 2) B ok hE x (.ref s) none
  rw [List.filter_eq_nil_iff.mpr fun e he => by simpa using hx e he] at hh
  have S1 := S.app (xs := [.list []] ++ [.list []])
  have B1 := B.app (xs := [.list []] ++ [.list []])
  rw [← List.append_assoc] at S1 B1
  have x1 : (h ++ [AO.list []] ++ [AO.list []])[h.length]? = some (.list []) := by simp
  have x2 : (h ++ [AO.list []] ++ [AO.list []])[h.length + 1]? = some (.list []) := by simp
  have c1 := eq_nil_yes x1 x2
  have n0 : newList [] (h ++ [AO.list []]) = .ok (.ref (h.length + 1)) (h ++ [AO.list []] ++ [AO.list []]) := by
    rw [newList_eq _ _ (Nat.zero_le _)]; simp
  have len1 : (h ++ [AO.list []] ++ [AO.list []]).length = h.length + 2 := by simp
  have o1 : ∀ l, l < h.length → (h ++ [AO.list []] ++ [AO.list []])[l]? = h[l]? := fun l hl => by
    rw [List.append_assoc, List.getElem?_append_left hl]
  have lc : c < h.length := let ⟨_, q⟩ := B.counts; (List.getElem?_eq_some_iff.mp q).1
  have lt : t < h.length := let ⟨_, q⟩ := B.texts; (List.getElem?_eq_some_iff.mp q).1
  have lp : p < h.length := let ⟨_, q⟩ := B.top; (List.getElem?_eq_some_iff.mp q).1
  have hh : ev ⟨prog, false, callF prog (n + 2)⟩ (.comp (.var 4) 4 (.idx (.var 1) (.str tTexts)) [.cmp (.idx (.idx (.var 1) (.str tTexts)) (.var 4)) .eq (.var 2)]) h [some (.ref s), some (.ref p), some (.str x), none, none] = .ok (.ref h.length) (h ++ [AO.list []]) := hh
  generalize h ++ [AO.list []] ++ [AO.list []] = h1 at S1 B1 x1 x2 c1 n0 len1 o1
  -- last
  obtain ⟨ep, hp⟩ := B1.top
  obtain ⟨et, ht⟩ := B1.texts
  obtain ⟨ec, hc⟩ := B1.counts
  have s1 := set_dict (i := .str tLast) (v := .int (L + 1)) hp rfl (show (3 : Nat) < lim by decide)
  have s1 : setItemA (.ref p) (.str tLast) (.int (L + 1)) h1 = some (h1.set p (.dict ep (pE (L + 1) t c))) := s1
  have S2 := S1.set (o := .dict ep (pE (L + 1) t c)) D.fp
  have P2 : (h1.set p (.dict ep (pE (L + 1) t c)))[p]? = _ := get_eq hp
  have T2 : (h1.set p (.dict ep (pE (L + 1) t c)))[t]? = _ := (get_ne D.pt).trans ht
  have C2 : (h1.set p (.dict ep (pE (L + 1) t c)))[c]? = _ := (get_ne D.pc).trans hc
  have len2 : (h1.set p (.dict ep (pE (L + 1) t c))).length = h.length + 2 := (List.length_set ..).trans len1
  have o2 : ∀ l, l < h.length → l ≠ p → (h1.set p (.dict ep (pE (L + 1) t c)))[l]? = h[l]? := fun l hl q => (get_ne (Ne.symm q)).trans (o1 l hl)
  generalize h1.set p (.dict ep (pE (L + 1) t c)) = h2 at s1 S2 P2 T2 C2 len2 o2
  have B2 : PAt h2 p t c E (L + 1) := ⟨⟨ep, P2⟩, ⟨et, T2⟩, ⟨ec, C2⟩⟩
  -- the new list
  have n1 : newList [.int (L + 1)] h2 = .ok (.ref (h.length + 2)) (h2 ++ [.list [.int (L + 1)]]) := by rw [newList_eq h2 [.int (L + 1)] (show (1 : Nat) ≤ lim by decide), len2]
  have S3 := S2.app (xs := [.list [.int (L + 1)]])
  have B3 := B2.app (xs := [.list [.int (L + 1)]])
  have x3 : (h2 ++ [AO.list [.int (L + 1)]])[h.length + 2]? = some (.list [.int (L + 1)]) := by rw [← len2]; simp
  have len3 : (h2 ++ [AO.list [.int (L + 1)]]).length = h.length + 3 := by rw [List.length_append, len2]; rfl
  have o3 : ∀ l, l < h.length → l ≠ p → (h2 ++ [AO.list [.int (L + 1)]])[l]? = h[l]? := fun l hl q => by
    rw [List.getElem?_append_left (by omega)]; exact o2 l hl q
  have T3 : (h2 ++ [AO.list [.int (L + 1)]])[t]? = _ := app_get T2
  have C3 : (h2 ++ [AO.list [.int (L + 1)]])[c]? = _ := app_get C2
  have P3 : (h2 ++ [AO.list [.int (L + 1)]])[p]? = _ := app_get P2
  generalize h2 ++ [AO.list [.int (L + 1)]] = h3 at n1 S3 B3 x3 len3 o3 T3 C3 P3
  have i3 := idx_list h3 x3 (i := 0) (k := 0) rfl rfl
  -- texts
  have l2 : (kE E).length < lim := by unfold kE; rw [List.length_map]; exact Nat.lt_trans hE (by decide)
  have l3 : (mE E).length < lim := by unfold mE; rw [List.length_map]; exact Nat.lt_trans hE (by decide)
  have fnn : (E.find? fun e => e.1 == L + 1) = none := List.find?_eq_none.mpr fun e he => by simpa using hL e he
  have s3 := set_dict (i := .int (L + 1)) (v := .str x) T3 rfl l2
  rw [show dput (kE E) (.int (L + 1)) (.str x) = kE (E ++ [(L + 1, x, 1)]) from (dput_num_new _ _ _ E hL).trans (mapE_snoc _ E (L + 1, x, 1)).symm, show dget (kE E) (.int (L + 1)) = none from (dget_num _ _ E).trans (by rw [fnn]; rfl)] at s3
  have s3 : setItemA (.ref t) (.int (L + 1)) (.str x) h3 = some (h3.set t (.dict (some (et + 1)) (kE (E ++ [(L + 1, x, 1)])))) := s3
  have S4 := S3.set (o := .dict (some (et + 1)) (kE (E ++ [(L + 1, x, 1)]))) D.ft
  have T4 : (h3.set t (.dict (some (et + 1)) (kE (E ++ [(L + 1, x, 1)]))))[t]? = _ := get_eq T3
  have C4 : (h3.set t (.dict (some (et + 1)) (kE (E ++ [(L + 1, x, 1)]))))[c]? = _ := (get_ne D.tc).trans C3
  have P4 : (h3.set t (.dict (some (et + 1)) (kE (E ++ [(L + 1, x, 1)]))))[p]? = _ := (get_ne D.pt.symm).trans P3
  have x4 : (h3.set t (.dict (some (et + 1)) (kE (E ++ [(L + 1, x, 1)]))))[h.length + 2]? = _ := (get_ne (by omega)).trans x3
  have len4 : (h3.set t (.dict (some (et + 1)) (kE (E ++ [(L + 1, x, 1)])))).length = h.length + 3 := (List.length_set ..).trans len3
  have o4 : ∀ l, l < h.length → l ≠ p → l ≠ t → (h3.set t (.dict (some (et + 1)) (kE (E ++ [(L + 1, x, 1)]))))[l]? = h[l]? := fun l hl q z => (get_ne (Ne.symm z)).trans (o3 l hl q)
  generalize h3.set t (.dict (some (et + 1)) (kE (E ++ [(L + 1, x, 1)]))) = h4 at s3 S4 T4 C4 P4 x4 len4 o4
  have i4 := idx_list h4 x4 (i := 0) (k := 0) rfl rfl
  have ic4 : idxA (.ref p) (.str tCounts) h4 = some (.ref c) := by rw [idx_dict P4 rfl]; rfl
  -- counts
  have g4 := get_dict (v := .int (L + 1)) (d := .int 0) C4 rfl
  have dn : dget (mE E) (.int (L + 1)) = none := (dget_num _ _ E).trans (by rw [fnn]; rfl)
  rw [dn] at g4
  have s4 := set_dict (i := .int (L + 1)) (v := .int 1) C4 rfl l3
  rw [show dput (mE E) (.int (L + 1)) (.int 1) = mE (E ++ [(L + 1, x, 1)]) from (dput_num_new _ _ _ E hL).trans (mapE_snoc _ E (L + 1, x, 1)).symm] at s4
  generalize (if (dget (mE E) (.int (L + 1))).isSome then ec else ec.map (· + 1)) = ec' at s4
  have S5 := S4.set (o := .dict ec' (mE (E ++ [(L + 1, x, 1)]))) D.fc
  have T5 : (h4.set c (.dict ec' (mE (E ++ [(L + 1, x, 1)]))))[t]? = _ := (get_ne D.tc.symm).trans T4
  have C5 : (h4.set c (.dict ec' (mE (E ++ [(L + 1, x, 1)]))))[c]? = _ := get_eq C4
  have P5 : (h4.set c (.dict ec' (mE (E ++ [(L + 1, x, 1)]))))[p]? = _ := (get_ne D.pc.symm).trans P4
  have x5 : (h4.set c (.dict ec' (mE (E ++ [(L + 1, x, 1)]))))[h.length + 2]? = _ := (get_ne (by omega)).trans x4
  have len5 : (h4.set c (.dict ec' (mE (E ++ [(L + 1, x, 1)])))).length = h.length + 3 := (List.length_set ..).trans len4
  have o5 : ∀ l, l < h.length → l ≠ p → l ≠ t → l ≠ c → (h4.set c (.dict ec' (mE (E ++ [(L + 1, x, 1)]))))[l]? = h[l]? := fun l hl q z y => (get_ne (Ne.symm y)).trans (o4 l hl q z)
  generalize h4.set c (.dict ec' (mE (E ++ [(L + 1, x, 1)]))) = h5 at s4 S5 T5 C5 P5 x5 len5 o5
  have mt := meth_at (m := 0) (f := 1) S5.inst
  obtain ⟨h6, e6, S6, K6⟩ := need_new (n := n + 1) D.d S5 ok hE x hx
  have k6 : ∀ l, s ≠ l ∧ k ≠ l ∧ m ≠ l ∧ w ≠ l → h6[l]? = h5[l]? := fun l q => K6.2 l (by simp [Ne.symm q.1, Ne.symm q.2.1, Ne.symm q.2.2.1, Ne.symm q.2.2.2])
  have ls : s < h.length := (List.getElem?_eq_some_iff.mp S.inst).1
  have lk : k < h.length := let ⟨_, q⟩ := S.kept; (List.getElem?_eq_some_iff.mp q).1
  have lm : m < h.length := let ⟨_, q⟩ := S.many; (List.getElem?_eq_some_iff.mp q).1
  have lw : w < h.length := let ⟨_, q⟩ := S.known; (List.getElem?_eq_some_iff.mp q).1
  have i6 := idx_list h6 (i := 0) (k := 0) ((k6 _ ⟨by omega, by omega, by omega, by omega⟩).trans x5) rfl rfl
  have al := alike_int (n := n) (hd := false) (h := h6) (L + 1) (L + 1)
  have il1 := B1.idx_last
  have il2 := B2.idx_last
  have it3 := B3.idx_texts
  refine ⟨h6, ?_, S6, ⟨⟨ep, (k6 p D.fp).trans P5⟩, ⟨et + 1, (k6 t D.ft).trans T5⟩, ⟨ec', (k6 c D.fc).trans C5⟩⟩, by rw [K6.1, len5]; omega, fun l hl q => ?_⟩
  · simp [fn_l_needed, hh, n0, c1, il1, s1, il2, n1, i3, it3, s3, i4, ic4, kd_get C4, g4, s4, mt, e6, i6, al, -newList_eq]
  · simp only [List.mem_cons, not_or, List.not_mem_nil, not_false_eq_true, and_true] at q
    exact (k6 l ⟨Ne.symm q.1, Ne.symm q.2.1, Ne.symm q.2.2.1, Ne.symm q.2.2.2.1⟩).trans (o5 l hl q.2.2.2.2.1 q.2.2.2.2.2.1 q.2.2.2.2.2.2)
end Mine.PL

/-! Law 05, plain: freed (typed by hand). -/
set_option Elab.async false
namespace Mine.PL
variable {n : Nat} {h : Hp} {s k m w p t c : Nat} {E : List En} {L : Int}
theorem alike_not : callF prog (n + 2) false 12 [.tup [.str tNot, .bool true], .tup [.str tNot, .bool true]] h = .ok (.bool true) h := by
  refine alike_tup (m := n + 1) _ _ rfl (by decide) fun k x y ex ey => ?_
  match k, ex, ey with
  | 0, ex, ey => cases ex; cases ey; rw [alike_str]; simp
  | 1, ex, ey => cases ex; cases ey; rw [alike_true]; rfl
  | k + 2, ex, _ => cases ex
theorem alike_told_none : callF prog (n + 2) false 12 [.tup [.str tTold, .none], .tup [.str tTold, .none]] h = .ok (.bool true) h := by
  refine alike_tup (m := n + 1) _ _ rfl (by decide) fun k x y ex ey => ?_
  match k, ex, ey with
  | 0, ex, ey => cases ex; cases ey; rw [alike_str]; simp
  | 1, ex, ey => cases ex; cases ey; rw [alike_none]; rfl
  | k + 2, ex, _ => cases ex
theorem alike_told_str (x : List Nat) : callF prog (n + 2) false 12 [.tup [.str tTold, .str x], .tup [.str tTold, .str x]] h = .ok (.bool true) h := by
  refine alike_tup (m := n + 1) _ _ rfl (by simp) fun k x y ex ey => ?_
  match k, ex, ey with
  | 0, ex, ey => cases ex; cases ey; rw [alike_str]; simp
  | 1, ex, ey => cases ex; cases ey; rw [alike_str]; simp
  | k + 2, ex, _ => cases ex
theorem freed_no (S : SAt h s k m w E L) (B : PAt h p t c E L) (i : Int) (hi : (E.find? fun e => e.1 == i) = none) : callF prog (n + 5) false 18 [.ref s, .ref p, .int i] h = .ok (.bool true) (h ++ [.list [.str tNot]]) := by
  rw [callF_def (fn := fn_l_freed) rfl rfl rfl]
  have z : hasE E (.int i) = false := by show (E.find? fun e => e.1 == i).isSome = false; rw [hi]; rfl
  have a1 := answer_exc (n := n + 2) S.inst 0 (by decide) (.int i) (free_no (n := n) S (.int i) rfl z)
  have B1 := B.app (xs := [.list [.str tNot]])
  obtain ⟨et, ht⟩ := B1.texts
  have n1 := notin_dict (v := .int i) ht rfl
  rw [show dget (kE E) (.int i) = _ from dget_num _ _ E, hi] at n1
  have al := alike_not (n := n + 2) (h := h ++ [.list [.str tNot]])
  have it := B1.idx_texts
  have a1 : callF prog (n + 4) false 14 [.ref s, .int 0, .int i] h = _ := a1
  simp [fn_l_freed, a1, it, n1, al, tup2]
end Mine.PL

/-! Law 05, plain: freed, a number that is kept (typed by hand). -/
set_option Elab.async false
namespace Mine.PL
variable {n : Nat} {h : Hp} {s k m w p t c : Nat} {E : List En} {L : Int}
theorem freed_yes (D : Dis7 s k m w p t c) (S : SAt h s k m w E L) (B : PAt h p t c E L) (ok : EOk E L) (hE : E.length < 1000) {e : En} (he : e ∈ E) :
    ∃ h', callF prog (n + 5) false 18 [.ref s, .ref p, .int e.1] h = .ok (.bool true) h' ∧ SAt h' s k m w (freeE e E) L ∧ PAt h' p t c (freeE e E) L ∧ KeepG [k, m, w, t, c] h h' := by
  rw [callF_def (fn := fn_l_freed) rfl rfl rfl]
  obtain ⟨h1, e1, S1, K1⟩ := free_is (n := n) D.d S ok hE he
  have a1 : callF prog (n + 4) false 14 [.ref s, .int 0, .int e.1] h = _ := answer_ok (n := n + 3) S.inst 0 (by decide) (.int e.1) .none e1
  have k1 : ∀ l, k ≠ l → m ≠ l → w ≠ l → h1[l]? = h[l]? := fun l q1 q2 q3 => K1.2 l (by simp [Ne.symm q1, Ne.symm q2, Ne.symm q3])
  have B1 : PAt h1 p t c E L := B.keep ⟨k1 p D.fp.2.1 D.fp.2.2.1 D.fp.2.2.2, k1 t D.ft.2.1 D.ft.2.2.1 D.ft.2.2.2, k1 c D.fc.2.1 D.fc.2.2.1 D.fc.2.2.2⟩
  obtain ⟨ep, hp⟩ := B1.top
  obtain ⟨et, ht⟩ := B1.texts
  obtain ⟨ec, hc⟩ := B1.counts
  have it := B1.idx_texts
  have ic := B1.idx_counts
  have n1 := notin_dict (v := .int e.1) ht rfl
  rw [show dget (kE E) (.int e.1) = _ from dget_num _ _ E, find_num ok he] at n1
  have i1 := idx_dict (v := .int e.1) hc rfl
  rw [show dget (mE E) (.int e.1) = _ from dget_num _ _ E, find_num ok he] at i1
  have hl : (mE E).length < lim := by unfold mE; rw [List.length_map]; exact Nat.lt_trans hE (by decide)
  have s1 := set_dict (i := .int e.1) (v := .int (e.2.2 - 1)) hc rfl hl
  rw [dput_cnt _ _ E ok.num ⟨e, he, rfl⟩] at s1
  generalize (if (dget (mE E) (.int e.1)).isSome then ec else ec.map (· + 1)) = ec' at s1
  have S2 := S1.set (o := .dict ec' (mE (setC e.1 (e.2.2 - 1) E))) D.fc
  have C2 : (h1.set c (.dict ec' (mE (setC e.1 (e.2.2 - 1) E))))[c]? = _ := get_eq hc
  have P2 : (h1.set c (.dict ec' (mE (setC e.1 (e.2.2 - 1) E))))[p]? = _ := (get_ne D.pc.symm).trans hp
  have T2 : (h1.set c (.dict ec' (mE (setC e.1 (e.2.2 - 1) E))))[t]? = _ := (get_ne D.tc.symm).trans ht
  have len2 : (h1.set c (.dict ec' (mE (setC e.1 (e.2.2 - 1) E)))).length = h.length := (List.length_set ..).trans K1.1
  have o2 : ∀ l, k ≠ l → m ≠ l → w ≠ l → l ≠ c → (h1.set c (.dict ec' (mE (setC e.1 (e.2.2 - 1) E))))[l]? = h[l]? := fun l q1 q2 q3 q => (get_ne (Ne.symm q)).trans (k1 l q1 q2 q3)
  generalize h1.set c (.dict ec' (mE (setC e.1 (e.2.2 - 1) E))) = h2 at s1 S2 C2 P2 T2 len2 o2
  have ic2 : idxA (.ref p) (.str tCounts) h2 = some (.ref c) := by rw [idx_dict P2 rfl]; rfl
  have j1 := idx_dict (v := .int e.1) C2 rfl
  rw [show dget (mE (setC e.1 (e.2.2 - 1) E)) (.int e.1) = _ from dget_num _ _ _, find_setC e.1 (e.2.2 - 1) rfl (find_num ok he)] at j1
  by_cases q : e.2.2 = 1
  · have j1 : idxA (.ref c) (.int e.1) h2 = some (.int 0) := by rw [j1, q]; rfl
    have p1 := pop_dict (v := .int e.1) (r := .int (e.2.2 - 1)) C2 rfl (by rw [show dget (mE (setC e.1 (e.2.2 - 1) E)) (.int e.1) = _ from dget_num _ _ _, find_setC e.1 (e.2.2 - 1) rfl (find_num ok he)]; rfl)
    rw [show ddel (mE (setC e.1 (e.2.2 - 1) E)) (.int e.1) = mE (outE e.1 E) from (ddel_num _ e.1 _ (by rw [(setC_nums _ _ E).1]; exact ok.num)).trans (by rw [outE_setC]; rfl)] at p1
    have v1 := kd_pop C2
    generalize ec'.map (· + 1) = ec'' at p1
    have S3 := S2.set (o := .dict ec'' (mE (outE e.1 E))) D.fc
    have C3 : (h2.set c (.dict ec'' (mE (outE e.1 E))))[c]? = _ := get_eq C2
    have P3 : (h2.set c (.dict ec'' (mE (outE e.1 E))))[p]? = _ := (get_ne D.pc.symm).trans P2
    have T3 : (h2.set c (.dict ec'' (mE (outE e.1 E))))[t]? = _ := (get_ne D.tc.symm).trans T2
    have len3 : (h2.set c (.dict ec'' (mE (outE e.1 E)))).length = h.length := (List.length_set ..).trans len2
    have o3 : ∀ l, k ≠ l → m ≠ l → w ≠ l → l ≠ c → (h2.set c (.dict ec'' (mE (outE e.1 E))))[l]? = h[l]? := fun l q1 q2 q3 q => (get_ne (Ne.symm q)).trans (o2 l q1 q2 q3 q)
    generalize h2.set c (.dict ec'' (mE (outE e.1 E))) = h3 at p1 S3 C3 P3 T3 len3 o3
    have it3 : idxA (.ref p) (.str tTexts) h3 = some (.ref t) := by rw [idx_dict P3 rfl]; rfl
    have p2 := pop_dict (v := .int e.1) (r := .str e.2.1) T3 rfl (by rw [show dget (kE E) (.int e.1) = _ from dget_num _ _ E, find_num ok he]; rfl)
    rw [show ddel (kE E) (.int e.1) = kE (outE e.1 E) from ddel_num _ e.1 E ok.num] at p2
    have p2 : bmA .pop (.ref t) [.int e.1] h3 = .ok (.str e.2.1) (h3.set t (.dict (some (et + 1)) (kE (outE e.1 E)))) := p2
    have v2 := kd_pop T3
    have al := alike_told_none (n := n + 2) (h := h3.set t (.dict (some (et + 1)) (kE (outE e.1 E))))
    have fe : freeE e E = outE e.1 E := if_pos q
    rw [fe] at S3 ⊢
    refine ⟨h3.set t (.dict (some (et + 1)) (kE (outE e.1 E))), ?_, S3.set D.ft, ⟨⟨ep, (get_ne D.pt.symm).trans P3⟩, ⟨et + 1, get_eq T3⟩, ⟨ec'', (get_ne D.tc).trans C3⟩⟩, by rw [List.length_set, len3]; exact Nat.le_refl _, fun l hl z => ?_⟩
    · simp [fn_l_freed, a1, it, n1, ic, i1, s1, ic2, j1, v1, p1, it3, v2, p2, al, tup2]
    · simp only [List.mem_cons, not_or, List.not_mem_nil, not_false_eq_true, and_true] at z
      rw [get_ne (Ne.symm z.2.2.2.1)]
      exact o3 l (Ne.symm z.1) (Ne.symm z.2.1) (Ne.symm z.2.2.1) z.2.2.2.2
  · have q' : ¬ (e.2.2 - 1 = 0) := by omega
    have al := alike_told_none (n := n + 2) (h := h2)
    have fe : freeE e E = setC e.1 (e.2.2 - 1) E := if_neg q
    rw [fe] at S2 ⊢
    refine ⟨h2, ?_, S2, ⟨⟨ep, P2⟩, ⟨et, by rw [(setC_keys _ _ E).1]; exact T2⟩, ⟨ec', C2⟩⟩, by rw [len2]; exact Nat.le_refl _, fun l hl z => ?_⟩
    · simp [fn_l_freed, a1, it, n1, ic, i1, s1, ic2, j1, q', al, tup2]
    · simp only [List.mem_cons, not_or, List.not_mem_nil, not_false_eq_true, and_true] at z
      exact o2 l (Ne.symm z.1) (Ne.symm z.2.1) (Ne.symm z.2.2.1) z.2.2.2.2
end Mine.PL

/-! Law 05, plain: both books at once; a deed (typed by hand). -/
set_option Elab.async false
namespace Mine.PL
variable {n : Nat} {h h' : Hp} {s k m w p t c : Nat} {E : List En} {L : Int}
theorem EOk.out (ok : EOk E L) (i : Int) : EOk (outE i E) L := by
  have sub : (outE i E).Sublist E := List.filter_sublist
  exact ⟨ok.num.sublist (sub.map _), ok.txt.sublist (sub.map _), fun e he => ok.rng e (sub.subset he), fun e he => ok.cnt e (sub.subset he), ok.pos⟩
theorem EOk.free (ok : EOk E L) {e : En} (he : e ∈ E) : EOk (freeE e E) L := by
  unfold freeE
  split
  · exact ok.out _
  · have := ok.cnt e he
    exact ok.setC _ _ (by omega)
theorem freeE_len (e : En) : (freeE e E).length ≤ E.length := by
  unfold freeE
  split
  · exact List.length_filter_le _ _
  · unfold setC; rw [List.length_map]; exact Nat.le_refl _
/-- a stock and its plain book -/
structure Bk (h : Hp) (s k m w p t c : Nat) (N : Nat) (E : List En) (L : Int) : Prop where
  S : SAt h s k m w E L
  B : PAt h p t c E L
  ok : EOk E L
  len : E.length ≤ N
theorem getK {S : List Nat} (K : KeepG S h h') {l : Nat} {o : AO} (e : h[l]? = some o) (q : l ∉ S) : h'[l]? = some o := (K.2 l (List.getElem?_eq_some_iff.mp e).1 q).trans e
theorem Bk.keep {N : Nat} {S : List Nat} (b : Bk h s k m w p t c N E L) (K : KeepG S h h') (q : ∀ l ∈ [s, k, m, w, p, t, c], l ∉ S) : Bk h' s k m w p t c N E L := by
  have q1 := fun l (z : l ∈ [s, k, m, w, p, t, c]) (o : AO) (e : h[l]? = some o) => getK K e (q l z)
  obtain ⟨e1, h1⟩ := b.S.kept
  obtain ⟨e2, h2⟩ := b.S.many
  obtain ⟨e3, h3⟩ := b.S.known
  obtain ⟨e4, h4⟩ := b.B.top
  obtain ⟨e5, h5⟩ := b.B.texts
  obtain ⟨e6, h6⟩ := b.B.counts
  exact ⟨⟨q1 s (by simp) _ b.S.inst, ⟨e1, q1 k (by simp) _ h1⟩, ⟨e2, q1 m (by simp) _ h2⟩, ⟨e3, q1 w (by simp) _ h3⟩⟩, ⟨⟨e4, q1 p (by simp) _ h4⟩, ⟨e5, q1 t (by simp) _ h5⟩, ⟨e6, q1 c (by simp) _ h6⟩⟩, b.ok, b.len⟩
theorem KeepG.mono {S T : List Nat} (K : KeepG S h h') (q : ∀ l ∈ S, l ∈ T) : KeepG T h h' := ⟨K.1, fun l hl z => K.2 l hl fun y => z (q l y)⟩
theorem KeepG.app (xs : Hp) (S : List Nat) : KeepG S h (h ++ xs) := ⟨by rw [List.length_append]; omega, fun _ hl _ => List.getElem?_append_left hl⟩
theorem KeepG.set (l : Nat) (o : AO) : KeepG [l] h (h.set l o) := ⟨by rw [List.length_set]; exact Nat.le_refl _, fun l' _ q => get_ne fun z => q (by rw [z]; exact List.mem_singleton.mpr rfl)⟩
theorem KeepG.trans {h'' : Hp} {S : List Nat} (K : KeepG S h h') (K' : KeepG S h' h'') : KeepG S h h'' := ⟨Nat.le_trans K.1 K'.1, fun l hl q => (K'.2 l (Nat.lt_of_lt_of_le hl K.1) q).trans (K.2 l hl q)⟩
theorem needed_any {N : Nat} (D : Dis7 s k m w p t c) (b : Bk h s k m w p t c N E L) (hN : N < 1000) (x : List Nat) :
    ∃ h' E' L', callF prog (n + 3) false 17 [.ref s, .ref p, .str x] h = .ok (.bool true) h' ∧ Bk h' s k m w p t c (N + 1) E' L' ∧ KeepG [s, k, m, w, p, t, c] h h' := by
  have hE : E.length < 1000 := Nat.lt_of_le_of_lt b.len hN
  by_cases q : ∃ e ∈ E, e.2.1 = x
  · obtain ⟨e, he, rfl⟩ := q
    obtain ⟨h', e1, S1, B1, K1⟩ := needed_old (n := n) D b.S b.B b.ok hE he
    have := b.ok.cnt e he
    refine ⟨h', _, _, e1, ⟨S1, B1, b.ok.setC _ _ (by omega), ?_⟩, K1.mono (by simp)⟩
    unfold Mine.PL.setC; rw [List.length_map]; exact Nat.le_succ_of_le b.len
  · obtain ⟨h', e1, S1, B1, K1⟩ := needed_new (n := n) D b.S b.B b.ok hE x fun e he z => q ⟨e, he, z⟩
    refine ⟨h', _, _, e1, ⟨S1, B1, b.ok.add x fun e he z => q ⟨e, he, z⟩, ?_⟩, K1⟩
    rw [List.length_append]; exact Nat.succ_le_succ b.len
theorem freed_any {N : Nat} (D : Dis7 s k m w p t c) (b : Bk h s k m w p t c N E L) (hN : N < 1000) (i : Int) :
    ∃ h' E' L', callF prog (n + 5) false 18 [.ref s, .ref p, .int i] h = .ok (.bool true) h' ∧ Bk h' s k m w p t c (N + 1) E' L' ∧ KeepG [s, k, m, w, p, t, c] h h' := by
  have hE : E.length < 1000 := Nat.lt_of_le_of_lt b.len hN
  cases q : E.find? fun e => e.1 == i with
  | none =>
    refine ⟨_, E, L, freed_no (n := n) b.S b.B i q, ⟨b.S.app, b.B.app, b.ok, Nat.le_succ_of_le b.len⟩, KeepG.app _ _⟩
  | some e =>
    have he := List.mem_of_find?_eq_some q
    have z := List.find?_some q
    have z : e.1 = i := by simpa using z
    subst z
    obtain ⟨h', e1, S1, B1, K1⟩ := freed_yes (n := n) D b.S b.B b.ok hE he
    exact ⟨h', _, _, e1, ⟨S1, B1, b.ok.free he, Nat.le_succ_of_le (Nat.le_trans (freeE_len e) b.len)⟩, K1.mono (by simp)⟩
end Mine.PL

/-! Law 05, plain: look (typed by hand). -/
set_option Elab.async false
namespace Mine.PL
variable {n : Nat} {h h' : Hp} {s k m w p t c : Nat} {E : List En} {L : Int}
theorem ints_of (E : List En) : intsA (E.map fun e => AV.int e.1) = some (E.map (·.1)) := by
  induction E with
  | nil => rfl
  | cons d r ih =>
    rw [List.map_cons, intsA, mapO_cons]
    rw [show mapO asInt (r.map fun e => AV.int e.1) = some (r.map (·.1)) from ih]
    rfl
theorem sorted_texts (B : PAt h p t c E L) (hE : E.length < 64) : biA .sorted [.ref t] h = .ok (.ref h.length) (h ++ [.list ((sortI (E.map (·.1))).map .int)]) := by
  obtain ⟨ep, e⟩ := B.texts
  have hl : E.length ≤ lim := Nat.le_trans (Nat.le_of_lt hE) (by decide)
  have k1 : keysAt h (.ref t) = some (E.map fun e => .int e.1) := by
    unfold keysAt
    have e0 : listAt h (.ref t) = none := by show lst h[t]? = none; rw [e]; rfl
    rw [e0, dictAt_of e]
    show some ((kE E).map (·.1)) = _
    unfold kE
    rw [List.map_map]; rfl
  show sortedA (.ref t) h = _
  unfold sortedA
  rw [k1, Option.bind_some, ints_of]
  simp only
  rw [if_pos (by rw [List.length_map]; exact hE), newList_eq]
  rw [List.length_map, sortI_len, List.length_map]; exact hl
theorem alike_ints {a b : Nat} {ns : List Int} (ea : h[a]? = some (.list (ns.map .int))) (eb : h[b]? = some (.list (ns.map .int))) (hl : ns.length ≤ 1000) : callF prog (n + 3) false 12 [.ref a, .ref b] h = .ok (.bool true) h :=
  alike_list (m := n + 2) ea eb rfl (by rw [List.length_map]; omega) fun k x y hx hy => by
    rw [hx] at hy
    cases hy
    rw [List.getElem?_map] at hx
    cases z : ns[k]? with
    | none => rw [z] at hx; cases hx
    | some i => rw [z] at hx; cases hx; rw [alike_int]; simp
/-- a pair of lists of the same numbers -/
noncomputable def Pair (h : Hp) (v : AV) : Prop := ∃ a b, ∃ ns : List Int, v = .tup [.ref a, .ref b] ∧ 20 ≤ a ∧ 20 ≤ b ∧ h[a]? = some (.list (ns.map .int)) ∧ h[b]? = some (.list (ns.map .int))
theorem Pair.keep {S : List Nat} {v : AV} (q : Pair h v) (K : KeepG S h h') (hS : ∀ l ∈ S, l < 20) : Pair h' v := by
  obtain ⟨a, b, ns, e, ha, hb, ea, eb⟩ := q
  exact ⟨a, b, ns, e, ha, hb, getK K ea fun z => by have := hS a z; omega, getK K eb fun z => by have := hS b z; omega⟩
theorem list_copy {a : Nat} {xs : List AV} (e : h[a]? = some (.list xs)) (q : xs.length ≤ lim) : biA .list [.ref a] h = .ok (.ref h.length) (h ++ [.list xs]) := by
  show (match keysAt h (.ref a) with | some xs => newList xs h | none => .fail) = _
  have : keysAt h (.ref a) = some xs := by unfold keysAt; rw [listAt_of e]
  rw [this]
  exact if_pos q
theorem look_is {N q : Nat} {K : List AV} (b : Bk h s k m w p t c N E L) (hN : N < 60) (hq : q < 20) (hd : q ∉ [s, k, m, w, p, t, c]) (hh : 20 ≤ h.length) (hK : h[q]? = some (.list K)) (hKl : K.length < 1000) (i : Int) :
    ∃ h' v, callF prog (n + 6) false 16 [.ref s, .ref p, .int i, .ref q] h = .ok (.bool true) h' ∧ h'[q]? = some (.list (K ++ [v])) ∧ Pair h' v ∧ KeepG [q] h h' := by
  rw [callF_def (fn := fn_l_look) rfl rfl rfl]
  have hE : E.length < 64 := Nat.lt_of_le_of_lt b.len (by omega)
  have n1 := numbers_is (n := n + 4) b.S hE
  have m1 := meth_at (m := 5) (f := 6) b.S.inst
  have K1 : KeepG [] h (h ++ [AO.list (E.map fun e => AV.int e.1), AO.list ((sortI (E.map (·.1))).map AV.int)]) := KeepG.app _ _
  have x1 : (h ++ [AO.list (E.map fun e => AV.int e.1), AO.list ((sortI (E.map (·.1))).map AV.int)])[h.length + 1]? = some (.list ((sortI (E.map (·.1))).map AV.int)) := by simp
  have len1 : (h ++ [AO.list (E.map fun e => AV.int e.1), AO.list ((sortI (E.map (·.1))).map AV.int)]).length = h.length + 2 := by simp
  have sl : (sortI (E.map (·.1))).length < 64 := by rw [sortI_len, List.length_map]; exact hE
  have so := fun (h : Hp) (B : PAt h p t c E L) => sorted_texts B hE
  generalize sortI (E.map (·.1)) = ns at n1 K1 x1 len1 sl so
  generalize h ++ [AO.list (E.map fun e => AV.int e.1), AO.list (ns.map AV.int)] = h1 at n1 K1 x1 len1
  have nl : (ns.map AV.int).length ≤ lim := by rw [List.length_map]; exact Nat.le_trans (Nat.le_of_lt sl) (by decide)
  have c1 := list_copy x1 nl
  rw [len1] at c1
  have q1 : h1[q]? = some (.list K) := getK K1 hK (by simp)
  have a1 := kd_append h1 q1
  have K2 : KeepG [] h1 (h1 ++ [AO.list (ns.map AV.int)]) := KeepG.app _ _
  have x2 : (h1 ++ [AO.list (ns.map AV.int)])[h.length + 2]? = some (.list (ns.map AV.int)) := by rw [← len1]; simp
  have len2 : (h1 ++ [AO.list (ns.map AV.int)]).length = h.length + 3 := by rw [List.length_append, len1]; rfl
  have K2 := K1.trans K2
  have y2 : (h1 ++ [AO.list (ns.map AV.int)])[h.length + 1]? = some (.list (ns.map AV.int)) := app_get x1
  generalize h1 ++ [AO.list (ns.map AV.int)] = h2 at c1 K2 x2 len2 y2
  have q2 : h2[q]? = some (.list K) := getK K2 hK (by simp)
  have a2 := append_list h2 q2 (Nat.lt_trans hKl (by decide)) (.tup [.ref (h.length + 1), .ref (h.length + 2)])
  have K3 : KeepG [q] h2 (h2.set q (.list (K ++ [.tup [.ref (h.length + 1), .ref (h.length + 2)]]))) := KeepG.set _ _
  have q3 : (h2.set q (.list (K ++ [.tup [.ref (h.length + 1), .ref (h.length + 2)]])))[q]? = _ := get_eq q2
  have len3 : (h2.set q (.list (K ++ [.tup [.ref (h.length + 1), .ref (h.length + 2)]]))).length = h.length + 3 := (List.length_set ..).trans len2
  have K3' := (K2.mono (T := [q]) (by simp)).trans K3
  generalize h2.set q (.list (K ++ [.tup [.ref (h.length + 1), .ref (h.length + 2)]])) = h3 at a2 K3 K3' q3 len3
  have x3 : h3[h.length + 2]? = _ := getK K3 x2 (by simp; omega)
  have y3 : h3[h.length + 1]? = _ := getK K3 y2 (by simp; omega)
  have b3 := b.keep K3' fun l hl z => hd (List.mem_singleton.mp z ▸ hl)
  have s3 := so h3 b3.B
  rw [len3] at s3
  have it := b3.B.idx_texts
  have K4 : KeepG [q] h3 (h3 ++ [AO.list (ns.map AV.int)]) := KeepG.app _ _
  have x4 : (h3 ++ [AO.list (ns.map AV.int)])[h.length + 3]? = some (.list (ns.map AV.int)) := by rw [← len3]; simp
  have b4 := b3.keep K4 fun l hl z => hd (List.mem_singleton.mp z ▸ hl)
  have q4 : (h3 ++ [AO.list (ns.map AV.int)])[q]? = _ := app_get q3
  have y4 : (h3 ++ [AO.list (ns.map AV.int)])[h.length + 1]? = _ := app_get y3
  have z4 : (h3 ++ [AO.list (ns.map AV.int)])[h.length + 2]? = _ := app_get x3
  have K4 := K3'.trans K4
  generalize h3 ++ [AO.list (ns.map AV.int)] = h4 at s3 K4 x4 b4 q4 y4 z4
  have al := alike_ints (n := n + 2) y4 x4 (by omega)
  obtain ⟨et, ht⟩ := b3.B.texts
  have in3 := in_dict (v := .int i) ht rfl
  rw [show dget (kE E) (.int i) = _ from dget_num _ _ E] at in3
  cases z : E.find? fun e => e.1 == i with
  | none =>
    rw [z] at in3
    have hz : hasE E (.int i) = false := by show (E.find? fun e => e.1 == i).isSome = false; rw [z]; rfl
    have an : callF prog (n + 5) false 14 [.ref s, .int 1, .int i] h4 = _ := answer_exc (n := n + 3) b4.S.inst 1 (by decide) (.int i) (piece_no (n := n + 1) b4.S (.int i) rfl hz)
    have an2 := alike_not (n := n + 3) (h := h4 ++ [.list [.str tNot]])
    have K5 : KeepG [q] h4 (h4 ++ [AO.list [.str tNot]]) := KeepG.app _ _
    have b5 := b4.keep K5 fun l hl z => hd (List.mem_singleton.mp z ▸ hl)
    have co := counted_is (n := n + 1) (hd := false) b5.S b5.B i
    refine ⟨h4 ++ [AO.list [.str tNot]], _, ?_, app_get q4, ⟨_, _, ns, rfl, by omega, by omega, app_get y4, app_get z4⟩, K4.trans K5⟩
    simp [fn_l_look, m1, n1, a1, c1, a2, tup2, it, in3, s3, al, an, an2, co]
  | some e =>
    rw [z] at in3
    have ix := idx_dict (v := .int i) ht rfl
    rw [show dget (kE E) (.int i) = _ from dget_num _ _ E, z] at ix
    have an : callF prog (n + 5) false 14 [.ref s, .int 1, .int i] h4 = _ := answer_ok (n := n + 4) b4.S.inst 1 (by decide) (.int i) _ (piece_is (n := n + 1) b4.S i z)
    have an2 := alike_told_str (n := n + 3) (h := h4) e.2.1
    have co := counted_is (n := n + 1) (hd := false) b4.S b4.B i
    refine ⟨h4, _, ?_, q4, ⟨_, _, ns, rfl, by omega, by omega, y4, z4⟩, K4⟩
    simp [fn_l_look, m1, n1, a1, c1, a2, tup2, it, in3, ix, s3, al, an, an2, co]
end Mine.PL

/-! Law 05, plain: the start of the law and what its loop keeps (typed by hand). -/
set_option Elab.async false
namespace Mine.PL
variable {n : Nat} {h h' : Hp}
/-- a loop over a list in the heap -/
theorem iterR_inv {σ ρ : Type} {get : σ → Option (List AV)} {bad : ρ} {f : AV → σ → It σ ρ} {xs : List AV} (J : Nat → σ → Prop) (hg : ∀ i s, J i s → get s = some xs)
    (step : ∀ (i : Nat) (v : AV) s, xs[i]? = some v → J i s → ∃ s', f v s = .go s' ∧ J (i + 1) s') : ∀ (k i : Nat) (s : σ), i + k = xs.length → J i s → ∃ s', iterR get bad f (k + 1) i s = .go s' ∧ J xs.length s' := by
  intro k
  induction k with
  | zero =>
    intro i s e j
    have : xs.length = i := by omega
    refine ⟨s, ?_, this ▸ j⟩
    rw [iterR, hg i s j]
    simp only
    rw [List.getElem?_eq_none (by omega)]
  | succ k ih =>
    intro i s e j
    have hi : i < xs.length := by omega
    obtain ⟨s', e1, j1⟩ := step i _ s (List.getElem?_eq_getElem hi) j
    obtain ⟨s'', e2, j2⟩ := ih (i + 1) s' (by omega) j1
    refine ⟨s'', ?_, j2⟩
    rw [iterR, hg i s j]
    simp only
    rw [List.getElem?_eq_getElem hi]
    simp only
    rw [e1]
    exact e2
theorem loop_list {a x : Nat} {xs : List AV} {C : Cx} {body : List MS} {vs : Vs} (e : h[a]? = some (.list xs)) (J : Nat → Hp → Vs → Prop) (hg : ∀ i h vs, J i h vs → h[a]? = some (.list xs)) (j : J 0 h vs)
    (step : ∀ (i : Nat) (v : AV) h vs, xs[i]? = some v → J i h vs → ∃ h' vs', exs C body h (vs.set x (some v)) = .next h' vs' ∧ J (i + 1) h' vs') :
    ∃ h' vs', loopS false (srcA h (.ref a)) (turn C x body) (h, vs) = .next h' vs' ∧ J xs.length h' vs' := by
  have s1 : srcA h (.ref a) = some (.list a xs.length) := by
    show (match lst h[a]? with | some xs => some (Src.list a xs.length) | none => _) = _
    rw [e]; rfl
  obtain ⟨⟨h', vs'⟩, e1, j1⟩ := iterR_inv (get := fun s : Hp × Vs => getL a s.1) (bad := OutS.fail) (f := turn C x body) (xs := xs) (fun i s => J i s.1 s.2)
    (fun i s j => by show lst s.1[a]? = _; rw [hg i _ _ j]; rfl)
    (fun i v s hv j => by
      obtain ⟨h', vs', e1, j1⟩ := step i v s.1 s.2 hv j
      exact ⟨(h', vs'), turn_next e1, j1⟩) xs.length 0 (h, vs) (by omega) j
  refine ⟨h', vs', ?_, j1⟩
  rw [s1]
  simp only [loopS, iter, Bool.false_eq_true, if_false, e1, ended]
/-- the heap behind the first four statements -/
noncomputable def H0 : Hp := [.inst 9 [some (.ref 1), some (.ref 2), some (.ref 3), some (.int 0)], .dict (some 0) [], .dict (some 0) [], .dict (some 0) [],
  .inst 9 [some (.ref 5), some (.ref 6), some (.ref 7), some (.int 0)], .dict (some 0) [], .dict (some 0) [], .dict (some 0) [],
  .list [.ref 0, .ref 4],
  .dict none (pE 0 10 11), .dict (some 0) [], .dict (some 0) [], .dict none (pE 0 13 14), .dict (some 0) [], .dict (some 0) [],
  .list [.ref 9, .ref 12], .list [], .list [.str [97]]]
theorem dict_new (C : Cx) (h : Hp) (vs : Vs) : ev C (.dict []) h vs = .ok (.ref h.length) (h ++ [.dict (some 0) []]) := by
  rw [ev_dict, evs_nil, bind_ok]
  have : emptyAt h.length (h ++ [AO.dict (some 0) []]) = true := by unfold emptyAt; simp [dct]
  simp [pairs, putDict, distinct, this]
theorem stock_new (n : Nat) (h : Hp) (vs : Vs) : ev ⟨prog, false, callF prog (n + 1)⟩ (.new 9 []) h vs = .ok (.ref h.length) (h ++ [.inst 9 [some (.ref (h.length + 1)), some (.ref (h.length + 2)), some (.ref (h.length + 3)), some (.int 0)], .dict (some 0) [], .dict (some 0) [], .dict (some 0) []]) := by
  have i : initAt prog 9 = some 0 := rfl
  have a4 : prog.attrs.length = 4 := rfl
  have c : callF prog (n + 1) false 0 [.ref h.length] (h ++ [.inst 9 [none, none, none, none]]) = .ok .none (h ++ [.inst 9 [some (.ref (h.length + 1)), some (.ref (h.length + 2)), some (.ref (h.length + 3)), some (.int 0)], .dict (some 0) [], .dict (some 0) [], .dict (some 0) []]) := by
    rw [callF_def (fn := fn_Stock_init) rfl rfl rfl]
    simp [fn_Stock_init, dict_new, setAttrA, ins, -ev_dict]
  rw [ev_new, if_pos (by rw [i]; rfl), evs_nil, bind_ok]
  unfold newA
  simp only [i, a4, List.replicate]
  rw [c]
  rfl
theorem book_new (C : Cx) (h : Hp) (vs : Vs) : ev C (.dict [.str tLast, .int 0, .str tTexts, .dict [], .str tCounts, .dict []]) h vs = .ok (.ref h.length) (h ++ [.dict none (pE 0 (h.length + 1) (h.length + 2)), .dict (some 0) [], .dict (some 0) []]) := by
  rw [ev_dict]
  have : emptyAt h.length (h ++ [AO.dict (some 0) [], .dict (some 0) [], .dict (some 0) []]) = true := by unfold emptyAt; simp [dct]
  have d : distinct (pE 0 (h.length + 1) (h.length + 2)) = true := rfl
  simp [dict_new, pairs, -ev_dict]
  rw [show [(AV.str tLast, AV.int 0), (AV.str tTexts, AV.ref (h.length + 1)), (AV.str tCounts, AV.ref (h.length + 2))] = pE 0 (h.length + 1) (h.length + 2) from rfl]
  unfold putDict
  rw [d, this, show (pE 0 (h.length + 1) (h.length + 2)).length = 3 from rfl, show (pE 0 (h.length + 1) (h.length + 2)).isEmpty = false from rfl]
  simp
theorem law_start (ns : List Int) : exs ⟨prog, false, callF prog 7⟩ (fn_law.body.take 4) [] [some (.scr ns), none, none, none, none, none, none, none, none, none, none, none] =
    .next H0 [some (.scr ns), some (.ref 8), some (.ref 15), some (.ref 16), some (.ref 17), none, none, none, none, none, none, none] := by
  have hl0 : 0 ≤ lim := by decide
  have hl1 : 1 ≤ lim := by decide
  have hl2 : 2 ≤ lim := by decide
  have s := stock_new 6
  have b := book_new ⟨prog, false, callF prog 7⟩
  simp [fn_law, s, b, H0, hl0, hl1, hl2, -ev_dict, -ev_new]
theorem law_src (ns : List Int) (h63 : ns.length ≤ 63) (r : Vs) : ev ⟨prog, false, callF prog 7⟩ (.slice (.var 0) .none (.idx (.list [.int 30, .int 60]) (.bi .int [.cmp (.bi .len [.var 0]) .gt (.int 63)]))) H0 (some (.scr ns) :: r) =
    .ok (.ref 19) (H0 ++ [.list [.int 30, .int 60], .list ((ns.take 30).map .int)]) := by
  have q : ¬ (63 : Int) < ns.length := by omega
  have e1 : idxA (.ref 18) (.int 0) (H0 ++ [AO.list [.int 30, .int 60]]) = some (.int 30) := rfl
  have e2 : biA .int [.bool false] (H0 ++ [AO.list [.int 30, .int 60]]) = .ok (.int 0) (H0 ++ [AO.list [.int 30, .int 60]]) := rfl
  have hl : 2 ≤ lim := by decide
  have l0 : H0.length = 18 := rfl
  have e3 : sliceA (.scr ns) .none (.int 30) (H0 ++ [AO.list [.int 30, .int 60]]) = .ok (.ref 19) (H0 ++ [.list [.int 30, .int 60], .list ((ns.take 30).map .int)]) := by
    show newList ((cut ns 0 (min 30 ns.length)).map AV.int) _ = _
    have : cut ns 0 (min 30 ns.length) = ns.take 30 := by
      unfold cut
      rw [List.drop_zero, Nat.sub_zero, ← List.take_eq_take_min]
    rw [this, newList_eq _ _ (by rw [List.length_map, List.length_take]; have : 30 ≤ lim := by decide
                                 omega)]
    simp [l0]
  simp [l0, hl, q, e1, e2, e3]
theorem bk0 (K : KeepG [] H0 h) : Bk h 0 1 2 3 9 10 11 0 [] 0 := by
  have g := fun l (o : AO) (e : H0[l]? = some o) => getK K e (by simp)
  exact ⟨⟨g _ _ rfl, ⟨_, g _ _ rfl⟩, ⟨_, g _ _ rfl⟩, ⟨_, g _ _ rfl⟩⟩, ⟨⟨_, g _ _ rfl⟩, ⟨_, g _ _ rfl⟩, ⟨_, g _ _ rfl⟩⟩, ⟨List.nodup_nil, List.nodup_nil, by simp, by simp, by decide⟩, Nat.le_refl _⟩
theorem bk1 (K : KeepG [] H0 h) : Bk h 4 5 6 7 12 13 14 0 [] 0 := by
  have g := fun l (o : AO) (e : H0[l]? = some o) => getK K e (by simp)
  exact ⟨⟨g _ _ rfl, ⟨_, g _ _ rfl⟩, ⟨_, g _ _ rfl⟩, ⟨_, g _ _ rfl⟩⟩, ⟨⟨_, g _ _ rfl⟩, ⟨_, g _ _ rfl⟩, ⟨_, g _ _ rfl⟩⟩, ⟨List.nodup_nil, List.nodup_nil, by simp, by simp, by decide⟩, Nat.le_refl _⟩
theorem dis0 : Dis7 0 1 2 3 9 10 11 := ⟨⟨by decide, by decide, by decide, by decide, by decide, by decide⟩, by decide, by decide, by decide, by decide, by decide, by decide⟩
theorem dis1 : Dis7 4 5 6 7 12 13 14 := ⟨⟨by decide, by decide, by decide, by decide, by decide, by decide⟩, by decide, by decide, by decide, by decide, by decide, by decide⟩
/-- what the loop keeps: N deeds at most, M looks at most, R known texts at most -/
structure Inv (h : Hp) (ls : List AV) (N M R : Nat) : Prop where
  st : h[8]? = some (.list [.ref 0, .ref 4])
  pl : h[15]? = some (.list [.ref 9, .ref 12])
  src : h[19]? = some (.list ls)
  b0 : ∃ E L, Bk h 0 1 2 3 9 10 11 N E L
  b1 : ∃ E L, Bk h 4 5 6 7 12 13 14 N E L
  kp : ∃ K, h[16]? = some (.list K) ∧ K.length ≤ M ∧ ∀ v ∈ K, Pair h v
  kn : ∃ T : List (List Nat), h[17]? = some (.list (T.map .str)) ∧ 1 ≤ T.length ∧ T.length ≤ R
variable {ls : List AV} {N M R : Nat}
theorem Inv.len (I : Inv h ls N M R) : 20 ≤ h.length := (List.getElem?_eq_some_iff.mp I.src).1
theorem Bk.more {s k m w p t c N' : Nat} {E : List En} {L : Int} (b : Bk h s k m w p t c N E L) (q : N ≤ N') : Bk h s k m w p t c N' E L := ⟨b.S, b.B, b.ok, Nat.le_trans b.len q⟩
theorem Inv.app (I : Inv h ls N M R) (xs : Hp) : Inv (h ++ xs) ls N M R := by
  have K : KeepG [] h (h ++ xs) := KeepG.app _ _
  obtain ⟨E0, L0, b0⟩ := I.b0
  obtain ⟨E1, L1, b1⟩ := I.b1
  obtain ⟨Ks, k1, k2, k3⟩ := I.kp
  obtain ⟨T, t1, t2⟩ := I.kn
  exact ⟨app_get I.st, app_get I.pl, app_get I.src, ⟨E0, L0, b0.keep K (by simp)⟩, ⟨E1, L1, b1.keep K (by simp)⟩, ⟨Ks, app_get k1, k2, fun v hv => (k3 v hv).keep K (by simp)⟩, ⟨T, app_get t1, t2⟩⟩
theorem Inv.known (I : Inv h ls N M R) (hR : R < 1000) (x : List Nat) : ∃ h', bmKd .append (.ref 17) h = true ∧ bmA .append (.ref 17) [.str x] h = .ok .none h' ∧ Inv h' ls N M (R + 1) := by
  obtain ⟨E0, L0, b0⟩ := I.b0
  obtain ⟨E1, L1, b1⟩ := I.b1
  obtain ⟨Ks, k1, k2, k3⟩ := I.kp
  obtain ⟨T, t1, t2, t3⟩ := I.kn
  have K : KeepG [17] h (h.set 17 (.list (T.map .str ++ [.str x]))) := KeepG.set _ _
  have g := fun l (o : AO) (e : h[l]? = some o) (q : l ≠ 17) => getK K e (by simpa using q)
  refine ⟨_, kd_append h t1, append_list h t1 (by rw [List.length_map]; exact Nat.lt_of_le_of_lt t3 (Nat.lt_trans hR (by decide))) _, g _ _ I.st (by decide), g _ _ I.pl (by decide), g _ _ I.src (by decide), ⟨E0, L0, b0.keep K (by decide)⟩, ⟨E1, L1, b1.keep K (by decide)⟩, ⟨Ks, g _ _ k1 (by decide), k2, fun v hv => (k3 v hv).keep K (by decide)⟩, ⟨T ++ [x], ?_, ?_, ?_⟩⟩
  · rw [get_eq t1]; simp
  · rw [List.length_append]; omega
  · rw [List.length_append]; simp; omega
/-- a deed with the first stock -/
theorem Inv.deed0 {E : List En} {L : Int} (I : Inv h ls N M R) (K : KeepG [0, 1, 2, 3, 9, 10, 11] h h') (b : Bk h' 0 1 2 3 9 10 11 (N + 1) E L) : Inv h' ls (N + 1) M R := by
  obtain ⟨E1, L1, b1⟩ := I.b1
  obtain ⟨Ks, k1, k2, k3⟩ := I.kp
  obtain ⟨T, t1, t2⟩ := I.kn
  exact ⟨getK K I.st (by decide), getK K I.pl (by decide), getK K I.src (by decide), ⟨E, L, b⟩, ⟨E1, L1, (b1.keep K (by decide)).more (Nat.le_succ _)⟩, ⟨Ks, getK K k1 (by decide), k2, fun v hv => (k3 v hv).keep K (by decide)⟩, ⟨T, getK K t1 (by decide), t2⟩⟩
/-- a deed with the second stock -/
theorem Inv.deed1 {E : List En} {L : Int} (I : Inv h ls N M R) (K : KeepG [4, 5, 6, 7, 12, 13, 14] h h') (b : Bk h' 4 5 6 7 12 13 14 (N + 1) E L) : Inv h' ls (N + 1) M R := by
  obtain ⟨E1, L1, b1⟩ := I.b0
  obtain ⟨Ks, k1, k2, k3⟩ := I.kp
  obtain ⟨T, t1, t2⟩ := I.kn
  exact ⟨getK K I.st (by decide), getK K I.pl (by decide), getK K I.src (by decide), ⟨E1, L1, (b1.keep K (by decide)).more (Nat.le_succ _)⟩, ⟨E, L, b⟩, ⟨Ks, getK K k1 (by decide), k2, fun v hv => (k3 v hv).keep K (by decide)⟩, ⟨T, getK K t1 (by decide), t2⟩⟩
/-- a look -/
theorem Inv.looked {Ks : List AV} {v : AV} (I : Inv h ls N M R) (K : KeepG [16] h h') (k0 : h[16]? = some (.list Ks)) (k1 : h'[16]? = some (.list (Ks ++ [v]))) (p : Pair h' v) : Inv h' ls N (M + 1) R := by
  obtain ⟨E0, L0, b0⟩ := I.b0
  obtain ⟨E1, L1, b1⟩ := I.b1
  obtain ⟨Ks', k0', k2, k3⟩ := I.kp
  rw [k0] at k0'
  cases k0'
  obtain ⟨T, t1, t2⟩ := I.kn
  refine ⟨getK K I.st (by decide), getK K I.pl (by decide), getK K I.src (by decide), ⟨E0, L0, b0.keep K (by decide)⟩, ⟨E1, L1, b1.keep K (by decide)⟩, ⟨Ks ++ [v], k1, ?_, ?_⟩, ⟨T, getK K t1 (by decide), t2⟩⟩
  · rw [List.length_append]; exact Nat.succ_le_succ k2
  · intro w hw
    rcases List.mem_append.mp hw with q | q
    · exact (k3 w q).keep K (by decide)
    · rw [List.mem_singleton.mp q]; exact p
end Mine.PL

/-! Law 05, plain: one turn of the law's loop (typed by hand). -/
set_option Elab.async false
namespace Mine.PL
variable {h h' : Hp} {ls : List AV} {N M R : Nat} {o : Int} {s k m w p t c : Nat}
/-- which stock -/
inductive Sd : Int → Nat → Nat → Nat → Nat → Nat → Nat → Nat → Prop
  | a : Sd 0 0 1 2 3 9 10 11
  | b : Sd 1 4 5 6 7 12 13 14
theorem Sd.dis (d : Sd o s k m w p t c) : Dis7 s k m w p t c := by cases d with
  | a => exact dis0
  | b => exact dis1
theorem Sd.no16 (d : Sd o s k m w p t c) : 16 ∉ [s, k, m, w, p, t, c] := by cases d <;> decide
theorem Inv.side (d : Sd o s k m w p t c) (I : Inv h ls N M R) : ∃ E L, Bk h s k m w p t c N E L := by cases d with
  | a => exact I.b0
  | b => exact I.b1
theorem Inv.idx_st (d : Sd o s k m w p t c) (I : Inv h ls N M R) : idxA (.ref 8) (.int o) h = some (.ref s) := by cases d <;> exact idx_list h I.st rfl rfl
theorem Inv.idx_pl (d : Sd o s k m w p t c) (I : Inv h ls N M R) : idxA (.ref 15) (.int o) h = some (.ref p) := by cases d <;> exact idx_list h I.pl rfl rfl
theorem Inv.deed {E : List En} {L : Int} (d : Sd o s k m w p t c) (I : Inv h ls N M R) (K : KeepG [s, k, m, w, p, t, c] h h') (b : Bk h' s k m w p t c (N + 1) E L) : Inv h' ls (N + 1) M R := by
  cases d
  · exact I.deed0 K b
  · exact I.deed1 K b
noncomputable abbrev CL : Cx := ⟨prog, false, callF prog 7⟩
noncomputable abbrev W (ns : List Int) (x o i : Int) (d : Option AV) : Vs := [some (.scr ns), some (.ref 8), some (.ref 15), some (.ref 16), some (.ref 17), some (.int x), some (.int o), some (.int i), d, none, none, none]
noncomputable abbrev s1 : MS := .set 6 (.bi .int [.cmp (.bin .mod (.bin .mod (.bin .mul (.var 5) (.int 16807)) (.int 2147483587)) (.int 4)) .eq (.int 3)])
noncomputable abbrev s2 : MS := .set 7 (.bin .mod (.bin .div (.var 5) (.int 7)) (.bin .add (.idx (.idx (.var 2) (.var 6)) (.str [108, 97, 115, 116])) (.int 2)))
noncomputable abbrev s3 : MS := .ifs (.cmp (.bin .mod (.var 5) (.int 7)) .lt (.int 3)) [.expr (.bm .append (.var 4) [.call 11 [.bin .div (.var 5) (.int 7), .bin .add (.int 1) (.bin .mod (.bin .div (.var 5) (.int 28)) (.int 40))]])] []
noncomputable abbrev sChk (d : Int) : MS := .ifs (.and [.cmp (.bin .mod (.bin .div (.var 5) (.int d)) (.int 2)) .eq (.int 1), .not (.call 15 [.idx (.var 1) (.var 6), .idx (.var 2) (.var 6), .var 7])]) [.ret (.bool false)] []
noncomputable abbrev ePick : ME := .idx (.var 4) (.idx (.list [.bin .sub (.bi .len [.var 4]) (.int 1), .bin .mod (.bin .div (.var 5) (.int 14)) (.bi .len [.var 4])]) (.bi .int [.cmp (.bin .mod (.var 5) (.int 7)) .gt (.int 2)]))
noncomputable abbrev s5 : MS := .ifs (.cmp (.bin .mod (.var 5) (.int 7)) .lt (.int 5)) [.set 8 ePick,
  .ifs (.not (.call 17 [.idx (.var 1) (.var 6), .idx (.var 2) (.var 6), .var 8])) [.ret (.bool false)] []] [.ifs (.not (.call 18 [.idx (.var 1) (.var 6), .idx (.var 2) (.var 6), .var 7])) [.ret (.bool false)] []]
noncomputable abbrev sLook : MS := .ifs (.not (.call 16 [.idx (.var 1) (.var 6), .idx (.var 2) (.var 6), .var 7, .var 3])) [.ret (.bool false)] []
noncomputable abbrev lawT : List MS := [s1, s2, s3, sChk 49, s5, sChk 98, sLook]
theorem int_bool (b : Bool) (h : Hp) : biA .int [.bool b] h = .ok (.int (if b then 1 else 0)) h := rfl
theorem t1 (ns : List Int) (x : Int) (b c d : Option AV) : ∃ o s k m w p t c', Sd o s k m w p t c' ∧ ex CL s1 h [some (.scr ns), some (.ref 8), some (.ref 15), some (.ref 16), some (.ref 17), some (.int x), b, c, d, none, none, none] =
    .next h [some (.scr ns), some (.ref 8), some (.ref 15), some (.ref 16), some (.ref 17), some (.int x), some (.int o), c, d, none, none, none] := by
  by_cases q : x * 16807 % 2147483587 % 4 = 3
  · exact ⟨_, _, _, _, _, _, _, _, .b, by simp [int_bool, q]⟩
  · exact ⟨_, _, _, _, _, _, _, _, .a, by simp [int_bool, q]⟩
theorem t2 (D : Sd o s k m w p t c) (I : Inv h ls N M R) (ns : List Int) (x : Int) (b d : Option AV) : ∃ i, ex CL s2 h [some (.scr ns), some (.ref 8), some (.ref 15), some (.ref 16), some (.ref 17), some (.int x), some (.int o), b, d, none, none, none] =
    .next h (W ns x o i d) := by
  obtain ⟨E, L, B⟩ := I.side D
  have q : 0 < L + 2 := by have := B.ok.pos; omega
  exact ⟨x / 7 % (L + 2), by simp [I.idx_pl D, B.B.idx_last, q]⟩
theorem t3 (I : Inv h ls N M R) (hR : R < 1000) (ns : List Int) (x i : Int) (d : Option AV) : ∃ h', ex CL s3 h (W ns x o i d) = .next h' (W ns x o i d) ∧ Inv h' ls N M (R + 1) := by
  by_cases q : x % 7 < 3
  · obtain ⟨y, e, _⟩ := text_by (P := prog) (n := 5) (h := h) rfl rfl (x / 7) (1 + x / 28 % 40) (by omega) (by omega)
    obtain ⟨h', k1, k2, I'⟩ := (I.app [.list [.int 2, .int 95, .int 95, .int 1]]).known hR y
    obtain ⟨T, t1, _⟩ := I.kn
    have k0 := kd_append h t1
    refine ⟨h', ?_, I'⟩
    simp [q, k0, e, k2]
  · refine ⟨h, by simp [q], I.st, I.pl, I.src, I.b0, I.b1, I.kp, ?_⟩
    obtain ⟨T, t1, t2, t3⟩ := I.kn
    exact ⟨T, t1, t2, by omega⟩
theorem tChk (D : Sd o s k m w p t c) (I : Inv h ls N M R) (ns : List Int) (x i : Int) (d : Option AV) (z : Int) (z0 : 0 < z) (z1 : z < 18446744073709551616) : ex CL (sChk z) h (W ns x o i d) = .next h (W ns x o i d) := by
  obtain ⟨E, L, B⟩ := I.side D
  have co := counted_is (n := 3) (hd := false) B.S B.B i
  by_cases q : x / z % 2 = 1
  · simp [q, z0, z1, I.idx_st D, I.idx_pl D, co]
  · simp [q, z0, z1]
theorem tPick (I : Inv h ls N M R) (hR : R < 1000) (ns : List Int) (x i : Int) (d : Option AV) : ∃ y xs, ev CL ePick h (W ns x o i d) = .ok (.str y) (h ++ xs) := by
  obtain ⟨T, t1, t2, t3⟩ := I.kn
  have ln := len_list h t1
  rw [List.length_map] at ln
  have hl : 2 ≤ lim := by decide
  have q : (0 : Int) < T.length := by omega
  have a0 : 0 ≤ x / 14 % (T.length : Int) := Int.emod_nonneg _ (by omega)
  have a1 : x / 14 % (T.length : Int) < T.length := Int.emod_lt_of_pos _ q
  generalize hj : x / 14 % (T.length : Int) = j at a0 a1
  have md := mod_int h (x / 14) T.length q
  rw [hj] at md
  have key : ∀ l : Int, 0 ≤ l → l < T.length → ∃ y, idxA (.ref 17) (.int l) (h ++ [AO.list [.int ((T.length : Int) - 1), .int j]]) = some (.str y) := by
    intro l h0 h1
    have h2 : l.toNat < T.length := by omega
    have pl : place (T.map AV.str).length l = some l.toNat := by
      rw [List.length_map]
      unfold place; rw [if_pos h0, if_pos h1]
    exact ⟨T[l.toNat], idx_list _ (app_get t1) pl (by rw [List.getElem?_map, List.getElem?_eq_getElem h2]; rfl)⟩
  by_cases z : x % 7 > 2
  · obtain ⟨y, e⟩ := key j a0 a1
    have e1 : idxA (.ref h.length) (.int 1) (h ++ [AO.list [.int ((T.length : Int) - 1), .int j]]) = some (.int j) := idx_list (xs := [.int ((T.length : Int) - 1), .int j]) _ (by simp) rfl rfl
    exact ⟨y, [AO.list [.int ((T.length : Int) - 1), .int j]], by simp [ln, md, hl, z, int_bool, e1, e]⟩
  · obtain ⟨y, e⟩ := key ((T.length : Int) - 1) (by omega) (by omega)
    have e1 : idxA (.ref h.length) (.int 0) (h ++ [AO.list [.int ((T.length : Int) - 1), .int j]]) = some (.int ((T.length : Int) - 1)) := idx_list (xs := [.int ((T.length : Int) - 1), .int j]) _ (by simp) rfl rfl
    exact ⟨y, [AO.list [.int ((T.length : Int) - 1), .int j]], by simp [ln, md, hl, z, int_bool, e1, e]⟩
theorem t5 (D : Sd o s k m w p t c) (I : Inv h ls N M R) (hN : N < 1000) (hR : R < 1000) (ns : List Int) (x i : Int) (d : Option AV) : ∃ h' d', ex CL s5 h (W ns x o i d) = .next h' (W ns x o i d') ∧ Inv h' ls (N + 1) M R := by
  by_cases q : x % 7 < 5
  · obtain ⟨y, xs, e⟩ := tPick (o := o) I hR ns x i d
    have I1 := I.app xs
    obtain ⟨E, L, B⟩ := I1.side D
    obtain ⟨h', E', L', e1, B1, K1⟩ := needed_any (n := 4) D.dis B hN y
    refine ⟨h', some (.str y), ?_, I1.deed D K1 B1⟩
    rw [ex_ifs]
    have c1 : ev CL (.cmp (.bin .mod (.var 5) (.int 7)) .lt (.int 5)) h (W ns x o i d) = .ok (.bool true) h := by simp [q]
    rw [c1, bindS_ok, truth_bool, pickS_true, exs_cons, ex_set, e, bindS_ok, seqS_next]
    simp [I1.idx_st D, I1.idx_pl D, e1]
  · obtain ⟨E, L, B⟩ := I.side D
    obtain ⟨h', E', L', e1, B1, K1⟩ := freed_any (n := 2) D.dis B hN i
    refine ⟨h', d, ?_, I.deed D K1 B1⟩
    simp [q, I.idx_st D, I.idx_pl D, e1]
theorem tLook (D : Sd o s k m w p t c) (I : Inv h ls N M R) (hN : N < 60) (hM : M < 1000) (ns : List Int) (x i : Int) (d : Option AV) : ∃ h', ex CL sLook h (W ns x o i d) = .next h' (W ns x o i d) ∧ Inv h' ls N (M + 1) R := by
  obtain ⟨E, L, B⟩ := I.side D
  obtain ⟨Ks, k1, k2, k3⟩ := I.kp
  obtain ⟨h', v, e, q, P, K⟩ := look_is (n := 1) B hN (by decide) D.no16 I.len k1 (by omega) i
  refine ⟨h', ?_, I.looked K k1 q P⟩
  simp [I.idx_st D, I.idx_pl D, e]
theorem law_turn (I : Inv h ls N M R) (hN : N < 50) (hM : M < 1000) (hR : R < 900) (ns : List Int) (x : Int) (b c d : Option AV) : ∃ h' b' c' d', exs CL lawT h ([some (.scr ns), some (.ref 8), some (.ref 15), some (.ref 16), some (.ref 17), some (.int x), b, c, d, none, none, none]) =
    .next h' [some (.scr ns), some (.ref 8), some (.ref 15), some (.ref 16), some (.ref 17), some (.int x), b', c', d', none, none, none] ∧ Inv h' ls (N + 1) (M + 1) (R + 1) := by
  obtain ⟨o, s, k, m, w, p, t, c', D, e1⟩ := t1 (h := h) ns x b c d
  obtain ⟨i, e2⟩ := t2 D I ns x c d
  obtain ⟨h3, e3, I3⟩ := t3 (o := o) I (by omega) ns x i d
  have e4 := tChk D I3 ns x i d 49 (by decide) (by decide)
  obtain ⟨h5, d5, e5, I5⟩ := t5 D I3 (by omega) (by omega) ns x i d
  have e6 := tChk D I5 ns x i d5 98 (by decide) (by decide)
  obtain ⟨h7, e7, I7⟩ := tLook D I5 (by omega) hM ns x i d5
  refine ⟨h7, some (.int o), some (.int i), d5, ?_, I7⟩
  rw [exs_cons, e1, seqS_next, exs_cons, e2, seqS_next, exs_cons, e3, seqS_next, exs_cons, e4, seqS_next, exs_cons, e5, seqS_next, exs_cons, e6, seqS_next, exs_cons, e7, seqS_next, exs_nil]
end Mine.PL

/-! Law 05, plain: the loops and the end (typed by hand). -/
set_option Elab.async false
namespace Mine.PL
variable {h h' : Hp} {ls : List AV} {N M R : Nat}
noncomputable abbrev W9 (ns : List Int) (a b c d e f : Option AV) : Vs := [some (.scr ns), some (.ref 8), some (.ref 15), some (.ref 16), some (.ref 17), a, b, c, d, e, f, none]
theorem first_loop (ns : List Int) (I : Inv h ((ns.take 30).map .int) 0 0 1) : ∃ h' a b c d, loopS false (srcA h (.ref 19)) (turn CL 5 lawT) (h, W9 ns none none none none none none) = .next h' (W9 ns a b c d none none) ∧ Inv h' ((ns.take 30).map .int) 30 30 31 := by
  have hl : ((ns.take 30).map AV.int).length ≤ 30 := by rw [List.length_map, List.length_take]; omega
  obtain ⟨h', vs', e, ⟨I', hi, a, b, c, d, rfl⟩⟩ := loop_list (C := CL) (x := 5) (body := lawT) (vs := W9 ns none none none none none none) I.src
    (fun i h vs => Inv h ((ns.take 30).map .int) i i (i + 1) ∧ i ≤ 30 ∧ ∃ a b c d, vs = W9 ns a b c d none none) (fun i h vs j => j.1.src) ⟨I, by omega, _, _, _, _, rfl⟩ (by
    rintro i v h _ hv ⟨I, hi, a, b, c, d, rfl⟩
    have hi' : i < ((ns.take 30).map AV.int).length := (List.getElem?_eq_some_iff.mp hv).1
    rw [List.getElem?_map] at hv
    cases z : (ns.take 30)[i]? with
    | none => rw [z] at hv; cases hv
    | some x =>
      rw [z] at hv
      cases hv
      obtain ⟨h', b', c', d', e, I'⟩ := law_turn I (by omega) (by omega) (by omega) ns x b c d
      exact ⟨h', _, e, I', by omega, _, _, _, _, rfl⟩)
  refine ⟨h', a, b, c, d, e, I'.st, I'.pl, I'.src, ?_, ?_, ?_, ?_⟩
  · obtain ⟨E, L, B⟩ := I'.b0; exact ⟨E, L, B.more hi⟩
  · obtain ⟨E, L, B⟩ := I'.b1; exact ⟨E, L, B.more hi⟩
  · obtain ⟨K, k1, k2, k3⟩ := I'.kp; exact ⟨K, k1, Nat.le_trans k2 hi, k3⟩
  · obtain ⟨T, k1, k2, k3⟩ := I'.kn; exact ⟨T, k1, k2, by omega⟩
noncomputable abbrev sAsk : MS := .ifs (.not (.call 12 [.call 14 [.idx (.var 1) (.int 0), .var 10, .var 9], .tup [.str [110, 111, 116, 32, 116, 104, 101, 114, 101], .bool true]])) [.ret (.bool false)] []
noncomputable abbrev sNone : MS := .ifs (.not (.call 12 [.meth (.idx (.var 1) (.int 0)) 3 [.var 9], .int 0])) [.ret (.bool false)] []
/-- what is no number -/
noncomputable def odd3 (v : AV) : Prop := askable v = true ∧ (∀ E, hasE E v = false) ∧ ∀ E, countE E v = 0
theorem ask_is (I : Inv h ls N M R) {v : AV} (hv : odd3 v) (y : Nat) (hy : y < 2) (ns : List Int) (a b c d : Option AV) : exs CL [sAsk] h (W9 ns a b c d (some v) (some (.int y))) = .next (h ++ [.list [.str tNot]]) (W9 ns a b c d (some v) (some (.int y))) := by
  obtain ⟨E, L, B⟩ := I.b0
  have q : callF prog 6 false (wayF y) [.ref 0, v] h = .exc 3 h := by
    match y, hy with
    | 0, _ => exact free_no (n := 3) B.S v hv.1 (hv.2.1 E)
    | 1, _ => exact piece_no (n := 3) B.S v hv.1 (hv.2.1 E)
  have an := answer_exc (n := 5) B.S.inst y hy v q
  have al := alike_not (n := 5) (h := h ++ [.list [.str tNot]])
  have ix : idxA (.ref 8) (.int 0) h = some (.ref 0) := idx_list h I.st rfl rfl
  simp [ix, an, al, tup2]
theorem ask_loop (I : Inv h ls N M R) {v : AV} (hv : odd3 v) (ns : List Int) (a b c d f : Option AV) : ∃ xs f', ex CL (.loop 10 (.bi .range [.int 2]) [sAsk]) h (W9 ns a b c d (some v) f) = .next (h ++ xs) (W9 ns a b c d (some v) f') := by
  obtain ⟨⟨h', vs'⟩, e, xs, f', e1⟩ := range_inv (f := turn CL 10 [sAsk]) (fun _ st => ∃ xs f', st = (h ++ xs, W9 ns a b c d (some v) f')) 2 (s := (h, W9 ns a b c d (some v) f)) ⟨[], f, by simp⟩ (by
    rintro i _ hi ⟨xs, f', rfl⟩
    exact ⟨_, turn_next (ask_is (I.app xs) hv i hi ns a b c d), _, _, by rw [List.append_assoc]⟩)
  cases e1
  refine ⟨xs, f', ?_⟩
  have hl1 : -(lim : Int) ≤ 2 := by decide
  have hl2 : (2 : Int) ≤ lim := by decide
  have := loopS_go e
  simp [hl1, hl2, this]
theorem none_is (I : Inv h ls N M R) {v : AV} (hv : odd3 v) (ns : List Int) (a b c d f : Option AV) : ex CL sNone h (W9 ns a b c d (some v) f) = .next h (W9 ns a b c d (some v) f) := by
  obtain ⟨E, L, B⟩ := I.b0
  have ix : idxA (.ref 8) (.int 0) h = some (.ref 0) := idx_list h I.st rfl rfl
  have m1 := meth_at (m := 3) (f := 4) B.S.inst
  have ct := count_is (n := 4) (hd := false) B.S v hv.1
  rw [hv.2.2 E] at ct
  have al := alike_int (n := 5) (hd := false) (h := h) 0 0
  simp [ix, m1, ct, al]
noncomputable abbrev thr : List AV := [.bool true, .none, .str [49]]
theorem odd_of {v : AV} {i : Nat} (e : thr[i]? = some v) : odd3 v := by
  have : v ∈ thr := List.mem_of_getElem? e
  rcases List.mem_cons.mp this with rfl | this
  · exact ⟨rfl, fun _ => rfl, fun _ => rfl⟩
  rcases List.mem_cons.mp this with rfl | this
  · exact ⟨rfl, fun _ => rfl, fun _ => rfl⟩
  rw [List.mem_singleton.mp this]
  exact ⟨rfl, fun _ => rfl, fun _ => rfl⟩
theorem last_loop (I : Inv h ls N M R) (ns : List Int) (a b c d : Option AV) : ∃ h' e f, ex CL (.loop 9 (.list [.bool true, .none, .str [49]]) [.loop 10 (.bi .range [.int 2]) [sAsk], sNone]) h (W9 ns a b c d none none) = .next h' (W9 ns a b c d e f) ∧ Inv h' ls N M R := by
  have g : (h ++ [AO.list thr])[h.length]? = some (.list thr) := by simp
  obtain ⟨h', vs', e, I', _, e', f', rfl⟩ := loop_list (C := CL) (x := 9) (body := [.loop 10 (.bi .range [.int 2]) [sAsk], sNone]) (vs := W9 ns a b c d none none) g
    (fun _ h' vs => Inv h' ls N M R ∧ h'[h.length]? = some (.list thr) ∧ ∃ e f, vs = W9 ns a b c d e f) (fun _ _ _ j => j.2.1) ⟨I.app _, g, _, _, rfl⟩ (by
    rintro i v h1 _ hv ⟨I, g, e, f, rfl⟩
    obtain ⟨xs, f', e1⟩ := ask_loop I (odd_of hv) ns a b c d f
    have e2 := none_is (I.app xs) (odd_of hv) ns a b c d f'
    refine ⟨h1 ++ xs, W9 ns a b c d (some v) f', ?_, I.app xs, app_get g, some v, f', rfl⟩
    show exs CL _ h1 (W9 ns a b c d (some v) f) = _
    rw [exs_cons, e1, seqS_next, exs_cons, e2, seqS_next, exs_nil])
  refine ⟨h', e', f', ?_, I'⟩
  have hl : 3 ≤ lim := by decide
  rw [ex_loop]
  have c1 : ev CL (.list [.bool true, .none, .str [49]]) h (W9 ns a b c d none none) = .ok (.ref h.length) (h ++ [.list thr]) := by simp [hl]
  rw [c1, bindS_ok, e]
theorem dat_ints {a : Nat} {ns : List Int} (e : h[a]? = some (.list (ns.map .int))) : dat h (.ref a) = some (.list (ns.map .int)) := by
  show (match lst h[a]? with | some xs => (mapO datF xs).map PySem.PyData.list | none => none) = _
  rw [e]
  show (mapO datF (ns.map AV.int)).map PySem.PyData.list = _
  have : mapO datF (ns.map AV.int) = some (ns.map .int) := by
    clear e
    induction ns with
    | nil => rfl
    | cons x r ih => rw [List.map_cons, mapO_cons, ih]; rfl
  rw [this]; rfl
theorem eqv_ints : ∀ ns : List Int, PySem.PyData.eqvAll (ns.map .int) (ns.map .int) = true
  | [] => rfl
  | x :: r => by
    show (x == x && PySem.PyData.eqvAll (r.map .int) (r.map .int)) = true
    rw [eqv_ints r, beq_self_eq_true]; rfl
theorem ne_ints {a b : Nat} {ns : List Int} (ea : h[a]? = some (.list (ns.map .int))) (eb : h[b]? = some (.list (ns.map .int))) : cmpA .ne (.ref a) (.ref b) h = some false := by
  show (eqA h (.ref a) (.ref b)).map (!·) = _
  unfold eqA
  rw [dat_ints ea, dat_ints eb]
  show some (!PySem.PyData.eqvAll (ns.map .int) (ns.map .int)) = _
  rw [eqv_ints]; rfl
noncomputable abbrev sEnd : MS := .ret (.cmp (.comp (.var 11) 11 (.var 3) [.cmp (.idx (.var 11) (.int 0)) .ne (.idx (.var 11) (.int 1))]) .eq (.list []))
theorem law_end (I : Inv h ls N M R) (hM : M < 1000) (ns : List Int) (a b c d e f : Option AV) : ∃ h', exs CL [sEnd] h (W9 ns a b c d e f) = .ret (.bool true) h' := by
  obtain ⟨Ks, k1, k2, k3⟩ := I.kp
  have key := comp_list (cs := evConds CL [.cmp (.idx (.var 11) (.int 0)) .ne (.idx (.var 11) (.int 1))]) (el := ev CL (.var 11)) (x := 11) (vs := W9 ns a b c d e f) k1 (by omega) (fun _ => false) id (by
    intro v hv
    obtain ⟨x, y, l, rfl, _, _, ea, eb⟩ := k3 v hv
    have ne := ne_ints ea eb
    have i0 : idxA (.tup [.ref x, .ref y]) (.int 0) h = some (.ref x) := rfl
    have i1 : idxA (.tup [.ref x, .ref y]) (.int 1) h = some (.ref y) := rfl
    simp [i0, i1, ne]) (by intro v _ q; cases q)
  rw [List.filter_eq_nil_iff.mpr (by simp), List.map_nil] at key
  have hl : 0 ≤ lim := by decide
  have eq := eq_nil_yes (h := (h ++ [AO.list []]) ++ [AO.list []]) (a := h.length) (b := (h ++ [AO.list []]).length) (app_get (by simp)) (by simp)
  refine ⟨(h ++ [AO.list []]) ++ [AO.list []], ?_⟩
  rw [exs_cons, ex_ret, ev_cmp, ev_comp]
  have v3 : ev CL (.var 3) h (W9 ns a b c d e f) = .ok (.ref 16) h := rfl
  rw [v3, bind_ok, key, bind_ok, ev_list, evs_nil, bind_ok, newList_eq _ [] hl, bind_ok, eq]
  rfl
theorem plain05 (ns : List Int) (h63 : ns.length ≤ 63) : ∃ hp, callF prog 8 false law05 [.scr ns] [] = .ok (.bool true) hp := by
  have K0 : KeepG [] H0 (H0 ++ [AO.list [.int 30, .int 60], AO.list ((ns.take 30).map .int)]) := KeepG.app _ _
  have I0 : Inv (H0 ++ [AO.list [.int 30, .int 60], AO.list ((ns.take 30).map .int)]) ((ns.take 30).map .int) 0 0 1 :=
    ⟨rfl, rfl, rfl, ⟨_, _, bk0 K0⟩, ⟨_, _, bk1 K0⟩, ⟨[], rfl, Nat.le_refl _, by simp⟩, ⟨[[97]], rfl, Nat.le_refl _, Nat.le_refl _⟩⟩
  obtain ⟨h1, a, b, c, d, e1, I1⟩ := first_loop ns I0
  obtain ⟨h2, e, f, e2, I2⟩ := last_loop I1 ns a b c d
  obtain ⟨h3, e3⟩ := law_end I2 (by omega) ns a b c d e f
  refine ⟨h3, ?_⟩
  rw [callF_def (fn := fn_law) rfl rfl rfl]
  rw [exs_split 4]
  have s0 := law_start ns
  have v0 : [AV.scr ns].map some ++ List.replicate (fn_law.names.length - fn_law.np) none = [some (.scr ns), none, none, none, none, none, none, none, none, none, none, none] := rfl
  rw [v0, s0, seqS_next]
  have d4 : fn_law.body.drop 4 = [.loop 5 (.slice (.var 0) .none (.idx (.list [.int 30, .int 60]) (.bi .int [.cmp (.bi .len [.var 0]) .gt (.int 63)]))) lawT, .loop 9 (.list [.bool true, .none, .str [49]]) [.loop 10 (.bi .range [.int 2]) [sAsk], sNone], sEnd] := rfl
  rw [d4, exs_cons, ex_loop, law_src ns h63, bindS_ok, e1, seqS_next, exs_cons, e2, seqS_next, e3, fin_ret]
end Mine.PL

/-! The top on the tree heap, in one check (typed by hand). -/
set_option Elab.async false
namespace Mine
open PySem PySem.W PySem.Calls

noncomputable def topRunT (tb : String → Option Builtin) (p : Program) (w : World) (n₀ : Nat) (ann : Option Value) : Nat → SharedT → Thread → Option SharedT
  | 0, _, _ => none
  | n + 1, s, t => match through t with
    | true => some s
    | false => match stepOk n₀ ann t with
      | false => none
      | true => match stepT (denote tb) p w s t with
        | some (s', t') => topRunT tb p w n₀ ann n s' t'
        | none => none
theorem topRun_of {tb : String → Option Builtin} {p : Program} {w : World} {n₀ : Nat} {ann : Option Value} : ∀ {n : Nat} {s s' : SharedT} {t : Thread}, topRunT tb p w n₀ ann n s t = some s' → topRun tb p w n₀ ann n s.abs t = some s'.abs
  | 0, _, _, _, h => nomatch h
  | n + 1, s, s', t, h => by
    unfold topRunT at h
    unfold topRun
    cases he : through t with
    | true => rw [he] at h; cases h; rfl
    | false =>
      rw [he] at h
      cases hk : stepOk n₀ ann t with
      | false => rw [hk] at h; cases h
      | true =>
        rw [hk] at h
        cases hs : stepT (denote tb) p w s t with
        | none => rw [hs] at h; cases h
        | some r => obtain ⟨s₂, t₂⟩ := r; rw [hs] at h; rw [stepT_spec hs]; exact topRun_of h
noncomputable def btOf : Nat → List Obj → BT → BT
  | _, [], t => t
  | n, o :: r, t => btOf (n + 1) r (t.ins n o)
noncomputable abbrev boot0 (w : World) (os : OsState) : SharedT := ⟨btOf 0 (boot_heap w.params).objs.toList .nil, (boot_heap w.params).objs.size, (boot_heap w.params).life, #[], boot_drawn, boot_toks, os⟩
theorem boot_abs (w : World) (os : OsState) : (boot0 w os).abs = ⟨boot_heap w.params, #[], boot_drawn, boot_toks, os⟩ := by
  show Shared.mk (absHeap _ _ _) _ _ _ _ = _
  have : absHeap (btOf 0 (boot_heap w.params).objs.toList .nil) (boot_heap w.params).objs.size (boot_heap w.params).life = boot_heap w.params := by kernel_rfl
  rw [this]
theorem boot_size (w : World) : ((boot_heap w.params).isNs mainGlobals && (#[] : Array GenState).size == 0, (boot_heap w.params).objs.size, (boot_heap w.params).nsMap mainGlobals "__annotations__") = (true, 11, some (.ref 6)) := by kernel_rfl
/-- the top's end, looked at on the tree -/
theorem left_of_tree {p q : Program} {loose : List Str} {Xt : Shared → Bool} {α : Type} {Yf : Shared → α} {Ya : World → α} {N : Nat} (e : opening p = plainProg p.main.scope.names) (hN : Nat.ble 600 N = true) (f : ∀ s, fenceModules? p s = some s)
    (run : ∀ w : World, (fun os => (topRunT treeTable p w 11 (some (.ref 6)) N (boot0 w os) (topStub p)).map fun s =>
      ((staticsOk (importedModules p.main.body) (boot_heap w.params) s.abs.heap && namesBound p s.abs.heap && gensDone s.abs && laidKept (boot_heap w.params) s.abs.heap), openSeen q loose (importedModules p.main.body) Xt true s.abs, Yf s.abs)) = fun _ => some (true, openGood q loose, Ya w)) :
    LeftO p q loose Xt Yf Ya N := fun w => by
  obtain ⟨⟨h, gs, d, k, os⟩, e1, e2⟩ := Option.map_eq_some_iff.mp (boot_open (N := N) e hN f w)
  obtain ⟨rfl, rfl, rfl, rfl⟩ : h = boot_heap w.params ∧ gs = Array.mk [] ∧ d = boot_drawn ∧ k = boot_toks := by simpa using e2
  obtain ⟨s', r, l⟩ := Option.map_eq_some_iff.mp (congrFun (run w) os)
  obtain ⟨l1, l2, l3⟩ : _ ∧ _ ∧ _ := by simpa only [Prod.mk.injEq] using l
  obtain ⟨z1, z2, z3⟩ : _ ∧ _ ∧ _ := by simpa only [Prod.mk.injEq] using boot_size w
  have r := topRun_of r
  rw [boot_abs] at r
  have t : topFrom treeTable p w N ⟨boot_heap w.params, #[], boot_drawn, boot_toks, os⟩ = some s'.abs := by
    unfold topFrom
    dsimp only
    rw [z1, z2, z3, r]
    show (match staticsOk (importedModules p.main.body) (boot_heap w.params) s'.abs.heap && namesBound p s'.abs.heap && gensDone s'.abs && laidKept (boot_heap w.params) s'.abs.heap with | true => _ | false => _) = _
    rw [l1]
  unfold openEnds
  rw [e1]
  show (topFrom treeTable p w N _).map _ = _
  rw [t]
  exact congrArg some (Prod.ext l2 l3)
end Mine

open PySem PySem.W PyProof.Rows
set_option Elab.async false
set_option maxRecDepth 100000
set_option maxHeartbeats 8000000
namespace Mine
/-- the objects that are looked at -/
noncomputable def as05 : List Addr := [2, 3, 15, 22, 23, 24, 25, 28, 35, 36, 37, 40, 47, 48, 49, 52, 59, 60, 61, 64, 71, 72, 73, 76, 83, 84, 85, 88, 95, 96, 97, 100, 107, 108, 109, 112, 119, 120, 121, 124, 126, 127, 129, 130, 138, 140, 141, 143, 144, 145, 147, 148, 150, 151, 152, 154, 155, 157, 158, 159, 161, 162, 164, 165, 166, 168, 169, 171, 172, 173, 175, 176, 178, 179, 180, 182, 183, 185, 186, 187, 188, 189, 190, 191, 201, 203, 204, 206, 207, 208, 210, 211, 213, 214, 215, 217, 218, 220, 221, 222, 224, 225, 227, 228, 229, 231, 232, 234, 235, 236, 238, 239, 241, 242, 243, 245, 246, 248, 249, 250, 252, 253, 255, 256, 257, 260, 261, 262, 264, 265, 267, 268, 269, 272, 273]
noncomputable def fragAt (h : Heap) : List Addr → Frag
  | [] => []
  | a :: r => match h.get? a with
    | some o => (a, o) :: fragAt h r
    | none => fragAt h r
theorem fragAt_in (h : Heap) : ∀ as : List Addr, (fragAt h as).In h
  | [], a, o, e => nomatch e
  | b :: r, a, o, e => by
    unfold fragAt at e
    cases q : h.get? b with
    | none => rw [q] at e; exact fragAt_in h r a o e
    | some x =>
      rw [q] at e
      simp only [List.lookup] at e
      split at e
      · rename_i z; cases e; rw [beq_iff_eq.mp z]; exact q
      · exact fragAt_in h r a o e
noncomputable def lawIs (K : Frag) : Bool := match nsIn K mainGlobals "law" with
  | some (some (.ref a)) => a == faOf K prog law05
  | _ => false
theorem lawIs_ok {K : Frag} (h : lawIs K = true) : nsIn K mainGlobals "law" = some (some (.ref (faOf K prog law05))) := by
  unfold lawIs at h
  split at h
  · rename_i q; rw [q, beq_iff_eq.mp h]
  · cases h
noncomputable def chk05 (K : Frag) : Bool := fnsOk K prog 0 prog.fns && allB K prog && lawIs K
noncomputable def hook05 : Hook := ⟨Bool, fun s => chk05 (fragAt s.heap as05), fun _ => true, fun _ h => ∃ K : Frag, K.In h ∧ chk05 K = true, fun _ s e => ⟨_, fragAt_in s.heap as05, e⟩, fun _ _ _ ⟨K, X, e⟩ k => ⟨K, X.keeps k, e⟩⟩
noncomputable def q05 : Program := PySem.W.view PySem.Challenge.rw_uf020013_05.prog [26]
noncomputable def loose05 : List Str := (["ShelfError", "NoSize", "NoName", "NotThere", "NoPlace", "NoText", "TooLong", "TooMany", "NoNote", "is_number", "Stock", "_law_cell_at", "_law_whole", "_law_sign_by", "_law_text_by", "_law_alike", "_law_word_of", "_law_answer", "_law_counted", "_law_look", "_law_needed", "_law_freed"] : List String).map Str.ofString
theorem said05 : PySem.Challenge.rw_uf020013_05.wellSaid = true := by kernel_rfl
theorem left05 : LeftO Challenge.rw_uf020013_05.row.prog q05 loose05 (fun s => xlAt q05 [] s && recOk (RowW.records Challenge.rw_uf020013_05.row.toRowW) s) (Hook.obs hook05) (Hook.val hook05) 3000 := by
  refine left_of_tree rfl rfl (fun _ => rfl) fun w => ?_
  kernel_rfl
theorem walk05 (d : DefRec) (kwd : List (Str × Expr)) (hn : d.name = Str.ofString "law") : WalkO q05 loose05 (XL q05 []) hook05.says Challenge.rw_uf020013_05.row.toRowW d kwd fun f vs => call f vs := by
  intro w s₀ s₁ mg mb G Y fa o pm cd doc dV kV ho hd hcd hD hmg hg args vals as hpre hlay hrd hwl hlo
  obtain ⟨K, KX, hK⟩ := Y
  have hK : (fnsOk K prog 0 prog.fns && allB K prog && lawIs K) = true := hK
  obtain ⟨hK, hl⟩ := Bool.and_eq_true_iff.mp hK
  obtain ⟨hf, hB⟩ := Bool.and_eq_true_iff.mp hK
  refine Ground.open G ?_
  intro T B D TE TW
  wrow_args hpre hlay hrd hwl hlo
  rename_i hL hra hw1 hr0 hI hra2 hc1 hc2
  refine Mine.law_call (P := Mine.prog) (lw := Mine.law05) (n := 8) KX (topRead_of T) hf hB hmg (hn ▸ lawIs_ok hl) hL hI ?hn (by decide) (Mine.PL.plain05 _ ?h63) ?hR
  case h63 => omega
  case hn => show _ ≤ 16777216; omega
  case hR =>
    intro s' hk hos hgs
    refine' GoodW.toG ⟨.inl ⟨_, _, _, rfl, raisesW_false (by wrow_none_raised), .bool true, postW_of ?hsh ?hva ?hen, unshared_nil⟩, hk, hos, hgs.trans hg⟩
    case hsh => o_shape
    case hva => wtm_val
    case hen => w_fin
end Mine
theorem PySem.Challenge.cw_uf020013_05_holds : PySem.Challenge.rw_uf020013_05.Holds := by
  w_on
  refine holds_law Mine.said05 fun said => ?_
  refine holds_open (q := Mine.q05) (loose := Mine.loose05) (Xt := fun s => xlAt Mine.q05 [] s && recOk (RowW.records Challenge.rw_uf020013_05.row.toRowW) s) (XP := XL Mine.q05 []) (Yf := Hook.obs Mine.hook05) (Ya := Hook.val Mine.hook05) (YP := Hook.says Mine.hook05) (N := 3000) Mine.left05 (Hook.of Mine.hook05) (Hook.keeps Mine.hook05) (fun s e => xl_of s (Bool.and_eq_true_iff.mp e).1) XL.keeps (by rfl) (by rfl) (by rfl) (fun s e => recFacts_of (Bool.and_eq_true_iff.mp e).2) (by rfl) said (by decide +kernel) ⟨rfl, rfl, rfl, rfl, rfl, by decide +kernel⟩ ?hw ?hc
  case hw => w_witness2
  case hc => exact Mine.walk05 _ _ rfl
