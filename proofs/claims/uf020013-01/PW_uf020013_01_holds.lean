import PyProof.Rows.All
import Wide.All
import OpenK.AllK
import Wide.FinOn
import PyProof.P3Statements
import PyProof.CompFree
import PyProof.DefCall
import PyProof.StationsW
import PyProof.Rows.News
import PyProof.EqKinds
import PyProof.Rules3
import PyProof.Cells
import PyProof.PureInt
import PyProof.ListOps
import PyProof.StrBlock2
import PyProof.NoPylong
import PyProof.Rows.RuleB_floordiv
import PyProof.Rows.IntRules
import PyProof.EqLayable
import PyProof.P3In
import PyProof.FString5
import PyProof.Truth
import PyProof.ListTruth
import PyProof.Rows.Nodes
import PyProof.Rows.TupMore
import PyProof.Rows.Lst
import PyProof.SliceMore
import PyProof.SliceStr2
import PyProof.SliceSyntax
import PyProof.LetGo
import PyProof.ListIndexNeg
import PyProof.TupleIter
import PyProof.Rows.TupSub
import PyProof.Rows.StrTemp
import PyProof.Rows.FactsTup
import PyProof.Rows.FactsSeq_str
import PyProof.FactsIdx
import PyProof.StrBlockI
import PyProof.SeqI
import OpenK.KWalk
import PyProof.IsRules
import PyProof.PlainList
import PyProof.CompMap
import PyProof.WalksMore
import PyProof.StrWalks
import PyProof.Rows.RuleB_small
import PyProof.CompUse
import PySem.Challenge.RW_uf020013_01
/-! An abstract interpreter for the part of Python that the laws use (typed by hand; not of the kit). -/
set_option Elab.async false
namespace Mine

/-- a value: textsA are lists of codes, tuples are values, lists, dicts and instances are places in an abstract heap -/
inductive AV where
  | none
  | bool (b : Bool)
  | int (i : Int)
  | str (s : List Nat)
  | ref (l : Nat)
  | scr (ns : List Int)
  | rng (a b : Int)

/-- an object -/
inductive AO where
  | list (xs : List AV)

noncomputable abbrev Hp := List AO
noncomputable abbrev Vs := List (Option AV)

inductive Out (α : Type) where
  | ok (a : α) (h : Hp)
  | fail

noncomputable def Out.bind {α β : Type} (x : Out α) (f : α → Hp → Out β) : Out β :=
  match x with
  | .ok a h => f a h
  | .fail => .fail

inductive OutS where
  | next (h : Hp) (vs : Vs)
  | ret (v : AV) (h : Hp)
  | fail

inductive BOp where | add | sub | mul | mod | div
deriving DecidableEq
inductive COp where | eq | ne | lt | le | gt | ge | isin | notin
deriving DecidableEq
inductive Kd where | int | str | bool | tup | list
deriving DecidableEq
/-- built-in functions -/
inductive Bi where | len | ord | range | min
deriving DecidableEq
/-- methods of built-in types -/
inductive Bm where | append | join
deriving DecidableEq

inductive ME where
  | none
  | bool (b : Bool)
  | int (i : Int)
  | str (s : List Nat)
  | var (x : Nat)
  | powc (a b : Nat)
  | bin (op : BOp) (l r : ME)
  | not (e : ME)
  | and (es : List ME)
  | or (es : List ME)
  | cmp (l : ME) (op : COp) (r : ME)
  | isNone (e : ME)
  | isTrue (e : ME)
  | list (es : List ME)
  | idx (o i : ME)
  | slice (o lo hi : ME)
  | call (f : Nat) (args : List ME)
  | bi (b : Bi) (args : List ME)
  | bm (m : Bm) (o : ME) (args : List ME)
  | inst (e : ME) (k : Kd)
  | comp (elt : ME) (x : Nat) (src : ME) (conds : List ME)

inductive MS where
  | set (x : Nat) (e : ME)
  | expr (e : ME)
  | ifs (t : ME) (a b : List MS)
  | loop (x : Nat) (src : ME) (body : List MS)
  | ret (e : ME)
  | pass

structure Fn where
  name : PySem.Str
  np : Nat
  /-- how many slots are the def's own names; the rest are comprehensions' -/
  nl : Nat
  names : List PySem.Str
  body : List MS

structure Pr where
  fns : List Fn

noncomputable def lim : Nat := 16777216

/-! ### data behind values -/
noncomputable def tS (s : List Nat) : PySem.Str := ⟨s.toArray⟩
noncomputable def mapO {α β : Type} (f : α → Option β) : List α → Option (List β)
  | [] => some []
  | x :: xs => match f x with
    | some y => (match mapO f xs with
      | some ys => some (y :: ys)
      | Option.none => Option.none)
    | Option.none => Option.none

noncomputable def datF : AV → Option PySem.PyData
  | .int i => some (.int i)
  | .str s => some (.str (tS s))
  | _ => Option.none
noncomputable def dat (h : Hp) (v : AV) : Option PySem.PyData := match v with
  | .ref l => match h[l]? with
    | some (.list xs) => (mapO datF xs).map .list
    | Option.none => Option.none
  | v => datF v
noncomputable def eqA (h : Hp) (a b : AV) : Option Bool := match dat h a with
  | some x => (match dat h b with
    | some y => some (PySem.PyData.eqv x y)
    | Option.none => Option.none)
  | Option.none => Option.none

/-! ### textsA -/
noncomputable def rep (n : Nat) (s : List Nat) : List Nat := match n with
  | 0 => []
  | n + 1 => s ++ rep n s
noncomputable def joinT (sep : List Nat) : List (List Nat) → List Nat
  | [] => []
  | [x] => x
  | x :: y :: r => x ++ sep ++ joinT sep (y :: r)
/-! ### operations -/
noncomputable def small (a : Int) : Bool := decide (a.natAbs < 18446744073709551616)
noncomputable def newList (xs : List AV) (h : Hp) : Out AV := if xs.length ≤ lim then .ok (.ref h.length) (h ++ [.list xs]) else .fail

noncomputable def addA (a b : AV) (h : Hp) : Out AV := match a with
  | .int x => (match b with
    | .int y => .ok (.int (x + y)) h
    | _ => .fail)
  | .str x => (match b with
    | .str y => if x.length + y.length ≤ lim then .ok (.str (x ++ y)) h else .fail
    | _ => .fail)
  | .ref x => (match b with
    | .ref y => (match h[x]? with
      | some (.list xs) => (match h[y]? with
        | some (.list ys) => newList (xs ++ ys) h
        | Option.none => .fail)
      | Option.none => .fail)
    | _ => .fail)
  | _ => .fail
noncomputable def arithA (f : Int → Int → Out AV) (a b : AV) : Out AV := match a with
  | .int x => (match b with
    | .int y => f x y
    | _ => .fail)
  | _ => .fail
noncomputable def mulA (a b : AV) (h : Hp) : Out AV := match a with
  | .str x => (match b with
    | .int y => if -lim ≤ y ∧ y ≤ lim ∧ x.length * y.toNat ≤ lim then .ok (.str (rep y.toNat x)) h else .fail
    | _ => .fail)
  | a => arithA (fun x y => if small x || small y then .ok (.int (x * y)) h else .fail) a b
noncomputable def binA (op : BOp) (a b : AV) (h : Hp) : Out AV := match op with
  | .add => addA a b h
  | .sub => arithA (fun x y => .ok (.int (x - y)) h) a b
  | .mul => mulA a b h
  | .mod => arithA (fun x y => if 0 < y then .ok (.int (x % y)) h else .fail) a b
  | .div => arithA (fun x y => if 0 < y ∧ y < 18446744073709551616 then .ok (.int (x / y)) h else .fail) a b

noncomputable def ordA (f : Int → Int → Bool) (a b : AV) : Option Bool := match a with
  | .int x => (match b with
    | .int y => some (f x y)
    | _ => Option.none)
  | _ => Option.none
noncomputable def inA (h : Hp) (x v : AV) : Option Bool := match v with
  | .ref l => match h[l]? with
    | some (.list xs) => (match datF x with
      | some d => (match mapO datF xs with
        | some ds => some (ds.any fun e => PySem.PyData.eqv e d)
        | Option.none => Option.none)
      | Option.none => Option.none)
    | Option.none => Option.none
  | _ => Option.none

noncomputable def cmpA (op : COp) (a b : AV) (h : Hp) : Option Bool := match op with
  | .eq => eqA h a b
  | .ne => (eqA h a b).map (!·)
  | .isin => inA h a b
  | .notin => (inA h a b).map (!·)
  | .lt => ordA (fun x y => decide (x < y)) a b
  | .le => ordA (fun x y => decide (x ≤ y)) a b
  | .gt => ordA (fun x y => decide (x > y)) a b
  | .ge => ordA (fun x y => decide (x ≥ y)) a b

noncomputable def truth (h : Hp) : AV → Option Bool
  | .none => some false
  | .bool b => some b
  | .int i => some (decide (i ≠ 0))
  | .str s => some (!s.isEmpty)
  | .ref l => match h[l]? with
    | some (.list xs) => some (!xs.isEmpty)
    | Option.none => Option.none
  | _ => Option.none

/-- a place that may be counted from behind -/
noncomputable def place (n : Nat) (i : Int) : Option Nat :=
  if 0 ≤ i then (if i < n then some i.toNat else Option.none) else (if 0 ≤ i + n then some (i + n).toNat else Option.none)
noncomputable def bound (n : Nat) (dflt : Nat) : AV → Option Nat
  | .none => some dflt
  | .int i => some (if 0 ≤ i then min i.toNat n else (i + n).toNat)
  | _ => Option.none
noncomputable def cut {α : Type} (xs : List α) (a b : Nat) : List α := (xs.drop a).take (b - a)

noncomputable def idxA (o i : AV) (h : Hp) : Option AV := match i with
  | .int i => (match o with
    | .str s => (place s.length i).bind fun k => (s[k]?).map fun c => .str [c]
    | .scr ns => (place ns.length i).bind fun k => (ns[k]?).map .int
    | .ref l => (match h[l]? with
      | some (.list xs) => (place xs.length i).bind fun k => xs[k]?
      | Option.none => Option.none)
    | _ => Option.none)
  | _ => Option.none

noncomputable def sliceA (o lo hi : AV) (h : Hp) : Out AV := match o with
  | .str s => (match bound s.length 0 lo with
    | some a => (match bound s.length s.length hi with
      | some b => .ok (.str (cut s a b)) h
      | Option.none => .fail)
    | Option.none => .fail)
  | .ref l => (match h[l]? with
    | some (.list xs) => (match bound xs.length 0 lo with
      | some a => (match bound xs.length xs.length hi with
        | some b => newList (cut xs a b) h
        | Option.none => .fail)
      | Option.none => .fail)
    | Option.none => .fail)
  | _ => .fail

noncomputable def asInt : AV → Option Int
  | .int i => some i
  | _ => Option.none
noncomputable def asStr : AV → Option (List Nat)
  | .str s => some s
  | _ => Option.none
noncomputable def intsA (xs : List AV) : Option (List Int) := mapO asInt xs
noncomputable def textsA (xs : List AV) : Option (List (List Nat)) := mapO asStr xs
noncomputable def listAt (h : Hp) (v : AV) : Option (List AV) := match v with
  | .ref l => (match h[l]? with
    | some (.list xs) => some xs
    | Option.none => Option.none)
  | _ => Option.none

noncomputable def minL : Int → List Int → Int
  | a, [] => a
  | a, b :: r => minL (if b < a then b else a) r

noncomputable def lenA (v : AV) (h : Hp) : Out AV := match v with
  | .str s => .ok (.int s.length) h
  | .scr ns => .ok (.int ns.length) h
  | v => (match listAt h v with
    | some xs => .ok (.int xs.length) h
    | Option.none => .fail)
noncomputable def ordCA (v : AV) (h : Hp) : Out AV := match v with
  | .str s => (match s with
    | [c] => .ok (.int c) h
    | _ => .fail)
  | _ => .fail
noncomputable def rngA (a b : Int) (h : Hp) : Out AV := if -lim ≤ a ∧ a ≤ lim ∧ -lim ≤ b ∧ b ≤ lim then .ok (.rng a b) h else .fail
noncomputable def minA (v : AV) (h : Hp) : Out AV := match (listAt h v).bind intsA with
  | some ns => (match ns with
    | a :: r => .ok (.int (minL a r)) h
    | [] => .fail)
  | Option.none => .fail
noncomputable def bi1 (b : Bi) (v : AV) (h : Hp) : Out AV := match b with
  | .len => lenA v h
  | .ord => ordCA v h
  | .range => (match v with
    | .int b => rngA 0 b h
    | _ => .fail)
  | .min => minA v h
noncomputable def bi2 (b : Bi) (v w : AV) (h : Hp) : Out AV := match b with
  | .range => arithA (fun x y => rngA x y h) v w
  | .min => arithA (fun x y => .ok (.int (if y < x then y else x)) h) v w
  | _ => .fail
noncomputable def biA (b : Bi) (as : List AV) (h : Hp) : Out AV := match as with
  | [v] => bi1 b v h
  | [v, w] => bi2 b v w h
  | _ => .fail

noncomputable def bmA (m : Bm) (x : AV) (as : List AV) (h : Hp) : Out AV := match as with
  | [v] => (match m with
    | .append => (match x with
      | .ref l => (match h[l]? with
        | some (.list xs) => if xs.length < lim then .ok .none (h.set l (.list (xs ++ [v]))) else .fail
        | Option.none => .fail)
      | _ => .fail)
    | .join => (match x with
      | .str sep => (match (listAt h v).bind textsA with
        | some ts => if (ts.map (·.length)).sum + ts.length * sep.length ≤ lim then .ok (.str (joinT sep ts)) h else .fail
        | Option.none => .fail)
      | _ => .fail))
  | _ => .fail

/-- has the value this method -/
noncomputable def bmKd (m : Bm) (x : AV) (h : Hp) : Bool := match m with
  | .append => (listAt h x).isSome
  | .join => (match x with
    | .str _ => true
    | _ => false)

noncomputable def instA (h : Hp) (v : AV) (k : Kd) : Option Bool := match v with
  | .none => some false
  | .bool _ => some (k == .bool || k == .int)
  | .int _ => some (k == .int)
  | .str _ => some (k == .str)
  | .ref l => match h[l]? with
    | some (.list _) => some (k == .list)
    | Option.none => Option.none
  | _ => Option.none

/-! ### loops -/
inductive It (σ ρ : Type) where
  | go (s : σ)
  | stop (r : ρ)

noncomputable def iterL {σ ρ : Type} (f : AV → σ → It σ ρ) : List AV → σ → It σ ρ
  | [], s => .go s
  | v :: r, s => match f v s with
    | .go s' => iterL f r s'
    | .stop x => .stop x
noncomputable def iterR {σ ρ : Type} (get : σ → Option (List AV)) (bad : ρ) (f : AV → σ → It σ ρ) : Nat → Nat → σ → It σ ρ
  | 0, _, _ => .stop bad
  | n + 1, i, s => match get s with
    | Option.none => .stop bad
    | some xs => match xs[i]? with
      | Option.none => .go s
      | some v => match f v s with
        | .go s' => iterR get bad f n (i + 1) s'
        | .stop x => .stop x

inductive Src where
  | fixed (xs : List AV)
  | list (l n : Nat)

noncomputable def ups (a : Int) (n : Nat) : List AV := match n with
  | 0 => []
  | n + 1 => .int a :: ups (a + 1) n
noncomputable def srcA (h : Hp) : AV → Option Src
  | .str s => some (.fixed (s.map fun c => .str [c]))
  | .rng a b => some (.fixed (ups a (b - a).toNat))
  | .ref l => match h[l]? with
    | some (.list xs) => some (.list l xs.length)
    | Option.none => Option.none
  | _ => Option.none
noncomputable def getL (l : Nat) (h : Hp) : Option (List AV) := match h[l]? with
  | some (.list xs) => some xs
  | Option.none => Option.none
noncomputable def iter {τ ρ : Type} (src : Src) (bad : ρ) (f : AV → Hp × τ → It (Hp × τ) ρ) (s : Hp × τ) : It (Hp × τ) ρ := match src with
  | .fixed xs => iterL f xs s
  | .list l n => iterR (fun s => getL l s.1) bad f (n + 1) 0 s

/-- one turn of a comprehension -/
noncomputable def compF (cs : Hp → Vs → Out Bool) (el : Hp → Vs → Out AV) (x : Nat) (vs : Vs) (v : AV) (st : Hp × List AV) : It (Hp × List AV) (Out AV) :=
  match cs st.1 (vs.set x (some v)) with
  | .ok true h => match el h (vs.set x (some v)) with
    | .ok w h => if st.2.length < lim then .go (h, st.2 ++ [w]) else .stop .fail
    | .fail => .stop .fail
  | .ok false h => .go (h, st.2)
  | .fail => .stop .fail

/-! ### the interpreter -/
structure Cx where
  call : Nat → List AV → Hp → Out AV

mutual
noncomputable def ev (C : Cx) : ME → Hp → Vs → Out AV
  | .none, h, _ => .ok .none h
  | .bool b, h, _ => .ok (.bool b) h
  | .int i, h, _ => .ok (.int i) h
  | .str s, h, _ => .ok (.str s) h
  | .powc a b, h, _ => .ok (.int ((a ^ b : Nat) : Int)) h
  | .var x, h, vs => match vs[x]? with
    | some (some v) => .ok v h
    | _ => .fail
  | .bin op a b, h, vs => (ev C a h vs).bind fun x h => (ev C b h vs).bind fun y h => binA op x y h
  | .not e, h, vs => (ev C e h vs).bind fun x h => match truth h x with
    | some b => .ok (.bool (!b)) h
    | Option.none => .fail
  | .and es, h, vs => evAnd C es h vs
  | .or es, h, vs => evOr C es h vs
  | .cmp l op r, h, vs => (ev C l h vs).bind fun x h => (ev C r h vs).bind fun y h => match cmpA op x y h with
    | some b => .ok (.bool b) h
    | Option.none => .fail
  | .isNone e, h, vs => (ev C e h vs).bind fun x h => match x with
    | .none => .ok (.bool true) h
    | _ => .ok (.bool false) h
  | .isTrue e, h, vs => (ev C e h vs).bind fun x h => match x with
    | .bool true => .ok (.bool true) h
    | _ => .ok (.bool false) h
  | .list es, h, vs => (evs C es h vs).bind fun xs h => newList xs h
  | .idx o i, h, vs => (ev C o h vs).bind fun x h => (ev C i h vs).bind fun y h => match idxA x y h with
    | some v => .ok v h
    | Option.none => .fail
  | .slice o lo hi, h, vs => (ev C o h vs).bind fun x h => (ev C lo h vs).bind fun a h => (ev C hi h vs).bind fun b h => sliceA x a b h
  | .call f args, h, vs => (evs C args h vs).bind fun xs h => C.call f xs h
  | .bi b args, h, vs => (evs C args h vs).bind fun xs h => biA b xs h
  | .bm m o args, h, vs => (ev C o h vs).bind fun x h => if bmKd m x h then (evs C args h vs).bind fun xs h => bmA m x xs h else .fail
  | .inst e k, h, vs => (ev C e h vs).bind fun x h => match instA h x k with
    | some b => .ok (.bool b) h
    | Option.none => .fail
  | .comp elt x src conds, h, vs => (ev C src h vs).bind fun s h => match srcA h s with
    | some src => match iter src Out.fail (compF (fun h vs => evConds C conds h vs) (fun h vs => ev C elt h vs) x vs) (h, []) with
      | .go st => newList st.2 st.1
      | .stop o => o
    | Option.none => .fail

noncomputable def evs (C : Cx) : List ME → Hp → Vs → Out (List AV)
  | [], h, _ => .ok [] h
  | e :: r, h, vs => (ev C e h vs).bind fun x h => (evs C r h vs).bind fun xs h => .ok (x :: xs) h

noncomputable def evAnd (C : Cx) : List ME → Hp → Vs → Out AV
  | [], _, _ => .fail
  | [e], h, vs => ev C e h vs
  | e :: r, h, vs => (ev C e h vs).bind fun x h => match truth h x with
    | some false => .ok x h
    | some true => evAnd C r h vs
    | Option.none => .fail

noncomputable def evOr (C : Cx) : List ME → Hp → Vs → Out AV
  | [], _, _ => .fail
  | [e], h, vs => ev C e h vs
  | e :: r, h, vs => (ev C e h vs).bind fun x h => match truth h x with
    | some true => .ok x h
    | some false => evOr C r h vs
    | Option.none => .fail

noncomputable def evConds (C : Cx) : List ME → Hp → Vs → Out Bool
  | [], h, _ => .ok true h
  | e :: r, h, vs => (ev C e h vs).bind fun x h => match truth h x with
    | some true => evConds C r h vs
    | some false => .ok false h
    | Option.none => .fail
end

mutual
noncomputable def ex (C : Cx) : MS → Hp → Vs → OutS
  | .set x e, h, vs => match ev C e h vs with
    | .ok v h => .next h (vs.set x (some v))
    | .fail => .fail
  | .expr e, h, vs => match ev C e h vs with
    | .ok _ h => .next h vs
    | .fail => .fail
  | .ifs t a b, h, vs => match ev C t h vs with
    | .ok v h => match truth h v with
      | some true => exs C a h vs
      | some false => exs C b h vs
      | Option.none => .fail
    | .fail => .fail
  | .loop x src body, h, vs => match ev C src h vs with
    | .ok s h => match srcA h s with
      | some src => match iter src OutS.fail (fun v (st : Hp × Vs) => match exs C body st.1 (st.2.set x (some v)) with
          | .next h vs => .go (h, vs)
          | o => .stop o) (h, vs) with
        | .go st => .next st.1 st.2
        | .stop o => o
      | Option.none => .fail
    | .fail => .fail
  | .ret e, h, vs => match ev C e h vs with
    | .ok v h => .ret v h
    | .fail => .fail
  | .pass, h, vs => .next h vs

noncomputable def exs (C : Cx) : List MS → Hp → Vs → OutS
  | [], h, vs => .next h vs
  | s :: r, h, vs => match ex C s h vs with
    | .next h vs => exs C r h vs
    | o => o
end

/-- a call: n calls deep at most -/
noncomputable def callF (P : Pr) : Nat → Nat → List AV → Hp → Out AV
  | 0, _, _, _ => .fail
  | n + 1, f, args, h => match P.fns[f]? with
    | some fn => if args.length = fn.np ∧ fn.body.isEmpty = false then
        match exs ⟨callF P n⟩ fn.body h (args.map some ++ List.replicate (fn.names.length - fn.np) Option.none) with
        | .next h _ => .ok .none h
        | .ret v h => .ok v h
        | .fail => .fail
      else .fail
    | Option.none => .fail

end Mine

set_option Elab.async false
namespace Mine
section
set_option autoImplicit true
set_option relaxedAutoImplicit true
set_option linter.unusedVariables false
theorem mapO_cons {α β : Type} (f : α → Option β) (x : α) (xs : List α) : mapO f (x :: xs) = (match f x with
    | some y => (match mapO f xs with
      | some ys => some (y :: ys)
      | Option.none => Option.none)
    | Option.none => Option.none) := rfl
theorem ev_q1 : ev C .none h vs = (.ok .none h) := rfl
theorem ev_q2 : ev C (.bool b) h vs = (.ok (.bool b) h) := rfl
theorem ev_q3 : ev C (.int i) h vs = (.ok (.int i) h) := rfl
theorem ev_q4 : ev C (.str s) h vs = (.ok (.str s) h) := rfl
theorem ev_q5 : ev C (.powc a b) h vs = (.ok (.int ((a ^ b : Nat) : Int)) h) := rfl
theorem ev_q6 : ev C (.var x) h vs = (match vs[x]? with
    | some (some v) => .ok v h
    | _ => .fail) := rfl
theorem ev_q7 : ev C (.bin op a b) h vs = ((ev C a h vs).bind fun x h => (ev C b h vs).bind fun y h => binA op x y h) := rfl
theorem ev_q8 : ev C (.not e) h vs = ((ev C e h vs).bind fun x h => match truth h x with
    | some b => .ok (.bool (!b)) h
    | Option.none => .fail) := rfl
theorem ev_q9 : ev C (.and es) h vs = (evAnd C es h vs) := rfl
theorem ev_q10 : ev C (.or es) h vs = (evOr C es h vs) := rfl
theorem ev_q11 : ev C (.cmp l op r) h vs = ((ev C l h vs).bind fun x h => (ev C r h vs).bind fun y h => match cmpA op x y h with
    | some b => .ok (.bool b) h
    | Option.none => .fail) := rfl
theorem ev_q12 : ev C (.isNone e) h vs = ((ev C e h vs).bind fun x h => match x with
    | .none => .ok (.bool true) h
    | _ => .ok (.bool false) h) := rfl
theorem ev_q13 : ev C (.isTrue e) h vs = ((ev C e h vs).bind fun x h => match x with
    | .bool true => .ok (.bool true) h
    | _ => .ok (.bool false) h) := rfl
theorem ev_q14 : ev C (.list es) h vs = ((evs C es h vs).bind fun xs h => newList xs h) := rfl
theorem ev_q15 : ev C (.idx o i) h vs = ((ev C o h vs).bind fun x h => (ev C i h vs).bind fun y h => match idxA x y h with
    | some v => .ok v h
    | Option.none => .fail) := rfl
theorem ev_q16 : ev C (.slice o lo hi) h vs = ((ev C o h vs).bind fun x h => (ev C lo h vs).bind fun a h => (ev C hi h vs).bind fun b h => sliceA x a b h) := rfl
theorem ev_q17 : ev C (.call f args) h vs = ((evs C args h vs).bind fun xs h => C.call f xs h) := rfl
theorem ev_q18 : ev C (.bi b args) h vs = ((evs C args h vs).bind fun xs h => biA b xs h) := rfl
theorem ev_q19 : ev C (.bm m o args) h vs = ((ev C o h vs).bind fun x h => if bmKd m x h then (evs C args h vs).bind fun xs h => bmA m x xs h else .fail) := rfl
theorem ev_q20 : ev C (.inst e k) h vs = ((ev C e h vs).bind fun x h => match instA h x k with
    | some b => .ok (.bool b) h
    | Option.none => .fail) := rfl
theorem ev_q21 : ev C (.comp elt x src conds) h vs = ((ev C src h vs).bind fun s h => match srcA h s with
    | some src => match iter src Out.fail (compF (fun h vs => evConds C conds h vs) (fun h vs => ev C elt h vs) x vs) (h, []) with
      | .go st => newList st.2 st.1
      | .stop o => o
    | Option.none => .fail) := rfl
theorem evs_q1 : evs C [] h vs = (.ok [] h) := rfl
theorem evs_q2 : evs C (e :: r) h vs = ((ev C e h vs).bind fun x h => (evs C r h vs).bind fun xs h => .ok (x :: xs) h) := rfl
theorem evAnd_q1 : evAnd C [] h vs = (.fail) := rfl
theorem evAnd_q2 : evAnd C [e] h vs = (ev C e h vs) := rfl
theorem evAnd_q3 : evAnd C (e :: e' :: r) h vs = ((ev C e h vs).bind fun x h => match truth h x with
    | some false => .ok x h
    | some true => evAnd C (e' :: r) h vs
    | Option.none => .fail) := rfl
theorem evOr_q1 : evOr C [] h vs = (.fail) := rfl
theorem evOr_q2 : evOr C [e] h vs = (ev C e h vs) := rfl
theorem evOr_q3 : evOr C (e :: e' :: r) h vs = ((ev C e h vs).bind fun x h => match truth h x with
    | some true => .ok x h
    | some false => evOr C (e' :: r) h vs
    | Option.none => .fail) := rfl
theorem evConds_q1 : evConds C [] h vs = (.ok true h) := rfl
theorem evConds_q2 : evConds C (e :: r) h vs = ((ev C e h vs).bind fun x h => match truth h x with
    | some true => evConds C r h vs
    | some false => .ok false h
    | Option.none => .fail) := rfl
theorem ex_q1 : ex C (.set x e) h vs = (match ev C e h vs with
    | .ok v h => .next h (vs.set x (some v))
    | .fail => .fail) := rfl
theorem ex_q2 : ex C (.expr e) h vs = (match ev C e h vs with
    | .ok _ h => .next h vs
    | .fail => .fail) := rfl
theorem ex_q3 : ex C (.ifs t a b) h vs = (match ev C t h vs with
    | .ok v h => match truth h v with
      | some true => exs C a h vs
      | some false => exs C b h vs
      | Option.none => .fail
    | .fail => .fail) := rfl
theorem ex_q4 : ex C (.loop x src body) h vs = (match ev C src h vs with
    | .ok s h => match srcA h s with
      | some src => match iter src OutS.fail (fun v (st : Hp × Vs) => match exs C body st.1 (st.2.set x (some v)) with
          | .next h vs => .go (h, vs)
          | o => .stop o) (h, vs) with
        | .go st => .next st.1 st.2
        | .stop o => o
      | Option.none => .fail
    | .fail => .fail) := rfl
theorem ex_q5 : ex C (.ret e) h vs = (match ev C e h vs with
    | .ok v h => .ret v h
    | .fail => .fail) := rfl
theorem ex_q6 : ex C .pass h vs = (.next h vs) := rfl
theorem exs_q1 : exs C [] h vs = (.next h vs) := rfl
theorem exs_q2 : exs C (s :: r) h vs = (match ex C s h vs with
    | .next h vs => exs C r h vs
    | o => o) := rfl
theorem callF_q2 : callF P (n + 1) f args h = (match P.fns[f]? with
    | some fn => if args.length = fn.np ∧ fn.body.isEmpty = false then
        match exs ⟨callF P n⟩ fn.body h (args.map some ++ List.replicate (fn.names.length - fn.np) Option.none) with
        | .next h _ => .ok .none h
        | .ret v h => .ok v h
        | .fail => .fail
      else .fail
    | Option.none => .fail) := rfl
end
end Mine

/-! Soundness of the abstract interpreter, part 1: the relation between abstract and model states (typed by hand). -/
set_option Elab.async false
namespace Mine
open PySem

/-- who owns an address: nobody (it is written by nobody but the frame that made it), an abstract place, or exceptions -/
inductive Ow where
  | free
  | loc (l : Nat)

structure Tp where
  prog : Program
  w : World
  P : Pr
  base : Heap
  mg : Str → Option Value
  mb : Str → Option Value
  fa : Nat → Addr

noncomputable abbrev Tp.M (T : Tp) : Model := model T.prog T.w

noncomputable def okS (s : List Nat) : Prop := (∀ c ∈ s, c < 128) ∧ s.length ≤ lim

inductive VR (T : Tp) (own : Addr → Ow) (bt : List Addr) (h : Heap) : AV → Value → Prop
  | none : VR T own bt h .none .none
  | bool (b : Bool) : VR T own bt h (.bool b) (.bool b)
  | int (i : Int) (t : Tok) : VR T own bt h (.int i) (.int i t)
  | str {s : List Nat} (t : Tok) : okS s → VR T own bt h (.str s) (.str (tS s) t)
  | ref {l : Nat} {a : Addr} : bt[l]? = some a → VR T own bt h (.ref l) (.ref a)
  | scr {ns : List Int} {a : Addr} {o : Obj} {vs : Array Value} {n : Nat} : T.base.get? a = some o → o.cls = .type "list" → o.data = .seq vs n → ns.length ≤ lim →
      (∀ (i : Nat) (x : Int), ns[i]? = some x → ∃ t, vs[i]? = some (Value.int x t)) → vs.size = ns.length → VR T own bt h (.scr ns) (.ref a)
  | rng {x y : Int} {a : Addr} {t u v : Tok} : h.get? a = some { cls := .type "range", dict := none, data := .fields #[Value.int x t, Value.int y u, Value.int 1 v], slots := #[] } → own a = .free →
      -lim ≤ x → x ≤ lim → -lim ≤ y → y ≤ lim → VR T own bt h (.rng x y) (.ref a)
inductive VRs (T : Tp) (own : Addr → Ow) (bt : List Addr) (h : Heap) : List AV → List Value → Prop
  | nil : VRs T own bt h [] []
  | cons {x : AV} {v : Value} {xs : List AV} {vs : List Value} : VR T own bt h x v → VRs T own bt h xs vs → VRs T own bt h (x :: xs) (v :: vs)

/-- an object as it stands, or a frame whose slots alone are changed -/
noncomputable def KO (o o' : Obj) : Prop := o' = o ∨ (o.cls = .type "frame" ∧ ∃ sl, o' = { o with slots := sl })
theorem KO.refl (o : Obj) : KO o o := .inl rfl
theorem KO.cls {o o' : Obj} (h : KO o o') : o'.cls = o.cls := by
  rcases h with rfl | ⟨_, sl, rfl⟩ <;> rfl
theorem KO.data {o o' : Obj} (h : KO o o') : o'.data = o.data := by
  rcases h with rfl | ⟨_, sl, rfl⟩ <;> rfl
theorem KO.same {o o' : Obj} (h : KO o o') (hc : o.cls ≠ .type "frame") : o' = o := by
  rcases h with rfl | ⟨q, _⟩
  · rfl
  · exact absurd q hc
theorem KO.trans {o₁ o₂ o₃ : Obj} (h : KO o₁ o₂) (k : KO o₂ o₃) : KO o₁ o₃ := by
  rcases h with rfl | ⟨q, sl, rfl⟩
  · exact k
  · rcases k with rfl | ⟨_, sl', rfl⟩
    · exact .inr ⟨q, sl, rfl⟩
    · exact .inr ⟨q, sl', rfl⟩

/-- from one state to a later one: what nobody owns stands (but for the addresses of X, the frame's own); owners stay -/
structure Ext (X : Addr → Prop) (own : Addr → Ow) (bt : List Addr) (h : Heap) (own' : Addr → Ow) (bt' : List Addr) (h' : Heap) : Prop where
  kp : ∀ a o, h.get? a = some o → own a = .free → ¬ X a → ∃ o', h'.get? a = some o' ∧ KO o o'
  df : ∀ a o, h.get? a = some o → ¬ X a → ∃ o', h'.get? a = some o'
  ow : ∀ a o, h.get? a = some o → ¬ X a → own' a = own a
  bt : ∃ r, bt' = bt ++ r

theorem Ext.refl (X : Addr → Prop) (own : Addr → Ow) (bt : List Addr) (h : Heap) : Ext X own bt h own bt h :=
  ⟨fun _ o e _ _ => ⟨o, e, .refl o⟩, fun _ o e _ => ⟨o, e⟩, fun _ _ _ _ => rfl, [], (List.append_nil _).symm⟩

theorem Ext.trans {X : Addr → Prop} {o₁ o₂ o₃ : Addr → Ow} {b₁ b₂ b₃ : List Addr} {h₁ h₂ h₃ : Heap} (x : Ext X o₁ b₁ h₁ o₂ b₂ h₂) (y : Ext X o₂ b₂ h₂ o₃ b₃ h₃) : Ext X o₁ b₁ h₁ o₃ b₃ h₃ where
  kp := fun a o e f n => by
    obtain ⟨o', e', k⟩ := x.kp a o e f n
    obtain ⟨o'', e'', k'⟩ := y.kp a o' e' ((x.ow a o e n).trans f) n
    exact ⟨o'', e'', k.trans k'⟩
  df := fun a o e n => by
    obtain ⟨o', e'⟩ := x.df a o e n
    exact y.df a o' e' n
  ow := fun a o e n => by
    obtain ⟨o', e'⟩ := x.df a o e n
    exact (y.ow a o' e' n).trans (x.ow a o e n)
  bt := by
    obtain ⟨r, e⟩ := x.bt
    obtain ⟨r', e'⟩ := y.bt
    exact ⟨r ++ r', by rw [e', e, List.append_assoc]⟩

theorem Ext.mono {X Y : Addr → Prop} {o₁ o₂ : Addr → Ow} {b₁ b₂ : List Addr} {h₁ h₂ : Heap} (x : Ext X o₁ b₁ h₁ o₂ b₂ h₂) (m : ∀ a, X a → Y a) : Ext Y o₁ b₁ h₁ o₂ b₂ h₂ :=
  ⟨fun a o e f n => x.kp a o e f fun q => n (m a q), fun a o e n => x.df a o e fun q => n (m a q), fun a o e n => x.ow a o e fun q => n (m a q), x.bt⟩

/-- the addresses of X are nobody's and hold no tuples and no ranges -/
noncomputable def FrX (X : Addr → Prop) (own : Addr → Ow) (h : Heap) : Prop := ∀ a, X a → own a = .free ∧ ∀ o, h.get? a = some o → (∃ es n, o.data = .dict es n) ∨ (∃ v, o.data = .cell v) ∨ (o.cls ≠ .type "tuple" ∧ o.cls ≠ .type "range")
noncomputable def noX : Addr → Prop := fun _ => False
theorem FrX.no {own : Addr → Ow} {h : Heap} : FrX noX own h := fun _ q => q.elim

section
variable {T : Tp} {X : Addr → Prop} {own own' : Addr → Ow} {bt bt' : List Addr} {h h' : Heap}

theorem VR.ext (x : Ext X own bt h own' bt' h') (fx : FrX X own h) {av : AV} {v : Value} (r : VR T own bt h av v) : VR T own' bt' h' av v := by
  cases r with
  | none => exact .none
  | bool b => exact .bool b
  | int i t => exact .int i t
  | str t q => exact .str t q
  | ref e =>
    obtain ⟨r, q⟩ := x.bt
    refine .ref ?_
    rw [q, List.getElem?_append_left (List.getElem?_eq_some_iff.mp e).1]; exact e
  | scr e c d l r z => exact .scr e c d l r z
  | rng e f a b c d =>
    have hx : ¬ X _ := fun q => by
      rcases (fx _ q).2 _ e with ⟨_, _, z⟩ | ⟨_, z⟩ | ⟨_, z⟩
      · cases z
      · cases z
      · exact z rfl
    obtain ⟨o', e', k⟩ := x.kp _ _ e f hx
    have k' := k.same (by simp)
    subst k'
    exact .rng e' ((x.ow _ _ e hx).trans f) a b c d
theorem VRs.ext (x : Ext X own bt h own' bt' h') (fx : FrX X own h) {xs : List AV} {vs : List Value} (r : VRs T own bt h xs vs) : VRs T own' bt' h' xs vs := by
  induction r with
  | nil => exact .nil
  | cons a _ ih => exact .cons (VR.ext x fx a) ih

theorem VRs.length {xs : List AV} {vs : List Value} (r : VRs T own bt h xs vs) : vs.length = xs.length := by
  induction r with
  | nil => rfl
  | cons _ _ ih => rw [List.length_cons, List.length_cons, ih]
theorem VRs.get {xs : List AV} {vs : List Value} (r : VRs T own bt h xs vs) : ∀ {i : Nat} {x : AV}, xs[i]? = some x → ∃ v, vs[i]? = some v ∧ VR T own bt h x v := by
  induction r with
  | nil => intro i x e; cases e
  | cons a _ ih =>
    intro i x e
    cases i with
    | zero => cases e; exact ⟨_, rfl, a⟩
    | succ i => exact ih e
theorem VRs.append {xs ys : List AV} {vs ws : List Value} (r : VRs T own bt h xs vs) (k : VRs T own bt h ys ws) : VRs T own bt h (xs ++ ys) (vs ++ ws) := by
  induction r with
  | nil => exact k
  | cons a _ ih => exact .cons a ih
theorem VRs.drop {xs : List AV} {vs : List Value} (n : Nat) (r : VRs T own bt h xs vs) : VRs T own bt h (xs.drop n) (vs.drop n) := by
  induction r generalizing n with
  | nil => rw [List.drop_nil, List.drop_nil]; exact .nil
  | cons a r ih =>
    cases n with
    | zero => exact .cons a r
    | succ n => exact ih n
theorem VRs.take {xs : List AV} {vs : List Value} (n : Nat) (r : VRs T own bt h xs vs) : VRs T own bt h (xs.take n) (vs.take n) := by
  induction r generalizing n with
  | nil => rw [List.take_nil, List.take_nil]; exact .nil
  | cons a r ih =>
    cases n with
    | zero => exact .nil
    | succ n => exact .cons a (ih n)
end
end Mine

/-! Soundness, part 2: objects, states, what a tree must give back (typed by hand). -/
set_option Elab.async false
namespace Mine
open PySem PySem.SeqAt

/-- an object of the abstract heap as the model has it -/
noncomputable def OR (T : Tp) (own : Addr → Ow) (bt : List Addr) (h : Heap) (l : Nat) (a : Addr) : AO → Prop
  | .list xs => ∃ vs n, h.get? a = some { cls := .type "list", data := .seq vs n } ∧ VRs T own bt h xs vs.toList ∧ xs.length ≤ lim

theorem OR.mono {T : Tp} {X : Addr → Prop} {own own' : Addr → Ow} {bt bt' : List Addr} {h h' : Heap} {l : Nat} {a : Addr} {o : AO} (r : OR T own bt h l a o) (x : Ext X own bt h own' bt' h') (fx : FrX X own h) (ha : own a = .loc l)
    (k : ∀ b q, own b = .loc l → h.get? b = some q → h'.get? b = some q) : OR T own' bt' h' l a o := by
  cases o with
  | list xs => obtain ⟨vs, n, h1, h2, h3⟩ := r; exact ⟨vs, n, k _ _ ha h1, h2.ext x fx, h3⟩

structure Wd where
  own : Addr → Ow
  bt : List Addr
  σ : Hp
  s : Shared

noncomputable abbrev Wd.h (W : Wd) : Heap := W.s.heap
noncomputable abbrev Wd.V (W : Wd) (T : Tp) : AV → Value → Prop := VR T W.own W.bt W.s.heap
noncomputable abbrev Wd.Vs (W : Wd) (T : Tp) : List AV → List Value → Prop := VRs T W.own W.bt W.s.heap

structure Inv (T : Tp) (W : Wd) : Prop where
  len : W.bt.length = W.σ.length
  ownb : ∀ l a, W.bt[l]? = some a → W.own a = .loc l
  lt : ∀ a, W.own a ≠ .free → (∃ o, W.h.get? a = some o) ∧ T.base.get? a = none
  obj : ∀ l o a, W.σ[l]? = some o → W.bt[l]? = some a → OR T W.own W.bt W.h l a o
  base : T.base.StaysIn W.h

structure Le (X : Addr → Prop) (W W' : Wd) : Prop where
  ext : Ext X W.own W.bt W.h W'.own W'.bt W'.h
  gens : W'.s.gens = W.s.gens
  os : W'.s.os = W.s.os

theorem Le.refl (X : Addr → Prop) (W : Wd) : Le X W W := ⟨.refl _ _ _ _, rfl, rfl⟩
theorem Le.trans {X : Addr → Prop} {W₁ W₂ W₃ : Wd} (x : Le X W₁ W₂) (y : Le X W₂ W₃) : Le X W₁ W₃ :=
  ⟨x.ext.trans y.ext, y.gens.trans x.gens, y.os.trans x.os⟩
theorem Le.mono {X Y : Addr → Prop} {W W' : Wd} (x : Le X W W') (m : ∀ a, X a → Y a) : Le Y W W' := ⟨x.ext.mono m, x.gens, x.os⟩
theorem Le.ofNo {X : Addr → Prop} {W W' : Wd} (x : Le noX W W') : Le X W W' := x.mono fun _ q => q.elim

theorem VR.le {T : Tp} {W W' : Wd} {av : AV} {v : Value} (r : W.V T av v) (x : Le noX W W') : W'.V T av v := VR.ext x.ext .no r
theorem VRs.le {T : Tp} {W W' : Wd} {av : List AV} {v : List Value} (r : W.Vs T av v) (x : Le noX W W') : W'.Vs T av v := VRs.ext x.ext .no r

theorem Inv.listAt {T : Tp} {W : Wd} (I : Inv T W) {l : Nat} {xs : List AV} {v : Value} (e : W.σ[l]? = some (.list xs)) (r : W.V T (.ref l) v) :
    ∃ a vs n, v = .ref a ∧ W.bt[l]? = some a ∧ W.h.get? a = some { cls := .type "list", data := .seq vs n } ∧ W.Vs T xs vs.toList ∧ xs.length ≤ lim := by
  cases r with
  | ref q =>
    obtain ⟨vs, n, h1, h2, h3⟩ := I.obj _ _ _ e q
    exact ⟨_, vs, n, rfl, q, h1, h2, h3⟩
/-! ### steps -/
/-- the model's heap keeps all that it had -/
theorem Inv.grow {T : Tp} {W : Wd} (I : Inv T W) {s' : Shared} (hk : ∀ a o, W.h.get? a = some o → s'.heap.get? a = some o) (hg : s'.gens = W.s.gens) (ho : s'.os = W.s.os) :
    Inv T { W with s := s' } ∧ Le noX W { W with s := s' } := by
  have x : Ext noX W.own W.bt W.h W.own W.bt s'.heap := ⟨fun a o e _ _ => ⟨o, hk a o e, .refl o⟩, fun a o e _ => ⟨o, hk a o e⟩, fun _ _ _ _ => rfl, [], (List.append_nil _).symm⟩
  refine ⟨⟨I.len, I.ownb, fun a q => ⟨let ⟨o, e⟩ := (I.lt a q).1; ⟨o, hk a o e⟩, (I.lt a q).2⟩, fun l o a e q => ?_, fun b o e => hk b o (I.base b o e)⟩, x, hg, ho⟩
  exact (I.obj l o a e q).mono x .no (I.ownb l a q) fun b q' _ e' => hk b q' e'

/-- a state with one object more -/
noncomputable abbrev Wd.push (W : Wd) (o : AO) (s' : Shared) : Wd := { own := fun a => if a = W.h.objs.size then .loc W.σ.length else W.own a, bt := W.bt ++ [W.h.objs.size], σ := W.σ ++ [o], s := s' }

theorem Inv.push {T : Tp} {W : Wd} (I : Inv T W) {s' : Shared} {o : AO} {ob : Obj} (hs : s'.heap.get? W.h.objs.size = some ob) (hk : ∀ a q, W.h.get? a = some q → s'.heap.get? a = some q)
    (hg : s'.gens = W.s.gens) (ho : s'.os = W.s.os) (hr : Ext noX W.own W.bt W.h (W.push o s').own (W.push o s').bt s'.heap → OR T (W.push o s').own (W.push o s').bt s'.heap W.σ.length W.h.objs.size o) :
    Inv T (W.push o s') ∧ Le noX W (W.push o s') ∧ (W.push o s').V T (.ref W.σ.length) (.ref W.h.objs.size) := by
  have x : Ext noX W.own W.bt W.h (W.push o s').own (W.push o s').bt s'.heap := ⟨fun a o e _ _ => ⟨o, hk a o e, .refl o⟩, fun a o e _ => ⟨o, hk a o e⟩,
    fun a o e _ => if_neg (Nat.ne_of_lt (Heap.lt_size e)), [W.h.objs.size], rfl⟩
  have hbt : ∀ l a, W.bt[l]? = some a → a < W.h.objs.size := fun l a e => let ⟨_, q⟩ := (I.lt a (by rw [I.ownb l a e]; simp)).1; Heap.lt_size q
  refine ⟨⟨by simp [I.len], fun l a e => ?_, fun a q => ?_, fun l o' a e q => ?_, fun b q e => hk _ _ (I.base b q e)⟩, ⟨x, hg, ho⟩, .ref (by simp [← I.len])⟩
  · simp only [Wd.push] at e ⊢
    rw [List.getElem?_append] at e
    split at e
    · rw [if_neg (Nat.ne_of_lt (hbt l a e))]; exact I.ownb l a e
    · rename_i hl
      have : l = W.bt.length := by
        rcases Nat.lt_or_ge l (W.bt.length + 1) with z | z
        · omega
        · rw [List.getElem?_eq_none (by simp; omega)] at e; cases e
      subst this
      simp at e
      rw [← e, if_pos rfl, I.len]
  · simp only [Wd.push] at q ⊢
    by_cases e : a = W.h.objs.size
    · exact ⟨⟨ob, by rw [e]; exact hs⟩, by
        rw [e]
        cases z : T.base.get? W.h.objs.size with
        | none => rfl
        | some o' => exact absurd (Heap.lt_size (I.base _ _ z)) (Nat.lt_irrefl _)⟩
    · rw [if_neg e] at q
      exact ⟨let ⟨o, e⟩ := (I.lt a q).1; ⟨o, hk a o e⟩, (I.lt a q).2⟩
  · simp only [Wd.push] at e q
    rw [List.getElem?_append] at e q
    split at e
    · rename_i hl
      rw [if_pos (by rw [I.len]; exact hl)] at q
      exact (I.obj l o' a e q).mono x .no (I.ownb l a q) fun b q' _ e' => hk b q' e'
    · rename_i hl
      rw [if_neg (by rw [I.len]; exact hl)] at q
      have : l = W.σ.length := by
        rcases Nat.lt_or_ge l (W.σ.length + 1) with z | z
        · omega
        · rw [List.getElem?_eq_none (by simp; omega)] at e; cases e
      subst this
      rw [I.len] at q
      simp at e q
      rw [← e, ← q]
      exact hr x

/-- a state with one object changed -/
noncomputable abbrev Wd.upd (W : Wd) (l : Nat) (o : AO) (s' : Shared) : Wd := { W with σ := W.σ.set l o, s := s' }

theorem Inv.upd {T : Tp} {W : Wd} (I : Inv T W) {s' : Shared} {l : Nat} {o : AO} {a : Addr} (hl : W.bt[l]? = some a) (hs : ∀ b q, W.own b = .loc l → W.h.get? b = some q → ∃ q', s'.heap.get? b = some q') (hk : ∀ b, W.own b ≠ .loc l → s'.heap.get? b = W.h.get? b)
    (hg : s'.gens = W.s.gens) (ho : s'.os = W.s.os) (hr : Ext noX W.own W.bt W.h W.own W.bt s'.heap → OR T W.own W.bt s'.heap l a o) :
    Inv T (W.upd l o s') ∧ Le noX W (W.upd l o s') := by
  have x : Ext noX W.own W.bt W.h W.own W.bt s'.heap := ⟨fun a o e f _ => ⟨o, (hk a (by rw [f]; simp)).trans e, .refl o⟩, 
    fun a o e _ => (Classical.em (W.own a = .loc l)).elim (fun f => hs a o f e) (fun f => ⟨o, (hk a f).trans e⟩), fun _ _ _ _ => rfl, [], (List.append_nil _).symm⟩
  refine ⟨⟨by simp [I.len], I.ownb, fun a q => ⟨let ⟨o, e⟩ := (I.lt a q).1; x.df a o e id, (I.lt a q).2⟩, fun l' o' a' e q => ?_, fun b q e => ?_⟩, x, hg, ho⟩
  · simp only [Wd.upd] at e
    rw [List.getElem?_set] at e
    split at e
    · rename_i z
      subst z
      split at e
      · cases e
        rw [hl] at q; cases q
        exact hr x
      · cases e
    · rename_i z
      refine (I.obj l' o' a' e q).mono x .no (I.ownb l' a' q) fun b q' f e' => (hk b ?_).trans e'
      rw [f]; intro y; injection y with y; exact z y.symm
  · refine (hk b fun z => ?_).trans (I.base b q e)
    have := (I.lt b (by rw [z]; simp)).2
    rw [this] at e; cases e

theorem Inv.toks {T : Tp} {W : Wd} (I : Inv T W) (t : Nat) : Inv T { W with s := { W.s with toks := t } } ∧ Le noX W { W with s := { W.s with toks := t } } :=
  I.grow (fun _ _ e => e) rfl rfl

/-! ### what a tree gives back -/
/-- the tree ends as `r` says -/
noncomputable def PostE {α β : Type} (T : Tp) (X : Addr → Prop) (W : Wd) (r : Out α) (R : Wd → α → β → Prop) (b : β) (s' : Shared) : Prop :=
  ∃ a W', W'.s = s' ∧ r = .ok a W'.σ ∧ Inv T W' ∧ Le X W W' ∧ R W' a b
/-- nothing raises -/
noncomputable def PostX (_e : Value) (_s' : Shared) : Prop := False

/-- evaluation of a tree as the abstract one says -/
noncomputable def Does {α β : Type} (T : Tp) (A : Around) (X : Addr → Prop) (W : Wd) (t : Sem β) (r : Out α) (R : Wd → α → β → Prop) : Prop :=
  wpAny T.M A t (PostE T X W r R) PostX W.s

section
variable {T : Tp} {A : Around} {X : Addr → Prop} {W : Wd} {α β γ δ : Type}

theorem Does.ok {t : Sem β} {a : α} {R : Wd → α → β → Prop} (h : wpAny T.M A t (fun b s' => ∃ W', W'.s = s' ∧ W'.σ = W.σ ∧ Inv T W' ∧ Le X W W' ∧ R W' a b) (fun _ _ => False) W.s) : Does T A X W t (.ok a W.σ) R :=
  wpAny_mono h (fun _ _ ⟨W', e, q, I, l, r⟩ => ⟨a, W', e, by rw [q], I, l, r⟩) fun _ _ q => q.elim

/-- the tree's end, for any rule of the library -/
theorem Does.cps {t : Sem β} {r : Out α} {R : Wd → α → β → Prop} {Q : β → Shared → Prop} {E : Value → Shared → Prop} (h : Does T A X W t r R)
    (hq : ∀ a W' b, r = .ok a W'.σ → Inv T W' → Le X W W' → R W' a b → Q b W'.s) (hx : ∀ e s', PostX e s' → E e s') : wpAny T.M A t Q E W.s :=
  wpAny_mono h (fun b _ ⟨a, W', e, q, I, l, r⟩ => e ▸ hq a W' b q I l r) hx

/-- seen from an earlier state -/
theorem Does.up {W₀ : Wd} {t : Sem β} {r r₀ : Out α} {R : Wd → α → β → Prop} (h : Does T A X W t r R) (l : Le X W₀ W) (e : r₀ = r) :
    wpAny T.M A t (PostE T X W₀ r₀ R) PostX W.s := by
  subst e
  exact wpAny_mono h (fun b _ ⟨a, W', e, q, I, l', r⟩ => ⟨a, W', e, q, I, l.trans l', r⟩) fun _ _ q => q.elim

theorem Does.bind {t : Sem β} {r : Out α} {R : Wd → α → β → Prop} {f : α → Hp → Out γ} {R' : Wd → γ → δ → Prop} {k : β → Sem δ}
    (h : Does T A X W t r R)
    (hk : ∀ a W' b, r = .ok a W'.σ → Inv T W' → Le X W W' → R W' a b → Does T A X W' (k b) (f a W'.σ) R') : Does T A X W (t >>= k) (r.bind f) R' :=
  wpAny_bind (h.cps (fun a W' b e I l rr => (hk a W' b e I l rr).up l (by rw [e]; rfl)) fun _ _ q => q.elim)

theorem Does.mono {t : Sem β} {r : Out α} {R R' : Wd → α → β → Prop} (h : Does T A X W t r R) (m : ∀ W' a b, Inv T W' → Le X W W' → r = .ok a W'.σ → R W' a b → R' W' a b) : Does T A X W t r R' :=
  wpAny_mono h (fun _ _ ⟨a, W', e, q, I, l, r⟩ => ⟨a, W', e, q, I, l, m _ _ _ I l q r⟩) fun _ _ q => q
end

end Mine

/-! Soundness, part 3: frames, names, the plain expressions (typed by hand). -/
set_option Elab.async false
namespace Mine
open PySem PySem.SeqAt

/-- a name of the frame reads a value -/
noncomputable def Rd (W : Wd) (env : Env) (x : Str) (v : Value) : Prop :=
  (env.kindOf x = some .local ∧ W.own env.locals = .free ∧ ∃ m, W.h.Ns env.locals m ∧ m x = some v) ∨
  (env.kindOf x = some .cell ∧ ∃ c, env.cells.lookup x = some c ∧ W.own c = .free ∧ W.h.IsCell c (some v))

theorem ns_ko {h h' : Heap} {a : Addr} {m : Str → Option Value} (n : h.Ns a m) (k : ∀ o, h.get? a = some o → ∃ o', h'.get? a = some o' ∧ KO o o') : h'.Ns a m := by
  obtain ⟨o, es, ep, ho, hd, r⟩ := n
  obtain ⟨o', ho', q⟩ := k o ho
  exact ⟨o', es, ep, ho', q.data.trans hd, r⟩
theorem cell_ko {h h' : Heap} {a : Addr} {v : Option Value} (n : h.IsCell a v) (k : ∀ o, h.get? a = some o → ∃ o', h'.get? a = some o' ∧ KO o o') : h'.IsCell a v := by
  obtain ⟨o, ho, hd⟩ := n
  obtain ⟨o', ho', q⟩ := k o ho
  exact ⟨o', ho', q.data.trans hd⟩
theorem ns_at {h : Heap} {a : Addr} {m : Str → Option Value} (n : h.Ns a m) : ∃ o, h.get? a = some o := let ⟨o, _, _, ho, _⟩ := n; ⟨o, ho⟩
theorem cell_at {h : Heap} {a : Addr} {m : Option Value} (n : h.IsCell a m) : ∃ o, h.get? a = some o := let ⟨o, ho, _⟩ := n; ⟨o, ho⟩

theorem Rd.le {W W' : Wd} {env : Env} {x : Str} {v : Value} (r : Rd W env x v) (l : Le noX W W') : Rd W' env x v := by
  rcases r with ⟨k, f, m, n, e⟩ | ⟨k, c, e, f, n⟩
  · exact .inl ⟨k, (let ⟨_, z⟩ := ns_at n; (l.ext.ow _ _ z id).trans f), m, ns_ko n fun o ho => l.ext.kp _ o ho f id, e⟩
  · exact .inr ⟨k, c, e, (let ⟨_, z⟩ := cell_at n; (l.ext.ow _ _ z id).trans f), cell_ko n fun o ho => l.ext.kp _ o ho f id⟩

/-- the frame as the abstract variables say -/
structure Fm (T : Tp) (W : Wd) (env : Env) (sl : List (Nat × Str)) (vs : Vs) : Prop where
  kind : env.scope.kind = .function
  glob : env.globals = mainGlobals
  bi : env.builtins = builtinsNs
  cells : ∀ x, env.scope.names.lookup x = some .cell → ∃ c, env.cells.lookup x = some c
  rd : ∀ i x, (i, x) ∈ sl → ∀ av, vs[i]? = some (some av) → ∃ v, W.V T av v ∧ Rd W env x v

theorem Fm.le {T : Tp} {W W' : Wd} {env : Env} {sl : List (Nat × Str)} {vs : Vs} (F : Fm T W env sl vs) (l : Le noX W W') : Fm T W' env sl vs :=
  ⟨F.kind, F.glob, F.bi, F.cells, fun i x hi av e => let ⟨v, r, d⟩ := F.rd i x hi av e; ⟨v, r.le l, d.le l⟩⟩

/-- what is known of the top -/
structure Tp.Ok (T : Tp) : Prop where
  g : T.base.Ns mainGlobals T.mg
  b : T.base.Ns builtinsNs T.mb
  nolimit : T.base.NoLimit
  bi : ∀ x : Str, x ≠ "__name__" → T.mb x = bootBuiltins x

section
variable {T : Tp} {A : Around} {W : Wd} {env : Env} {sl : List (Nat × Str)} {vs : Vs}

noncomputable abbrev VW (T : Tp) : Wd → AV → Value → Prop := fun W av v => W.V T av v
noncomputable abbrev VWs (T : Tp) : Wd → List AV → List Value → Prop := fun W av v => W.Vs T av v

theorem does_var (F : Fm T W env sl vs) (I : Inv T W) {i : Nat} {x : Str} {pos : Pos} {av : AV} (hi : (i, x) ∈ sl) (hv : vs[i]? = some (some av)) (hd : (x == ("__debug__" : Str)) = false) :
    Does T A noX W (eval (.Name x pos) env) (.ok av W.σ) (VW T) := by
  obtain ⟨v, r, d⟩ := F.rd i x hi av hv
  refine Does.ok (wpAny_Name ?_ hd)
  rcases d with ⟨k, f, m, n, e⟩ | ⟨k, c, e, f, n⟩
  · exact wpAny_loadName_local F.kind k n e ⟨W, rfl, rfl, I, .refl _ _, r⟩
  · exact wpAny_loadName_cell F.kind k e n ⟨W, rfl, rfl, I, .refl _ _, r⟩

theorem does_tok {β : Type} {t : Sem β} {a : AV} {R : Wd → AV → β → Prop} {b : β} (I : Inv T W) (k : Nat) (h : ∀ Q E, Q b { W.s with toks := k } → wpAny T.M A t Q E W.s) (r : R { W with s := { W.s with toks := k } } a b) :
    Does T A noX W t (.ok a W.σ) R := Does.ok (h _ _ ⟨{ W with s := { W.s with toks := k } }, rfl, rfl, (I.toks k).1, (I.toks k).2, r⟩)

theorem does_int (I : Inv T W) {i : Int} {k : Nat} {pos : Pos} : Does T A noX W (eval (.Constant (.int i) k pos) env) (.ok (.int i) W.σ) (VW T) :=
  does_tok I (W.s.toks + 1) (fun _ _ h => wpAny_Constant_int h) (.int _ _)
theorem does_str (I : Inv T W) {s : List Nat} {k : Nat} {pos : Pos} (ok : okS s) : Does T A noX W (eval (.Constant (.str (tS s)) k pos) env) (.ok (.str s) W.σ) (VW T) :=
  does_tok I (W.s.toks + 1) (fun _ _ h => wpAny_Constant_str h) (.str _ ok)
theorem does_bool (I : Inv T W) {b : Bool} {k : Nat} {pos : Pos} : Does T A noX W (eval (.Constant (.bool b) k pos) env) (.ok (.bool b) W.σ) (VW T) :=
  Does.ok (wpAny_Constant_bool ⟨W, rfl, rfl, I, .refl _ _, .bool b⟩)
theorem does_none (I : Inv T W) {k : Nat} {pos : Pos} : Does T A noX W (eval (.Constant .none k pos) env) (.ok .none W.σ) (VW T) :=
  Does.ok (wpAny_Constant_none ⟨W, rfl, rfl, I, .refl _ _, .none⟩)

/-- two in turn, then a third tree -/
theorem does_two {t u : Sem Value} {f : Value → Value → Sem Value} {x : Out AV} {y : Hp → Out AV} {z : AV → AV → Hp → Out AV} {Q : Value → Shared → Prop} {E : Value → Shared → Prop} (hl : Does T A noX W t x (VW T))
    (hr : ∀ a W', Inv T W' → Le noX W W' → x = .ok a W'.σ → Does T A noX W' u (y W'.σ) (VW T))
    (ho : ∀ a b va vb W', Inv T W' → Le noX W W' → (∃ σ, x = .ok a σ ∧ y σ = .ok b W'.σ) → W'.V T a va → W'.V T b vb → Does T A noX W' (f va vb) (z a b W'.σ) (VW T))
    (hQ : ∀ v s, PostE T noX W (x.bind fun a h => (y h).bind fun b h => z a b h) (VW T) v s → Q v s) (hE : ∀ v s, PostX v s → E v s) :
    wpAny T.M A t (fun a s₁ => wpAny T.M A u (fun b s₂ => wpAny T.M A (f a b) Q E s₂) E s₁) E W.s := by
  refine hl.cps (fun a W' va e I' l' ra => ?_) fun _ _ q => q.elim
  refine (hr a W' I' l' e).cps (fun b W'' vb e' I'' l'' rb => ?_) fun _ _ q => q.elim
  exact wpAny_mono ((ho a b va vb W'' I'' (l'.trans l'') ⟨_, e, e'⟩ (ra.le l'') rb).up (l'.trans l'') (by rw [e]; show (y W'.σ).bind _ = _; rw [e']; rfl)) hQ hE

theorem does_bin {l r : Expr} {op : Operator} {pos : Pos} {x : Out AV} {y : Hp → Out AV} {z : AV → AV → Hp → Out AV} (hl : Does T A noX W (eval l env) x (VW T))
    (hr : ∀ a W', Inv T W' → Le noX W W' → x = .ok a W'.σ → Does T A noX W' (eval r env) (y W'.σ) (VW T))
    (ho : ∀ a b va vb W', Inv T W' → Le noX W W' → (∃ σ, x = .ok a σ ∧ y σ = .ok b W'.σ) → W'.V T a va → W'.V T b vb → Does T A noX W' (binaryOp op va vb) (z a b W'.σ) (VW T)) :
    Does T A noX W (eval (.BinOp l op r pos) env) (x.bind fun a h => (y h).bind fun b h => z a b h) (VW T) :=
  wpAny_BinOp (does_two hl hr ho (fun _ _ q => q) fun _ _ q => q)
end

end Mine

/-! Soundness, part 4: operators (typed by hand). -/
set_option Elab.async false
namespace Mine
open PySem PySem.SeqAt

theorem lim_eq : lim = sizeLine := by decide +kernel
theorem tS_length (s : List Nat) : (tS s).length = s.length := by simp [tS, Str.length]
theorem tS_append (a b : List Nat) : tS a ++ tS b = tS (a ++ b) := by
  show (⟨a.toArray ++ b.toArray⟩ : Str) = ⟨(a ++ b).toArray⟩
  simp
theorem okS.append {a b : List Nat} (ha : okS a) (hb : okS b) (h : a.length + b.length ≤ lim) : okS (a ++ b) :=
  ⟨fun c hc => (List.mem_append.mp hc).elim (ha.1 c) (hb.1 c), by simpa using h⟩
theorem okS.sub {a b : List Nat} (ha : okS a) (h : ∀ c ∈ b, c ∈ a) (hl : b.length ≤ a.length) : okS b := ⟨fun c hc => ha.1 c (h c hc), Nat.le_trans hl ha.2⟩

section
variable {T : Tp} {A : Around} {W : Wd}

theorem Does.keep {t : Sem Value} {a : AV} (I : Inv T W) (h : ∀ Q E, (∀ v k, W.V T a v → Q v { W.s with toks := k }) → wpAny T.M A t Q E W.s) : Does T A noX W t (.ok a W.σ) (VW T) :=
  Does.ok (h _ _ fun v k r => ⟨{ W with s := { W.s with toks := k } }, rfl, rfl, (I.toks k).1, (I.toks k).2, r.le (I.toks k).2⟩)

/-- a tree that makes a new list -/
theorem does_newList {t : Sem Value} {xs : List AV} {vs : List Value} (I : Inv T W) (r : W.Vs T xs vs)
    (h : xs.length ≤ lim → ∀ Q E, (∀ k, Q (.ref W.h.objs.size) { W.s with heap := W.h.push { cls := .type "list", data := .seq vs.toArray }, toks := k }) → wpAny T.M A t Q E W.s)
    (hn : newList xs W.σ ≠ .fail) : Does T A noX W t (newList xs W.σ) (VW T) := by
  unfold newList at hn ⊢
  split at hn
  · rename_i hl
    rw [if_pos hl]
    refine wpAny_mono (h hl (PostE T noX W _ (VW T)) (fun _ _ => False) fun k => ?_) (fun _ _ q => q) fun _ _ q => q.elim
    have := I.push (s' := { W.s with heap := W.h.push { cls := .type "list", data := .seq vs.toArray }, toks := k }) (o := .list xs) (Heap.get?_push_size _ rfl) (fun a q e => Heap.get?_push_of_some _ e) rfl rfl
      fun x => ⟨vs.toArray, 0, Heap.get?_push_size _ rfl, by simpa using r.ext x .no, hl⟩
    exact ⟨_, _, rfl, rfl, this.1, this.2.1, this.2.2⟩
  · exact absurd rfl hn

noncomputable def opM : BOp → Operator
  | .add => .Add
  | .sub => .Sub
  | .mul => .Mult
  | .mod => .Mod
  | .div => .FloorDiv
noncomputable def opOk (op : BOp) (op' : Operator) : Bool := decide (op' = opM op)

theorem rep_eq (n : Nat) (s : List Nat) : ∀ acc : Array Nat, (List.replicate n s.toArray).foldl (· ++ ·) acc = acc ++ (rep n s).toArray := by
  induction n with
  | zero => intro acc; simp [rep]
  | succ n ih => intro acc; rw [List.replicate_succ, List.foldl_cons, ih]; simp [rep]
theorem rep_length (n : Nat) (s : List Nat) : (rep n s).length = s.length * n := by
  induction n with
  | zero => rfl
  | succ n ih => simp [rep, ih, Nat.mul_succ]; omega
theorem mem_rep {n : Nat} {s : List Nat} {c : Nat} (h : c ∈ rep n s) : c ∈ s := by
  induction n with
  | zero => simp [rep] at h
  | succ n ih => simp only [rep, List.mem_append] at h; exact h.elim id ih
theorem mul_eq (s : List Nat) (n : Int) : Txt.mul (tS s) n = tS (rep n.toNat s) := by
  unfold Txt.mul
  split
  · rename_i h
    rw [show n.toNat = 0 by omega]; rfl
  · split
    · rename_i h1 h2
      simp only [Bool.or_eq_true, beq_iff_eq] at h2
      rcases h2 with rfl | h2
      · simp [rep]
      · rw [tS_length] at h2
        have : s = [] := List.length_eq_zero_iff.mp h2
        subst this
        have : ∀ n, rep n [] = [] := fun n => by induction n with | zero => rfl | succ n ih => simp [rep, ih]
        rw [this]
    · show (⟨(List.replicate n.toNat s.toArray).foldl (· ++ ·) #[]⟩ : Str) = _
      rw [rep_eq]; simp [tS]

theorem log2_small {n : Nat} (h : n < 2 ^ 64) : n.log2 < 9000 := by
  by_cases e : n = 0
  · subst e; decide
  · exact Nat.lt_trans ((Nat.log2_lt e).mpr h) (by decide)
theorem bits_small {x : Int} (h : x.natAbs < 18446744073709551616) : Builtin.Int.intBits x ≤ 64 := by
  unfold Builtin.Int.intBits
  split
  · decide
  · rename_i q
    have : x.natAbs ≠ 0 := by simpa using q
    exact (Nat.log2_lt this).mpr h
theorem mulOk {s : List Nat} {n : Int} (h1 : -(lim : Int) ≤ n) (h2 : n ≤ lim) (h3 : s.length * n.toNat ≤ lim) : MulOk (tS s) n := by
  have hl : (lim : Int) = 16777216 := rfl
  refine ⟨?_, fun h _ q => ?_, fun _ _ => ?_⟩
  · simp only [Bool.or_eq_false_iff, decide_eq_false_iff_not]; omega
  · rw [tS_length] at q
    have h4 : (s.length : Int) * n ≤ 2 ^ 63 - 1 := by
      have : ((s.length * n.toNat : Nat) : Int) ≤ (lim : Int) := by exact_mod_cast h3
      rw [Int.natCast_mul, Int.toNat_of_nonneg (by omega)] at this
      omega
    have h5 := (Int.le_ediv_iff_mul_le (a := s.length) (b := 2 ^ 63 - 1) (c := n) (by omega)).mpr h4
    omega
  · unfold Builtin.Str.tooLong
    rw [tS_length, ← lim_eq]
    simp only [gt_iff_lt, decide_eq_false_iff_not]; omega

theorem arith_ok {f : Int → Int → Out AV} {a b : AV} (h : arithA f a b ≠ .fail) : ∃ x y, a = .int x ∧ b = .int y := by
  cases a with
  | int x =>
    cases b with
    | int y => exact ⟨x, y, rfl, rfl⟩
    | _ => exact absurd rfl h
  | _ => exact absurd rfl h

theorem does_addA (I : Inv T W) {a b : AV} {va vb : Value} (ra : W.V T a va) (rb : W.V T b vb) (hn : addA a b W.σ ≠ .fail) : Does T A noX W (binaryOp .Add va vb) (addA a b W.σ) (VW T) := by
  cases ra with
  | int x t =>
    cases rb with
    | int y u => exact Does.keep I fun _ _ h => P.add_int (h _ _ (.int _ _))
    | _ => exact absurd rfl hn
  | str t ox =>
    cases rb with
    | str u oy =>
      rename_i x y
      by_cases hl : x.length + y.length ≤ lim
      · show Does T A noX W _ (if x.length + y.length ≤ lim then _ else _) _
        rw [if_pos hl]
        refine Does.keep I fun _ _ h => SB.add (fun t' k => h _ _ ?_) (by rw [tS_length, tS_length, ← lim_eq]; exact hl)
        rw [tS_append]; exact .str _ (ox.append oy hl)
      · exact absurd (if_neg hl) hn
    | _ => exact absurd rfl hn
  | ref hx =>
    cases rb with
    | ref hy =>
      rename_i x _ y _
      have e0 : addA (.ref x) (.ref y) W.σ = match W.σ[x]? with | some (.list xs) => (match W.σ[y]? with | some (.list ys) => newList (xs ++ ys) W.σ | none => .fail) | none => .fail := rfl
      rw [e0] at hn ⊢
      cases e1 : W.σ[x]? with
      | none => rw [e1] at hn; exact absurd rfl hn
      | some o1 =>
        cases e2 : W.σ[y]? with
        | none => rw [e1, e2] at hn; exact absurd rfl hn
        | some o2 =>
          rw [e1, e2] at hn
          cases o1; cases o2
          obtain ⟨_, vs, n, ea, _, h1, h2, _⟩ := I.listAt e1 (.ref hx)
          obtain ⟨_, ws, m, eb, _, k1, k2, _⟩ := I.listAt e2 (.ref hy)
          cases ea; cases eb
          refine does_newList I (h2.append k2) (fun hl Q E h => ?_) hn
          have hz : vs.size + ws.size ≤ sizeLine := by
            have e3 := h2.length; have e4 := k2.length
            rw [Array.length_toList] at e3 e4
            rw [← lim_eq, e3, e4, ← List.length_append]; exact hl
          refine P.add_list h1 k1 ?_ hz
          have := h W.s.toks
          rw [show (vs.toList ++ ws.toList).toArray = vs ++ ws from by rw [← Array.toList_append, Array.toArray_toList]] at this
          exact this
    | _ => exact absurd rfl hn
  | _ => exact absurd rfl hn

theorem does_binA (I : Inv T W) {op : BOp} {op' : Operator} {a b : AV} {va vb : Value} (ho : opOk op op' = true) (ra : W.V T a va) (rb : W.V T b vb) (hn : binA op a b W.σ ≠ .fail) :
    Does T A noX W (binaryOp op' va vb) (binA op a b W.σ) (VW T) := by
  have ho := of_decide_eq_true ho
  subst ho
  cases op with
  | add => exact does_addA I ra rb hn
  | sub =>
    obtain ⟨x, y, rfl, rfl⟩ := arith_ok hn
    cases ra; cases rb
    exact Does.keep I fun _ _ h => P.sub_int (h _ _ (.int _ _))
  | mul =>
    have key : ∀ x y : Int, a = .int x → b = .int y → Does T A noX W (binaryOp .Mult va vb) (binA .mul a b W.σ) (VW T) := fun x y ea eb => by
      subst ea; subst eb
      cases ra; cases rb
      by_cases hl : (small x || small y) = true
      · show Does T A noX W _ (if (small x || small y) = true then _ else _) _
        rw [if_pos hl]
        refine Does.keep I fun _ _ h => P.mul_int (h _ _ (.int _ _)) ?_
        simp only [small, Bool.or_eq_true, decide_eq_true_eq] at hl
        exact hl.elim (fun q => .of_left (bits_small q)) fun q => .of_right (bits_small q)
      · exact absurd (if_neg hl) hn
    cases ra with
    | str t ox =>
      cases rb with
      | int y u =>
        rename_i x
        by_cases hl : -lim ≤ y ∧ y ≤ lim ∧ x.length * y.toNat ≤ lim
        · show Does T A noX W _ (if -lim ≤ y ∧ y ≤ lim ∧ x.length * y.toNat ≤ lim then _ else _) _
          rw [if_pos hl]
          refine Does.keep I fun _ _ h => SB.mul (mulOk hl.1 hl.2.1 hl.2.2) fun t' k => h _ _ ?_
          rw [mul_eq]
          exact .str _ ⟨fun c hc => ox.1 c (mem_rep hc), by rw [rep_length]; exact hl.2.2⟩
        · exact absurd (if_neg hl) hn
      | _ => exact absurd rfl hn
    | int x t => obtain ⟨_, y, e, rfl⟩ := arith_ok (f := fun x y => if small x || small y then .ok (.int (x * y)) W.σ else .fail) (a := .int x) (b := b) hn; exact key _ _ e rfl
    | _ => exact absurd rfl hn
  | mod =>
    obtain ⟨x, y, rfl, rfl⟩ := arith_ok hn
    cases ra; cases rb
    by_cases hl : 0 < y
    · show Does T A noX W _ (if 0 < y then _ else _) _
      rw [if_pos hl]
      refine Does.keep I fun _ _ h => PyProof.Rows.mod_int (by omega) ?_
      rw [Int.fmod_eq_emod_of_nonneg _ (by omega)]
      exact h _ _ (.int _ _)
    · exact absurd (if_neg hl) hn
  | div =>
    obtain ⟨x, y, rfl, rfl⟩ := arith_ok hn
    cases ra; cases rb
    by_cases hl : 0 < y ∧ y < 18446744073709551616
    · show Does T A noX W _ (if 0 < y ∧ y < 18446744073709551616 then _ else _) _
      rw [if_pos hl]
      refine Does.keep I fun _ _ h => PyProof.Rows.floordiv_int (by omega) ?_ (.inl (PyProof.noPylong_of_log2 ?_))
      · rw [Int.fdiv_eq_ediv_of_nonneg _ (by omega)]
        exact h _ _ (.int _ _)
      · have : y.natAbs < 2 ^ 64 := by omega
        exact log2_small this
    · exact absurd (if_neg hl) hn
end
end Mine

/-! Soundness, part 5: data, comparisons, truth (typed by hand). -/
set_option Elab.async false
namespace Mine
open PySem PySem.SeqAt PySem.Spec

theorem strOk_of {s : List Nat} (h : okS s) : PyData.strOk (tS s) = true := by
  unfold PyData.strOk
  simp only [tS, Array.all_eq_true, decide_eq_true_eq]
  intro i hi
  have := h.1 _ (List.getElem_mem (l := s) (by simpa using hi))
  simp only [List.getElem_toArray]
  omega

section
variable {T : Tp} {A : Around} {W : Wd}

theorem readsF {a : AV} {d : PyData} {v : Value} (e : datF a = some d) (r : W.V T a v) : (∃ as, Reads W.h v d as) ∧ d.canLay0 = true ∧ d.depth ≤ 0 := by
  cases r with
  | int i t => cases e; exact ⟨⟨_, .int _ _⟩, rfl, Nat.le_refl _⟩
  | str t q => cases e; exact ⟨⟨_, .str _ _⟩, strOk_of q, Nat.le_refl _⟩
  | _ => cases e
theorem readsAll_of : ∀ {xs : List AV} {ds : List PyData} {vs : List Value}, mapO datF xs = some ds → W.Vs T xs vs → (∃ as, ReadsAll W.h vs ds as) ∧ PyData.canLayAll0 ds = true ∧ PyData.depthAll ds ≤ 0 := by
  intro xs ds vs e r
  induction r generalizing ds with
  | nil => cases e; exact ⟨⟨[], .nil⟩, rfl, Nat.zero_le _⟩
  | cons a _ ih =>
    rename_i x v xs vs _
    rw [mapO_cons] at e
    cases e1 : datF x with
    | none => rw [e1] at e; cases e
    | some d =>
      cases e2 : mapO datF xs with
      | none => rw [e1, e2] at e; cases e
      | some ds' =>
        rw [e1, e2] at e
        cases e
        obtain ⟨⟨as, h1⟩, h2, h3⟩ := readsF e1 a
        obtain ⟨⟨bs, k1⟩, k2, k3⟩ := ih e2
        exact ⟨⟨as ++ bs, .cons h1 k1⟩, by rw [PyData.canLayAll0, h2, k2]; rfl, by rw [PyData.depthAll]; omega⟩
theorem reads_of (I : Inv T W) {a : AV} {d : PyData} {v : Value} (e : dat W.σ a = some d) (r : W.V T a v) : (∃ as, Reads W.h v d as) ∧ d.canLay0 = true ∧ d.depth ≤ 1 := by
  have flat : datF a = some d → (∃ as, Reads W.h v d as) ∧ d.canLay0 = true ∧ d.depth ≤ 1 := fun e => let ⟨h1, h2, h3⟩ := readsF e r; ⟨h1, h2, Nat.le_succ_of_le h3⟩
  cases a with
  | ref l =>
    have e0 : dat W.σ (.ref l) = match W.σ[l]? with | some (.list xs) => (mapO datF xs).map .list | none => none := rfl
    rw [e0] at e
    cases hx : W.σ[l]? with
    | none => rw [hx] at e; cases e
    | some o =>
      cases o
      rw [hx] at e
      obtain ⟨ds, e1, rfl⟩ := Option.map_eq_some_iff.mp e
      obtain ⟨_, vs, m, rfl, _, h1, h2, _⟩ := I.listAt hx r
      obtain ⟨⟨as, k1⟩, k2, k3⟩ := readsAll_of e1 h2
      exact ⟨⟨_, .list h1 rfl rfl k1⟩, k2, by rw [PyData.depth]; omega⟩
  | _ => exact flat e

/-- room for calls: n calls deep -/
structure AOk (n : Nat) (A : Around) : Prop where
  depth : A.depth + n < recursionLimit
  units : A.units + 10 * n + 200 < cLine
  handled : A.handled = none

noncomputable def cmpM : COp → CmpOp
  | .eq => .Eq
  | .ne => .NotEq
  | .lt => .Lt
  | .le => .LtE
  | .gt => .Gt
  | .ge => .GtE
  | .isin => .In
  | .notin => .NotIn
noncomputable def cmpOk (op : COp) (op' : CmpOp) : Bool := decide (op' = cmpM op)

theorem shaped_of {d : PyData} (h2 : d.canLay0 = true) (h3 : d.depth ≤ 1) : shaped d = true := by
  unfold shaped; rw [h2, decide_eq_true (Nat.le_trans h3 (by decide))]; rfl

theorem does_eqA (I : Inv T W) {a b : AV} {va vb : Value} (ra : W.V T a va) (rb : W.V T b vb) (hu : A.units + 64 < cLine) {c : Bool} (e : eqA W.σ a b = some c) :
    (∀ Q E, Q (.bool c) W.s → wpAny T.M A (compareOp .Eq va vb) Q E W.s) ∧ ∀ Q E, Q (.bool (!c)) W.s → wpAny T.M A (compareOp .NotEq va vb) Q E W.s := by
  unfold eqA at e
  cases e1 : dat W.σ a with
  | none => rw [e1] at e; cases e
  | some x =>
    cases e2 : dat W.σ b with
    | none => rw [e1, e2] at e; cases e
    | some y =>
      rw [e1, e2] at e
      cases e
      obtain ⟨⟨as, h1⟩, h2, h3⟩ := reads_of I e1 ra
      obtain ⟨⟨bs, k1⟩, k2, k3⟩ := reads_of I e2 rb
      have s1 := shaped_of h2 h3
      have s2 := shaped_of k2 k3
      exact ⟨fun Q E q => compareEq_shaped h1 k1 s1 s2 hu q, fun Q E q => compareNe_shaped h1 k1 s1 s2 hu q⟩

theorem does_inA (I : Inv T W) {a b : AV} {va vb : Value} (ra : W.V T a va) (rb : W.V T b vb) (hu : A.units + 65 < cLine) {c : Bool} (e : inA W.σ a b = some c) :
    (∀ Q E, (∀ k, Q (.bool c) { W.s with toks := k }) → wpAny T.M A (compareOp .In va vb) Q E W.s) ∧ ∀ Q E, (∀ k, Q (.bool (!c)) { W.s with toks := k }) → wpAny T.M A (compareOp .NotIn va vb) Q E W.s := by
  cases b with
  | ref l =>
    have e0 : inA W.σ a (.ref l) = match W.σ[l]? with | some (.list xs) => (match datF a with | some d => (match mapO datF xs with | some ds => some (ds.any fun e => PyData.eqv e d) | none => none) | none => none) | none => none := rfl
    rw [e0] at e
    cases hx : W.σ[l]? with
    | none => rw [hx] at e; cases e
    | some o =>
      cases o
      rename_i xs
      rw [hx] at e
      simp only at e
      cases e1 : datF a with
      | none => rw [e1] at e; cases e
      | some d =>
        cases e2 : mapO datF xs with
        | none => rw [e1, e2] at e; cases e
        | some ds =>
          rw [e1, e2] at e
          cases e
          obtain ⟨_, vs, m, rfl, _, h1, h2, _⟩ := I.listAt hx rb
          obtain ⟨⟨as, k1⟩, k2, k3⟩ := readsF e1 ra
          obtain ⟨⟨bs, l1⟩, l2, l3⟩ := readsAll_of e2 h2
          have r : Reads W.h _ (.list ds) _ := .list h1 rfl rfl l1
          have hd : A.units + 1 + min (PyData.depthAll ds) d.depth < cLine := by
            have : min (PyData.depthAll ds) d.depth ≤ d.depth := Nat.min_le_right _ _
            omega
          exact ⟨fun Q E q => in_list_reads r k1 l2 k2 hd (q _), fun Q E q => notIn_list_reads r k1 l2 k2 hd (q _)⟩
  | _ => cases e

theorem ord_ok {f : Int → Int → Bool} {a b : AV} {c : Bool} (h : ordA f a b = some c) : ∃ x y, a = .int x ∧ b = .int y ∧ c = f x y := by
  cases a with
  | int x =>
    cases b with
    | int y => cases h; exact ⟨x, y, rfl, rfl, rfl⟩
    | _ => cases h
  | _ => cases h

theorem does_cmpA (I : Inv T W) {op : COp} {op' : CmpOp} {a b : AV} {va vb : Value} (ho : cmpOk op op' = true) (ra : W.V T a va) (rb : W.V T b vb) (hu : A.units + 65 < cLine) {c : Bool} (e : cmpA op a b W.σ = some c) :
    ∀ Q E, (∀ k, Q (.bool c) { W.s with toks := k }) → wpAny T.M A (compareOp op' va vb) Q E W.s := by
  have ho := of_decide_eq_true ho
  subst ho
  intro Q E q
  cases op with
  | eq => exact (does_eqA I ra rb (by omega) e).1 Q E (q _)
  | ne =>
    obtain ⟨c', e', rfl⟩ := Option.map_eq_some_iff.mp e
    exact (does_eqA I ra rb (by omega) e').2 Q E (q _)
  | lt => obtain ⟨x, y, rfl, rfl, rfl⟩ := ord_ok e; cases ra; cases rb; exact P.lt_int (q _)
  | le => obtain ⟨x, y, rfl, rfl, rfl⟩ := ord_ok e; cases ra; cases rb; exact P.le_int (q _)
  | gt => obtain ⟨x, y, rfl, rfl, rfl⟩ := ord_ok e; cases ra; cases rb; exact P.gt_int (q _)
  | ge => obtain ⟨x, y, rfl, rfl, rfl⟩ := ord_ok e; cases ra; cases rb; exact P.ge_int (q _)
  | isin => exact (does_inA I ra rb hu e).1 Q E q
  | notin =>
    obtain ⟨c', e', rfl⟩ := Option.map_eq_some_iff.mp e
    exact (does_inA I ra rb hu e').2 Q E q

theorem does_truth (I : Inv T W) {a : AV} {v : Value} (r : W.V T a v) {c : Bool} (e : truth W.σ a = some c) :
    ∀ Q E, (∀ k, Q c { W.s with toks := k }) → wpAny T.M A (truthy v) Q E W.s := by
  intro Q E q
  cases r with
  | none => cases e; exact PyProof.Rows.truthy_none (q _)
  | bool b => cases e; exact wpAny_truthy_bool (q _)
  | int i t =>
    cases e
    refine P.truthy_int ?_
    rw [show (i != 0) = decide (i ≠ 0) by by_cases z : i = 0 <;> simp [z]]
    exact q _
  | str t ok =>
    rename_i s
    cases e
    refine P.truthy_str (by have := ok.2; rw [tS_length]; have : lim = 16777216 := rfl; omega) ?_
    rw [tS_length, show ((s.length : Int) != 0) = !s.isEmpty by cases s <;> simp <;> omega]
    exact q _
  | ref hl =>
    rename_i l _
    have e0 : truth W.σ (.ref l) = match W.σ[l]? with | some (.list xs) => some (!xs.isEmpty) | none => none := rfl
    rw [e0] at e
    cases hx : W.σ[l]? with
    | none => rw [hx] at e; cases e
    | some o =>
      cases o
      rename_i xs
      rw [hx] at e
      cases e
      obtain ⟨_, vs, m, ea, _, h1, h2, h3⟩ := I.listAt hx (.ref hl)
      cases ea
      have e3 := h2.length
      refine wpAny_truthy_list ⟨_, h1, rfl, m, rfl⟩ (by rw [Array.length_toList] at e3; have : lim = 16777216 := rfl; omega) ?_
      rw [show vs.isEmpty = xs.isEmpty by
        rw [Array.length_toList] at e3
        cases xs <;> simp_all [Array.isEmpty]]
      exact q _
  | _ => cases e
end
end Mine

/-! Soundness, part 6: displays, subscripts, slices (typed by hand). -/
set_option Elab.async false
namespace Mine
open PySem PySem.SeqAt PySem.Spec

section
variable {T : Tp} {A : Around} {W : Wd} {env : Env}

/-! ### indexes -/
theorem seqIndex_place {n : Nat} {i : Int} {k : Nat} (h : place n i = some k) : seqIndex? i n = some k ∧ k < n ∧ (0 ≤ i → i = k) ∧ (i < 0 → i + n = k) := by
  unfold place at h
  split at h
  · split at h
    · cases h
      rename_i h1 h2
      refine ⟨?_, by omega, fun _ => by omega, fun _ => by omega⟩
      have e : (if i < 0 then i + (n : Int) else i) = i := if_neg (by omega)
      simp only [seqIndex?, e]
      rw [if_pos (by simp; omega)]
    · cases h
  · split at h
    · cases h
      rename_i h1 h2
      refine ⟨?_, by omega, fun _ => by omega, fun _ => by omega⟩
      have e : (if i < 0 then i + (n : Int) else i) = i + n := if_pos (by omega)
      simp only [seqIndex?, e]
      rw [if_pos (by simp; omega)]
    · cases h

noncomputable def notSlice : Expr → Bool
  | .Slice .. => false
  | _ => true

theorem subscripted_plain {slice : Expr} (h : notSlice slice = true) (o i : Value) : subscripted slice false o i = operate [o, i] (getItem o i) := by
  cases slice <;> first | rfl | cases h

theorem lim_small {n : Nat} (h : n ≤ lim) : (n : Int) < 2 ^ 63 := by have : lim = 16777216 := rfl; omega

theorem vrs_at {xs : List AV} {vs : Array Value} (r : W.Vs T xs vs.toList) {k : Nat} {x : AV} (h : xs[k]? = some x) : ∃ v, vs[k]? = some v ∧ W.V T x v := by
  obtain ⟨v, e, q⟩ := r.get h
  exact ⟨v, by rw [← Array.getElem?_toList]; exact e, q⟩
theorem vrs_size {xs : List AV} {vs : Array Value} (r : W.Vs T xs vs.toList) : vs.size = xs.length := by
  have := r.length; rw [Array.length_toList] at this; exact this

theorem list_item (hl : W.h.IsList l vs) {xs : List AV} (hz : vs.size = xs.length) (hlim : xs.length ≤ lim) {i : Int} {t : Tok} {k : Nat} {v : Value} (hp : place xs.length i = some k) (hv : vs[k]? = some v) {Q : Value → Shared → Prop} {E : Value → Shared → Prop} (q : Q v W.s) :
    wpAny T.M A (getItem (.ref l) (.int i t)) Q E W.s := by
  obtain ⟨_, h2, h3, h4⟩ := seqIndex_place hp
  have h63 := lim_small hlim
  by_cases h0 : 0 ≤ i
  · exact wpAny_getItem_list hl h0 (by have := h3 h0; omega) (by rw [h3 h0]; exact hv) q
  · have := h4 (by omega)
    exact wpAny_getItem_list_neg hl (by omega) (by omega) (by omega) (by rw [hz, this]; exact hv) q

theorem does_idxA (I : Inv T W) {value slice : Expr} {o i r : AV} {vo vi : Value} (hs : notSlice slice = true) (ro : W.V T o vo) (ri : W.V T i vi) (e : idxA o i W.σ = some r) :
    Does T A noX W (PyProof.Rows.subscriptTail value slice vo vi) (.ok r W.σ) (VW T) := by
  refine Does.keep I fun Q E q => ?_
  cases ri with
  | int i u =>
    cases ro with
    | str t ok =>
      rename_i s
      obtain ⟨k, e1, e2⟩ := Option.bind_eq_some_iff.mp e
      obtain ⟨c, e3, rfl⟩ := Option.map_eq_some_iff.mp e2
      obtain ⟨h1, h2, h3, h4⟩ := seqIndex_place e1
      have h63 := lim_small ok.2
      refine PyProof.Rows.tail_any (T := "str") rfl PyProof.Rows.slot_str_getitem.lookup (P.getItem_str (c := c) ?_ ?_ (q _ _ ?_)) (subscripted_plain hs _ _)
      · simp only [Bool.or_eq_false_iff, decide_eq_false_iff_not]
        by_cases h0 : 0 ≤ i
        · have := h3 h0; omega
        · have := h4 (by omega); omega
      · rw [tS_length, h1]
        show (tS s).cps[k]? = some c
        simp [tS, e3]
      · refine .str _ ⟨fun d hd => ?_, by simp [lim]⟩
        simp at hd; subst hd
        exact ok.1 _ (List.mem_of_getElem? e3)
    | scr h1 h2 h3 h4 h5 h6 =>
      obtain ⟨k, e1, e2⟩ := Option.bind_eq_some_iff.mp e
      obtain ⟨c, e3, rfl⟩ := Option.map_eq_some_iff.mp e2
      obtain ⟨t, et⟩ := h5 k c e3
      rename_i ns a ob vs n
      exact PyProof.Rows.tail_any (T := "list") ⟨_, I.base _ _ h1, h2⟩ slot_list_getitem.lookup (list_item (xs := ns.map AV.int) ⟨_, I.base _ _ h1, h2, n, h3⟩ (by rw [List.length_map]; exact h6) (by rw [List.length_map]; exact h4) (by rw [List.length_map]; exact e1) et (q _ W.s.toks (.int _ _))) (subscripted_plain hs _ _)
    | ref hb =>
      rename_i l b
      have e0 : idxA (.ref l) (.int i) W.σ = match W.σ[l]? with | some (.list xs) => (place xs.length i).bind fun k => xs[k]? | none => none := rfl
      rw [e0] at e
      cases hx : W.σ[l]? with
      | none => rw [hx] at e; cases e
      | some ob =>
        cases ob
        rename_i xs
        rw [hx] at e
        obtain ⟨k, e1, e2⟩ := Option.bind_eq_some_iff.mp e
        obtain ⟨_, vs, n, ea, _, h1, h2, h3⟩ := I.listAt hx (.ref hb)
        cases ea
        obtain ⟨v, ev, rv⟩ := vrs_at h2 e2
        exact PyProof.Rows.tail_any (T := "list") ⟨_, h1, rfl⟩ slot_list_getitem.lookup (list_item ⟨_, h1, rfl, n, rfl⟩ (vrs_size h2) h3 e1 ev (q v W.s.toks rv)) (subscripted_plain hs _ _)
    | _ => cases e
  | _ => cases e

/-! ### slices -/
theorem bound_part {n d a : Nat} {av : AV} {v : Value} (e : bound n d av = some a) (r : W.V T av v) : ∃ p, IsPart v p ∧ p.elim d (clipAt n) = a ∧ (a ≤ n ∨ a = d) := by
  cases r with
  | none => cases e; exact ⟨none, .none, rfl, .inr rfl⟩
  | int i t =>
    cases e
    refine ⟨some i, .int i t, ?_, ?_⟩
    · have := clipAt_cast n i
      simp only [Option.elim]
      split at this <;> split <;> omega
    · split <;> omega
  | _ => cases e

theorem range_map_drop {α : Type} (xs : List α) (a : Nat) : ∀ k, ((List.range k).map fun i => a + i).filterMap (fun i => xs[i]?) = (xs.drop a).take k := by
  intro k
  induction k with
  | zero => simp
  | succ k ih =>
    rw [List.range_succ, List.map_append, List.filterMap_append, ih, List.take_add_one]
    congr 1
    simp only [List.map_cons, List.map_nil, List.filterMap_cons, List.filterMap_nil, List.getElem?_drop]
    cases xs[a + k]? <;> rfl

theorem strSlice_eq (lo hi : Option Int) (n : Nat) : Builtin.Str.strSliceIndices lo hi 1 n = (List.range (hi.elim n (clipAt n) - lo.elim 0 (clipAt n))).map fun i => lo.elim 0 (clipAt n) + i := by
  have h := sliceBounds_plain lo hi n
  have e : Builtin.Str.strSliceIndices lo hi 1 n = sliceRange (sliceBounds lo hi none n).1 (sliceBounds lo hi none n).2.1 1 := by
    cases lo <;> cases hi <;> rfl
  rw [e, h]
  exact sliceRange_one _ _

theorem slice_text {s : List Nat} (lo hi : Option Int) : Txt.slice (tS s) lo hi = tS (cut s (lo.elim 0 (clipAt s.length)) (hi.elim s.length (clipAt s.length))) := by
  unfold Txt.slice
  rw [tS_length, strSlice_eq]
  have e : (List.filterMap (fun x => (tS s).cps[x]?) ((List.range (hi.elim s.length (clipAt s.length) - lo.elim 0 (clipAt s.length))).map fun i => lo.elim 0 (clipAt s.length) + i)) = cut s (lo.elim 0 (clipAt s.length)) (hi.elim s.length (clipAt s.length)) := by
    have := range_map_drop s (lo.elim 0 (clipAt s.length)) (hi.elim s.length (clipAt s.length) - lo.elim 0 (clipAt s.length))
    rw [show (fun x => (tS s).cps[x]?) = fun i => s[i]? from funext fun i => by simp [tS]]
    exact this
  split
  · rename_i h
    simp only [List.length_map, List.length_range] at h
    have h' : hi.elim s.length (clipAt s.length) - lo.elim 0 (clipAt s.length) = s.length := by simpa using h
    have hh : hi.elim s.length (clipAt s.length) ≤ s.length := by
      cases hi with
      | none => exact Nat.le_refl _
      | some i => have := clipAt_cast s.length i; simp only [Option.elim]; omega
    unfold cut
    rw [h']
    rcases Nat.eq_zero_or_pos s.length with z | z
    · have : s = [] := List.length_eq_zero_iff.mp z
      subst this; simp
    · rw [show lo.elim 0 (clipAt s.length) = 0 by omega]; simp
  · rw [e]; rfl

theorem cut_ok {s : List Nat} {a b : Nat} (h : okS s) : okS (cut s a b) :=
  h.sub (fun _ hc => List.mem_of_mem_drop (List.mem_of_mem_take hc)) (by unfold cut; rw [List.length_take, List.length_drop]; omega)

theorem sliceTail {value : Expr} {lo hi : Option Expr} {p : Pos} {o i : Value} {Ty id : String} {Q : Value → Shared → Prop} {E : Value → Shared → Prop} {s : Shared} (hT : s.TypeIs o Ty)
    (hl : typeLookup (.type Ty) "__getitem__" = pure (some (.builtin id))) (hg : wpAny T.M A (getItem o i) Q E s) : wpAny T.M A (PyProof.Rows.subscriptTail value (.Slice lo hi none p) o i) Q E s :=
  PyProof.Rows.tail_any hT hl hg rfl

theorem part_tok {v : Value} {p : Option Int} (h : IsPart v p) : ∃ pt : Option (Int × Tok), v = partValue pt ∧ pt.map (·.1) = p := by
  cases h with
  | none => exact ⟨none, rfl, rfl⟩
  | int i t => exact ⟨some (i, t), rfl, rfl⟩

theorem slice_list (I : Inv T W) {value : Expr} {lo hi : Option Expr} {p : Pos} {x y : AV} {vx vy : Value} {a l : Addr} {vs : Array Value} {xs : List AV} {b c : Nat} (hl : W.h.IsList l vs) (h2 : W.Vs T xs vs.toList) (h3 : xs.length ≤ lim)
    (e1 : bound xs.length 0 x = some b) (e2 : bound xs.length xs.length y = some c) (rx : W.V T x vx) (ry : W.V T y vy) (ha : W.h.get? a = some { cls := .type "slice", data := .fields #[vx, vy, .none] })
    (hn : newList (cut xs b c) W.σ ≠ .fail) : Does T A noX W (PyProof.Rows.subscriptTail value (.Slice lo hi none p) (.ref l) (.ref a)) (newList (cut xs b c) W.σ) (VW T) := by
  obtain ⟨pl, i1, i2, _⟩ := bound_part e1 rx
  obtain ⟨pu, j1, j2, _⟩ := bound_part e2 ry
  have hz := vrs_size h2
  refine does_newList (vs := (vs.toList.drop b).take (c - b)) I ((h2.drop b).take (c - b)) (fun hl' Q E q => sliceTail (Ty := "list") ?_ slot_list_getitem.lookup ?_) hn
  · obtain ⟨o, h1, h2', _⟩ := hl; exact ⟨o, h1, h2'⟩
  · refine wpAny_getItem_list_slice hl ⟨_, ha, rfl, rfl⟩ i1 j1 .none (by simp) ?_ (by rw [hz, ← lim_eq]; exact h3)
    rw [slicePick_plain, hz, i2, j2]
    exact q W.s.toks

theorem does_sliceA (I : Inv T W) {value : Expr} {lo hi : Option Expr} {p : Pos} {o x y : AV} {vo vx vy : Value} {a : Addr} (ro : W.V T o vo) (rx : W.V T x vx) (ry : W.V T y vy)
    (ha : W.h.get? a = some { cls := .type "slice", data := .fields #[vx, vy, .none] }) (hn : sliceA o x y W.σ ≠ .fail) :
    Does T A noX W (PyProof.Rows.subscriptTail value (.Slice lo hi none p) vo (.ref a)) (sliceA o x y W.σ) (VW T) := by
  cases ro with
  | str t ok =>
    rename_i s
    have e0 : sliceA (.str s) x y W.σ = match bound s.length 0 x with | some a => (match bound s.length s.length y with | some b => .ok (.str (cut s a b)) W.σ | none => .fail) | none => .fail := rfl
    rw [e0] at hn ⊢
    cases e1 : bound s.length 0 x with
    | none => rw [e1] at hn; exact absurd rfl hn
    | some b =>
      cases e2 : bound s.length s.length y with
      | none => rw [e1, e2] at hn; exact absurd rfl hn
      | some c =>
        dsimp only
        obtain ⟨pl, i1, i2, _⟩ := bound_part e1 rx
        obtain ⟨pu, j1, j2, _⟩ := bound_part e2 ry
        obtain ⟨ptl, rfl, rfl⟩ := part_tok i1
        obtain ⟨ptu, rfl, rfl⟩ := part_tok j1
        refine Does.keep I fun Q E q => sliceTail (Ty := "str") rfl PyProof.Rows.slot_str_getitem.lookup ?_
        refine wpAny_getItem_str_slice (l := ptl) (u := ptu) (st := none) ⟨_, ha, rfl, rfl⟩ rfl ?_
        have hh := slice_text (s := s) (ptl.map (·.1)) (ptu.map (·.1))
        rw [i2, j2] at hh
        unfold Txt.slice at hh
        unfold sliceMade slicePicked
        show Made.post (if ((1 : Int) == 1 && (Builtin.Str.strSliceIndices (ptl.map (·.1)) (ptu.map (·.1)) 1 (tS s).length).length == (tS s).length) = true then _ else _) _ _
        split at hh
        · rename_i z
          rw [if_pos z]
          rw [hh]
          exact q _ W.s.toks (.str _ (cut_ok ok))
        · rename_i z
          rw [if_neg z]
          refine ⟨?_, ?_⟩
          · exact Nat.le_trans (Nat.le_of_eq (congrArg Str.length hh)) (by rw [tS_length, ← lim_eq]; exact (cut_ok ok).2)
          · have q' := q _ (W.s.toks + 1) (.str W.s.toks (cut_ok (a := b) (b := c) ok))
            rw [← hh] at q'
            exact q'
  | ref hb =>
    rename_i l b
    have e0 : sliceA (.ref l) x y W.σ = match W.σ[l]? with | some (.list xs) => (match bound xs.length 0 x with | some a => (match bound xs.length xs.length y with | some b => newList (cut xs a b) W.σ | none => .fail) | none => .fail) | none => .fail := rfl
    rw [e0] at hn ⊢
    cases hx : W.σ[l]? with
    | none => rw [hx] at hn; exact absurd rfl hn
    | some ob =>
      rw [hx] at hn
      cases ob
      rename_i xs
      dsimp only at hn ⊢
      obtain ⟨_, vs, n, ea, _, h1, h2, h3⟩ := I.listAt hx (.ref hb)
      cases ea
      cases e1 : bound xs.length 0 x with
      | none => rw [e1] at hn; exact absurd rfl hn
      | some b' =>
        cases e2 : bound xs.length xs.length y with
        | none => rw [e1, e2] at hn; exact absurd rfl hn
        | some c =>
          rw [e1, e2] at hn
          dsimp only at hn ⊢
          exact slice_list I ⟨_, h1, rfl, n, rfl⟩ h2 h3 e1 e2 rx ry ha hn
  | _ => exact absurd rfl hn
end
end Mine

/-! Soundness, part 7: calls (typed by hand). -/
set_option Elab.async false
namespace Mine
open PySem PySem.SeqAt PySem.Spec PySem.W PySem.Calls

section
variable {T : Tp} {A : Around} {W : Wd} {env : Env}

noncomputable def notStar : Expr → Bool
  | .Starred .. => false
  | _ => true
theorem starEach_plain {e : Expr} {rest : List Expr} (h : notStar e = true) : starEach (e :: rest) env = (false, eval e env) :: starEach rest env := by
  cases e <;> first | rfl | cases h
noncomputable def plainArgs (es : List Expr) : Bool := es.all notStar
theorem backTo_plain {pos : Pos} : ∀ {es : List Expr}, plainArgs es = true → (backTo pos (starEach es env)).any (·.1) = false
  | [], _ => rfl
  | e :: r, h => by
    have h' : notStar e = true ∧ plainArgs r = true := by simpa [plainArgs] using h
    rw [starEach_plain h'.1]
    show (false || (backTo pos (starEach r env)).any (·.1)) = false
    rw [backTo_plain h'.2]; rfl

theorem does_args_nil (I : Inv T W) {pos : Pos} : Does T A noX W (spliced (backTo pos (starEach [] env))) (.ok [] W.σ) (VWs T) :=
  Does.ok (spliced_nil ⟨W, rfl, rfl, I, .refl _ _, .nil⟩)
theorem does_args_cons {pos : Pos} {e : Expr} {rest : List Expr} {x : Out AV} {y : Hp → Out (List AV)} (he : notStar e = true) (h1 : Does T A noX W (eval e env) x (VW T))
    (h2 : ∀ a W', Inv T W' → Le noX W W' → x = .ok a W'.σ → Does T A noX W' (spliced (backTo pos (starEach rest env))) (y W'.σ) (VWs T)) :
    Does T A noX W (spliced (backTo pos (starEach (e :: rest) env))) (x.bind fun a h => (y h).bind fun b h => .ok (a :: b) h) (VWs T) := by
  rw [starEach_plain he]
  show wpAny T.M A (spliced ((false, eval e env) :: backTo pos (starEach rest env))) _ _ _
  refine spliced_cons (h1.cps (fun a W' va e I' l' ra => ?_) fun _ _ q => q.elim)
  refine (h2 a W' I' l' e).cps (fun b W'' vb e' I'' l'' rb => ?_) fun _ _ q => q.elim
  exact ⟨a :: b, W'', rfl, by rw [e]; show (y W'.σ).bind _ = _; rw [e']; rfl, I'', l'.trans l'', .cons (ra.le l'') rb⟩

/-- a value that may be called, in every later state -/
noncomputable def Callee (T : Tp) (f : Value) : Prop := ∀ h, T.base.StaysIn h → ∃ k, (k = Keeper.frame ∨ k = Keeper.machine ∨ k = Keeper.boundFrame) ∧ Looks T.M h (keeperOf f) k
theorem callee_builtin (id : String) : Callee T (.builtin id) := fun _ _ => ⟨.machine, .inr (.inl rfl), Looks.of_pure rfl⟩
theorem callee_type (id : String) : Callee T (.type id) := fun _ _ => ⟨.machine, .inr (.inl rfl), Looks.of_pure rfl⟩
theorem callee_fn {a : Addr} {o : Obj} {fd : FuncData} (ho : T.base.get? a = some o) (hd : o.data = .func fd) : Callee T (.ref a) := fun h k =>
  ⟨.frame, .inl rfl, (Looks.ld (part := none) (k _ _ ho)).andThen (by rw [hd]; exact .now)⟩

theorem does_callWith0 {pos : Pos} {f : Value} {first : List Value} {g : Out AV} (I : Inv T W) (hk : Callee T f) (hc : Does T A noX W (call f (first ++ [])) g (VW T)) :
    Does T A noX W (callWith pos f first (backTo pos (starEach [] env)) []) g (VW T) :=
  callWith_of (P := fun h => T.base.StaysIn h) rfl hk (PyProof.Rows.evalArgs_nil3 ⟨I.base, hc⟩)

theorem does_callWith {pos : Pos} {f : Value} {first : List Value} {e : Expr} {r : List Expr} {xs : Out (List AV)} {g : List AV → Hp → Out AV} (hp : plainArgs (e :: r) = true) (hk : Callee T f)
    (ha : Does T A noX W (spliced (backTo pos (starEach (e :: r) env))) xs (VWs T))
    (hc : ∀ as vs W', Inv T W' → Le noX W W' → xs = .ok as W'.σ → W'.Vs T as vs → Does T A noX W' (call f (first ++ vs)) (g as W'.σ) (VW T)) :
    Does T A noX W (callWith pos f first (backTo pos (starEach (e :: r) env)) []) (xs.bind g) (VW T) := by
  refine callWith_of (P := fun h => T.base.StaysIn h) (by rw [backTo_plain hp]; rfl) hk ?_
  have h' : notStar e = true ∧ plainArgs r = true := by simpa [plainArgs] using hp
  rw [starEach_plain h'.1] at ha ⊢
  refine evalArgs_plain (ha.cps (fun as W' vs e I' l' r => ⟨I'.base, ?_⟩) fun _ _ q => q.elim)
  exact (hc as vs W' I' l' e r).up l' (by rw [e]; rfl)
end
end Mine

/-! Soundness, part 8: built-in functions (typed by hand). -/
set_option Elab.async false
namespace Mine
open PySem PySem.SeqAt PySem.Spec PySem.W PySem.Calls

section
variable {T : Tp} {A : Around} {W : Wd} {env : Env}

/-- a tree that makes nothing known, may push things -/
theorem Does.grown {t : Sem Value} {a : AV} (I : Inv T W) (h : ∀ Q E, (∀ v h' k, (∀ c o, W.h.get? c = some o → h'.get? c = some o) → VR T W.own W.bt h' a v → Q v { W.s with heap := h', toks := k }) → wpAny T.M A t Q E W.s) :
    Does T A noX W t (.ok a W.σ) (VW T) :=
  Does.ok (h _ _ fun v h' k hk r => by
    have := I.grow (s' := { W.s with heap := h', toks := k }) hk rfl rfl
    exact ⟨{ W with s := { W.s with heap := h', toks := k } }, rfl, rfl, this.1, this.2, r⟩)

noncomputable def biV : Bi → Value
  | .len => .builtin "len"
  | .ord => .builtin "ord"
  | .range => .type "range"
  | .min => .builtin "min"
theorem callee_bi (b : Bi) : Callee T (biV b) := by
  cases b <;> first | exact callee_builtin _ | exact callee_type _

theorem own_new (I : Inv T W) {a : Addr} (h : W.h.get? a = none) : W.own a = .free := by
  cases q : W.own a with
  | free => rfl
  | loc l => obtain ⟨o, e⟩ := (I.lt a (by rw [q]; simp)).1; rw [h] at e; cases e
theorem get_size (h : Heap) : h.get? h.objs.size = none := by
  cases q : h.get? h.objs.size with
  | none => rfl
  | some o => exact absurd (Heap.lt_size q) (Nat.lt_irrefl _)

theorem ints_vals {xs : List AV} {vs : List Value} (r : W.Vs T xs vs) : ∀ {ns : List Int}, intsA xs = some ns → PyProof.Rows.IntsAre vs ns := by
  induction r with
  | nil => intro ns e; cases e; exact .nil
  | cons a _ ih =>
    intro ns e
    rw [intsA, mapO_cons] at e
    cases a with
    | int i t =>
      rename_i xs _ _
      cases e2 : mapO asInt xs with
      | none => rw [e2] at e; cases e
      | some ms => rw [e2] at e; cases e; exact .cons _ _ (ih e2)
    | _ => cases e

theorem minL_spec : ∀ (r : List Int) (a : Int), minL a r ∈ a :: r ∧ ∀ x ∈ a :: r, minL a r ≤ x
  | [], a => ⟨by simp [minL], by simp [minL]⟩
  | b :: r, a => by
    obtain ⟨h1, h2⟩ := minL_spec r (if b < a then b else a)
    simp only [minL]
    refine ⟨?_, fun x hx => ?_⟩
    · rcases List.mem_cons.mp h1 with q | q
      · rw [q]; split <;> simp
      · simp [q]
    · have h3 := h2 (if b < a then b else a) (by simp)
      rcases List.mem_cons.mp hx with rfl | hx
      · refine Int.le_trans h3 ?_; split <;> omega
      · rcases List.mem_cons.mp hx with rfl | hx
        · refine Int.le_trans h3 ?_; split <;> omega
        · exact h2 x (by simp [hx])

theorem min_ints_any {l : Addr} {vs : List Value} {ns : List Int} {Q : Value → Shared → Prop} {E : Value → Shared → Prop} {s : Shared} (hh : A.handled = none) (hl : s.heap.IsList l vs.toArray) (hi : PyProof.Rows.IntsAre vs ns) (hne : 0 < ns.length)
    (h : ∀ h' M (t : Tok) tk, (∀ c o, s.heap.get? c = some o → h'.get? c = some o) → M ∈ ns → (∀ a, a ∈ ns → M ≤ a) → Q (.int M t) { s with heap := h', toks := tk }) :
    wpAny T.M A (call (.builtin "min") [.ref l]) Q E s := by
  obtain ⟨xs, e⟩ := hi.allInts.items
  have hns : ns = xs.toList.map (·.1) := by
    rw [← hi.numsOf, ← nums_intItems, ← e]
  have hsz : 0 < xs.size := by
    have h3 := hne; rw [hns, List.length_map, Array.length_toList] at h3; exact h3
  rw [e] at hl
  refine min_intList hh hl hsz fun v h' tk hv hk => ?_
  obtain ⟨t, rfl⟩ := intItems_at hv
  obtain ⟨h1, h2⟩ := argBest_lt (numAt xs) (xs.size - 1)
  refine h _ _ t tk hk ?_ fun a ha => ?_
  · rw [hns, numAt_eq]; exact getD_mem (by rw [List.length_map, Array.length_toList]; omega)
  · rw [hns] at ha
    obtain ⟨j, hj, rfl⟩ := mem_getD ha
    rw [List.length_map, Array.length_toList] at hj
    rw [← numAt_eq]
    exact h2 j (by omega)

theorem listAt_ok {σ : Hp} {v : AV} {xs : List AV} (h : listAt σ v = some xs) : ∃ l, v = .ref l ∧ σ[l]? = some (.list xs) := by
  cases v with
  | ref l =>
    refine ⟨l, rfl, ?_⟩
    have e0 : listAt σ (.ref l) = match σ[l]? with | some (.list xs) => some xs | none => none := rfl
    rw [e0] at h
    cases q : σ[l]? with
    | none => rw [q] at h; cases h
    | some o => cases o; rw [q] at h; cases h; rfl
  | _ => cases h

theorem does_rng (I : Inv T W) {a b : Int} {t : Sem Value} (hn : rngA a b W.σ ≠ .fail) (h : ∀ Q E, (∀ x y z k, Q (.ref W.s.heap.objs.size) { W.s with heap := W.s.heap.push { cls := .type "range", data := .fields #[.int a x, .int b y, .int 1 z] }, toks := k }) → wpAny T.M A t Q E W.s) :
    Does T A noX W t (rngA a b W.σ) (VW T) := by
  by_cases h1 : -lim ≤ a ∧ a ≤ lim ∧ -lim ≤ b ∧ b ≤ lim
  · have e : rngA a b W.σ = .ok (.rng a b) W.σ := if_pos h1
    rw [e]
    exact Does.grown I fun Q E q => h Q E fun x y z k => q _ _ _ (fun c o e => Heap.get?_push_of_some _ e) (.rng (Heap.get?_push_size _ rfl) (own_new I (get_size _)) h1.1 h1.2.1 h1.2.2.1 h1.2.2.2)
  · exact absurd (if_neg h1) hn

theorem does_bi1 (I : Inv T W) (hh : A.handled = none) {b : Bi} {v : AV} {val : Value} (r : W.V T v val) (hn : bi1 b v W.σ ≠ .fail) : Does T A noX W (call (biV b) [val]) (bi1 b v W.σ) (VW T) := by
  cases b with
  | len =>
    have lst : ∀ xs, listAt W.σ v = some xs → lenA v W.σ = .ok (.int xs.length) W.σ → Does T A noX W (call (biV .len) [val]) (bi1 .len v W.σ) (VW T) := fun xs e e' => by
      show Does T A noX W _ (lenA v W.σ) _
      rw [e']
      obtain ⟨l, rfl, hx⟩ := listAt_ok e
      obtain ⟨_, vs, m, rfl, _, h1, h2, h3⟩ := I.listAt hx r
      have e := vrs_size h2
      exact Does.keep I fun Q E q => PyProof.Rows.len_list ⟨_, h1, rfl, m, rfl⟩ (by rw [e]; exact lim_small h3) (by rw [e]; exact q _ _ (.int _ _))
    cases r with
    | str t ok => exact Does.keep I fun Q E q => P.len_str (by rw [tS_length]; have := lim_small ok.2; omega) (by rw [tS_length]; exact q _ _ (.int _ _))
    | scr h1 h2 h3 h4 h5 h6 =>
      rename_i n
      exact Does.keep I fun Q E q => PyProof.Rows.len_list ⟨_, I.base _ _ h1, h2, n, h3⟩ (by rw [h6]; exact lim_small h4) (by rw [h6]; exact q _ _ (.int _ _))
    | ref hl =>
      rename_i l a
      cases e : listAt W.σ (.ref l) with
      | none => exact absurd (show bi1 .len (.ref l) W.σ = .fail by show (match listAt W.σ (.ref l) with | some xs => Out.ok (AV.int xs.length) W.σ | none => .fail) = _; rw [e]) hn
      | some xs => exact lst xs e (by show (match listAt W.σ (.ref l) with | some xs => Out.ok (AV.int xs.length) W.σ | none => .fail) = _; rw [e])
    | _ => exact absurd rfl hn
  | ord =>
    cases r with
    | str t ok =>
      rename_i s
      match s, hn with
      | [c], _ => exact Does.keep I fun Q E q => P.ord_of_char (q _ _ (.int _ _))
      | [], hn => exact absurd rfl hn
      | _ :: _ :: _, hn => exact absurd rfl hn
    | _ => exact absurd rfl hn
  | range =>
    cases r with
    | int i t => exact does_rng I hn fun Q E q => call_range_1 (q _ _ _ _)
    | _ => exact absurd rfl hn
  | min =>
    have e0 : bi1 .min v W.σ = match (listAt W.σ v).bind intsA with | some ns => (match ns with | a :: r => .ok (.int (minL a r)) W.σ | [] => .fail) | none => .fail := rfl
    rw [e0] at hn ⊢
    cases hx : listAt W.σ v with
    | none => rw [hx] at hn; exact absurd rfl hn
    | some xs =>
      rw [hx] at hn
      simp only [Option.bind_some] at hn ⊢
      cases hi : intsA xs with
      | none => rw [hi] at hn; exact absurd rfl hn
      | some ns =>
        rw [hi] at hn
        cases ns with
        | nil => exact absurd rfl hn
        | cons n ns =>
          obtain ⟨l, rfl, hx'⟩ := listAt_ok hx
          obtain ⟨_, vs, m, rfl, _, h1, h2, h3⟩ := I.listAt hx' r
          refine Does.grown I fun Q E q => min_ints_any hh (vs := vs.toList) ⟨_, h1, rfl, m, by simp⟩ (ints_vals h2 hi) (by simp) fun h' M t tk hk hm hle => ?_
          have e : M = minL n ns := by
            obtain ⟨g1, g2⟩ := minL_spec ns n
            have := hle _ g1; have := g2 _ hm; omega
          rw [e]
          exact q _ _ _ hk (.int _ _)

theorem does_biA (I : Inv T W) (hh : A.handled = none) {b : Bi} {as : List AV} {vals : List Value} (r : W.Vs T as vals) (hn : biA b as W.σ ≠ .fail) : Does T A noX W (call (biV b) vals) (biA b as W.σ) (VW T) := by
  cases r with
  | nil => exact absurd rfl hn
  | cons ra rr =>
    cases rr with
    | nil => exact does_bi1 I hh ra hn
    | cons rb rr =>
      cases rr with
      | cons _ _ => exact absurd rfl hn
      | nil =>
        cases b with
        | range =>
          obtain ⟨x, y, rfl, rfl⟩ := arith_ok hn
          cases ra; cases rb
          exact does_rng I hn fun Q E q => call_range_2 (q _ _ _ _)
        | min =>
          obtain ⟨x, y, rfl, rfl⟩ := arith_ok hn
          cases ra; cases rb
          refine Does.grown I fun Q E q => min_two_ints hh fun h' tk hk => ?_
          split
          · rename_i z; rw [if_pos z] at q; exact q _ _ _ hk (.int _ _)
          · rename_i z; rw [if_neg z] at q; exact q _ _ _ hk (.int _ _)
        | _ => exact absurd rfl hn
end
end Mine

/-! Soundness, part 9: isinstance, tests, operators in expressions (typed by hand). -/
set_option Elab.async false
namespace Mine
open PySem PySem.SeqAt PySem.Spec PySem.W PySem.Calls

section
variable {T : Tp} {A : Around} {W : Wd} {env : Env}

noncomputable def kdT : Kd → String
  | .int => "int"
  | .str => "str"
  | .bool => "bool"
  | .tup => "tuple"
  | .list => "list"

theorem does_instA (I : Inv T W) {v : AV} {k : Kd} {b : Bool} {val : Value} (r : W.V T v val) (e : instA W.σ v k = some b) : Does T A noX W (call (.builtin "isinstance") [val, .type (kdT k)]) (.ok (.bool b) W.σ) (VW T) := by
  refine Does.keep I fun Q E q => ?_
  have q0 : Q (.bool b) W.s := q _ W.s.toks (.bool _)
  have q1 : Q (.bool b) { W.s with toks := W.s.toks + 1 } := q _ _ (.bool _)
  cases r with
  | none =>
    cases e
    cases k with
    | int => exact IsiPair.NoneType_int q1
    | str => exact IsiPair.NoneType_str q1
    | bool => exact IsiPair.NoneType_bool q1
    | tup => exact IsiPair.NoneType_tuple q1
    | list => exact IsiPair.NoneType_list q1
  | bool =>
    cases e
    cases k with
    | int => exact IsiPair.bool_int q0
    | str => exact IsiPair.bool_str q1
    | bool => exact IsiPair.bool_bool q0
    | tup => exact IsiPair.bool_tuple q1
    | list => exact IsiPair.bool_list q1
  | int =>
    cases e
    cases k with
    | int => exact IsiPair.int_int q0
    | str => exact IsiPair.int_str q1
    | bool => exact IsiPair.int_bool q1
    | tup => exact IsiPair.int_tuple q1
    | list => exact IsiPair.int_list q1
  | str =>
    cases e
    cases k with
    | int => exact IsiPair.str_int q1
    | str => exact IsiPair.str_str q0
    | bool => exact IsiPair.str_bool q1
    | tup => exact IsiPair.str_tuple q1
    | list => exact IsiPair.str_list q1
  | ref hl =>
    rename_i l a
    have e0 : instA W.σ (.ref l) k = match W.σ[l]? with | some (.list _) => some (k == .list) | none => none := rfl
    rw [e0] at e
    cases hx : W.σ[l]? with
    | none => rw [hx] at e; cases e
    | some o =>
      cases o
      rw [hx] at e
      cases e
      obtain ⟨_, vs, m, ea, _, h1, h2, h3⟩ := I.listAt hx (.ref hl)
      cases ea
      cases k with
      | int => exact IsiPair.list_int h1 rfl q1
      | str => exact IsiPair.list_str h1 rfl q1
      | bool => exact IsiPair.list_bool h1 rfl q1
      | tup => exact IsiPair.list_tuple h1 rfl q1
      | list => exact IsiPair.list_list h1 rfl q0
  | _ => cases e
end
end Mine

/-! Soundness, part 10: texts and abstract texts match; expressions (typed by hand). -/
set_option Elab.async false
namespace Mine
open PySem PySem.SeqAt PySem.Spec PySem.W PySem.Calls

/-- what the matching asks of the globals -/
structure Gl where
  gv : Str → Option (Option Value)
  fa : Nat → Addr

noncomputable def isGlob (sc : Scope) (x : Str) : Bool := sc.names.lookup x == some .globalImplicit && !(x == ("__debug__" : Str))
noncomputable def okSb (s : List Nat) : Bool := s.all (fun c => decide (c < 128)) && decide (s.length ≤ 100000)
theorem okS_of {s : List Nat} (h : okSb s = true) : okS s := by
  simp only [okSb, Bool.and_eq_true, List.all_eq_true, decide_eq_true_eq] at h
  exact ⟨h.1, Nat.le_trans h.2 (by decide)⟩
/-- a built-in's name that nobody has taken -/
noncomputable def isBi (G : Gl) (sc : Scope) (x : Str) (v : Value) : Bool := isGlob sc x && (match G.gv x with | some none => true | _ => false) && bootBuiltins x == some v && !(x == ("__name__" : Str))

noncomputable def isNoneC : Const → Bool
  | .none => true
  | _ => false
noncomputable def isBoolC (b : Bool) : Const → Bool
  | .bool c => b == c
  | _ => false
noncomputable def isIntC (i : Int) : Const → Bool
  | .int c => i == c
  | _ => false
noncomputable def isStrC (s : List Nat) : Const → Bool
  | .str c => c == tS s && okSb s
  | _ => false

/-! ### an expression taken apart -/
inductive View where
  | C (c : Const) (k : Nat) (p : Pos)
  | N (x : Str) (p : Pos)
  | B (l : Expr) (op : Operator) (r : Expr) (p : Pos)
  | U (op : UnaryOp) (e : Expr) (p : Pos)
  | L (op : BoolOp) (es : List Expr) (p : Pos)
  | M (l : Expr) (ops : List CmpOp) (rs : List Expr) (p : Pos)
  | I (es : List Expr) (p : Pos)
  | S (o i : Expr) (p : Pos)
  | X (lo hi st : Option Expr) (p : Pos)
  | A (o : Expr) (nm : Str) (p : Pos)
  | F (f : Expr) (as : List Expr) (kws : List Keyword) (p : Pos)
  | G (elt : Expr) (gs : List Comprehension) (sc : Scope) (p : Pos)
  | other
noncomputable def view : Expr → View
  | .Constant c k p => .C c k p
  | .Name x p => .N x p
  | .BinOp l op r p => .B l op r p
  | .UnaryOp op e p => .U op e p
  | .BoolOp op es p => .L op es p
  | .Compare l ops rs p => .M l ops rs p
  | .List es p => .I es p
  | .Subscript o i p => .S o i p
  | .Slice lo hi st p => .X lo hi st p
  | .Attribute o nm p => .A o nm p
  | .Call f as kws p => .F f as kws p
  | .ListComp elt gs sc p => .G elt gs sc p
  | _ => .other
noncomputable def View.ex : View → Option Expr
  | .C c k p => some (.Constant c k p)
  | .N x p => some (.Name x p)
  | .B l op r p => some (.BinOp l op r p)
  | .U op e p => some (.UnaryOp op e p)
  | .L op es p => some (.BoolOp op es p)
  | .M l ops rs p => some (.Compare l ops rs p)
  | .I es p => some (.List es p)
  | .S o i p => some (.Subscript o i p)
  | .X lo hi st p => some (.Slice lo hi st p)
  | .A o nm p => some (.Attribute o nm p)
  | .F f as kws p => some (.Call f as kws p)
  | .G elt gs sc p => some (.ListComp elt gs sc p)
  | .other => none
theorem view_ex (e : Expr) : ∀ e', (view e).ex = some e' → e = e' := by
  cases e <;> intro e' h <;> first | exact Option.some.inj h | cases h
noncomputable def asC (e : Expr) : Option Const := match view e with
  | .C c _ _ => some c
  | _ => none
noncomputable def asName (e : Expr) : Option Str := match view e with
  | .N x _ => some x
  | _ => none
noncomputable def asBin (e : Expr) : Option (Expr × Operator × Expr) := match view e with
  | .B l op r _ => some (l, op, r)
  | _ => none
noncomputable def asUn (e : Expr) : Option (UnaryOp × Expr) := match view e with
  | .U op e _ => some (op, e)
  | _ => none
noncomputable def asBool (e : Expr) : Option (BoolOp × List Expr) := match view e with
  | .L op es _ => some (op, es)
  | _ => none
noncomputable def asCmp (e : Expr) : Option (Expr × List CmpOp × List Expr) := match view e with
  | .M l ops rs _ => some (l, ops, rs)
  | _ => none
noncomputable def asLst (e : Expr) : Option (List Expr) := match view e with
  | .I es _ => some es
  | _ => none
noncomputable def asSub (e : Expr) : Option (Expr × Expr) := match view e with
  | .S o i _ => some (o, i)
  | _ => none
noncomputable def asSlice (e : Expr) : Option (Option Expr × Option Expr) := match view e with
  | .X lo hi st _ => (match st with
    | none => some (lo, hi)
    | some _ => none)
  | _ => none
noncomputable def asCall (e : Expr) : Option (Expr × List Expr × List Keyword × Pos) := match view e with
  | .F f as kws p => some (f, as, kws, p)
  | _ => none
noncomputable def asAttr (e : Expr) : Option (Expr × Str × Pos) := match view e with
  | .A o nm p => some (o, nm, p)
  | _ => none
noncomputable def asComp (e : Expr) : Option (Expr × List Comprehension × Scope) := match view e with
  | .G elt gs sc _ => some (elt, gs, sc)
  | _ => none
noncomputable def one {α : Type} : List α → Option α
  | [x] => some x
  | _ => none
theorem one_inv {α : Type} {l : List α} {x : α} (h : one l = some x) : l = [x] := by
  match l, h with
  | [_], h => cases h; rfl
  | [], h => cases h
  | _ :: _ :: _, h => cases h
theorem any_inv {α : Type} {o : Option α} {p : α → Bool} (h : o.any p = true) : ∃ x, o = some x ∧ p x = true := by
  cases o with
  | none => cases h
  | some x => exact ⟨x, rfl, h⟩
theorem asC_inv {e : Expr} {c : Const} (h : asC e = some c) : ∃ k p, e = .Constant c k p := by
  have v := view_ex e
  unfold asC at h
  revert h
  revert v
  cases view e with
  | C c k p => intro v h; cases h; exact ⟨k, p, v _ rfl⟩
  | _ => intro _ h; cases h
theorem asName_inv {e : Expr} {x : Str} (h : asName e = some x) : ∃ p, e = .Name x p := by
  have v := view_ex e
  unfold asName at h
  revert h
  revert v
  cases view e with
  | N x p => intro v h; cases h; exact ⟨p, v _ rfl⟩
  | _ => intro _ h; cases h
theorem asBin_inv {e l r : Expr} {op : Operator} (h : asBin e = some (l, op, r)) : ∃ p, e = .BinOp l op r p := by
  have v := view_ex e
  unfold asBin at h
  revert h
  revert v
  cases view e with
  | B l op r p => intro v h; cases h; exact ⟨p, v _ rfl⟩
  | _ => intro _ h; cases h
theorem asUn_inv {e l : Expr} {op : UnaryOp} (h : asUn e = some (op, l)) : ∃ p, e = .UnaryOp op l p := by
  have v := view_ex e
  unfold asUn at h
  revert h
  revert v
  cases view e with
  | U op l p => intro v h; cases h; exact ⟨p, v _ rfl⟩
  | _ => intro _ h; cases h
theorem asBool_inv {e : Expr} {es : List Expr} {op : BoolOp} (h : asBool e = some (op, es)) : ∃ p, e = .BoolOp op es p := by
  have v := view_ex e
  unfold asBool at h
  revert h
  revert v
  cases view e with
  | L op es p => intro v h; cases h; exact ⟨p, v _ rfl⟩
  | _ => intro _ h; cases h
theorem asCmp_inv {e l : Expr} {ops : List CmpOp} {rs : List Expr} (h : asCmp e = some (l, ops, rs)) : ∃ p, e = .Compare l ops rs p := by
  have v := view_ex e
  unfold asCmp at h
  revert h
  revert v
  cases view e with
  | M l ops rs p => intro v h; cases h; exact ⟨p, v _ rfl⟩
  | _ => intro _ h; cases h
theorem asLst_inv {e : Expr} {es : List Expr} (h : asLst e = some es) : ∃ p, e = .List es p := by
  have v := view_ex e
  unfold asLst at h
  revert h
  revert v
  cases view e with
  | I es p => intro v h; cases h; exact ⟨p, v _ rfl⟩
  | _ => intro _ h; cases h
theorem asSub_inv {e o i : Expr} (h : asSub e = some (o, i)) : ∃ p, e = .Subscript o i p := by
  have v := view_ex e
  unfold asSub at h
  revert h
  revert v
  cases view e with
  | S o i p => intro v h; cases h; exact ⟨p, v _ rfl⟩
  | _ => intro _ h; cases h
theorem asSlice_inv {e : Expr} {lo hi : Option Expr} (h : asSlice e = some (lo, hi)) : ∃ p, e = .Slice lo hi none p := by
  have v := view_ex e
  unfold asSlice at h
  revert h
  revert v
  cases view e with
  | X lo hi st p =>
    intro v h
    cases st with
    | none => cases h; exact ⟨p, v _ rfl⟩
    | some _ => cases h
  | _ => intro _ h; cases h
theorem asCall_inv {e f : Expr} {as : List Expr} {kws : List Keyword} {p : Pos} (h : asCall e = some (f, as, kws, p)) : e = .Call f as kws p := by
  have v := view_ex e
  unfold asCall at h
  revert h
  revert v
  cases view e with
  | F f as kws p => intro v h; cases h; exact v _ rfl
  | _ => intro _ h; cases h
theorem asAttr_inv {e o : Expr} {nm : Str} {p : Pos} (h : asAttr e = some (o, nm, p)) : e = .Attribute o nm p := by
  have v := view_ex e
  unfold asAttr at h
  revert h
  revert v
  cases view e with
  | A o nm p => intro v h; cases h; exact v _ rfl
  | _ => intro _ h; cases h
theorem asComp_inv {e elt : Expr} {gs : List Comprehension} {sc : Scope} (h : asComp e = some (elt, gs, sc)) : ∃ p, e = .ListComp elt gs sc p := by
  have v := view_ex e
  unfold asComp at h
  revert h
  revert v
  cases view e with
  | G elt gs sc p => intro v h; cases h; exact ⟨p, v _ rfl⟩
  | _ => intro _ h; cases h

noncomputable def isRefOf (a : Addr) : Option (Option Value) → Bool
  | some (some (.ref b)) => b == a
  | _ => false
/-- the name of one of the text's defs -/
noncomputable def callOk (G : Gl) (sc : Scope) (f : Nat) (e : Expr) : Bool := (asName e).any fun x => isGlob sc x && isRefOf (G.fa f) (G.gv x)
noncomputable def biName (G : Gl) (sc : Scope) (v : Value) (e : Expr) : Bool := (asName e).any fun x => isBi G sc x v

noncomputable def notComp : Expr → Bool
  | .ListComp .. => false
  | .SetComp .. => false
  | .DictComp .. => false
  | _ => true
noncomputable def notSet : Expr → Bool
  | .Set .. => false
  | _ => true
theorem marks_of {e : Expr} (op : CmpOp) (h : notSet e = true) : behindInMarks op e = false := by
  cases e with
  | Set _ _ _ => cases h
  | _ => rfl

noncomputable def bmNm : Bm → Str
  | .append => "append"
  | .join => "join"
noncomputable def noSuper : Expr → Bool
  | .Call .. => false
  | _ => true
noncomputable def genName (g : Comprehension) : Str := ((asName g.target).getD "")
noncomputable def genOk (g : Comprehension) : Bool := (asName g.target).isSome && decide (g.is_async = 0) && notSet g.iter
/-- a comprehension's scope, seen from the frame that it stands in -/
noncomputable def relabelS (sc' sc : Scope) : Scope :=
  { sc' with names := sc'.names.map fun (n, k) => if (k == .free && sc.kind == .function && sc.names.lookup n == some .cell) then (n, .cell) else (n, k) }
noncomputable def compSl (sc' sc : Scope) (sl : List (Nat × Str)) (x : Nat) (nm : Str) : List (Nat × Str) :=
  (x, nm) :: sl.filter fun p => !(p.1 == x) && sc'.names.lookup p.2 == some .free && sc.names.lookup p.2 == some .cell
noncomputable def scOk (sc' sc : Scope) (nm : Str) : Bool := (sc'.kind == .function) && sc'.names.lookup nm == some .local &&
  sc'.names.all fun p => !(p.2 == .cell) && (!(p.2 == .local) || sc'.names.lookup p.1 == some .local) && (!(p.2 == .free) || sc.names.lookup p.1 == some .cell)
noncomputable def isNoM : ME → Bool
  | .none => true
  | _ => false
/-- an expression that may be left out -/
noncomputable def mO (m : ME) (f : Expr → Bool) (o : Option Expr) : Bool := (o.isNone && isNoM m) || o.any f
mutual
noncomputable def mtE (G : Gl) (sc : Scope) (sl : List (Nat × Str)) : ME → Expr → Bool
  | .none, e => (asC e).any isNoneC
  | .bool b, e => (asC e).any (isBoolC b)
  | .int i, e => (asC e).any (isIntC i)
  | .str s, e => (asC e).any (isStrC s)
  | .var i, e => (asName e).any fun x => sl.contains (i, x) && !(x == ("__debug__" : Str))
  | .bin op l r, e => (asBin e).any fun x => opOk op x.2.1 && mtE G sc sl l x.1 && mtE G sc sl r x.2.2
  | .not m, e => (asUn e).any fun x => decide (x.1 = .Not) && mtE G sc sl m x.2
  | .and ms, e => (asBool e).any fun x => decide (x.1 = .And) && mtEs G sc sl ms x.2
  | .or ms, e => (asBool e).any fun x => decide (x.1 = .Or) && mtEs G sc sl ms x.2
  | .cmp l op r, e => (asCmp e).any fun x => (one x.2.1).any (cmpOk op) && mtE G sc sl l x.1 && (one x.2.2).any fun y => notSet y && mtE G sc sl r y
  | .list ms, e => (asLst e).any fun x => mtEs G sc sl ms x
  | .idx o i, e => (asSub e).any fun x => notSlice x.2 && mtE G sc sl o x.1 && mtE G sc sl i x.2
  | .slice o lo hi, e => (asSub e).any fun x => mtE G sc sl o x.1 && (asSlice x.2).any fun y => mO lo (mtE G sc sl lo) y.1 && mO hi (mtE G sc sl hi) y.2
  | .call f args, e => (asCall e).any fun x => x.2.2.1.isEmpty && callOk G sc f x.1 && mtEs G sc sl args x.2.1
  | .bi b args, e => (asCall e).any fun x => x.2.2.1.isEmpty && biName G sc (biV b) x.1 && mtEs G sc sl args x.2.1
  | .inst m k, e => (asCall e).any fun x => x.2.2.1.isEmpty && biName G sc (.builtin "isinstance") x.1 && (x.2.1.head?).any (fun y => notStar y && mtE G sc sl m y) && (one x.2.1.tail).any (biName G sc (.type (kdT k)))
  | .isNone m, e => (asCmp e).any fun x => (one x.2.1).any (fun o => decide (o = .Is)) && mtE G sc sl m x.1 && (one x.2.2).any fun y => (asC y).any isNoneC
  | .isTrue m, e => (asCmp e).any fun x => (one x.2.1).any (fun o => decide (o = .Is)) && mtE G sc sl m x.1 && (one x.2.2).any fun y => (asC y).any (isBoolC true)
  | .powc a b, e => (asBin e).any fun x => decide (x.2.1 = .Pow) && decide (b ≤ 100) && decide (a ≤ 100) && (asC x.1).any (isIntC a) && (asC x.2.2).any (isIntC b)
  | .bm m o args, e => (asCall e).any fun x => x.2.2.1.isEmpty && decide (x.2.1.length < 30) && mtEs G sc sl args x.2.1 && (asAttr x.1).any fun y => (y.2.1 == bmNm m) && (y.2.2.endLine == x.2.2.2.line) && noSuper y.1 && mtE G sc sl o y.1
  | .comp elt v src conds, e => (asComp e).any fun x => (one x.2.1).any fun g => genOk g && scOk x.2.2 sc (genName g) && mtE G sc sl src g.iter && mtEs G (relabelS x.2.2 sc) (compSl x.2.2 sc sl v (genName g)) conds g.ifs &&
      mtE G (relabelS x.2.2 sc) (compSl x.2.2 sc sl v (genName g)) elt x.1
noncomputable def mtEs (G : Gl) (sc : Scope) (sl : List (Nat × Str)) : List ME → List Expr → Bool
  | [], es => es.isEmpty
  | m :: ms, es => (es.head?).any (fun e => notStar e && mtE G sc sl m e) && mtEs G sc sl ms es.tail
end
theorem mtEs_nil {G : Gl} {sc : Scope} {sl : List (Nat × Str)} {es : List Expr} (h : mtEs G sc sl [] es = true) : es = [] := List.isEmpty_iff.mp h
theorem mtEs_cons {G : Gl} {sc : Scope} {sl : List (Nat × Str)} {m : ME} {ms : List ME} {es : List Expr} (h : mtEs G sc sl (m :: ms) es = true) : ∃ e r, es = e :: r ∧ notStar e = true ∧ mtE G sc sl m e = true ∧ mtEs G sc sl ms r = true := by
  have h : ((es.head?).any (fun e => notStar e && mtE G sc sl m e) && mtEs G sc sl ms es.tail) = true := h
  rw [Bool.and_eq_true] at h
  cases es with
  | nil => exact absurd h.1 (by simp)
  | cons e r =>
    have h1 : (notStar e && mtE G sc sl m e) = true := h.1
    rw [Bool.and_eq_true] at h1
    exact ⟨e, r, rfl, h1.1, h1.2, h.2⟩
theorem mtEs_plain {G : Gl} {sc : Scope} {sl : List (Nat × Str)} : ∀ {ms : List ME} {es : List Expr}, mtEs G sc sl ms es = true → plainArgs es = true := by
  intro ms
  induction ms with
  | nil => intro es h; rw [mtEs_nil h]; rfl
  | cons m ms ih =>
    intro es h
    obtain ⟨e, r, rfl, h1, h2, h3⟩ := mtEs_cons h
    rw [plainArgs, List.all_cons, h1]
    exact ih h3
theorem mO_inv {m : ME} {f : Expr → Bool} {o : Option Expr} (h : mO m f o = true) : (o = none ∧ m = .none) ∨ ∃ e, o = some e ∧ f e = true := by
  cases o with
  | none =>
    left
    refine ⟨rfl, ?_⟩
    cases m with
    | none => rfl
    | _ => cases h
  | some e => exact .inr ⟨e, rfl, by simpa [mO] using h⟩

theorem callOk_name {G : Gl} {sc : Scope} {f : Nat} {fe : Expr} (h : callOk G sc f fe = true) : ∃ x p, fe = .Name x p ∧ isGlob sc x = true ∧ G.gv x = some (some (.ref (G.fa f))) := by
  replace h := any_inv h
  obtain ⟨x, hx, h⟩ := h
  obtain ⟨p, rfl⟩ := asName_inv hx
  rw [Bool.and_eq_true] at h
  refine ⟨x, p, rfl, h.1, ?_⟩
  have h2 := h.2
  unfold isRefOf at h2
  split at h2
  · rename_i b e; rw [e, eq_of_beq h2]
  · cases h2
theorem biName_name {G : Gl} {sc : Scope} {v : Value} {fe : Expr} (h : biName G sc v fe = true) : ∃ x p, fe = .Name x p ∧ isBi G sc x v = true := by
  replace h := any_inv h
  obtain ⟨x, hx, h⟩ := h
  obtain ⟨p, rfl⟩ := asName_inv hx
  exact ⟨x, p, rfl, h⟩

/-! ### what matches, by its form -/
section
variable {G : Gl} {sc : Scope} {sl : List (Nat × Str)} {e : Expr}
theorem inv_bin {op : BOp} {l r : ME} (h : mtE G sc sl (.bin op l r) e = true) : ∃ l' op' r' p, e = .BinOp l' op' r' p ∧ opOk op op' = true ∧ mtE G sc sl l l' = true ∧ mtE G sc sl r r' = true := by
  replace h := any_inv h
  obtain ⟨⟨l', op', r'⟩, hx, h⟩ := h
  obtain ⟨p, rfl⟩ := asBin_inv hx
  simp only [Bool.and_eq_true] at h
  exact ⟨l', op', r', p, rfl, h.1.1, h.1.2, h.2⟩
theorem inv_not {m : ME} (h : mtE G sc sl (.not m) e = true) : ∃ e' p, e = .UnaryOp .Not e' p ∧ mtE G sc sl m e' = true := by
  replace h := any_inv h
  obtain ⟨⟨op, e'⟩, hx, h⟩ := h
  obtain ⟨p, rfl⟩ := asUn_inv hx
  rw [Bool.and_eq_true, decide_eq_true_eq] at h
  obtain ⟨rfl, h⟩ := h
  exact ⟨e', p, rfl, h⟩
theorem inv_and {ms : List ME} (h : mtE G sc sl (.and ms) e = true) : ∃ es p, e = .BoolOp .And es p ∧ mtEs G sc sl ms es = true := by
  replace h := any_inv h
  obtain ⟨⟨op, es⟩, hx, h⟩ := h
  obtain ⟨p, rfl⟩ := asBool_inv hx
  rw [Bool.and_eq_true, decide_eq_true_eq] at h
  obtain ⟨rfl, h⟩ := h
  exact ⟨es, p, rfl, h⟩
theorem inv_or {ms : List ME} (h : mtE G sc sl (.or ms) e = true) : ∃ es p, e = .BoolOp .Or es p ∧ mtEs G sc sl ms es = true := by
  replace h := any_inv h
  obtain ⟨⟨op, es⟩, hx, h⟩ := h
  obtain ⟨p, rfl⟩ := asBool_inv hx
  rw [Bool.and_eq_true, decide_eq_true_eq] at h
  obtain ⟨rfl, h⟩ := h
  exact ⟨es, p, rfl, h⟩
theorem inv_cmp {op : COp} {l r : ME} (h : mtE G sc sl (.cmp l op r) e = true) : ∃ l' op' r' p, e = .Compare l' [op'] [r'] p ∧ cmpOk op op' = true ∧ mtE G sc sl l l' = true ∧ notSet r' = true ∧ mtE G sc sl r r' = true := by
  replace h := any_inv h
  obtain ⟨⟨l', ops, rs⟩, hx, h⟩ := h
  obtain ⟨p, rfl⟩ := asCmp_inv hx
  simp only [Bool.and_eq_true] at h
  obtain ⟨op', ho, h1⟩ := any_inv h.1.1
  obtain ⟨r', hr, h2⟩ := any_inv h.2
  rw [Bool.and_eq_true] at h2
  obtain rfl := one_inv ho
  obtain rfl := one_inv hr
  exact ⟨l', op', r', p, rfl, h1, h.1.2, h2.1, h2.2⟩
theorem inv_is {f : Const → Bool} {m : ME} (h : ((asCmp e).any fun x => (one x.2.1).any (fun o => decide (o = .Is)) && mtE G sc sl m x.1 && (one x.2.2).any fun y => (asC y).any f) = true) : ∃ l' c k p' p, e = .Compare l' [.Is] [.Constant c k p'] p ∧ mtE G sc sl m l' = true ∧ f c = true := by
  replace h := any_inv h
  obtain ⟨⟨l', ops, rs⟩, hx, h⟩ := h
  obtain ⟨p, rfl⟩ := asCmp_inv hx
  simp only [Bool.and_eq_true] at h
  obtain ⟨op', ho, h1⟩ := any_inv h.1.1
  obtain ⟨r', hr, h2⟩ := any_inv h.2
  obtain ⟨c, hc, h3⟩ := any_inv h2
  obtain rfl := one_inv ho
  obtain rfl := one_inv hr
  obtain ⟨k, p', rfl⟩ := asC_inv hc
  obtain rfl := of_decide_eq_true h1
  exact ⟨l', c, k, p', p, rfl, h.1.2, h3⟩
theorem inv_call {f : Nat} {args : List ME} (h : mtE G sc sl (.call f args) e = true) : ∃ fe as p, e = .Call fe as [] p ∧ callOk G sc f fe = true ∧ mtEs G sc sl args as = true := by
  replace h := any_inv h
  obtain ⟨⟨fe, as, kws, p⟩, hx, h⟩ := h
  obtain rfl := asCall_inv hx
  simp only [Bool.and_eq_true, List.isEmpty_iff] at h
  obtain ⟨⟨rfl, h1⟩, h2⟩ := h
  exact ⟨fe, as, p, rfl, h1, h2⟩
theorem inv_bi {b : Bi} {args : List ME} (h : mtE G sc sl (.bi b args) e = true) : ∃ fe as p, e = .Call fe as [] p ∧ biName G sc (biV b) fe = true ∧ mtEs G sc sl args as = true := by
  replace h := any_inv h
  obtain ⟨⟨fe, as, kws, p⟩, hx, h⟩ := h
  obtain rfl := asCall_inv hx
  simp only [Bool.and_eq_true, List.isEmpty_iff] at h
  obtain ⟨⟨rfl, h1⟩, h2⟩ := h
  exact ⟨fe, as, p, rfl, h1, h2⟩
theorem inv_inst {m : ME} {k : Kd} (h : mtE G sc sl (.inst m k) e = true) : ∃ fe y z p, e = .Call fe [y, z] [] p ∧ biName G sc (.builtin "isinstance") fe = true ∧ notStar y = true ∧ mtE G sc sl m y = true ∧ biName G sc (.type (kdT k)) z = true := by
  replace h := any_inv h
  obtain ⟨⟨fe, as, kws, p⟩, hx, h⟩ := h
  obtain rfl := asCall_inv hx
  simp only [Bool.and_eq_true, List.isEmpty_iff] at h
  obtain ⟨⟨⟨rfl, h1⟩, h2⟩, h3⟩ := h
  obtain ⟨z, hz, h3⟩ := any_inv h3
  cases as with
  | nil => cases hz
  | cons y r =>
    obtain rfl := one_inv hz
    have h2 : (notStar y && mtE G sc sl m y) = true := h2
    rw [Bool.and_eq_true] at h2
    exact ⟨fe, y, z, p, rfl, h1, h2.1, h2.2, h3⟩
theorem inv_bm {m : Bm} {o : ME} {args : List ME} (h : mtE G sc sl (.bm m o args) e = true) : ∃ o' apos as p, e = .Call (.Attribute o' (bmNm m) apos) as [] p ∧ as.length < 30 ∧ mtEs G sc sl args as = true ∧ apos.endLine = p.line ∧ noSuper o' = true ∧ mtE G sc sl o o' = true := by
  replace h := any_inv h
  obtain ⟨⟨fe, as, kws, p⟩, hx, h⟩ := h
  obtain rfl := asCall_inv hx
  simp only [Bool.and_eq_true, List.isEmpty_iff, decide_eq_true_eq] at h
  obtain ⟨⟨⟨rfl, h1⟩, h2⟩, h3⟩ := h
  replace h3 := any_inv h3
  obtain ⟨⟨o', nm, apos⟩, ha, h3⟩ := h3
  obtain rfl := asAttr_inv ha
  simp only [Bool.and_eq_true, beq_iff_eq] at h3
  obtain ⟨⟨⟨rfl, h4⟩, h5⟩, h6⟩ := h3
  exact ⟨o', apos, as, p, rfl, h1, h2, h4, h5, h6⟩
theorem inv_sub {o i : ME} (h : mtE G sc sl (.idx o i) e = true) : ∃ o' i' p, e = .Subscript o' i' p ∧ notSlice i' = true ∧ mtE G sc sl o o' = true ∧ mtE G sc sl i i' = true := by
  replace h := any_inv h
  obtain ⟨⟨o', i'⟩, hx, h⟩ := h
  obtain ⟨p, rfl⟩ := asSub_inv hx
  simp only [Bool.and_eq_true] at h
  exact ⟨o', i', p, rfl, h.1.1, h.1.2, h.2⟩
theorem inv_slice {o lo hi : ME} (h : mtE G sc sl (.slice o lo hi) e = true) : ∃ o' lo' hi' p' p, e = .Subscript o' (.Slice lo' hi' none p') p ∧ mtE G sc sl o o' = true ∧ mO lo (mtE G sc sl lo) lo' = true ∧ mO hi (mtE G sc sl hi) hi' = true := by
  replace h := any_inv h
  obtain ⟨⟨o', i'⟩, hx, h⟩ := h
  obtain ⟨p, rfl⟩ := asSub_inv hx
  rw [Bool.and_eq_true] at h
  obtain ⟨⟨lo', hi'⟩, hs, h2⟩ := any_inv h.2
  obtain ⟨p', rfl⟩ := asSlice_inv hs
  rw [Bool.and_eq_true] at h2
  exact ⟨o', lo', hi', p', p, rfl, h.1, h2.1, h2.2⟩
theorem inv_comp {elt src : ME} {v : Nat} {conds : List ME} (h : mtE G sc sl (.comp elt v src conds) e = true) : ∃ elt' nm px it ifs sc' p, e = .ListComp elt' [⟨.Name nm px, it, ifs, 0⟩] sc' p ∧ notSet it = true ∧ scOk sc' sc nm = true ∧ mtE G sc sl src it = true ∧
    mtEs G (relabelS sc' sc) (compSl sc' sc sl v nm) conds ifs = true ∧ mtE G (relabelS sc' sc) (compSl sc' sc sl v nm) elt elt' = true := by
  replace h := any_inv h
  obtain ⟨⟨elt', gs, sc'⟩, hx, h⟩ := h
  obtain ⟨p, rfl⟩ := asComp_inv hx
  replace h := any_inv h
  obtain ⟨⟨tg, it, ifs, asy⟩, hg, h⟩ := h
  obtain rfl := one_inv hg
  simp only [Bool.and_eq_true, genOk, decide_eq_true_eq] at h
  obtain ⟨⟨⟨⟨⟨⟨h0, rfl⟩, h1⟩, h2⟩, h3⟩, h4⟩, h5⟩ := h
  obtain ⟨nm, hn⟩ := Option.isSome_iff_exists.mp h0
  obtain ⟨px, rfl⟩ := asName_inv hn
  exact ⟨elt', nm, px, it, ifs, sc', p, rfl, h1, h2, h3, h4, h5⟩
end

structure GlOk (T : Tp) (G : Gl) : Prop where
  sm : ∀ x v, G.gv x = some (some v) → T.mg x = some v
  nn : ∀ x, G.gv x = some none → T.mg x = none
  fa : G.fa = T.fa
  callee : ∀ x f, G.gv x = some (some (.ref (G.fa f))) → Callee T (.ref (T.fa f))

/-- the calls of the text's defs -/
structure CallsOk (T : Tp) (n : Nat) (call : Nat → List AV → Hp → Out AV) : Prop where
  does : ∀ f as vals A W, AOk n A → Inv T W → W.Vs T as vals → call f as W.σ ≠ .fail → Does T A noX W (PySem.call (.ref (T.fa f)) vals) (call f as W.σ) (VW T)

theorem Out.bind_ok {α β : Type} {x : Out α} {f : α → Hp → Out β} (h : x.bind f ≠ .fail) : x ≠ .fail ∧ ∀ a k, x = .ok a k → f a k ≠ .fail := by
  cases x with
  | ok a k => exact ⟨by simp, fun a' k' e => by cases e; exact h⟩
  | fail => exact absurd rfl h

section
variable {T : Tp} {A : Around} {W : Wd} {env : Env} {sl : List (Nat × Str)} {vs : Vs} {G : Gl}

theorem does_global (hT : T.Ok) (hG : GlOk T G) (I : Inv T W) (F : Fm T W env sl vs) {x : Str} {pos : Pos} {v : Value} (hx : isGlob env.scope x = true) (e : G.gv x = some (some v)) {Q : Value → Shared → Prop} {E : Value → Shared → Prop} (q : Q v W.s) :
    wpAny T.M A (eval (.Name x pos) env) Q E W.s := by
  simp only [isGlob, Bool.and_eq_true, beq_iff_eq, Bool.not_eq_true'] at hx
  exact Name_function_global F.kind hx.1 (loadGlobal_global (by rw [F.glob]; exact hT.g.keeps I.base) (hG.sm x v e) q) hx.2
theorem does_bi_name (hT : T.Ok) (hG : GlOk T G) (I : Inv T W) (F : Fm T W env sl vs) {x : Str} {pos : Pos} {v : Value} (hx : isBi G env.scope x v = true) {Q : Value → Shared → Prop} {E : Value → Shared → Prop} (q : Q v W.s) :
    wpAny T.M A (eval (.Name x pos) env) Q E W.s := by
  simp only [isBi, isGlob, Bool.and_eq_true, beq_iff_eq, Bool.not_eq_true', beq_eq_false_iff_ne] at hx
  obtain ⟨⟨⟨⟨h1, h2⟩, h3⟩, h4⟩, h5⟩ := hx
  have hm : T.mg x = none := by
    cases z : G.gv x with
    | none => rw [z] at h3; cases h3
    | some y => cases y with
      | none => exact hG.nn x z
      | some w => rw [z] at h3; cases h3
  exact Name_function_global F.kind h1 (loadGlobal_builtin (by rw [F.glob]; exact hT.g.keeps I.base) hm (by rw [F.bi]; exact hT.b.keeps I.base) ((hT.bi x h5).trans h4) q) (by simpa using h2)

/-- truth of a value, as a tree -/
theorem does_truthD (I : Inv T W) {a : AV} {v : Value} (r : W.V T a v) {α : Type} {g : Bool → Hp → Out α} (hn : (match truth W.σ a with | some b => g b W.σ | Option.none => .fail) ≠ .fail) {Q : Bool → Shared → Prop} {E : Value → Shared → Prop}
    (h : ∀ b W', Inv T W' → Le noX W W' → W'.σ = W.σ → truth W.σ a = some b → Q b W'.s) : wpAny T.M A (truthy v) Q E W.s := by
  cases e : truth W.σ a with
  | none => rw [e] at hn; exact absurd rfl hn
  | some b => exact does_truth I r e Q E fun k => h b { W with s := { W.s with toks := k } } (I.toks k).1 (I.toks k).2 rfl e
end
end Mine

/-! Soundness, part 11: expressions (typed by hand). -/
set_option Elab.async false
namespace Mine
open PySem PySem.SeqAt PySem.Spec PySem.W PySem.Calls

section
variable {T : Tp} {G : Gl} {n : Nat} {C : Cx}

theorem does_spliced_list {A : Around} {W : Wd} {env : Env} {es : List Expr} {pos : Pos} {x : Out (List AV)} (h : Does T A noX W (spliced (backTo pos (starEach es env))) x (VWs T)) (hn : x.bind (fun xs h => newList xs h) ≠ .fail) :
    Does T A noX W (eval (.List es pos) env) (x.bind fun xs h => newList xs h) (VW T) := by
  refine wpAny_List_spliced (h.cps (fun xs W' vals e I l r => ?_) fun _ _ q => q.elim)
  have hn' := (Out.bind_ok hn).2 xs W'.σ e
  unfold newList at hn'
  split at hn'
  · rename_i hl
    refine ⟨by rw [r.length, ← lim_eq]; exact hl, ?_⟩
    have := I.push (s' := { W'.s with heap := W'.h.push { cls := .type "list", data := .seq vals.toArray } }) (o := .list xs) (Heap.get?_push_size _ rfl) (fun a q e => Heap.get?_push_of_some _ e) rfl rfl
      fun x => ⟨vals.toArray, 0, Heap.get?_push_size _ rfl, by simpa using r.ext x .no, hl⟩
    refine ⟨.ref W'.σ.length, _, rfl, ?_, this.1, l.trans this.2.1, this.2.2⟩
    rw [e]; show newList xs W'.σ = _; unfold newList; rw [if_pos hl]
  · exact absurd rfl hn'

/-- the tree of `and` | `or` -/
theorem boolOp_cons {pos : Pos} {op : BoolOp} {x y : Sem Value} {r : List (Sem Value)} : boolOp pos op (x :: y :: r) = (do
    let v ← x
    standAt pos
    let t ← holding [v] (truthy v)
    match op, t with
    | .And, false | .Or, true => pure v
    | _, _ => boolOp pos op (y :: r)) := rfl


/-- what is shown of an expression -/
noncomputable def SE (T : Tp) (G : Gl) (n : Nat) (C : Cx) (m : ME) : Prop :=
  ∀ (e : Expr) (sl : List (Nat × Str)) (A : Around) (W : Wd) (env : Env) (vs : Vs), mtE G env.scope sl m e = true → AOk n A → Fm T W env sl vs → Inv T W → ev C m W.σ vs ≠ .fail →
    Does T A noX W (eval e env) (ev C m W.σ vs) (VW T)

theorem does_evs : ∀ (ms : List ME), (∀ m ∈ ms, SE T G n C m) → ∀ (es : List Expr) (sl : List (Nat × Str)) (A : Around) (W : Wd) (env : Env) (vs : Vs) (pos : Pos), mtEs G env.scope sl ms es = true → AOk n A → Fm T W env sl vs → Inv T W → evs C ms W.σ vs ≠ .fail →
    Does T A noX W (spliced (backTo pos (starEach es env))) (evs C ms W.σ vs) (VWs T) := by
  intro ms
  induction ms with
  | nil =>
    intro _ es sl A W env vs pos h _ _ I _
    rw [mtEs_nil h]
    exact does_args_nil I
  | cons m ms ih' =>
    intro ih es sl A W env vs pos h a F I hn
    obtain ⟨e, es, rfl, h0, h1, h2⟩ := mtEs_cons h
    rw [evs_q2] at hn ⊢
    obtain ⟨n1, n2⟩ := Out.bind_ok hn
    refine does_args_cons h0 (ih m (List.mem_cons_self ..) e sl A W env vs h1 a F I n1) fun x W' I' l' e' => ?_
    exact ih' (fun m' hm => ih m' (List.mem_cons_of_mem _ hm)) es sl A W' env vs pos h2 a (F.le l') I' (Out.bind_ok (n2 x W'.σ e')).1

noncomputable def evB (C : Cx) (op : BoolOp) (ms : List ME) (h : Hp) (vs : Vs) : Out AV := match op with
  | .And => evAnd C ms h vs
  | .Or => evOr C ms h vs
/-- does the operator stop at this truth -/
noncomputable def stops : BoolOp → Bool → Bool
  | .And, b => !b
  | .Or, b => b
theorem evB_one {op : BoolOp} {m : ME} {h : Hp} {vs : Vs} : evB C op [m] h vs = ev C m h vs := by cases op <;> rfl
theorem evB_cons {op : BoolOp} {m m' : ME} {ms : List ME} {h : Hp} {vs : Vs} : evB C op (m :: m' :: ms) h vs = (ev C m h vs).bind fun x h => match truth h x with | some b => (match stops op b with | true => .ok x h | false => evB C op (m' :: ms) h vs) | Option.none => .fail := by
  cases op with
  | And =>
    show evAnd C (m :: m' :: ms) h vs = _
    rw [evAnd_q3]
    congr 1; funext x h
    rcases truth h x with _ | _ | _ <;> rfl
  | Or =>
    show evOr C (m :: m' :: ms) h vs = _
    rw [evOr_q3]
    congr 1; funext x h
    rcases truth h x with _ | _ | _ <;> rfl
theorem boolOp_stop {pos : Pos} {op : BoolOp} {x y : Sem Value} {r : List (Sem Value)} : boolOp pos op (x :: y :: r) = (do
    let v ← x
    standAt pos
    let t ← holding [v] (truthy v)
    match stops op t with
    | true => pure v
    | false => boolOp pos op (y :: r)) := by
  rw [boolOp_cons]
  congr 1; funext v; congr 1; funext _; congr 1; funext t
  cases op <;> cases t <;> rfl

theorem does_and (op : BoolOp) : ∀ (ms : List ME), (∀ m ∈ ms, SE T G n C m) → ∀ (es : List Expr) (sl : List (Nat × Str)) (A : Around) (W : Wd) (env : Env) (vs : Vs) (pos : Pos), mtEs G env.scope sl ms es = true → AOk n A → Fm T W env sl vs → Inv T W →
    evB C op ms W.σ vs ≠ .fail → Does T A noX W (boolOp pos op (evalEach es env)) (evB C op ms W.σ vs) (VW T) := by
  intro ms
  induction ms with
  | nil => intro _ es sl A W env vs pos _ _ _ _ hn; exact absurd (by cases op <;> rfl) hn
  | cons m ms ih' =>
    intro ih es sl A W env vs pos h a F I hn
    obtain ⟨e, es, rfl, _, h1, h2⟩ := mtEs_cons h
    cases ms with
    | nil =>
      rw [mtEs_nil h2]
      rw [evB_one] at hn ⊢
      exact ih m (List.mem_cons_self ..) e sl A W env vs h1 a F I hn
    | cons m' ms =>
      obtain ⟨e', es', rfl, _⟩ := mtEs_cons h2
      show Does T A noX W (boolOp pos op (eval e env :: eval e' env :: evalEach es' env)) _ _
      rw [boolOp_stop]
      rw [evB_cons] at hn ⊢
      obtain ⟨n1, n2⟩ := Out.bind_ok hn
      refine Does.bind (ih m (List.mem_cons_self ..) e sl A W env vs h1 a F I n1) fun x W' v e1 I' l' r => ?_
      have n3 := n2 x W'.σ e1
      cases q : truth W'.σ x with
      | none => rw [q] at n3; exact absurd rfl n3
      | some b =>
        rw [q] at n3
        refine wpAny_bind (wpAny_standAt (wpAny_bind (wpAny_holding (does_truth I' r q _ _ fun k => ?_))))
        have g := I'.toks k
        simp only at n3 ⊢
        cases z : stops op b with
        | true => exact wpAny_pure ⟨x, { W' with s := { W'.s with toks := k } }, rfl, rfl, g.1, g.2, r.le g.2⟩
        | false =>
          rw [z] at n3
          exact (ih' (fun q hq => ih q (List.mem_cons_of_mem _ hq)) (e' :: es') sl A { W' with s := { W'.s with toks := k } } env vs pos h2 a (F.le (l'.trans g.2)) g.1 n3).up g.2 rfl
end
end Mine

/-! Soundness, part 13: frames that are written (typed by hand). -/
set_option Elab.async false
namespace Mine
open PySem PySem.SeqAt PySem.Spec PySem.W PySem.Calls

/-- the addresses that a frame writes -/
noncomputable def frX (env : Env) : Addr → Prop := fun a => a = env.locals ∨ ∃ x, env.cells.lookup x = some a

structure Fs (T : Tp) (W : Wd) (env : Env) (sl : List (Nat × Str)) (vs : Vs) : Prop where
  fm : Fm T W env sl vs
  ns : ∃ m, W.h.Ns env.locals m
  ownL : W.own env.locals = .free
  baseL : T.base.get? env.locals = none
  kinds : ∀ i x, (i, x) ∈ sl → env.kindOf x = some .local ∨ env.kindOf x = some .cell
  cell : ∀ x c, env.cells.lookup x = some c → W.own c = .free ∧ T.base.get? c = none ∧ c ≠ env.locals ∧ ∃ v, W.h.IsCell c v
  cinj : ∀ x y c, env.cells.lookup x = some c → env.cells.lookup y = some c → x = y
  inj : ∀ i j x, (i, x) ∈ sl → (j, x) ∈ sl → i = j
  inj2 : ∀ i x y, (i, x) ∈ sl → (i, y) ∈ sl → x = y
  len : ∀ i x, (i, x) ∈ sl → i < vs.length

section
variable {T : Tp} {A : Around} {W W' : Wd} {env : Env} {sl : List (Nat × Str)} {vs : Vs}

theorem Fs.le (F : Fs T W env sl vs) (l : Le noX W W') : Fs T W' env sl vs where
  fm := F.fm.le l
  ns := let ⟨m, n⟩ := F.ns; ⟨m, ns_ko n fun o ho => l.ext.kp _ o ho F.ownL id⟩
  ownL := let ⟨_, n⟩ := F.ns; let ⟨_, z⟩ := ns_at n; (l.ext.ow _ _ z id).trans F.ownL
  baseL := F.baseL
  kinds := F.kinds
  cell := fun x c e => let ⟨h1, h2, h3, v, h4⟩ := F.cell x c e; let ⟨_, z⟩ := cell_at h4; ⟨(l.ext.ow _ _ z id).trans h1, h2, h3, v, cell_ko h4 fun o ho => l.ext.kp _ o ho h1 id⟩
  cinj := F.cinj
  inj := F.inj
  inj2 := F.inj2
  len := F.len

theorem Fs.frX (F : Fs T W env sl vs) : FrX (frX env) W.own W.h := by
  intro a q
  rcases q with rfl | ⟨x, q⟩
  · refine ⟨F.ownL, fun o e => ?_⟩
    obtain ⟨m, o', es, ep, ho, hd, _⟩ := F.ns
    rw [e] at ho; cases ho
    exact .inl ⟨es, ep, hd⟩
  · refine ⟨(F.cell x a q).1, fun o e => ?_⟩
    obtain ⟨_, _, _, v, o', ho, hd⟩ := F.cell x a q
    rw [e] at ho; cases ho
    exact .inr (.inl ⟨v, hd⟩)

/-- one address of the frame's own is written -/
theorem Inv.touch {X : Addr → Prop} (I : Inv T W) {a : Addr} {s' : Shared} (ha : W.own a = .free) (hb : T.base.get? a = none) (hx : X a) (fx : FrX X W.own W.h) (hs : ∀ b o, b ≠ a → W.h.get? b = some o → s'.heap.get? b = some o)
    (hg : s'.gens = W.s.gens) (hos : s'.os = W.s.os) : Inv T { W with s := s' } ∧ Le X W { W with s := s' } := by
  have x : Ext X W.own W.bt W.h W.own W.bt s'.heap := ⟨fun b o e f n => ⟨o, hs b o (fun q => n (q ▸ hx)) e, .refl o⟩, 
    fun b o e n => ⟨o, hs b o (fun q => n (q ▸ hx)) e⟩, fun _ _ _ _ => rfl, [], (List.append_nil _).symm⟩
  refine ⟨⟨I.len, I.ownb, fun b q => ⟨let ⟨o, e⟩ := (I.lt b q).1; ⟨o, hs b o (fun z => q (z ▸ ha)) e⟩, (I.lt b q).2⟩, fun l o b e q => ?_, fun b o e => hs b o (fun q => by rw [q, hb] at e; cases e) (I.base b o e)⟩, x, hg, hos⟩
  exact (I.obj l o b e q).mono x fx (I.ownb l b q) fun c r f e' => hs c r (fun z => by rw [z, ha] at f; cases f) e'

theorem VR.leX {X : Addr → Prop} {av : AV} {v : Value} (r : W.V T av v) (x : Le X W W') (fx : FrX X W.own W.h) : W'.V T av v := VR.ext x.ext fx r

theorem getElem?_set_ne' {vs : Vs} {i j : Nat} (h : i ≠ j) (v : Option AV) : (vs.set i v)[j]? = vs[j]? := by simp [List.getElem?_set, h]

theorem does_store (F : Fs T W env sl vs) (I : Inv T W) {i : Nat} {x : Str} {av : AV} {v : Value} (hi : (i, x) ∈ sl) (r : W.V T av v) {Q : Unit → Shared → Prop} {E : Value → Shared → Prop}
    (h : ∀ W', Inv T W' → Le (frX env) W W' → W'.σ = W.σ → Fs T W' env sl (vs.set i (some av)) → Q () W'.s) : wpAny T.M A (storeName env x v) Q E W.s := by
  have fx := F.frX
  rcases F.kinds i x hi with hk | hk
  · obtain ⟨m, hm⟩ := F.ns
    refine wpAny_storeName_local hk hm (fun h' hn hs => ?_) (by rw [F.fm.kind]; rfl)
    obtain ⟨o', z⟩ := ns_at hn
    obtain ⟨I', l'⟩ := I.touch (X := Mine.frX env) (s' := { W.s with heap := h', toks := W.s.toks + 1 }) F.ownL F.baseL (.inl rfl) fx (fun b o n e => (hs.2 b n).trans e) rfl rfl
    refine h { W with s := { W.s with heap := h', toks := W.s.toks + 1 } } I' l' rfl ⟨⟨F.fm.kind, F.fm.glob, F.fm.bi, F.fm.cells, fun j y hj aw e => ?_⟩, ⟨_, hn⟩, F.ownL, F.baseL, F.kinds, fun y c e => ?_, F.cinj, F.inj, F.inj2, fun j y hj => by simpa using F.len j y hj⟩
    · by_cases q : i = j
      · subst q
        have := F.inj2 i x y hi hj
        subst this
        rw [List.getElem?_set_self (F.len i x hi)] at e
        cases e
        exact ⟨v, r.leX l' fx, .inl ⟨hk, F.ownL, _, hn, by simp⟩⟩
      · rw [getElem?_set_ne' q] at e
        obtain ⟨w, rw', d⟩ := F.fm.rd j y hj aw e
        refine ⟨w, rw'.leX l' fx, ?_⟩
        rcases d with ⟨k, f, m', n', e'⟩ | ⟨k, c, e', f, n'⟩
        · refine .inl ⟨k, f, _, hn, ?_⟩
          have hxy : y ≠ x := fun z => q (F.inj i j x hi (z ▸ hj))
          simp only [if_neg hxy]
          rw [← e']
          obtain ⟨o1, es1, ep1, g1, g2, g3, g4⟩ := hm
          obtain ⟨o2, es2, ep2, k1, k2, k3, k4⟩ := n'
          rw [g1] at k1; cases k1
          rw [g2] at k2; cases k2
          rw [← g4, ← k4]
        · obtain ⟨_, _, g3, _⟩ := F.cell y c e'
          exact .inr ⟨k, c, e', f, cell_ko n' fun o ho => ⟨o, (hs.2 c g3).trans ho, .refl o⟩⟩
    · obtain ⟨g1, g2, g3, w, g4⟩ := F.cell y c e
      exact ⟨g1, g2, g3, w, cell_ko g4 fun o ho => ⟨o, (hs.2 c g3).trans ho, .refl o⟩⟩
  · obtain ⟨c, hc⟩ := F.fm.cells x hk
    obtain ⟨g1, g2, g3, w, g4⟩ := F.cell x c hc
    refine wpAny_storeName_cell F.fm.kind hk hc g4 (fun h' hn hs => ?_)
    obtain ⟨o', z⟩ := cell_at hn
    obtain ⟨I', l'⟩ := I.touch (X := Mine.frX env) (s' := { W.s with heap := h' }) g1 g2 (.inr ⟨x, hc⟩) fx (fun b o n e => (hs.2 b n).trans e) rfl rfl
    have hL : ∀ {m : Str → Option Value}, W.h.Ns env.locals m → h'.Ns env.locals m := fun n => ns_ko n fun o ho => ⟨o, (hs.2 _ g3.symm).trans ho, .refl o⟩
    refine h { W with s := { W.s with heap := h' } } I' l' rfl ⟨⟨F.fm.kind, F.fm.glob, F.fm.bi, F.fm.cells, fun j y hj aw e => ?_⟩, let ⟨m, n⟩ := F.ns; ⟨m, hL n⟩, F.ownL, F.baseL, F.kinds, fun y d e => ?_, F.cinj, F.inj, F.inj2, fun j y hj => by simpa using F.len j y hj⟩
    · by_cases q : i = j
      · subst q
        have := F.inj2 i x y hi hj
        subst this
        rw [List.getElem?_set_self (F.len i x hi)] at e
        cases e
        exact ⟨v, r.leX l' fx, .inr ⟨hk, c, hc, g1, hn⟩⟩
      · rw [getElem?_set_ne' q] at e
        obtain ⟨w, rw', d⟩ := F.fm.rd j y hj aw e
        refine ⟨w, rw'.leX l' fx, ?_⟩
        rcases d with ⟨k, f, m', n', e'⟩ | ⟨k, d, e', f, n'⟩
        · exact .inl ⟨k, f, m', hL n', e'⟩
        · have hxy : y ≠ x := fun z => q (F.inj i j x hi (z ▸ hj))
          have hdc : d ≠ c := fun z => hxy (F.cinj y x c (z ▸ e') hc)
          exact .inr ⟨k, d, e', f, cell_ko n' fun o ho => ⟨o, (hs.2 d hdc).trans ho, .refl o⟩⟩
    · obtain ⟨k1, k2, k3, w', k4⟩ := F.cell y d e
      by_cases z : d = c
      · subst z; exact ⟨k1, k2, k3, _, hn⟩
      · exact ⟨k1, k2, k3, w', cell_ko k4 fun o ho => ⟨o, (hs.2 d z).trans ho, .refl o⟩⟩
end
end Mine

/-! Soundness, part 14: tests (typed by hand). -/
set_option Elab.async false
namespace Mine
open PySem PySem.SeqAt PySem.Spec PySem.W PySem.Calls

/-- the truth of what an expression gives -/
noncomputable def evT (C : Cx) (m : ME) (h : Hp) (vs : Vs) : Out Bool := (ev C m h vs).bind fun v h => match truth h v with
  | some b => .ok b h
  | Option.none => .fail

noncomputable abbrev BW : Wd → Bool → Bool → Prop := fun _ a b => a = b

section
variable {T : Tp} {G : Gl} {n : Nat} {C : Cx}

/-- is it None; is it True -/
noncomputable def isNA : AV → Bool
  | .none => true
  | _ => false
noncomputable def isTA : AV → Bool
  | .bool true => true
  | _ => false
theorem isNoneC_eq {c : Const} (h : isNoneC c = true) : c = .none := by
  cases c with
  | none => rfl
  | _ => cases h
theorem isIntC_eq {i : Int} {c : Const} (h : isIntC i c = true) : c = .int i := by
  cases c with
  | int c => rw [eq_of_beq (show (i == c) = true from h)]
  | _ => cases h
theorem isTrueC_eq {c : Const} (h : isBoolC true c = true) : c = .bool true := by
  cases c with
  | bool b => rw [← eq_of_beq (show (true == b) = true from h)]
  | _ => cases h
theorem does_is_none {A : Around} {W : Wd} {x : AV} {v : Value} (r : W.V T x v) {Q : Value → Shared → Prop} {E : Value → Shared → Prop} (q : Q (.bool (isNA x)) W.s) : wpAny T.M A (compareOp .Is v .none) Q E W.s := by
  cases r <;> exact wpAny_is_plain rfl q
theorem does_is_true {A : Around} {W : Wd} {x : AV} {v : Value} (r : W.V T x v) {Q : Value → Shared → Prop} {E : Value → Shared → Prop} (q : Q (.bool (isTA x)) W.s) : wpAny T.M A (compareOp .Is v (.bool true)) Q E W.s := by
  cases r with
  | bool b => cases b <;> exact wpAny_is_plain rfl q
  | _ => exact wpAny_is_plain rfl q
theorem ev_isNone (e : ME) (h : Hp) (vs : Vs) : ev C (.isNone e) h vs = (ev C e h vs).bind fun x h => .ok (.bool (isNA x)) h := by
  show (ev C e h vs).bind _ = _; congr 1; funext x h; cases x <;> rfl
theorem ev_isTrue (e : ME) (h : Hp) (vs : Vs) : ev C (.isTrue e) h vs = (ev C e h vs).bind fun x h => .ok (.bool (isTA x)) h := by
  show (ev C e h vs).bind _ = _; congr 1; funext x h; cases x <;> first | rfl | (rename_i b; cases b <;> rfl)
theorem evT_bool {x : Out AV} (f : AV → Bool) : ((x.bind fun v h => .ok (.bool (f v)) h).bind fun v h => match truth h v with | some b => .ok b h | Option.none => .fail : Out Bool) = x.bind fun v h => .ok (f v) h := by
  cases x <;> rfl

noncomputable def ST (T : Tp) (G : Gl) (n : Nat) (C : Cx) (m : ME) : Prop :=
  ∀ (e : Expr) (sl : List (Nat × Str)) (A : Around) (W : Wd) (env : Env) (vs : Vs), mtE G env.scope sl m e = true → AOk n A → Fm T W env sl vs → Inv T W → evT C m W.σ vs ≠ .fail →
    Does T A noX W (isTrue e env (eval e env)) (evT C m W.σ vs) BW

theorem does_value_test {A : Around} {W : Wd} {env : Env} {e : Expr} {x : Out AV} (h : Does T A noX W (eval e env) x (VW T)) (hn : (x.bind fun v h => match truth h v with | some b => .ok b h | Option.none => .fail : Out Bool) ≠ .fail)
    (he : isTrue e env (eval e env) = (do let v ← eval e env; standAt e.pos; holding [v] (truthy v))) :
    Does T A noX W (isTrue e env (eval e env)) (x.bind fun v h => match truth h v with | some b => .ok b h | Option.none => .fail) BW := by
  obtain ⟨n1, n2⟩ := Out.bind_ok hn
  refine wpAny_isTrue_value (h.cps (fun v W' val e1 I' l' r => ?_) fun _ _ q => q.elim) he
  have n3 := n2 v W'.σ e1
  refine does_truthD (α := Bool) (g := fun b h => .ok b h) I' r n3 fun b W'' I'' l'' es q => ?_
  exact ⟨b, W'', rfl, by rw [e1]; simp only [Out.bind, q, es], I'', l'.trans l'', rfl⟩

noncomputable def evBT (C : Cx) (op : BoolOp) (ms : List ME) (h : Hp) (vs : Vs) : Out Bool := (evB C op ms h vs).bind fun v h => match truth h v with
  | some b => .ok b h
  | Option.none => .fail
theorem evBT_cons (op : BoolOp) (e : ME) (m : ME) (ms : List ME) (h : Hp) (vs : Vs) : evBT C op (e :: m :: ms) h vs = (evT C e h vs).bind fun b h => match stops op b with | true => .ok b h | false => evBT C op (m :: ms) h vs := by
  unfold evBT evT
  rw [evB_cons]
  cases ev C e h vs with
  | ok v k =>
    simp only [Out.bind]
    cases q : truth k v with
    | none => rfl
    | some b =>
      cases z : stops op b with
      | true => simp only [q, z]
      | false => simp only [z]
  | fail => rfl

theorem does_all (op : BoolOp) : ∀ (ms : List ME), (∀ m ∈ ms, ST T G n C m) → ∀ (es : List Expr) (sl : List (Nat × Str)) (A : Around) (W : Wd) (env : Env) (vs : Vs), mtEs G env.scope sl ms es = true → AOk n A → Fm T W env sl vs → Inv T W →
    evBT C op ms W.σ vs ≠ .fail → Does T A noX W (allTrue op es env) (evBT C op ms W.σ vs) BW := by
  intro ms
  induction ms with
  | nil => intro _ es sl A W env vs _ _ _ _ hn; exact absurd (by cases op <;> rfl) hn
  | cons m ms ih' =>
    intro ih es sl A W env vs h a F I hn
    obtain ⟨e, es, rfl, _, h1, h2⟩ := mtEs_cons h
    have step : ∀ {r : Out Bool}, evT C m W.σ vs ≠ .fail → (∀ b W', evT C m W.σ vs = .ok b W'.σ → Inv T W' → Le noX W W' → (stops op b = true → PostE T noX W r BW b W'.s) ∧ (stops op b = false → wpAny T.M A (allTrue op es env) (PostE T noX W r BW) PostX W'.s)) → Does T A noX W (allTrue op (e :: es) env) r BW := fun hn' k => by
      have D := ih m (List.mem_cons_self ..) e sl A W env vs h1 a F I hn'
      cases op with
      | And =>
        refine wpAny_allTrue_And_cons (D.cps (fun b W' b' e1 I' l' r => ?_) fun _ _ q => q)
        cases r
        cases b with
        | true => exact (k true W' e1 I' l').2 rfl
        | false => exact (k false W' e1 I' l').1 rfl
      | Or =>
        refine wpAny_allTrue_Or_cons (D.cps (fun b W' b' e1 I' l' r => ?_) fun _ _ q => q)
        cases r
        cases b with
        | true => exact (k true W' e1 I' l').1 rfl
        | false => exact (k false W' e1 I' l').2 rfl
    cases ms with
    | nil =>
      obtain rfl := mtEs_nil h2
      have e0 : evBT C op [m] W.σ vs = evT C m W.σ vs := by unfold evBT; rw [evB_one]; rfl
      rw [e0] at hn ⊢
      refine step hn fun b W' e1 I' l' => ⟨fun _ => ⟨b, W', rfl, e1, I', l', rfl⟩, fun z => ?_⟩
      cases op with
      | And => cases b with
        | true => exact wpAny_allTrue_And_nil ⟨true, W', rfl, e1, I', l', rfl⟩
        | false => cases z
      | Or => cases b with
        | false => exact wpAny_allTrue_Or_nil ⟨false, W', rfl, e1, I', l', rfl⟩
        | true => cases z
    | cons m' ms =>
      rw [evBT_cons] at hn ⊢
      obtain ⟨n1, n2⟩ := Out.bind_ok hn
      refine step n1 fun b W' e1 I' l' => ⟨fun z => ⟨b, W', rfl, by rw [e1]; simp only [Out.bind, z], I', l', rfl⟩, fun z => ?_⟩
      have n3 := n2 b W'.σ e1
      simp only [z] at n3
      exact (ih' (fun q hq => ih q (List.mem_cons_of_mem _ hq)) es sl A W' env vs h2 a (F.le l') I' n3).up l' (by rw [e1]; simp only [Out.bind, z])

/-- an expression whose test is its value's -/
noncomputable def valE : Expr → Bool
  | .Constant .. => true
  | .Name .. => true
  | .BinOp .. => true
  | .List .. => true
  | .Subscript .. => true
  | .Call .. => true
  | .ListComp .. => true
  | _ => false
theorem valE_test {e : Expr} {env : Env} (h : valE e = true) : isTrue e env (eval e env) = (do let v ← eval e env; standAt e.pos; holding [v] (truthy v)) := by
  cases e with
  | Constant _ _ _ => rfl
  | Name _ _ => rfl
  | BinOp _ _ _ _ => rfl
  | List _ _ => rfl
  | Subscript _ _ _ => rfl
  | Call _ _ _ _ => rfl
  | ListComp _ _ _ _ => rfl
  | _ => cases h

theorem sound_t_aux (k : Nat) (hs : ∀ m : ME, sizeOf m < k + 1 → SE T G n C m) (ih : ∀ m : ME, sizeOf m < k → ST T G n C m) (m : ME) (hk : sizeOf m < k + 1) : ST T G n C m := by
  intro e sl A W env vs hm a F I hn
  have hu : A.units + 65 < cLine := by have := a.units; omega
  have val : valE e = true → Does T A noX W (isTrue e env (eval e env)) (evT C m W.σ vs) BW := fun hv => does_value_test (hs m hk e sl A W env vs hm a F I (Out.bind_ok hn).1) hn (valE_test hv)
  cases m with
  | not e0 =>
    obtain ⟨e', p, rfl, hm⟩ := inv_not hm
    have eq : evT C (.not e0) W.σ vs = (evT C e0 W.σ vs).bind fun b h => .ok (!b) h := by
      show ((ev C e0 W.σ vs).bind _).bind _ = ((ev C e0 W.σ vs).bind _).bind _
      cases ev C e0 W.σ vs with
      | ok v k => simp only [Out.bind]; cases truth k v <;> rfl
      | fail => rfl
    rw [eq] at hn ⊢
    obtain ⟨n1, n2⟩ := Out.bind_ok hn
    refine wpAny_isTrue_Not ((ih e0 (by simp at hk; omega) _ sl A W env vs hm a F I n1).cps (fun b W' b' e1 I' l' r => ?_) fun _ _ q => q.elim)
    cases r
    exact ⟨!b, W', rfl, by rw [e1]; rfl, I', l', rfl⟩
  | and es =>
    obtain ⟨es', p, rfl, hm⟩ := inv_and hm
    exact wpAny_isTrue_BoolOp (does_all .And es (fun m' hm' => ih m' (by have := List.sizeOf_lt_of_mem hm'; simp at hk; omega)) _ sl A W env vs hm a F I hn)
  | or es =>
    obtain ⟨es', p, rfl, hm⟩ := inv_or hm
    exact wpAny_isTrue_BoolOp (does_all .Or es (fun m' hm' => ih m' (by have := List.sizeOf_lt_of_mem hm'; simp at hk; omega)) _ sl A W env vs hm a F I hn)
  | isNone e0 =>
    obtain ⟨l', c, k', p', p, rfl, h2, h3⟩ := inv_is hm
    obtain rfl := isNoneC_eq h3
    have eq : evT C (.isNone e0) W.σ vs = (ev C e0 W.σ vs).bind fun v h => .ok (isNA v) h := by unfold evT; rw [ev_isNone]; exact evT_bool isNA
    rw [eq] at hn ⊢
    obtain ⟨n1, n2⟩ := Out.bind_ok hn
    refine wpAny_isTrue_Compare1 ((hs e0 (by simp at hk; omega) _ sl A W env vs h2 a F I n1).cps (fun x W' vx e1 I' l' rx => ?_) fun _ _ q => q.elim) rfl
    refine wpAny_Constant_none (does_is_none rx (wpAny_truthy_bool ⟨isNA x, W', rfl, by rw [e1]; rfl, I', l', rfl⟩))
  | isTrue e0 =>
    obtain ⟨l', c, k', p', p, rfl, h2, h3⟩ := inv_is hm
    obtain rfl := isTrueC_eq h3
    have eq : evT C (.isTrue e0) W.σ vs = (ev C e0 W.σ vs).bind fun v h => .ok (isTA v) h := by unfold evT; rw [ev_isTrue]; exact evT_bool isTA
    rw [eq] at hn ⊢
    obtain ⟨n1, n2⟩ := Out.bind_ok hn
    refine wpAny_isTrue_Compare1 ((hs e0 (by simp at hk; omega) _ sl A W env vs h2 a F I n1).cps (fun x W' vx e1 I' l' rx => ?_) fun _ _ q => q.elim) rfl
    refine wpAny_Constant_bool (does_is_true rx (wpAny_truthy_bool ⟨isTA x, W', rfl, by rw [e1]; rfl, I', l', rfl⟩))
  | cmp l op r =>
    obtain ⟨l', op', r', p, rfl, h1, h2, h0, h3⟩ := inv_cmp hm
    have eq : evT C (.cmp l op r) W.σ vs = (ev C l W.σ vs).bind fun x h => (ev C r h vs).bind fun y h => match cmpA op x y h with | some b => .ok b h | Option.none => .fail := by
      show ((ev C l W.σ vs).bind _).bind _ = _
      cases ev C l W.σ vs with
      | ok v k =>
        simp only [Out.bind]
        cases ev C r k vs with
        | ok w k' => simp only; cases cmpA op v w k' <;> rfl
        | fail => rfl
      | fail => rfl
    rw [eq] at hn ⊢
    obtain ⟨n1, n2⟩ := Out.bind_ok hn
    refine wpAny_isTrue_Compare1 ((hs l (by simp at hk; omega) _ sl A W env vs h2 a F I n1).cps (fun x W' vx e1 I' l' rx => ?_) fun _ _ q => q.elim) (marks_of op' h0)
    obtain ⟨m1, m2⟩ := Out.bind_ok (n2 x W'.σ e1)
    refine (hs r (by simp at hk; omega) _ sl A W' env vs h3 a (F.le l') I' m1).cps (fun y W'' vy e2 I'' l'' ry => ?_) fun _ _ q => q.elim
    have n4 := m2 y W''.σ e2
    cases q : cmpA op x y W''.σ with
    | none => rw [q] at n4; exact absurd rfl n4
    | some b =>
      refine does_cmpA I'' h1 (rx.le l'') ry hu q _ _ fun k => wpAny_truthy_bool ?_
      have g := I''.toks k
      exact ⟨b, { W'' with s := { W''.s with toks := k } }, rfl, by rw [e1]; show (ev C r W'.σ vs).bind _ = _; rw [e2]; simp only [Out.bind, q], g.1, (l'.trans l'').trans g.2, rfl⟩
  | none => obtain ⟨x, hx, _⟩ := any_inv hm; obtain ⟨_, _, rfl⟩ := asC_inv hx; exact val rfl
  | bool _ => obtain ⟨x, hx, _⟩ := any_inv hm; obtain ⟨_, _, rfl⟩ := asC_inv hx; exact val rfl
  | int _ => obtain ⟨x, hx, _⟩ := any_inv hm; obtain ⟨_, _, rfl⟩ := asC_inv hx; exact val rfl
  | str _ => obtain ⟨x, hx, _⟩ := any_inv hm; obtain ⟨_, _, rfl⟩ := asC_inv hx; exact val rfl
  | var _ => obtain ⟨x, hx, _⟩ := any_inv hm; obtain ⟨_, rfl⟩ := asName_inv hx; exact val rfl
  | powc _ _ => obtain ⟨x, hx, _⟩ := any_inv hm; obtain ⟨_, rfl⟩ := asBin_inv hx; exact val rfl
  | bin _ _ _ => obtain ⟨x, hx, _⟩ := any_inv hm; obtain ⟨_, rfl⟩ := asBin_inv hx; exact val rfl
  | list _ => obtain ⟨x, hx, _⟩ := any_inv hm; obtain ⟨_, rfl⟩ := asLst_inv hx; exact val rfl
  | idx _ _ => obtain ⟨x, hx, _⟩ := any_inv hm; obtain ⟨_, rfl⟩ := asSub_inv hx; exact val rfl
  | slice _ _ _ => obtain ⟨x, hx, _⟩ := any_inv hm; obtain ⟨_, rfl⟩ := asSub_inv hx; exact val rfl
  | call _ _ => obtain ⟨x, hx, _⟩ := any_inv hm; obtain rfl := asCall_inv hx; exact val rfl
  | bi _ _ => obtain ⟨x, hx, _⟩ := any_inv hm; obtain rfl := asCall_inv hx; exact val rfl
  | bm _ _ _ => obtain ⟨x, hx, _⟩ := any_inv hm; obtain rfl := asCall_inv hx; exact val rfl
  | inst _ _ => obtain ⟨x, hx, _⟩ := any_inv hm; obtain rfl := asCall_inv hx; exact val rfl
  | comp _ _ _ _ => obtain ⟨x, hx, _⟩ := any_inv hm; obtain ⟨_, rfl⟩ := asComp_inv hx; exact val rfl

theorem tests_of (k : Nat) (hs : ∀ m : ME, sizeOf m < k → SE T G n C m) : ∀ m : ME, sizeOf m < k → ST T G n C m := by
  have h : ∀ j, j ≤ k → ∀ m : ME, sizeOf m < j → ST T G n C m := fun j => by
    induction j with
    | zero => intro _ m h; omega
    | succ j ih => exact fun hj m hk => sound_t_aux j (fun m' hm' => hs m' (by omega)) (fun m' hm' => ih (by omega) m' hm') m hk
  exact h k (Nat.le_refl _)
end
end Mine

/-! Soundness, part 15: iterators (typed by hand). -/
set_option Elab.async false
namespace Mine
open PySem PySem.SeqAt PySem.Spec PySem.W PySem.Calls

noncomputable def srcGet : Src → Hp → Option (List AV)
  | .fixed xs, _ => some xs
  | .list l _, h => getL l h
noncomputable def srcN : Src → Nat
  | .fixed xs => xs.length
  | .list _ n => n

theorem iterL_eq {σ ρ : Type} (bad : ρ) (f : AV → σ → It σ ρ) (xs : List AV) : ∀ (k i : Nat) (s : σ), i + k = xs.length → iterL f (xs.drop i) s = iterR (fun _ => some xs) bad f (k + 1) i s := by
  intro k
  induction k with
  | zero =>
    intro i s h
    have : xs.length ≤ i := by omega
    rw [List.drop_eq_nil_of_le this]
    simp only [iterL, iterR]
    rw [List.getElem?_eq_none this]
  | succ k ih =>
    intro i s h
    have hi : i < xs.length := by omega
    rw [List.drop_eq_getElem_cons hi]
    rw [iterR]
    simp only [iterL, List.getElem?_eq_getElem hi]
    cases f xs[i] s with
    | go s' => simp only; exact ih (i + 1) s' (by omega)
    | stop x => rfl

theorem iter_eq {τ ρ : Type} (src : Src) (bad : ρ) (f : AV → Hp × τ → It (Hp × τ) ρ) (s : Hp × τ) : iter src bad f s = iterR (fun st => srcGet src st.1) bad f (srcN src + 1) 0 s := by
  cases src with
  | fixed xs => simp only [iter, srcN]; exact iterL_eq bad f xs xs.length 0 s (by omega)
  | list l n => rfl

section
variable {T : Tp} {A : Around} {W W' : Wd}

/-- an iterator over a source, at a place -/
inductive ItAt (T : Tp) (W : Wd) (J : Addr) : Src → Nat → Prop
  | str {s : List Nat} {t : Tok} {i : Nat} : W.h.IsStrIter J "str_ascii_iterator" (tS s) t i → okS s → ItAt T W J (.fixed (s.map fun c => .str [c])) i
  | rng {a : Int} {k i : Nat} : IsRangeIter W.h J (a + i) (k - i) 1 → ItAt T W J (.fixed (ups a k)) i
  | list {l k i : Nat} {a : Addr} : W.h.IsListIter J a i → W.bt[l]? = some a → ItAt T W J (.list l k) i

structure ItOk (T : Tp) (W : Wd) (J : Addr) (src : Src) (i : Nat) : Prop where
  own : W.own J = .free
  base : T.base.get? J = none
  it : ItAt T W J src i

theorem ItAt.there {J : Addr} {src : Src} {i : Nat} (h : ItAt T W J src i) : ∃ o, W.h.get? J = some o ∧ o.cls ≠ .type "tuple" ∧ o.cls ≠ .type "range" := by
  cases h with
  | str h _ => obtain ⟨o, h1, h2, _⟩ := h; exact ⟨o, h1, by rw [h2]; simp, by rw [h2]; simp⟩
  | rng h => exact ⟨_, h, by simp, by simp⟩
  | list h _ => obtain ⟨o, h1, h2, _⟩ := h; exact ⟨o, h1, by rw [h2]; simp, by rw [h2]; simp⟩

theorem ItOk.frX {J : Addr} {src : Src} {i : Nat} (h : ItOk T W J src i) : FrX (fun a => a = J) W.own W.h := fun a q => ⟨q ▸ h.own, fun o e => by
  subst q
  obtain ⟨o', h1, h2⟩ := h.it.there
  rw [e] at h1; cases h1
  exact .inr (.inr h2)⟩

theorem ItOk.leX {X : Addr → Prop} {J : Addr} {src : Src} {i : Nat} (h : ItOk T W J src i) (x : Le X W W') (fx : FrX X W.own W.h) (hJ : ¬ X J) : ItOk T W' J src i := by
  obtain ⟨o, ho, hc⟩ := h.it.there
  have hk : ∀ o, W.h.get? J = some o → W'.h.get? J = some o := fun o e => by
    obtain ⟨o', e', k⟩ := x.ext.kp J o e h.own hJ
    by_cases z : o.cls = .type "frame"
    · exfalso
      cases h.it with
      | str h _ => obtain ⟨o', h1, h2, _⟩ := h; rw [e] at h1; cases h1; rw [z] at h2; simp at h2
      | rng h => have h' : W.h.get? J = _ := h; rw [e] at h'; cases h'; simp at z
      | list h _ => obtain ⟨o', h1, h2, _⟩ := h; rw [e] at h1; cases h1; rw [z] at h2; simp at h2
    · rw [k.same z] at e'; exact e'
  refine ⟨(x.ext.ow _ _ ho hJ).trans h.own, h.base, ?_⟩
  cases h.it with
  | str q ok => obtain ⟨o', h1, h2⟩ := q; exact .str ⟨o', hk _ h1, h2⟩ ok
  | rng q => exact .rng (hk _ q)
  | list q e =>
    obtain ⟨o', h1, h2⟩ := q
    obtain ⟨r, er⟩ := x.ext.bt
    exact .list ⟨o', hk _ h1, h2⟩ (by rw [er, List.getElem?_append_left (List.getElem?_eq_some_iff.mp e).1]; exact e)

theorem ups_get (a : Int) : ∀ (k i : Nat), (ups a k)[i]? = if i < k then some (.int (a + i)) else none
  | 0, i => by simp [ups]
  | k + 1, 0 => by simp [ups]
  | k + 1, i + 1 => by
    rw [ups, List.getElem?_cons_succ, ups_get (a + 1) k i]
    by_cases h : i < k
    · rw [if_pos h, if_pos (by omega)]; congr 2; omega
    · rw [if_neg h, if_neg (by omega)]

/-- one address is touched, from the view of the iterator -/
theorem touch_it (I : Inv T W) {J : Addr} {src : Src} {i : Nat} (h : ItOk T W J src i) {h' : Heap} {k : Nat} (hs : ∀ b o, b ≠ J → W.h.get? b = some o → h'.get? b = some o) :
    Inv T { W with s := { W.s with heap := h', toks := k } } ∧ Le (fun a => a = J) W { W with s := { W.s with heap := h', toks := k } } :=
  I.touch (s' := { W.s with heap := h', toks := k }) h.own h.base rfl h.frX hs rfl rfl

theorem does_next_item (I : Inv T W) {J : Addr} {src : Src} {i : Nat} (h : ItOk T W J src i) {xs : List AV} {av : AV} (hx : srcGet src W.σ = some xs) (hi : xs[i]? = some av) {Q : Option Value → Shared → Prop} {E : Value → Shared → Prop}
    (q : ∀ v W', Inv T W' → Le (fun a => a = J) W W' → W'.σ = W.σ → ItOk T W' J src (i + 1) → W'.V T av v → Q (some v) W'.s) : wpAny T.M A (pyNext (.ref J)) Q E W.s := by
  have key : ∀ {h' : Heap} {k : Nat} {v : Value}, Heap.SameBut J W.h h' → ItAt T { W with s := { W.s with heap := h', toks := k } } J src (i + 1) → W.V T av v → Q (some v) { W.s with heap := h', toks := k } := fun hs hit r => by
    obtain ⟨I', l'⟩ := touch_it I h fun b o n e => (hs.2 b n).trans e
    exact q _ _ I' l' rfl ⟨h.own, h.base, hit⟩ (r.leX l' h.frX)
  cases h.it with
  | str hit ok =>
    rename_i s t
    simp only [srcGet, Option.some.injEq] at hx
    subst hx
    rw [List.getElem?_map] at hi
    obtain ⟨c, e1, rfl⟩ := Option.map_eq_some_iff.mp hi
    refine wpAny_pyNext_ascii_item hit (c := c) (by simp [tS, e1]) fun h' hit' hs => ?_
    exact key hs (.str hit' ok) (.str (s := [c]) _ ⟨fun d hd => by simp at hd; subst hd; exact ok.1 _ (List.mem_of_getElem? e1), by simp [lim]⟩)
  | rng hit =>
    rename_i a k
    simp only [srcGet, Option.some.injEq] at hx
    subst hx
    rw [ups_get] at hi
    split at hi
    · cases hi
      rename_i hik
      refine wpAny_pyNext_range_item hit (by omega) fun h' hit' hs => ?_
      refine key hs (.rng ?_) (.int _ _)
      have e1 : a + ((i + 1 : Nat) : Int) = a + i + 1 := by omega
      have e2 : (k : Int) - ((i + 1 : Nat) : Int) = k - i - 1 := by omega
      rw [e1, e2]; exact hit'
    · cases hi
  | list hit e =>
    rename_i l k a
    have hx0 : (match W.σ[l]? with | some (.list xs) => some xs | none => none) = some xs := hx
    clear hx; have hx := hx0; clear hx0
    cases hσ : W.σ[l]? with
    | none => rw [hσ] at hx; cases hx
    | some o =>
      rw [hσ] at hx
      cases o
      simp only [Option.some.injEq] at hx
      subst hx
      obtain ⟨_, vs, m, ea, _, h1, h2, h3⟩ := I.listAt hσ (.ref e)
      cases ea
      obtain ⟨v, ev, rv⟩ := vrs_at h2 hi
      refine wpAny_pyNext_list_item hit ⟨_, h1, rfl, m, rfl⟩ ev fun h' hit' hs => ?_
      exact key hs (.list hit' e) rv

theorem does_next_end (I : Inv T W) (hh : A.handled = none) {J : Addr} {src : Src} {i : Nat} (h : ItOk T W J src i) {xs : List AV} (hx : srcGet src W.σ = some xs) (hi : xs[i]? = none) {Q : Option Value → Shared → Prop} {E : Value → Shared → Prop}
    (q : ∀ W', Inv T W' → Le (fun a => a = J) W W' → W'.σ = W.σ → Q none W'.s) : wpAny T.M A (pyNext (.ref J)) Q E W.s := by
  have key : ∀ {h' : Heap}, Heap.ExtBut J W.h h' → Q none { W.s with heap := h' } := fun hs => by
    obtain ⟨I', l'⟩ := touch_it (k := W.s.toks) I h fun b o n e => hs b o n e
    exact q _ I' l' rfl
  cases h.it with
  | str hit ok =>
    rename_i s t
    simp only [srcGet, Option.some.injEq] at hx
    subst hx
    rw [List.getElem?_map] at hi
    exact wpAny_pyNext_ascii_end hh hit (by simpa [tS] using hi) fun h' hs => key hs
  | rng hit =>
    rename_i a k
    simp only [srcGet, Option.some.injEq] at hx
    subst hx
    rw [ups_get] at hi
    split at hi
    · cases hi
    · exact wpAny_pyNext_range_end hh hit (by omega) fun h' hs => key hs
  | list hit e =>
    rename_i l k a
    have hx0 : (match W.σ[l]? with | some (.list xs) => some xs | none => none) = some xs := hx
    clear hx; have hx := hx0; clear hx0
    cases hσ : W.σ[l]? with
    | none => rw [hσ] at hx; cases hx
    | some o =>
      rw [hσ] at hx
      cases o
      simp only [Option.some.injEq] at hx
      subst hx
      obtain ⟨_, vs, m, ea, _, h1, h2, h3⟩ := I.listAt hσ (.ref e)
      cases ea
      refine wpAny_pyNext_list_end hh hit (items := vs) ⟨_, h1, rfl, m, rfl⟩ ?_ fun h' hs => key hs
      rw [List.getElem?_eq_none_iff] at hi
      exact Array.getElem?_eq_none (by rw [vrs_size h2]; exact hi)

theorem does_iter (I : Inv T W) {av : AV} {v : Value} {src : Src} (r : W.V T av v) (e : srcA W.σ av = some src) {Q : Value → Shared → Prop} {E : Value → Shared → Prop}
    (q : ∀ J W', Inv T W' → Le noX W W' → W'.σ = W.σ → W.h.get? J = none → ItOk T W' J src 0 → Q (.ref J) W'.s) : wpAny T.M A (pyIter v) Q E W.s := by
  have key : ∀ ob : Obj, ob.isFreed = false → ItAt T { W with s := { W.s with heap := W.h.push ob } } W.h.objs.size src 0 → Q (.ref W.h.objs.size) { W.s with heap := W.h.push ob } := fun ob hf hit => by
    have g := I.grow (s' := { W.s with heap := W.h.push ob }) (fun a q e => Heap.get?_push_of_some _ e) rfl rfl
    refine q _ _ g.1 g.2 rfl (get_size _) ⟨own_new I (get_size _), ?_, hit⟩
    cases z : T.base.get? W.h.objs.size with
    | none => rfl
    | some o => exact absurd (Heap.lt_size (I.base _ _ z)) (Nat.lt_irrefl _)
  cases r with
  | str t ok =>
    rename_i s
    cases e
    refine wpAny_pyIter_ascii (by simp only [tS, Array.all_eq_true, decide_eq_true_eq]; intro j hj; have := ok.1 _ (List.getElem_mem (l := s) (by simpa using hj)); simpa using this) ?_
    exact key _ rfl (.str ⟨_, Heap.get?_push_size _ rfl, rfl, rfl⟩ ok)
  | ref hl =>
    rename_i l a
    have e0 : srcA W.σ (.ref l) = match W.σ[l]? with | some (.list xs) => some (.list l xs.length) | none => none := rfl
    rw [e0] at e
    cases hx : W.σ[l]? with
    | none => rw [hx] at e; cases e
    | some o =>
      cases o
      rw [hx] at e
      cases e
      obtain ⟨_, vs, m, ea, _, h1, h2, h3⟩ := I.listAt hx (.ref hl)
      cases ea
      exact wpAny_pyIter_list ⟨_, h1, rfl, m, rfl⟩ (key _ rfl (.list ⟨_, Heap.get?_push_size _ rfl, rfl, rfl⟩ hl))
  | rng h1 h2 h3 h4 h5 h6 =>
    rename_i x y a t u v'
    cases e
    have hl : (lim : Int) = 16777216 := rfl
    refine wpAny_pyIter_range h1 (small_one (by omega) (by omega) (by omega) (by omega)) (key _ rfl (.rng ?_))
    have e1 : Builtin.Range.rangeSize x y 1 = (((y - x).toNat : Nat) : Int) := by rw [rangeSize_one]; split <;> omega
    rw [e1]
    have := Heap.get?_push_size W.h (o := { cls := .type "range_iterator", data := .fields #[rawInt x, rawInt (((y - x).toNat : Nat) : Int), rawInt 1] }) rfl
    simpa using this
  | _ => cases e
end
end Mine

/-! Soundness, part 15b: comprehensions (typed by hand). -/
set_option Elab.async false
namespace Mine
open PySem PySem.SeqAt PySem.Spec PySem.W PySem.Calls

section
variable {T : Tp} {A : Around} {W : Wd}

theorem does_self {J : Addr} {src : Src} {i : Nat} (h : ItOk T W J src i) {Q : Value → Shared → Prop} {E : Value → Shared → Prop} (q : Q (.ref J) W.s) : wpAny T.M A (pyIter (.ref J)) Q E W.s := by
  cases h.it with
  | str hit _ => exact wpAny_pyIter_striter_ascii hit q
  | rng hit => exact wpAny_pyIter_rangeiter hit q
  | list hit _ => exact wpAny_pyIter_listiter hit q

/-! ### the closure -/
noncomputable def closL (cells : List (Str × Addr)) : List (Str × NameKind) → List (Str × Addr) → List (Str × Addr)
  | [], acc => acc
  | (n, k) :: r, acc => if k == .free then closL cells r ((n, (cells.lookup n).getD 0) :: acc) else closL cells r acc

theorem closure_eq {scope : Scope} {env : Env} (h : ∀ p ∈ scope.names, p.2 = .free → ∃ c, env.cells.lookup p.1 = some c) : closureFor scope env = pure (closL env.cells scope.names []) := by
  unfold closureFor
  have key : ∀ (names : List (Str × NameKind)) (acc : List (Str × Addr)), (∀ p ∈ names, p.2 = .free → ∃ c, env.cells.lookup p.1 = some c) →
      (forIn names acc fun (x : Str × NameKind) (cs : List (Str × Addr)) => match x with
          | (name, kind) => if (kind == NameKind.free) = true then (do let c ← cellOf env name; pure (ForInStep.yield ((name, c) :: cs)) : Sem (ForInStep (List (Str × Addr)))) else pure (ForInStep.yield cs)) = pure (closL env.cells names acc) := by
    intro names
    induction names with
    | nil => intro acc _; rfl
    | cons p r ih =>
      intro acc hp
      obtain ⟨nm, k⟩ := p
      rw [List.forIn_cons]
      simp only [closL]
      by_cases hk : (k == NameKind.free) = true
      · obtain ⟨c, hc⟩ := hp (nm, k) (by simp) (eq_of_beq hk)
        simp only [hk, if_true]
        have e : cellOf env nm = pure c := by unfold cellOf; rw [hc]
        rw [e, pure_bind, pure_bind]
        simp only
        rw [ih _ fun q hq => hp q (by simp [hq]), hc]
        rfl
      · simp only [hk, if_false, Bool.false_eq_true]
        rw [pure_bind]
        exact ih _ fun q hq => hp q (by simp [hq])
  have e := key scope.names [] h
  show (forIn scope.names [] _ >>= fun cs => pure cs) = _
  rw [bind_pure]
  exact e

theorem closL_get {cells : List (Str × Addr)} {y : Str} {c : Addr} (hc : cells.lookup y = some c) : ∀ (names : List (Str × NameKind)) (acc : List (Str × Addr)), (acc.lookup y = some c ∨ (acc.lookup y = none ∧ (y, NameKind.free) ∈ names)) → (closL cells names acc).lookup y = some c
  | [], acc, h => by
    rcases h with h | ⟨_, h⟩
    · exact h
    · cases h
  | (n, k) :: r, acc, h => by
    simp only [closL]
    by_cases hk : (k == NameKind.free) = true
    · rw [if_pos hk]
      refine closL_get hc r _ ?_
      by_cases hn : (y == n) = true
      · have : y = n := eq_of_beq hn
        subst this
        exact .inl (by simp [hc])
      · have hn' : (y == n) = false := by simpa using hn
        rcases h with h | ⟨h1, h2⟩
        · exact .inl (by rw [List.lookup_cons, hn']; exact h)
        · refine .inr ⟨by rw [List.lookup_cons, hn']; exact h1, ?_⟩
          rcases List.mem_cons.mp h2 with q | q
          · cases q; simp at hn
          · exact q
    · rw [if_neg hk]
      refine closL_get hc r _ ?_
      rcases h with h | ⟨h1, h2⟩
      · exact .inl h
      · refine .inr ⟨h1, ?_⟩
        rcases List.mem_cons.mp h2 with q | q
        · cases q; exact absurd rfl hk
        · exact q
end
end Mine

/-! Soundness, part 15c: comprehensions (typed by hand). -/
set_option Elab.async false
namespace Mine
open PySem PySem.SeqAt PySem.Spec PySem.W PySem.Calls

theorem relabel_eq (sc : Scope) (env : Env) : relabel sc env = relabelS sc env.scope := rfl

theorem relabel_free {sc : Scope} (hf : (sc.kind == ScopeKind.function) = true) : ∀ {names : List (Str × NameKind)} {y : Str}, names.lookup y = some .free → sc.names.lookup y = some .cell →
    (names.map fun (n, k) => if (k == NameKind.free && sc.kind == .function && sc.names.lookup n == some .cell) then (n, NameKind.cell) else (n, k)).lookup y = some .cell
  | [], _, h, _ => by simp at h
  | (n, k) :: r, y, h, hc => by
    have ih := @relabel_free sc hf r y
    show List.lookup y ((if (k == NameKind.free && sc.kind == .function && sc.names.lookup n == some .cell) = true then (n, NameKind.cell) else (n, k)) :: _) = _
    cases hx : y == n with
    | true =>
      simp only [List.lookup_cons, hx] at h
      cases h
      have : y = n := eq_of_beq hx
      subst this
      rw [hf, hc]
      simp
    | false =>
      simp only [List.lookup_cons, hx] at h
      by_cases hq : (k == NameKind.free && sc.kind == .function && sc.names.lookup n == some .cell) = true
      · rw [if_pos hq]; simp only [List.lookup_cons, hx]; exact ih h hc
      · rw [if_neg hq]; simp only [List.lookup_cons, hx]; exact ih h hc
theorem relabel_cell {sc : Scope} : ∀ {names : List (Str × NameKind)} {y : Str}, (∀ p ∈ names, p.2 ≠ .cell) →
    (names.map fun (n, k) => if (k == NameKind.free && sc.kind == .function && sc.names.lookup n == some .cell) then (n, NameKind.cell) else (n, k)).lookup y = some .cell → (y, NameKind.free) ∈ names ∧ sc.names.lookup y = some .cell
  | [], _, _, h => by simp at h
  | (n, k) :: r, y, hc, h => by
    have ih := @relabel_cell sc r y fun p hp => hc p (by simp [hp])
    have h' : List.lookup y ((if (k == NameKind.free && sc.kind == .function && sc.names.lookup n == some .cell) = true then (n, NameKind.cell) else (n, k)) :: (r.map fun (n, k) => if (k == NameKind.free && sc.kind == .function && sc.names.lookup n == some .cell) then (n, NameKind.cell) else (n, k))) = some .cell := h
    by_cases hq : (k == NameKind.free && sc.kind == .function && sc.names.lookup n == some .cell) = true
    · rw [if_pos hq] at h'
      cases hx : y == n with
      | true =>
        have : y = n := eq_of_beq hx
        subst this
        simp only [Bool.and_eq_true, beq_iff_eq] at hq
        exact ⟨by rw [hq.1.1]; simp, hq.2⟩
      | false =>
        simp only [List.lookup_cons, hx] at h'
        exact ⟨by simp [(ih h').1], (ih h').2⟩
    · rw [if_neg hq] at h'
      cases hx : y == n with
      | true =>
        simp only [List.lookup_cons, hx, Option.some.injEq] at h'
        exact absurd h' (hc (n, k) (by simp))
      | false =>
        simp only [List.lookup_cons, hx] at h'
        exact ⟨by simp [(ih h').1], (ih h').2⟩
theorem lookup_mem {names : List (Str × NameKind)} {y : Str} {k : NameKind} (h : names.lookup y = some k) : (y, k) ∈ names := by
  obtain ⟨l1, l2, e, _⟩ := List.lookup_eq_some_iff.mp h
  rw [e]; simp

structure ScOk (sc' sc : Scope) (nm : Str) : Prop where
  kind : sc'.kind = .function
  nm : sc'.names.lookup nm = some .local
  cell : ∀ p ∈ sc'.names, p.2 ≠ .cell
  loc : ∀ p ∈ sc'.names, p.2 = .local → sc'.names.lookup p.1 = some .local
  free : ∀ p ∈ sc'.names, p.2 = .free → sc.names.lookup p.1 = some .cell
theorem scOk_of {sc' sc : Scope} {nm : Str} (h : scOk sc' sc nm = true) : ScOk sc' sc nm := by
  simp only [scOk, Bool.and_eq_true, beq_iff_eq, List.all_eq_true, Bool.or_eq_true, Bool.not_eq_true', beq_eq_false_iff_ne] at h
  obtain ⟨⟨h1, h2⟩, h3⟩ := h
  exact ⟨h1, h2, fun p hp => (h3 p hp).1.1, fun p hp q => (h3 p hp).1.2.resolve_left fun z => z q, fun p hp q => (h3 p hp).2.resolve_left fun z => z q⟩

section
variable {T : Tp} {G : Gl} {n : Nat} {C : Cx} {A : Around}

theorem Fm.comp {W : Wd} {env : Env} {sl : List (Nat × Str)} {vs : Vs} (F : Fm T W env sl vs) {sc : Scope} {nm : Str} (ok : ScOk sc env.scope nm) {Ca : Addr} (hC : W.own Ca = .free) {m : Str → Option Value} (hns : W.h.Ns Ca m) {v : Value} {av : AV}
    (hm : m nm = some v) (r : W.V T av v) {x : Nat} : Fm T W (compEnvC sc (closL env.cells sc.names []) Ca env) (compSl sc env.scope sl x nm) (vs.set x (some av)) where
  kind := ok.kind
  glob := F.glob
  bi := F.bi
  cells := fun y h => by
    obtain ⟨h1, h2⟩ := relabel_cell (sc := env.scope) ok.cell h
    obtain ⟨c, hc⟩ := F.cells y h2
    exact ⟨c, closL_get hc _ _ (.inr ⟨rfl, h1⟩)⟩
  rd := fun i y hi aw e => by
    rcases List.mem_cons.mp hi with q | q
    · cases q
      by_cases hl : x < vs.length
      · rw [List.getElem?_set_self hl] at e
        cases e
        exact ⟨v, r, .inl ⟨lookup_relabel_local ok.nm, hC, m, hns, hm⟩⟩
      · rw [List.getElem?_eq_none (by simpa using hl)] at e; cases e
    · obtain ⟨q1, q2⟩ := List.mem_filter.mp q
      simp only [Bool.and_eq_true, Bool.not_eq_true', beq_eq_false_iff_ne, beq_iff_eq] at q2
      obtain ⟨⟨h1, h2⟩, h3⟩ := q2
      rw [getElem?_set_ne' (fun z => h1 z.symm)] at e
      obtain ⟨w, rw', d⟩ := F.rd i y q1 aw e
      refine ⟨w, rw', ?_⟩
      rcases d with ⟨k, _⟩ | ⟨k, c, ec, f, nn⟩
      · have : env.scope.names.lookup y = some .local := k
        rw [h3] at this; cases this
      · exact .inr ⟨relabel_free (by rw [F.kind]; rfl) h2 h3, c, closL_get ec _ _ (.inr ⟨rfl, lookup_mem h2⟩), f, nn⟩

theorem tests_false {env : Env} (ifs : List Expr) : (forIn ifs false fun c r => if r = true then (do let ok ← isTrue c env (eval c env); pure (ForInStep.yield ok) : Sem (ForInStep Bool)) else pure (ForInStep.yield r)) = pure false :=
  forIn_yield_id' ifs
where
  forIn_yield_id' {env : Env} : ∀ ifs : List Expr, (forIn ifs false fun c r => if r = true then (do let ok ← isTrue c env (eval c env); pure (ForInStep.yield ok) : Sem (ForInStep Bool)) else pure (ForInStep.yield r)) = pure false
    | [] => rfl
    | e :: r => by
      rw [List.forIn_cons]
      simp only [Bool.false_eq_true, if_false]
      rw [pure_bind]
      exact forIn_yield_id' r

theorem does_tests : ∀ (ms : List ME), (∀ m ∈ ms, ST T G n C m) → ∀ (es : List Expr) (sl : List (Nat × Str)) (W : Wd) (env : Env) (vs : Vs), mtEs G env.scope sl ms es = true → AOk n A → Fm T W env sl vs → Inv T W →
    evConds C ms W.σ vs ≠ .fail → Does T A noX W (forIn es true fun c r => if r = true then (do let ok ← isTrue c env (eval c env); pure (ForInStep.yield ok) : Sem (ForInStep Bool)) else pure (ForInStep.yield r)) (evConds C ms W.σ vs) BW := by
  intro ms
  induction ms with
  | nil =>
    intro _ es sl W env vs h _ _ I _
    rw [mtEs_nil h]
    exact wpAny_pure ⟨true, W, rfl, rfl, I, .refl _ _, rfl⟩
  | cons m ms ih' =>
    intro ih es sl W env vs h a F I hn
    obtain ⟨e, es, rfl, _, h1, h2⟩ := mtEs_cons h
    have eq : evConds C (m :: ms) W.σ vs = (evT C m W.σ vs).bind fun b h => match b with | true => evConds C ms h vs | false => .ok false h := by
      rw [evConds_q2]
      unfold evT
      cases ev C m W.σ vs with
      | ok v k => simp only [Out.bind]; rcases truth k v with _ | _ | _ <;> rfl
      | fail => rfl
    rw [eq] at hn ⊢
    obtain ⟨n1, n2⟩ := Out.bind_ok hn
    rw [List.forIn_cons]
    simp only [if_true]
    refine wpAny_bind (wpAny_bind ((ih m (List.mem_cons_self ..) e sl A W env vs h1 a F I n1).cps (fun b W' b' e1 I' l' r => wpAny_pure ?_) fun _ _ q => q.elim))
    cases r
    cases b with
    | true => exact (ih' (fun q hq => ih q (List.mem_cons_of_mem _ hq)) es sl W' env vs h2 a (F.le l') I' (n2 true W'.σ e1)).up l' (by rw [e1]; rfl)
    | false => exact wpAny_of_eq (tests_false es) ⟨false, W', rfl, by rw [e1]; rfl, I', l', rfl⟩
end
end Mine

/-! Soundness, part 15d: comprehensions, the loop (typed by hand). -/
set_option Elab.async false
namespace Mine
open PySem PySem.SeqAt PySem.Spec PySem.W PySem.Calls

section
variable {T : Tp} {G : Gl} {n : Nat} {C : Cx} {A : Around}

/-- a list that nobody knows is taken into the abstract heap -/
noncomputable abbrev Wd.adopt (W : Wd) (D : Addr) (xs : List AV) : Wd := { own := fun a => if a = D then .loc W.σ.length else W.own a, bt := W.bt ++ [D], σ := W.σ ++ [.list xs], s := W.s }

theorem Inv.adopt {W : Wd} (I : Inv T W) {D : Addr} (hD : W.own D = .free) (hb : T.base.get? D = none) {arr : Array Value} {k : Nat} {ys : List AV} (ho : W.h.get? D = some { cls := .type "list", data := .seq arr k }) (r : W.Vs T ys arr.toList) (hl : ys.length ≤ lim) :
    Inv T (W.adopt D ys) ∧ Le (fun b => b = D) W (W.adopt D ys) ∧ (W.adopt D ys).V T (.ref W.σ.length) (.ref D) := by
  have fx : FrX (fun b => b = D) W.own W.h := fun a q => ⟨q ▸ hD, fun o e => by
    subst q
    rw [ho] at e; cases e
    exact .inr (.inr ⟨by simp, by simp⟩)⟩
  have x : Ext (fun b => b = D) W.own W.bt W.h (W.adopt D ys).own (W.adopt D ys).bt W.h := ⟨fun a o e _ _ => ⟨o, e, .refl o⟩, fun a o e _ => ⟨o, e⟩,
    fun a o e q => if_neg q, [D], rfl⟩
  have hbt : ∀ l a, W.bt[l]? = some a → a ≠ D := fun l a e q => by have := I.ownb l a e; rw [q, hD] at this; cases this
  refine ⟨⟨by simp [I.len], fun l a e => ?_, fun a q => ?_, fun l o' a e q => ?_, I.base⟩, ⟨x, rfl, rfl⟩, .ref (by simp [← I.len])⟩
  · simp only [Wd.adopt] at e ⊢
    rw [List.getElem?_append] at e
    split at e
    · rw [if_neg (hbt l a e)]; exact I.ownb l a e
    · rename_i hl
      have : l = W.bt.length := by
        rcases Nat.lt_or_ge l (W.bt.length + 1) with z | z
        · omega
        · rw [List.getElem?_eq_none (by simp; omega)] at e; cases e
      subst this
      simp at e
      rw [← e, if_pos rfl, I.len]
  · simp only [Wd.adopt] at q ⊢
    by_cases e : a = D
    · exact ⟨⟨_, by rw [e]; exact ho⟩, by rw [e]; exact hb⟩
    · rw [if_neg e] at q
      exact I.lt a q
  · simp only [Wd.adopt] at e q
    rw [List.getElem?_append] at e q
    split at e
    · rename_i hl
      rw [if_pos (by rw [I.len]; exact hl)] at q
      exact (I.obj l o' a e q).mono x fx (I.ownb l a q) fun b q' _ e' => e'
    · rename_i hl
      rw [if_neg (by rw [I.len]; exact hl)] at q
      have : l = W.σ.length := by
        rcases Nat.lt_or_ge l (W.σ.length + 1) with z | z
        · omega
        · rw [List.getElem?_eq_none (by simp; omega)] at e; cases e
      subst this
      rw [I.len] at q
      simp at e q
      rw [← e, ← q]
      exact ⟨arr, k, ho, r.ext x fx, by assumption⟩

/-- what was made on the way is forgotten -/
theorem Le.drop {X Y : Addr → Prop} {W₀ W₁ W₂ : Wd} (l : Le X W₀ W₁) (l' : Le Y W₁ W₂) (h : ∀ b o, W₀.h.get? b = some o → ¬ X b → ¬ Y b) : Le X W₀ W₂ := by
  refine ⟨⟨fun b o e f nx => ?_, fun b o e nx => ?_, fun b o e nx => ?_, ?_⟩, l'.gens.trans l.gens, l'.os.trans l.os⟩
  · obtain ⟨o', e', k⟩ := l.ext.kp b o e f nx
    obtain ⟨o'', e'', k'⟩ := l'.ext.kp b o' e' ((l.ext.ow b o e nx).trans f) (h b o e nx)
    exact ⟨o'', e'', k.trans k'⟩
  · obtain ⟨o', e'⟩ := l.ext.df b o e nx
    exact l'.ext.df b o' e' (h b o e nx)
  · obtain ⟨o', e'⟩ := l.ext.df b o e nx
    exact (l'.ext.ow b o' e' (h b o e nx)).trans (l.ext.ow b o e nx)
  · obtain ⟨r, e⟩ := l.ext.bt
    obtain ⟨r', e'⟩ := l'.ext.bt
    exact ⟨r ++ r', by rw [e', e, List.append_assoc]⟩

/-- the state of a comprehension's loop: frame Ca, list D, iterator J -/
structure CS (T : Tp) (W : Wd) (J Ca D : Addr) (src : Src) (i : Nat) (ys : List AV) : Prop where
  inv : Inv T W
  it : ItOk T W J src i
  ownC : W.own Ca = .free
  baseC : T.base.get? Ca = none
  ns : ∃ m, W.h.Ns Ca m
  ownD : W.own D = .free
  baseD : T.base.get? D = none
  list : ∃ arr k, W.h.get? D = some { cls := .type "list", data := .seq arr k } ∧ W.Vs T ys arr.toList

/-- the same without the iterator -/
structure CB (T : Tp) (W : Wd) (Ca D : Addr) (ys : List AV) : Prop where
  inv : Inv T W
  ownC : W.own Ca = .free
  baseC : T.base.get? Ca = none
  ns : ∃ m, W.h.Ns Ca m
  ownD : W.own D = .free
  baseD : T.base.get? D = none
  list : ∃ arr k, W.h.get? D = some { cls := .type "list", data := .seq arr k } ∧ W.Vs T ys arr.toList
theorem CS.b {W : Wd} {J Ca D : Addr} {src : Src} {i : Nat} {ys : List AV} (c : CS T W J Ca D src i ys) : CB T W Ca D ys := ⟨c.inv, c.ownC, c.baseC, c.ns, c.ownD, c.baseD, c.list⟩
theorem CB.s {W : Wd} {J Ca D : Addr} {src : Src} {i : Nat} {ys : List AV} (c : CB T W Ca D ys) (it : ItOk T W J src i) : CS T W J Ca D src i ys := ⟨c.inv, it, c.ownC, c.baseC, c.ns, c.ownD, c.baseD, c.list⟩
theorem CB.frC {W : Wd} {Ca D : Addr} {ys : List AV} (c : CB T W Ca D ys) : FrX (fun b => b = Ca) W.own W.h := fun a q => by
  subst q
  refine ⟨c.ownC, fun o e => ?_⟩
  obtain ⟨m, o', es, ep, ho, hd, _⟩ := c.ns
  rw [e] at ho; cases ho
  exact .inl ⟨es, ep, hd⟩
theorem CB.frD {W : Wd} {Ca D : Addr} {ys : List AV} (c : CB T W Ca D ys) : FrX (fun b => b = D) W.own W.h := fun a q => by
  subst q
  refine ⟨c.ownD, fun o e => ?_⟩
  obtain ⟨arr, k, ho, _⟩ := c.list
  rw [e] at ho; cases ho
  exact .inr (.inr ⟨by simp, by simp⟩)

/-- kept where neither the frame nor the list is touched -/
theorem CB.leX {X : Addr → Prop} {W W' : Wd} {Ca D : Addr} {ys : List AV} (c : CB T W Ca D ys) (l : Le X W W') (I' : Inv T W') (fx : FrX X W.own W.h) (hC : ¬ X Ca) (hD : ¬ X D) : CB T W' Ca D ys where
  inv := I'
  ownC := let ⟨_, nn⟩ := c.ns; let ⟨_, z⟩ := ns_at nn; (l.ext.ow _ _ z hC).trans c.ownC
  baseC := c.baseC
  ns := let ⟨m, nn⟩ := c.ns; ⟨m, ns_ko nn fun o ho => l.ext.kp _ o ho c.ownC hC⟩
  ownD := let ⟨_, _, ho, _⟩ := c.list; (l.ext.ow _ _ ho hD).trans c.ownD
  baseD := c.baseD
  list := by
    obtain ⟨arr, k, ho, r⟩ := c.list
    obtain ⟨o', e', kk⟩ := l.ext.kp _ _ ho c.ownD hD
    rw [kk.same (by simp)] at e'
    exact ⟨arr, k, e', VRs.ext l.ext fx r⟩

/-- the frame is written -/
theorem CB.setC {W : Wd} {Ca D : Addr} {ys : List AV} (c : CB T W Ca D ys) (hCD : Ca ≠ D) {h' : Heap} {k : Nat} {m : Str → Option Value} (hn : h'.Ns Ca m) (hs : ∀ a o, a ≠ Ca → W.h.get? a = some o → h'.get? a = some o) :
    CB T { W with s := { W.s with heap := h', toks := k } } Ca D ys ∧ Le (fun b => b = Ca) W { W with s := { W.s with heap := h', toks := k } } := by
  obtain ⟨I', l'⟩ := c.inv.touch (X := fun b => b = Ca) (a := Ca) (s' := { W.s with heap := h', toks := k }) c.ownC c.baseC rfl c.frC hs rfl rfl
  refine ⟨⟨I', c.ownC, c.baseC, ⟨m, hn⟩, c.ownD, c.baseD, ?_⟩, l'⟩
  obtain ⟨arr, j, ho, r⟩ := c.list
  exact ⟨arr, j, hs _ _ (fun q => hCD q.symm) ho, VRs.ext l'.ext c.frC r⟩

/-- the list grows -/
theorem CB.setD {W : Wd} {Ca D : Addr} {ys : List AV} (c : CB T W Ca D ys) (hCD : Ca ≠ D) {h' : Heap} {k j : Nat} {arr : Array Value} {w : AV} {v : Value} (ho : ∃ j, W.h.get? D = some { cls := .type "list", data := .seq arr j }) (r : W.Vs T ys arr.toList) (rv : W.V T w v)
    (hn : h'.get? D = some { cls := .type "list", data := .seq (arr.push v) j }) (hs : ∀ a o, a ≠ D → W.h.get? a = some o → h'.get? a = some o) :
    CB T { W with s := { W.s with heap := h', toks := k } } Ca D (ys ++ [w]) ∧ Le (fun b => b = D) W { W with s := { W.s with heap := h', toks := k } } := by
  obtain ⟨I', l'⟩ := c.inv.touch (X := fun b => b = D) (a := D) (s' := { W.s with heap := h', toks := k }) c.ownD c.baseD rfl c.frD hs rfl rfl
  refine ⟨⟨I', c.ownC, c.baseC, ?_, c.ownD, c.baseD, arr.push v, j, hn, ?_⟩, l'⟩
  · obtain ⟨m, nn⟩ := c.ns
    exact ⟨m, ns_ko nn fun o ho => ⟨o, hs _ o hCD ho, .refl o⟩⟩
  · have h1 := VRs.ext l'.ext c.frD r
    have h2 := VR.ext l'.ext c.frD rv
    simpa using h1.append (.cons h2 .nil)

theorem does_comp_loop {W₀ W₁ : Wd} {env : Env} {sl : List (Nat × Str)} {vs : Vs} {elt : ME} {x : Nat} {conds : List ME} {src : Src} {J Ca D : Addr} {elt' iter : Expr} {nm : Str} {px pos : Pos} {ifs : List Expr} {sc : Scope}
    (hse : SE T G n C elt) (hst : ∀ m ∈ conds, ST T G n C m) (ok : ScOk sc env.scope nm) (hmE : mtE G (relabelS sc env.scope) (compSl sc env.scope sl x nm) elt elt' = true) (hmC : mtEs G (relabelS sc env.scope) (compSl sc env.scope sl x nm) conds ifs = true)
    (a : AOk n A) (F : Fm T W₀ env sl vs) (l01 : Le noX W₀ W₁) (hfr : ∀ b, (b = J ∨ b = Ca ∨ b = D) → W₀.h.get? b = none) (hJC : J ≠ Ca) (hJD : J ≠ D) (hCD : Ca ≠ D) {r0 : Out AV} (hr : r0 ≠ .fail)
    {R : Result → Shared → Prop} (hR : ∀ W' ys, CB T W' Ca D ys → Le (fun b => b = J ∨ b = Ca ∨ b = D) W₁ W' → r0 = newList ys W'.σ → R (.ok .next) W'.s)
    {W : Wd} {i m : Nat} {ys : List AV} (c : CS T W J Ca D src i ys) (l : Le (fun b => b = J ∨ b = Ca ∨ b = D) W₁ W)
    (e : (match iterR (fun st => srcGet src st.1) Out.fail (compF (fun h vs => evConds C conds h vs) (fun h vs => ev C elt h vs) x vs) m i (W.σ, ys) with | .go st => newList st.2 st.1 | .stop o => o) = r0) :
    codeAny T.M A (.compLoop (.ListComp elt' [⟨.Name nm px, iter, ifs, 0⟩] sc pos) 0 (.ref J) (.ref D) (compEnvC sc (closL env.cells sc.names []) Ca env)) R W.s := by
  refine codeAny_compLoop_tests (fun m s => ∃ W i ys, W.s = s ∧ CS T W J Ca D src i ys ∧ Le (fun b => b = J ∨ b = Ca ∨ b = D) W₁ W ∧
    (match iterR (fun st => srcGet src st.1) Out.fail (compF (fun h vs => evConds C conds h vs) (fun h vs => ev C elt h vs) x vs) m i (W.σ, ys) with | .go st => newList st.2 st.1 | .stop o => o) = r0) (fun m s ⟨W, i, ys, es, c, l, e⟩ => ?_) m ⟨W, i, ys, rfl, c, l, e⟩
  subst es
  cases m with
  | zero => simp only [iterR] at e; exact absurd e.symm hr
  | succ m =>
    simp only [iterR] at e
    cases hg : srcGet src W.σ with
    | none => rw [hg] at e; exact absurd e.symm hr
    | some xs =>
      rw [hg] at e
      simp only at e
      have hJC' : ¬ (Ca = J) := fun q => hJC q.symm
      have hJD' : ¬ (D = J) := fun q => hJD q.symm
      cases hi : xs[i]? with
      | none =>
        rw [hi] at e
        refine does_next_end c.inv a.handled c.it hg hi fun W' I' l' es => ?_
        exact hR W' ys (c.b.leX l' I' c.it.frX hJC' hJD') (l.trans (l'.mono fun _ q => .inl q)) (by rw [← e, es])
      | some av =>
        rw [hi] at e
        simp only at e
        refine does_next_item c.inv c.it hg hi fun v W1 I1 l1 es1 it1 r1 => ?_
        have c1 := c.b.leX l1 I1 c.it.frX hJC' hJD'
        obtain ⟨m1, nn1⟩ := c1.ns
        refine wpAny_assign_Name (wpAny_storeName_local (lookup_relabel_local ok.nm) nn1 (fun h2 hn2 hs2 => ?_) (by show (sc.kind == _ || (sc.kind == _ && _)) = false; rw [ok.kind]; rfl))
        obtain ⟨c2, l2⟩ := c1.setC hCD (k := W1.s.toks + 1) hn2 fun b o q e => (hs2.2 b q).trans e
        have it2 := it1.leX l2 c1.frC hJC
        have r2 := r1.leX l2 c1.frC
        have lX2 : Le (fun b => b = J ∨ b = Ca ∨ b = D) W₁ { W1 with s := { W1.s with heap := h2, toks := W1.s.toks + 1 } } := (l.trans (l1.mono fun _ q => .inl q)).trans (l2.mono fun _ q => .inr (.inl q))
        have F2 : Fm T { W1 with s := { W1.s with heap := h2, toks := W1.s.toks + 1 } } env sl vs := F.le (Le.drop l01 lX2 fun b o e _ q => by rw [hfr b q] at e; cases e)
        have FC := F2.comp (x := x) ok c2.ownC hn2 (by simp) r2
        have hf : compF (fun h vs => evConds C conds h vs) (fun h vs => ev C elt h vs) x vs av (W.σ, ys) = _ := rfl
        simp only [compF] at e
        have n1 : evConds C conds W1.σ (vs.set x (some av)) ≠ .fail := fun q => by
          rw [es1] at q
          rw [q] at e; exact hr e.symm
        refine (does_tests conds hst ifs _ _ _ _ hmC a FC c2.inv n1).cps (fun b W3 b' e3 I3 l3 r3 => ?_) fun _ _ q => q.elim
        cases r3
        have e3' : evConds C conds W.σ (vs.set x (some av)) = .ok b W3.σ := by rw [← es1]; exact e3
        rw [e3'] at e
        have c3 := c2.leX l3 I3 .no id id
        have it3 := it2.leX l3 .no id
        have lX3 := lX2.trans l3.ofNo
        cases b with
        | false =>
          simp only [Bool.false_eq_true, if_false]
          exact ⟨m, Nat.lt_succ_self _, W3, i + 1, ys, rfl, c3.s it3, lX3, e⟩
        | true =>
          simp only [if_true]
          simp only at e
          have n2 : ev C elt W3.σ (vs.set x (some av)) ≠ .fail := fun q => by
            rw [q] at e; exact hr e.symm
          refine (hse elt' _ A W3 _ _ hmE a (FC.le l3) I3 n2).cps (fun w W4 vw e4 I4 l4 r4 => ?_) fun _ _ q => q.elim
          rw [e4] at e
          simp only at e
          have c4 := c3.leX l4 I4 .no id id
          have it4 := it3.leX l4 .no id
          obtain ⟨arr, k4, ho4, ra4⟩ := c4.list
          have hl : ys.length < lim := by
            rcases Nat.lt_or_ge ys.length lim with q | q
            · exact q
            · rw [if_neg (by omega)] at e; exact absurd e.symm hr
          rw [if_pos hl] at e
          refine wpAny_list_append_plain ⟨k4, ho4⟩ (fun h5 hn5 hs5 => ?_) (by have := vrs_size ra4; rw [← lim_eq]; omega)
          obtain ⟨k5, ho5⟩ := hn5
          obtain ⟨c5, l5⟩ := c4.setD hCD (k := W4.s.toks) ⟨k4, ho4⟩ ra4 r4 ho5 fun b o q e => (hs5.2 b q).trans e
          exact ⟨m, Nat.lt_succ_self _, _, i + 1, ys ++ [w], rfl, c5.s (it4.leX l5 c4.frD hJD), (lX3.trans l4.ofNo).trans (l5.mono fun _ q => .inr (.inr q)), e⟩
end
end Mine

/-! Soundness, part 15e: comprehensions as expressions and stores (typed by hand). -/
set_option Elab.async false
namespace Mine
open PySem PySem.SeqAt PySem.Spec PySem.W PySem.Calls

section
variable {T : Tp} {G : Gl} {n : Nat} {C : Cx} {A : Around}

theorem comp_block {W₁ W₂ : Wd} {env : Env} {sl : List (Nat × Str)} {vs : Vs} {elt : ME} {x : Nat} {conds : List ME} {src : Src} {J : Addr} {elt' iter : Expr} {nm : Str} {px pos : Pos} {ifs : List Expr} {sc : Scope}
    (hse : SE T G n C elt) (hst : ∀ m ∈ conds, ST T G n C m) (ok : ScOk sc env.scope nm) (hmE : mtE G (relabelS sc env.scope) (compSl sc env.scope sl x nm) elt elt' = true) (hmC : mtEs G (relabelS sc env.scope) (compSl sc env.scope sl x nm) conds ifs = true)
    (a : AOk n A) (F : Fm T W₁ env sl vs) (I₂ : Inv T W₂) (l12 : Le noX W₁ W₂) (hJ : W₁.h.get? J = none) (it : ItOk T W₂ J src 0) {r0 : Out AV} (hr : r0 ≠ .fail)
    (e : (match Mine.iter src Out.fail (compF (fun h vs => evConds C conds h vs) (fun h vs => ev C elt h vs) x vs) (W₂.σ, []) with | .go st => Mine.newList st.2 st.1 | .stop o => o) = r0) {E : Value → Shared → Prop}
    {RR : Value → Addr → Result → Shared → Prop} (hRR : ∀ D Ca W' av, r0 = .ok av W'.σ → Inv T W' → Le (fun b => b = J) W₂ W' → W₂.h.get? Ca = none → W'.own Ca = .free → T.base.get? Ca = none → (∃ m, W'.h.Ns Ca m) → W'.V T av (.ref D) → RR (.ref D) Ca (.ok .next) W'.s) :
    wpAny T.M A (PySem.newList []) (fun acc s₃ => wpAny T.M A (newFunctionEnv sc env.globals (closL env.cells sc.names []) [] env.qual none .none (some env)) (fun cenv s₄ =>
      codeAny T.M A (.compStart (.ListComp elt' [⟨.Name nm px, iter, ifs, 0⟩] sc pos) 0 (.ref J) acc { cenv with scope := relabel sc env }) (RR acc cenv.locals) s₄) E s₃) E W₂.s := by
  refine wpAny_newObj_type (wpAny_newFunctionEnv ok.cell (by intro y hy; simp at hy) (fun h₁ hns₁ hsb₁ => ?_) ok.kind)
  dsimp only at hns₁ hsb₁ ⊢
  generalize hH2 : W₂.s.heap.push { cls := .type "list", dict := none, data := .seq ([] : List Value).toArray } = H2 at hns₁ hsb₁ ⊢
  have hC : H2.objs.size = W₂.s.heap.objs.size + 1 := by rw [← hH2, Heap.size_push]
  have hN : W₂.s.heap.objs.size < H2.objs.size := by rw [hC]; exact Nat.lt_succ_self _
  have hCD : H2.objs.size ≠ W₂.s.heap.objs.size := Nat.ne_of_gt hN
  have old : ∀ b o, W₂.s.heap.get? b = some o → h₁.get? b = some o := fun b o e => by
    have hb := Heap.lt_size e
    exact hsb₁.extBut b o (Nat.ne_of_lt (Nat.lt_trans hb hN)) (Heap.get?_push_of_some _ (hH2 ▸ Heap.get?_push_of_some _ e))
  have g := I₂.grow (s' := { W₂.s with heap := h₁, toks := W₂.s.toks + ([] : List (Str × Value)).length }) old rfl rfl
  have hfD : W₂.h.get? W₂.s.heap.objs.size = none := get_size _
  have hfC : W₂.h.get? H2.objs.size = none := by
    cases q : W₂.h.get? H2.objs.size with
    | none => rfl
    | some o => exact absurd (Nat.lt_trans (Heap.lt_size q) hN) (Nat.lt_irrefl _)
  have bs : ∀ b, W₂.h.get? b = none → T.base.get? b = none := fun b q => by
    cases z : T.base.get? b with
    | none => rfl
    | some o => have := I₂.base b o z; rw [q] at this; cases this
  obtain ⟨oJ, hoJ, _⟩ := it.it.there
  have hlJ := Heap.lt_size hoJ
  have old1 : ∀ b, W₂.h.get? b = none → W₁.h.get? b = none := fun b q => by
    cases z : W₁.h.get? b with
    | none => rfl
    | some o => obtain ⟨o', e'⟩ := l12.ext.df b o z id; rw [q] at e'; cases e'
  have c0 : CS T { W₂ with s := { W₂.s with heap := h₁, toks := W₂.s.toks + ([] : List (Str × Value)).length } } J H2.objs.size W₂.s.heap.objs.size src 0 [] := {
    inv := g.1
    it := it.leX g.2 .no id
    ownC := own_new I₂ hfC
    baseC := bs _ hfC
    ns := ⟨_, hns₁⟩
    ownD := own_new I₂ hfD
    baseD := bs _ hfD
    list := ⟨#[], 0, hsb₁.extBut _ _ (Nat.ne_of_lt hN) (Heap.get?_push_of_some _ (hH2 ▸ Heap.get?_push_size _ rfl)), .nil⟩ }
  have loop : codeAny T.M A (.compLoop (.ListComp elt' [⟨.Name nm px, iter, ifs, 0⟩] sc pos) 0 (.ref J) (.ref W₂.s.heap.objs.size) (compEnvC sc (closL env.cells sc.names []) H2.objs.size env)) (RR (.ref W₂.s.heap.objs.size) H2.objs.size)
      { W₂.s with heap := h₁, toks := W₂.s.toks + ([] : List (Str × Value)).length } := by
    refine does_comp_loop (W₀ := W₁) (W₁ := { W₂ with s := { W₂.s with heap := h₁, toks := W₂.s.toks + ([] : List (Str × Value)).length } }) (src := src) (i := 0) (m := srcN src + 1) (ys := []) hse hst ok hmE hmC a F (l12.trans g.2) (fun b q => ?_) (Nat.ne_of_lt (Nat.lt_trans hlJ hN)) (Nat.ne_of_lt hlJ) hCD hr
      (fun W' ys cb lX er => ?_) c0 (.refl _ _) ?_
    · rcases q with rfl | rfl | rfl
      · exact hJ
      · exact old1 _ hfC
      · exact old1 _ hfD
    · obtain ⟨arr, k, ho, ra⟩ := cb.list
      have hl : ys.length ≤ lim := by
        rcases Nat.lt_or_ge lim ys.length with q | q
        · rw [er] at hr; unfold Mine.newList at hr; rw [if_neg (by omega)] at hr; exact absurd rfl hr
        · exact q
      obtain ⟨I', l', rv⟩ := cb.inv.adopt cb.ownD cb.baseD ho ra hl
      refine hRR W₂.s.heap.objs.size H2.objs.size (W'.adopt W₂.s.heap.objs.size ys) (.ref W'.σ.length) ?_ I' ?_ hfC ?_ cb.baseC cb.ns rv
      · rw [er]; unfold Mine.newList; rw [if_pos hl]
      · refine Le.drop (Le.drop (W₁ := { W₂ with s := { W₂.s with heap := h₁, toks := W₂.s.toks + ([] : List (Str × Value)).length } }) (g.2.ofNo (X := fun b => b = J)) lX fun b o e nx q => ?_) l' fun b o e nx q => ?_
        · rcases q with q | rfl | rfl
          · exact nx q
          · rw [hfC] at e; cases e
          · rw [hfD] at e; cases e
        · rw [q, hfD] at e; cases e
      · show (if H2.objs.size = W₂.s.heap.objs.size then _ else _) = _
        rw [if_neg hCD]; exact cb.ownC
    · rw [iter_eq] at e; exact e
  exact codeAny_compStart_list loop (does_self (W := { W₂ with s := { W₂.s with heap := h₁, toks := W₂.s.toks + ([] : List (Str × Value)).length } }) c0.it loop)

/-- the frame of a comprehension is emptied -/
theorem comp_gone {W' : Wd} (I : Inv T W') {Ca : Addr} (hC : W'.own Ca = .free) (hb : T.base.get? Ca = none) {m : Str → Option Value} (hn : W'.h.Ns Ca m) {h' : Heap} (hs : Heap.SameBut Ca W'.h h') :
    FrX (fun b => b = Ca) W'.own W'.h ∧ Inv T { W' with s := { W'.s with heap := h' } } ∧ Le (fun b => b = Ca) W' { W' with s := { W'.s with heap := h' } } := by
  have fx : FrX (fun b => b = Ca) W'.own W'.h := fun a q => by
    subst q
    refine ⟨hC, fun o e => ?_⟩
    obtain ⟨o', es, ep, ho, hd, _⟩ := hn
    rw [e] at ho; cases ho
    exact .inl ⟨es, ep, hd⟩
  exact ⟨fx, I.touch (X := fun b => b = Ca) (a := Ca) (s' := { W'.s with heap := h' }) hC hb rfl fx (fun b o q e => (hs.2 b q).trans e) rfl rfl⟩

theorem does_comp {W : Wd} {env : Env} {sl : List (Nat × Str)} {vs : Vs} {elt src : ME} {x : Nat} {conds : List ME} {elt' iter : Expr} {nm : Str} {px pos : Pos} {ifs : List Expr} {sc : Scope}
    (hse : SE T G n C elt) (hss : SE T G n C src) (hst : ∀ m ∈ conds, ST T G n C m) (ok : ScOk sc env.scope nm) (hns : ∀ v, foldedSetIterable iter env v = pure v) (hmS : mtE G env.scope sl src iter = true) (hmE : mtE G (relabelS sc env.scope) (compSl sc env.scope sl x nm) elt elt' = true)
    (hmC : mtEs G (relabelS sc env.scope) (compSl sc env.scope sl x nm) conds ifs = true) (a : AOk n A) (F : Fm T W env sl vs) (I : Inv T W) (hn : ev C (.comp elt x src conds) W.σ vs ≠ .fail) :
    Does T A noX W (eval (.ListComp elt' [⟨.Name nm px, iter, ifs, 0⟩] sc pos) env) (ev C (.comp elt x src conds) W.σ vs) (VW T) := by
  have hcl : closureFor sc env = pure (closL env.cells sc.names []) := closure_eq fun p hp q => F.cells _ (ok.free p hp q)
  rw [ev_q21] at hn ⊢
  obtain ⟨n1, n2⟩ := Out.bind_ok hn
  rw [eval_ListComp]
  refine wpAny_comprehension_free (use := none) rfl hns hcl ok.kind ok.loc ((hss iter sl A W env vs hmS a F I n1).cps (fun av W1 v e1 I1 l1 r1 => ?_) fun _ _ q => q.elim)
  have n3 := n2 av W1.σ e1
  cases hs : srcA W1.σ av with
  | none => rw [hs] at n3; exact absurd rfl n3
  | some sr =>
    rw [hs] at n3
    simp only at n3
    refine does_iter I1 r1 hs fun J W2 I2 l2 es2 hJ it2 => ?_
    refine comp_block (r0 := _) (x := x) (vs := vs) (sl := sl) hse hst ok hmE hmC a (F.le l1) I2 l2 hJ it2 n3 (by rw [es2]; try rfl) fun D Ca W' av' er I' lJ hfC oC bC hnC rv => ?_
    obtain ⟨m, hnC⟩ := hnC
    refine ⟨m, hnC, fun h' hsb => ?_⟩
    obtain ⟨fx, I'', l''⟩ := comp_gone I' oC bC hnC hsb
    refine ⟨av', _, rfl, ?_, I'', ?_, rv.leX l'' fx⟩
    · rw [e1]; simp only [Out.bind, hs]; exact er
    · refine l1.trans (Le.drop (Le.drop l2 lJ fun b o e _ q => ?_) l'' fun b o e _ q => ?_)
      · rw [q, hJ] at e; cases e
      · obtain ⟨o', e'⟩ := l2.ext.df b o e id
        rw [q, hfC] at e'; cases e'
end
end Mine

/-! Soundness, part 15f: methods of lists and texts (typed by hand). -/
set_option Elab.async false
namespace Mine
open PySem PySem.SeqAt PySem.Spec PySem.W PySem.Calls PyProof.Rows

theorem joinT_flat (sep : List Nat) : ∀ (r : List (List Nat)) (x : List Nat), joinT sep (x :: r) = x ++ r.flatMap (fun t => sep ++ t)
  | [], x => by simp [joinT]
  | y :: r, x => by
    rw [joinT, joinT_flat sep r y]
    simp
theorem glue_fold (sep : List Nat) : ∀ (r : List (List Nat)) (acc : List Nat), (r.map tS).foldl (fun a p => a ++ (tS sep).cps ++ p.cps) acc.toArray = (acc ++ r.flatMap (fun t => sep ++ t)).toArray
  | [], acc => by simp
  | y :: r, acc => by
    rw [List.map_cons, List.foldl_cons]
    have : acc.toArray ++ (tS sep).cps ++ (tS y).cps = (acc ++ sep ++ y).toArray := by simp [tS]
    rw [this, glue_fold sep r]
    simp
theorem join_tS (sep : List Nat) (ts : List (List Nat)) : Txt.join (tS sep) (ts.map tS) = tS (joinT sep ts) := by
  show Builtin.Str.glued _ _ = _
  unfold Builtin.Str.glued
  cases ts with
  | nil => rfl
  | cons x r =>
    rw [joinT_flat]
    have := glue_fold sep r x
    show Str.mk _ = Str.mk _
    congr 1

theorem joinT_len (sep : List Nat) : ∀ ts : List (List Nat), (joinT sep ts).length ≤ (ts.map (·.length)).sum + ts.length * sep.length
  | [] => by simp [joinT]
  | [x] => by simp [joinT]
  | x :: y :: r => by
    have := joinT_len sep (y :: r)
    simp only [joinT, List.length_append, List.map_cons, List.sum_cons, List.length_cons, Nat.add_mul] at this ⊢
    omega
theorem joinT_mem (sep : List Nat) {c : Nat} : ∀ {ts : List (List Nat)}, c ∈ joinT sep ts → c ∈ sep ∨ ∃ t ∈ ts, c ∈ t
  | [], h => by simp [joinT] at h
  | [x], h => .inr ⟨x, by simp, h⟩
  | x :: y :: r, h => by
    simp only [joinT, List.mem_append] at h
    rcases h with (h | h) | h
    · exact .inr ⟨x, by simp, h⟩
    · exact .inl h
    · rcases joinT_mem sep h with q | ⟨t, h1, h2⟩
      · exact .inl q
      · exact .inr ⟨t, by simp [h1], h2⟩

section
variable {T : Tp} {G : Gl} {n : Nat} {C : Cx} {A : Around} {W : Wd}

theorem texts_vals {xs : List AV} {vs : List Value} (r : W.Vs T xs vs) : ∀ {ts : List (List Nat)}, textsA xs = some ts → StrsAre vs (ts.map tS) ∧ ∀ t ∈ ts, okS t := by
  induction r with
  | nil => intro ts e; cases e; exact ⟨.nil, fun t h => by cases h⟩
  | cons a _ ih =>
    intro ts e
    rw [textsA, mapO_cons] at e
    cases a with
    | str tk ok =>
      rename_i xs _ _ _
      cases e2 : mapO asStr xs with
      | none => rw [e2] at e; cases e
      | some ms =>
        rw [e2] at e
        cases e
        obtain ⟨h1, h2⟩ := ih e2
        exact ⟨.cons _ _ h1, fun u hu => by
          rcases List.mem_cons.mp hu with rfl | hu
          · exact ok
          · exact h2 u hu⟩
    | _ => cases e

noncomputable def bmId : Bm → String
  | .append => "list.append"
  | .join => "str.join"

/-- the method's place -/
theorem bm_on (I : Inv T W) {m : Bm} {x : AV} {v : Value} (r : W.V T x v) (hk : bmKd m x W.σ = true) {pos : Pos} {trees : List (Bool × Sem Value)} {Q : Value → Shared → Prop} {E : Value → Shared → Prop}
    (h : wpAny T.M A (callWith pos (.builtin (bmId m)) [v] trees []) Q E W.s) : MethodOn T.prog T.w A (bmNm m) pos v trees Q E W.s := by
  cases m with
  | append =>
    obtain ⟨xs, hx⟩ := Option.isSome_iff_exists.mp hk
    obtain ⟨l, rfl, hx'⟩ := listAt_ok hx
    obtain ⟨a, vs, k, rfl, _, ho, _⟩ := I.listAt hx' r
    exact ⟨"list", "list.append", F.plainAttrs_list, F.slot_list_append, F.type_list_append, ⟨_, ho, rfl⟩, fun b e => by cases e; exact ⟨_, ho, rfl⟩, h⟩
  | join =>
    cases r with
    | str t ok => exact ⟨"str", "str.join", F.plainAttrs_str, F.slot_str_join, F.type_str_join, typeIs_str _ _ _, fun b e => (by cases e), h⟩
    | _ => cases hk

theorem does_bmA (I : Inv T W) {m : Bm} {x : AV} {as : List AV} {v : Value} {vals : List Value} (rx : W.V T x v) (r : W.Vs T as vals) (hn : bmA m x as W.σ ≠ .fail) : Does T A noX W (call (.builtin (bmId m)) (v :: vals)) (bmA m x as W.σ) (VW T) := by
  cases r with
  | nil => exact absurd rfl hn
  | cons rw' r' =>
    cases r' with
    | cons _ _ => exact absurd rfl hn
    | nil =>
      rename_i w vw
      cases m with
      | append =>
        cases x with
        | ref l =>
          have e0 : bmA .append (.ref l) [w] W.σ = match W.σ[l]? with | some (.list xs) => if xs.length < lim then .ok .none (W.σ.set l (.list (xs ++ [w]))) else .fail | none => .fail := rfl
          rw [e0] at hn ⊢
          cases hx : W.σ[l]? with
          | none => rw [hx] at hn; exact absurd rfl hn
          | some o =>
            cases o
            rename_i xs
            rw [hx] at hn
            by_cases hl : xs.length < lim
            · simp only [if_pos hl]
              obtain ⟨a, vs, k, rfl, hb, ho, ra, _⟩ := I.listAt hx rx
              refine wpAny_list_append_plain ⟨k, ho⟩ (fun h' hn' hs => ?_) (by have := vrs_size ra; rw [← lim_eq]; omega)
              obtain ⟨k', ho'⟩ := hn'
              have own_a := I.ownb _ _ hb
              have g := I.upd (o := .list (xs ++ [w])) (s' := { W.s with heap := h' }) hb (fun b q f e => ?_) (fun b q => ?_) rfl rfl fun x => ⟨vs.push vw, k', ho', ?_, ?_⟩
              · exact ⟨.none, _, rfl, rfl, g.1, g.2, .none⟩
              · by_cases z : b = a
                · subst z; exact ⟨_, ho'⟩
                · exact ⟨q, (hs.2 b z).trans e⟩
              · exact hs.2 b fun z => q (z ▸ own_a)
              · have h1 := VRs.ext x .no ra
                have h2 := VR.ext x .no rw'
                rw [Array.toList_push]
                exact h1.append (.cons h2 .nil)
              · rw [List.length_append]; exact hl
            · simp only [if_neg hl] at hn; exact absurd rfl hn
        | _ => exact absurd rfl hn
      | join =>
        cases rx with
        | str tk oks =>
          rename_i sep
          have e0 : bmA .join (.str sep) [w] W.σ = match (listAt W.σ w).bind textsA with | some ts => if (ts.map (·.length)).sum + ts.length * sep.length ≤ lim then .ok (.str (joinT sep ts)) W.σ else .fail | none => .fail := rfl
          rw [e0] at hn ⊢
          cases hts : (listAt W.σ w).bind textsA with
          | none => rw [hts] at hn; exact absurd rfl hn
          | some ts =>
            rw [hts] at hn
            by_cases hl : (ts.map (·.length)).sum + ts.length * sep.length ≤ lim
            · simp only [if_pos hl]
              obtain ⟨xs, h0, hts'⟩ := Option.bind_eq_some_iff.mp hts
              obtain ⟨l, rfl, hx⟩ := listAt_ok h0
              obtain ⟨a, vs, k, rfl, hb, ho, ra, _⟩ := I.listAt hx rw'
              obtain ⟨h1, h2⟩ := texts_vals ra hts'
              have hsum : ((ts.map tS).map (·.length)).sum + (ts.map tS).length * (tS sep).length ≤ 16777216 := by
                rw [List.map_map, List.length_map, tS_length]
                have e2 : ((fun x : Str => x.length) ∘ tS) = (fun t : List Nat => t.length) := funext fun t => tS_length t
                rw [e2]; exact hl
              refine join_list ⟨_, ho, rfl, k, rfl⟩ h1 hsum fun t' k' => ?_
              rw [join_tS]
              have g := I.toks k'
              refine ⟨_, { W with s := { W.s with toks := k' } }, rfl, rfl, g.1, g.2, .str _ ⟨fun c hc => ?_, Nat.le_trans (joinT_len sep ts) hl⟩⟩
              rcases joinT_mem sep hc with q | ⟨t, q1, q2⟩
              · exact oks.1 c q
              · exact (h2 t q1).1 c q2
            · simp only [if_neg hl] at hn; exact absurd rfl hn
        | _ => exact absurd rfl hn
end
end Mine

/-! Soundness, part 12: all expressions (typed by hand). -/
set_option Elab.async false
namespace Mine
open PySem PySem.SeqAt PySem.Spec PySem.W PySem.Calls

section
variable {T : Tp} {G : Gl} {n : Nat} {C : Cx}

theorem does_part {m : ME} (ih : SE T G n C m) {e : Option Expr} {sl : List (Nat × Str)} {A : Around} {W : Wd} {env : Env} {vs : Vs} (hm : mO m (mtE G env.scope sl m) e = true) (a : AOk n A) (F : Fm T W env sl vs) (I : Inv T W) (hn : ev C m W.σ vs ≠ .fail) :
    Does T A noX W (evalPart e env) (ev C m W.σ vs) (VW T) := by
  rcases mO_inv hm with ⟨rfl, rfl⟩ | ⟨e', rfl, hm⟩
  · exact Does.ok (wpAny_evalPart_none ⟨W, rfl, rfl, I, .refl _ _, .none⟩)
  · exact wpAny_evalPart_some (ih e' sl A W env vs hm a F I hn)

theorem folded_no {v : Expr} (h : notSet v = true) (env : Env) (x : Value) : foldedSetIterable v env x = pure x := by
  cases v with
  | Set _ _ _ => cases h
  | _ => rfl
theorem few_args {pos : Pos} {env : Env} {es : List Expr} (h : plainArgs es = true) (hl : es.length < 30) : ((backTo pos (starEach es env)).all (fun x => !x.1) && (backToKw pos (keywordEach [] env)).all (fun x => x.1.isSome)
      && decide (es.length + ([] : List Keyword).length + (if ([] : List Keyword).isEmpty then 0 else 1) < 30)) = true := by
  have h1 : (backTo pos (starEach es env)).all (fun x => !x.1) = true := by
    have := backTo_plain (env := env) (pos := pos) h
    rw [List.any_eq_false] at this
    rw [List.all_eq_true]
    intro p hp
    have := this p hp
    simpa using this
  rw [h1]
  have h2 : (backToKw pos (keywordEach [] env)).all (fun x => x.1.isSome) = true := rfl
  rw [h2]
  simpa using hl

/-- a call of a value, with its arguments -/
theorem does_args {A : Around} {W : Wd} {env : Env} {sl : List (Nat × Str)} {vs : Vs} {pos : Pos} {f : Value} {first : List Value} {args : List ME} {as : List Expr} {g : List AV → Hp → Out AV} (ih : ∀ m ∈ args, SE T G n C m) (h : mtEs G env.scope sl args as = true) (hk : Callee T f)
    (a : AOk n A) (F : Fm T W env sl vs) (I : Inv T W) (hn : (evs C args W.σ vs).bind g ≠ .fail)
    (hc : ∀ xs vals W', Inv T W' → Le noX W W' → evs C args W.σ vs = .ok xs W'.σ → W'.Vs T xs vals → g xs W'.σ ≠ .fail → Does T A noX W' (call f (first ++ vals)) (g xs W'.σ) (VW T)) :
    Does T A noX W (callWith pos f first (backTo pos (starEach as env)) []) ((evs C args W.σ vs).bind g) (VW T) := by
  cases args with
  | nil =>
    obtain rfl := mtEs_nil h
    exact does_callWith0 I hk (hc [] [] W I (.refl _ _) rfl .nil hn)
  | cons m ms =>
    obtain ⟨n1, n2⟩ := Out.bind_ok hn
    obtain ⟨e, r, rfl, _⟩ := mtEs_cons h
    exact does_callWith (mtEs_plain h) hk (does_evs (m :: ms) ih (e :: r) sl A W env vs pos h a F I n1) fun xs vals W' I' l' e1 rr => hc xs vals W' I' l' e1 rr (n2 xs W'.σ e1)

theorem sound_e_aux (hT : T.Ok) (hG : GlOk T G) (hC : CallsOk T n C.call) (k : Nat) (ih : ∀ m : ME, sizeOf m < k → SE T G n C m) (m : ME) (hk : sizeOf m < k + 1) : SE T G n C m := by
  intro e sl A W env vs hm a F I hn
  have hu : A.units + 65 < cLine := by have := a.units; omega
  cases m with
  | none =>
    obtain ⟨c, hx, h⟩ := any_inv hm
    obtain ⟨_, _, rfl⟩ := asC_inv hx
    obtain rfl := isNoneC_eq h
    exact does_none I
  | bool b =>
    obtain ⟨c, hx, h⟩ := any_inv hm
    obtain ⟨_, _, rfl⟩ := asC_inv hx
    cases c with
    | bool c => obtain rfl := eq_of_beq (show (b == c) = true from h); exact does_bool I
    | _ => cases h
  | int i =>
    obtain ⟨c, hx, h⟩ := any_inv hm
    obtain ⟨_, _, rfl⟩ := asC_inv hx
    obtain rfl := isIntC_eq h
    exact does_int I
  | str s =>
    obtain ⟨c, hx, h⟩ := any_inv hm
    obtain ⟨_, _, rfl⟩ := asC_inv hx
    cases c with
    | str c =>
      have h' : (c == tS s) = true ∧ okSb s = true := by rw [← Bool.and_eq_true]; exact h
      obtain rfl := eq_of_beq h'.1
      exact does_str I (okS_of h'.2)
    | _ => cases h
  | var i =>
    obtain ⟨x, hx, h⟩ := any_inv hm
    obtain ⟨_, rfl⟩ := asName_inv hx
    rw [Bool.and_eq_true] at h
    rw [ev_q6] at hn ⊢
    split at hn
    · rename_i v hv
      exact does_var F I (List.contains_iff_mem.mp h.1) hv (by simpa using h.2)
    · exact absurd rfl hn
  | bin op l r =>
    obtain ⟨l', op', r', p, rfl, h1, h2, h3⟩ := inv_bin hm
    rw [ev_q7] at hn ⊢
    obtain ⟨n1, n2⟩ := Out.bind_ok hn
    refine does_bin (y := fun h => ev C r h vs) (z := fun a b h => binA op a b h) (ih l (by simp at hk; omega) _ sl A W env vs h2 a F I n1) (fun x W' I' l' e' => ih r (by simp at hk; omega) _ sl A W' env vs h3 a (F.le l') I' (Out.bind_ok (n2 x W'.σ e')).1) fun x y vx vy W' I' l' ee rx ry => ?_
    obtain ⟨σ, e1, e2⟩ := ee
    exact does_binA I' h1 rx ry ((Out.bind_ok (n2 x σ e1)).2 y W'.σ e2)
  | not e0 =>
    obtain ⟨e', p, rfl, hm⟩ := inv_not hm
    rw [ev_q8] at hn ⊢
    obtain ⟨n1, n2⟩ := Out.bind_ok hn
    refine wpAny_UnaryOp ((ih e0 (by simp at hk; omega) _ sl A W env vs hm a F I n1).cps (fun x W' v e1 I' l' r => ?_) fun _ _ q => q.elim)
    have n3 := n2 x W'.σ e1
    refine PyProof.Rows.not_of (does_truthD (α := AV) (g := fun b h => .ok (.bool (!b)) h) I' r n3 fun b W'' I'' l'' es q => ?_)
    exact ⟨.bool (!b), W'', rfl, by rw [e1]; simp only [Out.bind, q, es], I'', l'.trans l'', .bool _⟩
  | and es =>
    obtain ⟨es', p, rfl, hm⟩ := inv_and hm
    exact does_and .And es (fun m' hm' => ih m' (by have := List.sizeOf_lt_of_mem hm'; simp at hk; omega)) _ sl A W env vs _ hm a F I hn
  | or es =>
    obtain ⟨es', p, rfl, hm⟩ := inv_or hm
    exact does_and .Or es (fun m' hm' => ih m' (by have := List.sizeOf_lt_of_mem hm'; simp at hk; omega)) _ sl A W env vs _ hm a F I hn
  | cmp l op r =>
    obtain ⟨l', op', r', p, rfl, h1, h2, h0, h3⟩ := inv_cmp hm
    rw [ev_q11] at hn ⊢
    obtain ⟨n1, n2⟩ := Out.bind_ok hn
    refine wpAny_Compare1 (does_two (y := fun h => ev C r h vs) (z := fun x y h => match cmpA op x y h with | some b => .ok (.bool b) h | Option.none => .fail) (ih l (by simp at hk; omega) _ sl A W env vs h2 a F I n1)
      (fun x W' I' l' e' => ih r (by simp at hk; omega) _ sl A W' env vs h3 a (F.le l') I' (Out.bind_ok (n2 x W'.σ e')).1) (fun x y vx vy W' I' l' ee rx ry => ?_) (fun _ _ q => q) fun _ _ q => q) (marks_of op' h0)
    obtain ⟨σ, e1, e2⟩ := ee
    have n4 := (Out.bind_ok (n2 x σ e1)).2 y W'.σ e2
    cases q : cmpA op x y W'.σ with
    | none => rw [q] at n4; exact absurd rfl n4
    | some b => exact Does.keep I' fun Q E qq => does_cmpA I' h1 rx ry hu q Q E fun k => qq _ _ (.bool _)
  | list es =>
    obtain ⟨x, hx, h⟩ := any_inv hm
    obtain ⟨_, rfl⟩ := asLst_inv hx
    rw [ev_q14] at hn ⊢
    exact does_spliced_list (does_evs es (fun m' hm' => ih m' (by have := List.sizeOf_lt_of_mem hm'; simp at hk; omega)) _ sl A W env vs _ h a F I (Out.bind_ok hn).1) hn
  | idx o i =>
    obtain ⟨o', i', p, rfl, h0, h1, h2⟩ := inv_sub hm
    rw [ev_q15] at hn ⊢
    obtain ⟨n1, n2⟩ := Out.bind_ok hn
    refine PyProof.Rows.Subscript_ (does_two (y := fun h => ev C i h vs) (z := fun x y h => match idxA x y h with | some v => .ok v h | Option.none => .fail) (ih o (by simp at hk; omega) _ sl A W env vs h1 a F I n1)
        (fun x W' I' l' e' => ih i (by simp at hk; omega) _ sl A W' env vs h2 a (F.le l') I' (Out.bind_ok (n2 x W'.σ e')).1) (fun x y vx vy W' I' l' ee rx ry => ?_) (fun _ _ q => q) fun _ _ q => q)
    obtain ⟨σ, e1, e2⟩ := ee
    have n4 := (Out.bind_ok (n2 x σ e1)).2 y W'.σ e2
    cases q : idxA x y W'.σ with
    | none => rw [q] at n4; exact absurd rfl n4
    | some b => exact does_idxA I' h0 rx ry q
  | slice o lo hi =>
    obtain ⟨o', lo', hi', p', p, rfl, h1, h2, h3⟩ := inv_slice hm
    rw [ev_q16] at hn ⊢
    obtain ⟨n1, n2⟩ := Out.bind_ok hn
    refine PyProof.Rows.Subscript_ ((ih o (by simp at hk; omega) _ sl A W env vs h1 a F I n1).cps (fun x W1 vx e1 I1 l1 rx => ?_) fun _ _ q => q.elim)
    obtain ⟨m1, m2⟩ := Out.bind_ok (n2 x W1.σ e1)
    refine wpAny_Slice ((does_part (ih lo (by simp at hk; omega)) h2 a (F.le l1) I1 m1).cps (fun y W2 vy e2 I2 l2 ry => ?_) fun _ _ q => q.elim)
    obtain ⟨k1, k2⟩ := Out.bind_ok (m2 y W2.σ e2)
    refine (does_part (ih hi (by simp at hk; omega)) h3 a (F.le (l1.trans l2)) I2 k1).cps (fun z W3 vz e3 I3 l3 rz => ?_) fun _ _ q => q.elim
    refine wpAny_evalPart_none ?_
    have g := I3.grow (s' := { W3.s with heap := W3.h.push { cls := .type "slice", data := .fields #[vy, vz, .none] } }) (fun a q e => Heap.get?_push_of_some _ e) rfl rfl
    refine (does_sliceA g.1 ((rx.le (l2.trans l3)).le g.2) ((ry.le l3).le g.2) (rz.le g.2) (Heap.get?_push_size _ rfl) (k2 z W3.σ e3)).up (((l1.trans l2).trans l3).trans g.2) ?_
    rw [e1]; show (ev C lo W1.σ vs).bind _ = _; rw [e2]; show (ev C hi W2.σ vs).bind _ = _; rw [e3]; rfl
  | call f args =>
    obtain ⟨fe, as, p, rfl, h1, h2⟩ := inv_call hm
    obtain ⟨x, p', rfl, h3, h4⟩ := callOk_name h1
    rw [ev_q17] at hn ⊢
    refine wpAny_Call_NameR (does_global hT hG I F h3 h4 ?_)
    have hke := hG.callee x f h4
    rw [hG.fa]
    exact does_args (fun m' hm' => ih m' (by have := List.sizeOf_lt_of_mem hm'; simp at hk; omega)) h2 hke a F I hn fun xs vals W' I' _ _ r n2 => hC.does f xs vals A W' a I' r n2
  | bi b args =>
    obtain ⟨fe, as, p, rfl, h1, h2⟩ := inv_bi hm
    obtain ⟨x, p', rfl, h3⟩ := biName_name h1
    rw [ev_q18] at hn ⊢
    refine wpAny_Call_NameR (does_bi_name hT hG I F h3 ?_)
    exact does_args (fun m' hm' => ih m' (by have := List.sizeOf_lt_of_mem hm'; simp at hk; omega)) h2 (callee_bi b) a F I hn fun xs vals W' I' _ _ r n2 => does_biA I' a.handled r n2
  | inst e0 k =>
    obtain ⟨fe, y, z, p, rfl, h1, hs, h2, h5⟩ := inv_inst hm
    obtain ⟨x, p', rfl, h3⟩ := biName_name h1
    obtain ⟨z, pz, rfl, h4⟩ := biName_name h5
    rw [ev_q20] at hn ⊢
    obtain ⟨n1, n2⟩ := Out.bind_ok hn
    refine wpAny_Call_NameR (does_bi_name hT hG I F h3 ?_)
    refine callWith_of (P := fun h => T.base.StaysIn h) (by rw [starEach_plain hs]; rfl) (callee_builtin _) ?_
    rw [starEach_plain hs]
    refine evalArgs_plain (spliced_cons ((ih e0 (by simp at hk; omega) _ sl A W env vs h2 a F I n1).cps (fun x W' v e1 I' l' r => ?_) fun _ _ q => q.elim))
    refine spliced_cons (does_bi_name hT hG I' (F.le l') h4 (spliced_nil ⟨I'.base, ?_⟩))
    have n3 := n2 x W'.σ e1
    cases q : instA W'.σ x k with
    | none => rw [q] at n3; exact absurd rfl n3
    | some b => exact (does_instA I' r q).up l' (by rw [e1]; simp only [Out.bind, q])
  | powc p q =>
    obtain ⟨⟨l, op, r⟩, hx, h⟩ := any_inv hm
    obtain ⟨_, rfl⟩ := asBin_inv hx
    simp only [Bool.and_eq_true, decide_eq_true_eq] at h
    obtain ⟨⟨⟨⟨rfl, h4⟩, h5⟩, h6⟩, h7⟩ := h
    obtain ⟨c, hc, h6⟩ := any_inv h6
    obtain ⟨d, hd, h7⟩ := any_inv h7
    obtain ⟨_, _, rfl⟩ := asC_inv hc
    obtain ⟨_, _, rfl⟩ := asC_inv hd
    obtain rfl := isIntC_eq h6
    obtain rfl := isIntC_eq h7
    refine wpAny_BinOp (wpAny_Constant_int (wpAny_Constant_int (PyProof.Rows.pow_int_small (by omega) (by omega) (by omega) ?_)))
    have g := I.toks (W.s.toks + 1 + 1 + 1)
    refine ⟨_, { W with s := { W.s with toks := W.s.toks + 1 + 1 + 1 } }, rfl, ?_, g.1, g.2, .int _ _⟩
    show _ = Out.ok _ W.σ
    congr 2
  | isNone e0 =>
    obtain ⟨l', c, k', p', p, rfl, h2, h3⟩ := inv_is hm
    obtain rfl := isNoneC_eq h3
    rw [ev_isNone] at hn ⊢
    obtain ⟨n1, n2⟩ := Out.bind_ok hn
    refine wpAny_Compare1 ((ih e0 (by simp at hk; omega) _ sl A W env vs h2 a F I n1).cps (fun x W' vx e1 I' l' rx => ?_) fun _ _ q => q.elim) rfl
    exact wpAny_Constant_none (does_is_none rx ⟨.bool (isNA x), W', rfl, by rw [e1]; rfl, I', l', .bool _⟩)
  | isTrue e0 =>
    obtain ⟨l', c, k', p', p, rfl, h2, h3⟩ := inv_is hm
    obtain rfl := isTrueC_eq h3
    rw [ev_isTrue] at hn ⊢
    obtain ⟨n1, n2⟩ := Out.bind_ok hn
    refine wpAny_Compare1 ((ih e0 (by simp at hk; omega) _ sl A W env vs h2 a F I n1).cps (fun x W' vx e1 I' l' rx => ?_) fun _ _ q => q.elim) rfl
    exact wpAny_Constant_bool (does_is_true rx ⟨.bool (isTA x), W', rfl, by rw [e1]; rfl, I', l', .bool _⟩)
  | bm m o args =>
    obtain ⟨o', apos, as, pos, rfl, h2, h4, h5, h6, h3⟩ := inv_bm hm
    rw [ev_q19] at hn ⊢
    obtain ⟨n1, n2⟩ := Out.bind_ok hn
    have hbase : attributeBase o' (bmNm m) env (eval o' env) = eval o' env := by
      cases o' with
      | Call _ _ _ _ => cases h6
      | _ => rfl
    refine wpAny_Call_method_late hbase (few_args (mtEs_plain h4) h2) (by simpa using h5) rfl ((ih o (by simp at hk; omega) _ sl A W env vs h3 a F I n1).cps (fun x W1 vx e1 I1 l1 r1 => ?_) fun _ _ q => q.elim)
    have n3 := n2 x W1.σ e1
    by_cases hb : bmKd m x W1.σ = true
    · rw [if_pos hb] at n3
      refine bm_on I1 r1 hb ?_
      have key := does_args (first := [vx]) (pos := pos) (fun m' hm' => ih m' (by have := List.sizeOf_lt_of_mem hm'; simp at hk; omega)) h4 (callee_builtin (bmId m)) a (F.le l1) I1 n3 fun xs vals W' I' l' _ r n4 => does_bmA I' (r1.le l') r n4
      exact key.up l1 (by rw [e1]; simp only [Out.bind, if_pos hb])
    · rw [if_neg hb] at n3; exact absurd rfl n3
  | comp elt x src conds =>
    obtain ⟨elt', nm, px, it, ifs, sc', p, rfl, h6, h2, h3, h4, h5⟩ := inv_comp hm
    have st := tests_of k ih
    exact does_comp (ih elt (by simp at hk; omega)) (ih src (by simp at hk; omega)) (fun m' hm' => st m' (by have := List.sizeOf_lt_of_mem hm'; simp at hk; omega)) (scOk_of h2) (folded_no h6 _) h3 h5 h4 a F I hn

theorem sound_e (hT : T.Ok) (hG : GlOk T G) (hC : CallsOk T n C.call) (m : ME) : SE T G n C m := by
  have h : ∀ k, ∀ m : ME, sizeOf m < k → SE T G n C m := fun k => by
    induction k with
    | zero => intro m h; omega
    | succ k ih => exact fun m hk => sound_e_aux hT hG hC k ih m hk
  exact h _ m (Nat.lt_succ_self _)

theorem sound_t (hT : T.Ok) (hG : GlOk T G) (hC : CallsOk T n C.call) (m : ME) : ST T G n C m :=
  tests_of (sizeOf m + 1) (fun m' _ => sound_e hT hG hC m') m (Nat.lt_succ_self _)
end
end Mine

/-! Soundness, part 16: statements (typed by hand). -/
set_option Elab.async false
namespace Mine
open PySem PySem.SeqAt PySem.Spec PySem.W PySem.Calls

/-- the name of a slot -/
noncomputable def slotName (sl : List (Nat × Str)) (i : Nat) (e : Expr) : Bool := (asName e).any fun x => sl.contains (i, x)
noncomputable def noOther : Expr → Bool
  | .SetComp .. => false
  | .DictComp .. => false
  | _ => true
inductive ViewS where
  | A (ts : List Expr) (v : Expr) (p : Pos)
  | E (v : Expr) (p : Pos)
  | I (t : Expr) (a b : List Stmt) (p : Pos)
  | F (t it : Expr) (b o : List Stmt) (p : Pos)
  | R (v : Option Expr) (p : Pos)
  | P (p : Pos)
  | other
noncomputable def viewS : Stmt → ViewS
  | .Assign ts v p => .A ts v p
  | .Expr v p => .E v p
  | .If t a b p => .I t a b p
  | .For t it b o p => .F t it b o p
  | .Return v p => .R v p
  | .Pass p => .P p
  | _ => .other
noncomputable def ViewS.st : ViewS → Option Stmt
  | .A ts v p => some (.Assign ts v p)
  | .E v p => some (.Expr v p)
  | .I t a b p => some (.If t a b p)
  | .F t it b o p => some (.For t it b o p)
  | .R v p => some (.Return v p)
  | .P p => some (.Pass p)
  | .other => none
theorem viewS_st (s : Stmt) : ∀ s', (viewS s).st = some s' → s = s' := by
  cases s <;> intro e' h <;> first | exact Option.some.inj h | cases h
mutual
noncomputable def mtS (G : Gl) (sc : Scope) (sl : List (Nat × Str)) (m : MS) (s : ViewS) : Bool := match m with
  | .set x e => (match s with
    | .A ts v _ => (one ts).any (slotName sl x) && noOther v && mtE G sc sl e v
    | _ => false)
  | .expr e => (match s with
    | .E v _ => notComp v && mtE G sc sl e v
    | _ => false)
  | .ifs t a b => (match s with
    | .I t' a' b' _ => mtE G sc sl t t' && mtSs G sc sl a a' && mtSs G sc sl b b'
    | _ => false)
  | .loop x src body => (match s with
    | .F tgt it b' orelse _ => slotName sl x tgt && notSet it && mtE G sc sl src it && orelse.isEmpty && mtSs G sc sl body b'
    | _ => false)
  | .ret e => (match s with
    | .R v _ => mO e (mtE G sc sl e) v
    | _ => false)
  | .pass => (match s with
    | .P _ => true
    | _ => false)
noncomputable def mtSs (G : Gl) (sc : Scope) (sl : List (Nat × Str)) (ms : List MS) (ss : List Stmt) : Bool := match ms with
  | [] => ss.isEmpty
  | m :: ms => (ss.head?).any (fun s => mtS G sc sl m (viewS s)) && mtSs G sc sl ms ss.tail
end
theorem mtSs_nil {G : Gl} {sc : Scope} {sl : List (Nat × Str)} {ss : List Stmt} (h : mtSs G sc sl [] ss = true) : ss = [] := List.isEmpty_iff.mp h
theorem mtSs_cons {G : Gl} {sc : Scope} {sl : List (Nat × Str)} {m : MS} {ms : List MS} {ss : List Stmt} (h : mtSs G sc sl (m :: ms) ss = true) : ∃ s r, ss = s :: r ∧ mtS G sc sl m (viewS s) = true ∧ mtSs G sc sl ms r = true := by
  have h : ((ss.head?).any (fun s => mtS G sc sl m (viewS s)) && mtSs G sc sl ms ss.tail) = true := h
  rw [Bool.and_eq_true] at h
  cases ss with
  | nil => exact absurd h.1 (by simp)
  | cons s r => exact ⟨s, r, rfl, h.1, h.2⟩

theorem slotName_name {sl : List (Nat × Str)} {i : Nat} {e : Expr} (h : slotName sl i e = true) : ∃ x p, e = .Name x p ∧ (i, x) ∈ sl := by
  obtain ⟨x, hx, h⟩ := any_inv h
  obtain ⟨p, rfl⟩ := asName_inv hx
  exact ⟨x, p, rfl, List.contains_iff_mem.mp (by simpa [asName, view, slotName] using h)⟩
section
variable {G : Gl} {sc : Scope} {sl : List (Nat × Str)} {s : Stmt}
theorem invS_set {x : Nat} {e : ME} (h : mtS G sc sl (.set x e) (viewS s) = true) : ∃ nm p v pos, s = .Assign [.Name nm p] v pos ∧ (x, nm) ∈ sl ∧ noOther v = true ∧ mtE G sc sl e v = true := by
  have q := viewS_st s
  revert q h
  cases viewS s with
  | A ts v pos =>
    intro h q
    have h : ((one ts).any (slotName sl x) && noOther v && mtE G sc sl e v) = true := h
    simp only [Bool.and_eq_true] at h
    obtain ⟨t, h1, h2⟩ := any_inv h.1.1
    obtain rfl := one_inv h1
    obtain ⟨nm, p, rfl, h3⟩ := slotName_name h2
    exact ⟨nm, p, v, pos, q _ rfl, h3, h.1.2, h.2⟩
  | _ => intro h; cases h
theorem invS_expr {e : ME} (h : mtS G sc sl (.expr e) (viewS s) = true) : ∃ v pos, s = .Expr v pos ∧ notComp v = true ∧ mtE G sc sl e v = true := by
  have q := viewS_st s
  revert q h
  cases viewS s with
  | E v pos =>
    intro h q
    have h : (notComp v && mtE G sc sl e v) = true := h
    rw [Bool.and_eq_true] at h
    exact ⟨v, pos, q _ rfl, h.1, h.2⟩
  | _ => intro h; cases h
theorem invS_ifs {t : ME} {a b : List MS} (h : mtS G sc sl (.ifs t a b) (viewS s) = true) : ∃ t' a' b' pos, s = .If t' a' b' pos ∧ mtE G sc sl t t' = true ∧ mtSs G sc sl a a' = true ∧ mtSs G sc sl b b' = true := by
  have q := viewS_st s
  revert q h
  cases viewS s with
  | I t' a' b' pos =>
    intro h q
    have h : (mtE G sc sl t t' && mtSs G sc sl a a' && mtSs G sc sl b b') = true := h
    simp only [Bool.and_eq_true] at h
    exact ⟨t', a', b', pos, q _ rfl, h.1.1, h.1.2, h.2⟩
  | _ => intro h; cases h
theorem invS_loop {x : Nat} {src : ME} {body : List MS} (h : mtS G sc sl (.loop x src body) (viewS s) = true) : ∃ nm p it b' pos, s = .For (.Name nm p) it b' [] pos ∧ (x, nm) ∈ sl ∧ notSet it = true ∧ mtE G sc sl src it = true ∧ mtSs G sc sl body b' = true := by
  have q := viewS_st s
  revert q h
  cases viewS s with
  | F tgt it b' o pos =>
    intro h q
    have h : (slotName sl x tgt && notSet it && mtE G sc sl src it && o.isEmpty && mtSs G sc sl body b') = true := h
    simp only [Bool.and_eq_true, List.isEmpty_iff] at h
    obtain ⟨⟨⟨⟨h1, h2⟩, h3⟩, rfl⟩, h4⟩ := h
    obtain ⟨nm, p, rfl, h5⟩ := slotName_name h1
    exact ⟨nm, p, it, b', pos, q _ rfl, h5, h2, h3, h4⟩
  | _ => intro h; cases h
theorem invS_ret {e : ME} (h : mtS G sc sl (.ret e) (viewS s) = true) : ∃ v pos, s = .Return v pos ∧ mO e (mtE G sc sl e) v = true := by
  have q := viewS_st s
  revert q h
  cases viewS s with
  | R v pos => intro h q; exact ⟨v, pos, q _ rfl, h⟩
  | _ => intro h; cases h
theorem invS_pass (h : mtS G sc sl .pass (viewS s) = true) : ∃ pos, s = .Pass pos := by
  have q := viewS_st s
  revert q h
  cases viewS s with
  | P pos => intro h q; exact ⟨pos, q _ rfl⟩
  | _ => intro h; cases h
end

section
variable {T : Tp} {G : Gl} {n : Nat} {C : Cx}

noncomputable def PostS (T : Tp) (env : Env) (sl : List (Nat × Str)) (W : Wd) (r : OutS) (f : Flow) (s' : Shared) : Prop :=
  ∃ W', W'.s = s' ∧ Inv T W' ∧ Le (frX env) W W' ∧ ((∃ vs', r = .next W'.σ vs' ∧ f = .next ∧ Fs T W' env sl vs') ∨ ∃ av v, r = .ret av W'.σ ∧ f = .ret v ∧ W'.V T av v)
noncomputable def DoesS (T : Tp) (A : Around) (env : Env) (sl : List (Nat × Str)) (W : Wd) (t : Sem Flow) (r : OutS) : Prop := wpAny T.M A t (PostS T env sl W r) PostX W.s

theorem DoesS.up {A : Around} {env : Env} {sl : List (Nat × Str)} {W₀ W : Wd} {t : Sem Flow} {r r₀ : OutS} (h : DoesS T A env sl W t r) (l : Le (frX env) W₀ W) (e : r₀ = r) : wpAny T.M A t (PostS T env sl W₀ r₀) PostX W.s := by
  subst e
  exact wpAny_mono h (fun f _ ⟨W', e, I, l', r⟩ => ⟨W', e, I, l.trans l', r⟩) fun _ _ q => q

noncomputable def SS (T : Tp) (G : Gl) (n : Nat) (C : Cx) (m : MS) : Prop :=
  ∀ (st : Stmt) (sl : List (Nat × Str)) (A : Around) (W : Wd) (env : Env) (vs : Vs), mtS G env.scope sl m (viewS st) = true → AOk n A → Fs T W env sl vs → Inv T W → ex C m W.σ vs ≠ .fail → DoesS T A env sl W (exec st env) (ex C m W.σ vs)

theorem does_exs : ∀ (ms : List MS), (∀ m ∈ ms, SS T G n C m) → ∀ (ss : List Stmt) (sl : List (Nat × Str)) (A : Around) (W : Wd) (env : Env) (vs : Vs), mtSs G env.scope sl ms ss = true → AOk n A → Fs T W env sl vs → Inv T W → exs C ms W.σ vs ≠ .fail →
    DoesS T A env sl W (execs ss env) (exs C ms W.σ vs) := by
  intro ms
  induction ms with
  | nil =>
    intro _ ss sl A W env vs h _ F I _
    rw [mtSs_nil h]
    exact wpAny_execs_nil ⟨W, rfl, I, .refl _ _, .inl ⟨vs, rfl, rfl, F⟩⟩
  | cons m ms ih' =>
    intro ih ss sl A W env vs h a F I hn
    obtain ⟨s, ss, rfl, h1, h2⟩ := mtSs_cons h
    rw [exs_q2] at hn ⊢
    have n1 : ex C m W.σ vs ≠ .fail := fun q => by rw [q] at hn; exact hn rfl
    refine wpAny_execs_cons (wpAny_mono (ih m (List.mem_cons_self ..) s sl A W env vs h1 a F I n1) (fun f _ ⟨W', e, I', l', d⟩ => ?_) fun _ _ q => q)
    subst e
    rcases d with ⟨vs', e1, rfl, F'⟩ | ⟨av, v, e1, rfl, r⟩
    · rw [e1] at hn ⊢
      simp only at hn ⊢
      exact (ih' (fun m' hm => ih m' (List.mem_cons_of_mem _ hm)) ss sl A W' env vs' h2 a F' I' hn).up l' rfl
    · rw [e1]
      exact ⟨W', rfl, I', l', .inr ⟨av, v, rfl, rfl, r⟩⟩

theorem swaps_no {v : Expr} (h : notComp v = true) (t : Option Expr) (k : Nat) (env : Env) : swapsWith v t k env = pure false := by
  cases v with
  | ListComp _ _ _ _ => cases h
  | SetComp _ _ _ _ => cases h
  | DictComp _ _ _ _ _ => cases h
  | _ => rfl

theorem Rd.leD {X : Addr → Prop} {W W' : Wd} {env : Env} {x : Str} {v : Value} (r : Rd W env x v) (l : Le X W W') (hd : ∀ a, frX env a → ¬ X a) : Rd W' env x v := by
  rcases r with ⟨k, f, m, nn, e⟩ | ⟨k, c, e, f, nn⟩
  · have hx := hd _ (.inl rfl)
    exact .inl ⟨k, (let ⟨_, z⟩ := ns_at nn; (l.ext.ow _ _ z hx).trans f), m, ns_ko nn fun o ho => l.ext.kp _ o ho f hx, e⟩
  · have hx := hd c (.inr ⟨x, e⟩)
    exact .inr ⟨k, c, e, (let ⟨_, z⟩ := cell_at nn; (l.ext.ow _ _ z hx).trans f), cell_ko nn fun o ho => l.ext.kp _ o ho f hx⟩

theorem Fs.leD {X : Addr → Prop} {W W' : Wd} {env : Env} {sl : List (Nat × Str)} {vs : Vs} (F : Fs T W env sl vs) (l : Le X W W') (fx : FrX X W.own W.h) (hd : ∀ a, Mine.frX env a → ¬ X a) : Fs T W' env sl vs where
  fm := ⟨F.fm.kind, F.fm.glob, F.fm.bi, F.fm.cells, fun i x hi av e => let ⟨v, r, d⟩ := F.fm.rd i x hi av e; ⟨v, r.leX l fx, d.leD l hd⟩⟩
  ns := let ⟨m, nn⟩ := F.ns; ⟨m, ns_ko nn fun o ho => l.ext.kp _ o ho F.ownL (hd _ (.inl rfl))⟩
  ownL := let ⟨_, nn⟩ := F.ns; let ⟨_, z⟩ := ns_at nn; (l.ext.ow _ _ z (hd _ (.inl rfl))).trans F.ownL
  baseL := F.baseL
  kinds := F.kinds
  cell := fun x c e => let ⟨h1, h2, h3, v, h4⟩ := F.cell x c e; let ⟨_, z⟩ := cell_at h4; ⟨(l.ext.ow _ _ z (hd _ (.inr ⟨x, e⟩))).trans h1, h2, h3, v, cell_ko h4 fun o ho => l.ext.kp _ o ho h1 (hd _ (.inr ⟨x, e⟩))⟩
  cinj := F.cinj
  inj := F.inj
  inj2 := F.inj2
  len := F.len

/-- the loop, from any turn on -/
theorem does_loop {A : Around} {W₁ : Wd} {env : Env} {sl : List (Nat × Str)} {x : Nat} {nm : Str} {p : Pos} {body : List MS} {body' : List Stmt} {src : Src} {J : Addr} (a : AOk n A) (hx : (x, nm) ∈ sl)
    (hb : ∀ (W : Wd) (vs : Vs), Fs T W env sl vs → Inv T W → exs C body W.σ vs ≠ .fail → DoesS T A env sl W (execs body' env) (exs C body W.σ vs)) {r0 : OutS} (hr : r0 ≠ .fail) (hJ : ¬ frX env J)
    (f : AV → Hp × Vs → It (Hp × Vs) OutS) (hf : f = fun v (st : Hp × Vs) => match exs C body st.1 (st.2.set x (some v)) with | .next h vs => .go (h, vs) | o => .stop o)
    {R : Result → Shared → Prop} (hR : ∀ W' fl, Inv T W' → Le (fun b => frX env b ∨ b = J) W₁ W' → ((∃ vs', r0 = .next W'.σ vs' ∧ fl = .next ∧ Fs T W' env sl vs') ∨ ∃ av v, r0 = .ret av W'.σ ∧ fl = .ret v ∧ W'.V T av v) → R (.ok fl) W'.s)
    {W : Wd} {vs : Vs} {i m : Nat} (I : Inv T W) (l : Le (fun b => frX env b ∨ b = J) W₁ W) (F : Fs T W env sl vs) (it : ItOk T W J src i)
    (e : (match iterR (fun st => srcGet src st.1) OutS.fail f m i (W.σ, vs) with | .go st => OutS.next st.1 st.2 | .stop o => o) = r0) :
    codeAny T.M A (.forLoop (.Name nm p) (.ref J) body' [] env) R W.s := by
  refine codeAny_forLoop (fun m s => ∃ W vs i, W.s = s ∧ Inv T W ∧ Le (fun b => frX env b ∨ b = J) W₁ W ∧ Fs T W env sl vs ∧ ItOk T W J src i ∧
    (match iterR (fun st => srcGet src st.1) OutS.fail f m i (W.σ, vs) with | .go st => OutS.next st.1 st.2 | .stop o => o) = r0) (fun m s ⟨W, vs, i, es, I, l, F, it, e⟩ => ?_) m ⟨W, vs, i, rfl, I, l, F, it, e⟩
  subst es
  cases m with
  | zero => simp only [iterR] at e; exact absurd e.symm hr
  | succ m =>
    simp only [iterR] at e
    cases hg : srcGet src W.σ with
    | none => rw [hg] at e; exact absurd e.symm hr
    | some xs =>
      rw [hg] at e
      simp only at e
      cases hi : xs[i]? with
      | none =>
        rw [hi] at e
        refine does_next_end I a.handled it hg hi fun W' I' l' es => wpAny_execs_nil ?_
        have l2 : Le (fun b => frX env b ∨ b = J) W W' := l'.mono fun _ q => .inr q
        exact hR W' .next I' (l.trans l2) (.inl ⟨vs, by rw [← e, es], rfl, F.leD l' it.frX fun b hb q => hJ (q ▸ hb)⟩)
      | some av =>
        rw [hi] at e
        simp only at e
        refine does_next_item I it hg hi fun v W' I' l' es it' r => ?_
        have F' : Fs T W' env sl vs := F.leD l' it.frX fun b hb q => hJ (q ▸ hb)
        refine wpAny_assign_Name (does_store F' I' hx r fun W'' I'' l'' es' F'' => ?_)
        have it'' : ItOk T W'' J src (i + 1) := it'.leX l'' F'.frX hJ
        have hf' : f av (W.σ, vs) = match exs C body W.σ (vs.set x (some av)) with | .next h vs => .go (h, vs) | o => .stop o := by rw [hf]
        have hσ : W''.σ = W.σ := es'.trans es
        have n1 : exs C body W''.σ (vs.set x (some av)) ≠ .fail := fun q => by
          rw [hσ] at q
          rw [hf', q] at e
          exact hr e.symm
        refine wpAny_mono (hb W'' _ F'' I'' n1) (fun fl _ ⟨W3, e3, I3, l3, d⟩ => ?_) fun _ _ q => q.elim
        subst e3
        have lall : Le (fun b => frX env b ∨ b = J) W W3 := ((l'.mono fun _ q => .inr q).trans (l''.mono fun _ q => .inl q)).trans (l3.mono fun _ q => .inl q)
        rw [hσ] at d
        rcases d with ⟨vs', e1, rfl, F3⟩ | ⟨av', v', e1, rfl, r3⟩
        · refine ⟨m, Nat.lt_succ_self _, W3, vs', i + 1, rfl, I3, l.trans lall, F3, it''.leX l3 F''.frX hJ, ?_⟩
          rw [← e, hf', e1]
        · refine hR W3 (.ret v') I3 (l.trans lall) (.inr ⟨av', v', ?_, rfl, r3⟩)
          rw [← e, hf', e1]

/-- what was made on the way is forgotten -/
theorem Le.forget {X : Addr → Prop} {W₀ W₁ W₂ : Wd} {J : Addr} (l : Le noX W₀ W₁) (l' : Le (fun b => X b ∨ b = J) W₁ W₂) (h : W₀.h.get? J = none) : Le X W₀ W₂ :=
  Le.drop l.ofNo l' fun b o e nx q => q.elim nx fun z => by rw [z, h] at e; cases e

theorem comp_only {sc : Scope} {sl : List (Nat × Str)} {m : ME} {elt' : Expr} {gs : List Comprehension} {sc' : Scope} {p : Pos} (h : mtE G sc sl m (.ListComp elt' gs sc' p) = true) : ∃ elt x src conds, m = .comp elt x src conds := by
  cases m with
  | comp elt x src conds => exact ⟨elt, x, src, conds, rfl⟩
  | _ => cases h

theorem sound_s_aux (hT : T.Ok) (hG : GlOk T G) (hC : CallsOk T n C.call) (k : Nat) (ih : ∀ m : MS, sizeOf m < k → SS T G n C m) (m : MS) (hk : sizeOf m < k + 1) : SS T G n C m := by
  intro st sl A W env vs hm a F I hn
  cases m with
  | set x e =>
      obtain ⟨nm, p, v, pos, rfl, hx, h2, h3⟩ := invS_set hm
      rw [ex_q1] at hn ⊢
      have n1 : ev C e W.σ vs ≠ .fail := fun q => by rw [q] at hn; exact hn rfl
      have plain : swapsWith v (some (.Name nm p)) pos.line env = pure false → DoesS T A env sl W (exec (.Assign [.Name nm p] v pos) env) (match ev C e W.σ vs with | .ok v h => .next h (vs.set x (some v)) | .fail => .fail) := fun hsw => by
        refine wpAny_Assign_Name ((sound_e hT hG hC e v sl A W env vs h3 a F.fm I n1).cps (fun av W' val e1 I' l' r => ?_) fun _ _ q => q.elim) hsw
        refine does_store (F.le l') I' hx r fun W'' I'' l'' es F'' => ?_
        rw [e1]
        exact ⟨W'', rfl, I'', l'.ofNo.trans l'', .inl ⟨_, by rw [es], rfl, F''⟩⟩
      by_cases hcv : notComp v = true
      · exact plain (swaps_no hcv _ _ _)
      · cases v <;> first | exact absurd rfl hcv | cases h2 | skip
        rename_i elt' gs sc cpos
        have hsw : swapsWith (.ListComp elt' gs sc cpos) (some (.Name nm p)) pos.line env = pure (env.blockKind == .function && env.kindOf nm == some .local && p.line == (Expr.ListComp elt' gs sc cpos).pos.line && !(sc.names.any fun (n, k) => n == nm && (k == .local || k == .cell))) := rfl
        cases hb : (env.blockKind == .function && env.kindOf nm == some .local && p.line == (Expr.ListComp elt' gs sc cpos).pos.line && !(sc.names.any fun (n, k) => n == nm && (k == .local || k == .cell))) with
        | false => exact plain (by rw [hsw, hb])
        | true =>
          rw [hb] at hsw
          obtain ⟨elt, y, src, conds, rfl⟩ := comp_only h3
          obtain ⟨_, cn, px, it, ifs, _, _, he, h6, h2, h3', h4, h5⟩ := inv_comp h3
          cases he
          have ok := scOk_of h2
          have hcl : closureFor sc env = pure (closL env.cells sc.names []) := closure_eq fun p hp q => F.fm.cells _ (ok.free p hp q)
          unfold DoesS
          rw [exec_Assign_Name_used _ _ _ _ hsw]
          refine wpAny_bind (wpAny_standAt (wpAny_bind ?_))
          rw [ev_q21] at n1 hn ⊢
          obtain ⟨m1, m2⟩ := Out.bind_ok n1
          show wpAny _ A (do let _ ← comprehension (.ListComp elt' [⟨.Name cn px, it, ifs, 0⟩] sc cpos) sc env _ (PySem.newList []) false (eval it env) (some (assign (.Name nm p) env))) _ _ W.s
          refine wpAny_bind (wpAny_mono (wpAny_comprehension_free (use := some (assign (.Name nm p) env)) (Q := fun _ s' => PostS T env sl W _ .next s') rfl (folded_no h6 _) hcl ok.kind ok.loc
            ((sound_e hT hG hC src it sl A W env vs h3' a F.fm I m1).cps (fun av W1 v e1 I1 l1 r1 => ?_) fun _ _ q => q.elim)) (fun _ s' hq => wpAny_pure (wpAny_pure hq)) fun _ _ e => e)
          have n3 := m2 av W1.σ e1
          cases hs : srcA W1.σ av with
          | none => rw [hs] at n3; exact absurd rfl n3
          | some sr =>
            rw [hs] at n3
            simp only at n3
            refine does_iter I1 r1 hs fun J W2 I2 l2 es2 hJ it2 => ?_
            refine comp_block (r0 := _) (x := y) (vs := vs) (sl := sl) (sound_e hT hG hC elt) (fun m _ => sound_t hT hG hC m) ok h5 h4 a (F.fm.le l1) I2 l2 hJ it2 n3 (by rw [es2]; try rfl) fun D Ca W' av' er I' lJ hfC oC bC hnC rv => ?_
            obtain ⟨m, hnC⟩ := hnC
            have hfC1 : W.h.get? Ca = none := by
              cases z : W.h.get? Ca with
              | none => rfl
              | some o => obtain ⟨o', e'⟩ := (l1.trans l2).ext.df Ca o z id; rw [hfC] at e'; cases e'
            have hfX : ¬ frX env Ca := fun q => by
              rcases q with q | ⟨z, q⟩
              · obtain ⟨m', n'⟩ := F.ns
                obtain ⟨o, w⟩ := ns_at n'
                rw [← q, hfC1] at w; cases w
              · obtain ⟨_, _, _, w, n'⟩ := F.cell z Ca q
                obtain ⟨o, w⟩ := cell_at n'
                rw [hfC1] at w; cases w
            have LW : Le noX W W' := l1.trans (Le.drop l2 lJ fun b o e _ q => by rw [q, hJ] at e; cases e)
            show wpAny _ A (assign (.Name nm p) env (.ref D)) _ _ _
            refine wpAny_assign_Name (does_store (F.le LW) I' hx rv fun W3 I3 l3 es3 F3 => ?_)
            obtain ⟨oc, hoc⟩ := ns_at hnC
            have hn3 : W3.h.Ns Ca m := ns_ko hnC fun o ho => l3.ext.kp _ o ho oC hfX
            refine ⟨m, hn3, fun h' hsb => ?_⟩
            obtain ⟨fx, I4, l4⟩ := comp_gone I3 ((l3.ext.ow _ _ hoc hfX).trans oC) bC hn3 hsb
            refine ⟨_, rfl, I4, Le.drop (LW.ofNo.trans l3) l4 (fun b o e _ q => by rw [q, hfC1] at e; cases e), .inl ⟨vs.set x (some av'), ?_, rfl, F3.leD l4 fx fun b hb q => hfX (q ▸ hb)⟩⟩
            rw [e1]
            simp only [Out.bind, hs, er, es3]
  | expr e =>
    obtain ⟨v, pos, rfl, hm1, hm2⟩ := invS_expr hm
    rw [ex_q2] at hn ⊢
    have n1 : ev C e W.σ vs ≠ .fail := fun q => by rw [q] at hn; exact hn rfl
    refine wpAny_Expr_any ((sound_e hT hG hC e v sl A W env vs hm2 a F.fm I n1).cps (fun av W' val e1 I' l' r => ?_) fun _ _ q => q.elim) (by unfold interactive; rw [F.fm.kind]; rfl) (swaps_no hm1 _ _ _)
    rw [e1]
    exact ⟨W', rfl, I', l'.ofNo, .inl ⟨vs, rfl, rfl, F.le l'⟩⟩
  | ifs t b c =>
    obtain ⟨t', b', c', pos, rfl, h1, h2, h3⟩ := invS_ifs hm
    rw [ex_q3] at hn ⊢
    have n1 : evT C t W.σ vs ≠ .fail := fun q => by
      unfold evT at q
      cases z : ev C t W.σ vs with
      | ok v h =>
        rw [z] at q hn
        simp only [Out.bind] at q hn
        cases y : truth h v with
        | none => rw [y] at hn; exact hn rfl
        | some b => rw [y] at q; cases q
      | fail => rw [z] at hn; exact hn rfl
    refine wpAny_If ((sound_t hT hG hC t t' sl A W env vs h1 a F.fm I n1).cps (fun bb W' b2 e1 I' l' r => ?_) fun _ _ q => q.elim)
    cases r
    unfold evT at e1
    cases z : ev C t W.σ vs with
    | fail => rw [z] at e1; cases e1
    | ok v h =>
      rw [z] at e1 hn
      simp only [Out.bind] at e1 hn
      cases y : truth h v with
      | none => rw [y] at e1; cases e1
      | some b3 =>
        rw [y] at e1 hn
        simp only [Out.ok.injEq] at e1
        obtain ⟨rfl, rfl⟩ := e1
        cases b3 with
        | true =>
          simp only [y] at hn ⊢
          exact (does_exs b (fun m' hm' => ih m' (by have := List.sizeOf_lt_of_mem hm'; simp at hk; omega)) b' sl A W' env vs h2 a (F.le l') I' hn).up l'.ofNo rfl
        | false =>
          simp only [y] at hn ⊢
          exact (does_exs c (fun m' hm' => ih m' (by have := List.sizeOf_lt_of_mem hm'; simp at hk; omega)) c' sl A W' env vs h3 a (F.le l') I' hn).up l'.ofNo rfl
  | loop x src body =>
    obtain ⟨nm, p, it, b', pos, rfl, hx, h2, h3, h4⟩ := invS_loop hm
    rw [ex_q4] at hn ⊢
    have n1 : ev C src W.σ vs ≠ .fail := fun q => by rw [q] at hn; exact hn rfl
    refine wpAny_For ((sound_e hT hG hC src it sl A W env vs h3 a F.fm I n1).cps (fun av W' val e1 I' l' r => ?_) fun _ _ q => q.elim) (folded_no h2 _)
    rw [e1] at hn
    simp only at hn
    cases hs : srcA W'.σ av with
    | none => rw [hs] at hn; exact absurd rfl hn
    | some sr =>
      rw [hs] at hn
      simp only [iter_eq] at hn
      refine does_iter I' r hs fun J W'' I'' l'' es hJ it'' => ?_
      have F'' := (F.le l').le l''
      have hJ' : ¬ frX env J := fun q => by
        have F1 := F.le l'
        rcases q with q | ⟨y, q⟩
        · obtain ⟨m', n'⟩ := F1.ns
          obtain ⟨o, z⟩ := ns_at n'
          rw [← q, hJ] at z; cases z
        · obtain ⟨_, _, _, w, n'⟩ := F1.cell y J q
          obtain ⟨o, z⟩ := cell_at n'
          rw [hJ] at z; cases z
      refine does_loop (src := sr) (vs := vs) (i := 0) (m := srcN sr + 1) a hx (fun W3 vs3 F3 I3 n3 => does_exs body (fun m' hm' => ih m' (by have := List.sizeOf_lt_of_mem hm'; simp at hk; omega)) b' sl A W3 env vs3 h4 a F3 I3 n3) hn hJ' _ rfl
        (fun W3 fl I3 l3 d => ?_) I'' (.refl _ W'') F'' it'' (by rw [es]; try rfl)
      refine ⟨W3, rfl, I3, l'.ofNo.trans (Le.forget l'' l3 hJ), ?_⟩
      rw [e1]
      simp only [hs, iter_eq]
      exact d
  | ret e =>
    obtain ⟨v, pos, rfl, hm⟩ := invS_ret hm
    rw [ex_q5] at hn ⊢
    have n1 : ev C e W.σ vs ≠ .fail := fun q => by rw [q] at hn; exact hn rfl
    rcases mO_inv hm with ⟨rfl, rfl⟩ | ⟨v, rfl, hm'⟩
    · exact wpAny_Return_none ⟨W, rfl, I, .refl _ _, .inr ⟨.none, .none, rfl, rfl, .none⟩⟩
    · refine wpAny_Return_some ((sound_e hT hG hC e v sl A W env vs hm' a F.fm I n1).cps (fun av W' val e1 I' l' r => ?_) fun _ _ q => q.elim)
      rw [e1]
      exact ⟨W', rfl, I', l'.ofNo, .inr ⟨av, val, rfl, rfl, r⟩⟩
  | pass =>
    obtain ⟨pos, rfl⟩ := invS_pass hm
    exact wpAny_Pass ⟨W, rfl, I, .refl _ _, .inl ⟨vs, rfl, rfl, F⟩⟩

theorem sound_s (hT : T.Ok) (hG : GlOk T G) (hC : CallsOk T n C.call) (m : MS) : SS T G n C m := by
  have h : ∀ k, ∀ m : MS, sizeOf m < k → SS T G n C m := fun k => by
    induction k with
    | zero => intro m h; omega
    | succ k ih => exact fun m hk => sound_s_aux hT hG hC k ih m hk
  exact h _ m (Nat.lt_succ_self _)
end
end Mine

set_option Elab.async false
namespace Mine
open PySem
theorem zip_lookup : ∀ {names : List Str} {vals : List Value}, names.Nodup → vals.length = names.length → (names.filterMap fun n => ((names.zip vals).lookup n).map (n, ·)) = names.zip vals
  | [], [], _, _ => rfl
  | n :: ns, v :: vs, hd, hl => by
    have hd' := List.nodup_cons.mp hd
    have ih := zip_lookup hd'.2 (by simpa using hl : vs.length = ns.length)
    simp only [List.zip_cons_cons, List.filterMap_cons, List.lookup_cons, BEq.rfl, Option.map_some]
    congr 1
    refine Eq.trans ?_ ih
    have key : ∀ l : List Str, (∀ x ∈ l, x ≠ n) → (l.filterMap fun x => (match x == n with | true => some v | false => List.lookup x (ns.zip vs)).map (x, ·)) = l.filterMap fun x => (List.lookup x (ns.zip vs)).map (x, ·) := by
      intro l
      induction l with
      | nil => intro _; rfl
      | cons y l ihl =>
        intro hy
        have h1 : (y == n) = false := by simpa using hy y (by simp)
        rw [List.filterMap_cons, List.filterMap_cons, ihl fun x hx => hy x (by simp [hx])]
        simp only [h1]
    exact key ns fun x hx e => hd'.1 (e ▸ hx)
  | [], _ :: _, _, h => by simp at h
  | _ :: _, [], _, h => by simp at h
theorem zip_found {names : List Str} {vals : List Value} (hl : vals.length = names.length) : names.filter (fun n => ((names.zip vals).lookup n).isNone) = [] := by
  rw [List.filter_eq_nil_iff]
  intro n hn
  simp only [Option.isNone_iff_eq_none]
  intro h
  rw [List.lookup_eq_none_iff] at h
  obtain ⟨i, hi, rfl⟩ := List.getElem_of_mem hn
  have hv : i < vals.length := by omega
  have : (names[i], vals[i]) ∈ names.zip vals := by
    rw [List.mem_iff_getElem]
    exact ⟨i, by simp; omega, by simp⟩
  have := h _ this
  simp at this

theorem bind_simple {fd : FuncData} {as : List Arg} {ds : List Expr} {kd : List (Option Expr)} {vals : List Value} (hp : fd.params = ⟨[], as, none, [], kd, none, ds⟩) (hd : fd.defaults = .none) (hn : (as.map (·.arg)).Nodup)
    (hl : vals.length = as.length) : bindArgs fd ⟨vals, []⟩ = pure ((as.map (·.arg)).zip vals) := by
  have hl' : vals.length = (as.map (·.arg)).length := by simpa using hl
  unfold bindArgs
  rw [hp, hd]
  have hs : seqItems? Value.none = (pure none : Sem (Option (Array Value))) := rfl
  simp only [List.map_nil, List.nil_append, List.append_nil, hs, pure_bind]
  generalize hg : as.map (·.arg) = names at hn hl' ⊢
  simp [hl', zip_found hl', zip_lookup hn hl']
end Mine

/-! Soundness, part 17: calls of the text's defs (typed by hand). -/
set_option Elab.async false
namespace Mine
open PySem PySem.SeqAt PySem.Spec PySem.W PySem.Calls

noncomputable def slots (fn : Fn) : List (Nat × Str) := (fn.names.take fn.nl).zipIdx.map fun p => (p.2, p.1)
theorem mem_slots {fn : Fn} {i : Nat} {x : Str} : (i, x) ∈ slots fn ↔ (fn.names.take fn.nl)[i]? = some x := by
  unfold slots
  simp only [List.mem_map, Prod.mk.injEq, Prod.exists]
  constructor
  · rintro ⟨a, b, h, rfl, rfl⟩
    exact List.mem_zipIdx_iff_getElem?.mp h
  · intro h
    exact ⟨x, i, List.mem_zipIdx_iff_getElem?.mpr h, rfl, rfl⟩

/-- a def of the text as the abstract one says -/
structure FnOk (T : Tp) (G : Gl) (f : Nat) (fn : Fn) : Prop where
  obj : ∃ o fd body as kd ds, T.base.get? (T.fa f) = some o ∧ o.data = .func fd ∧ T.base.CodeRec fd.code fd.qualname ∧ fd.body = .stmts body ∧ fd.params = ⟨[], as, none, [], kd, none, ds⟩ ∧ fd.defaults = .none ∧ fd.closure = [] ∧
    fd.globals = mainGlobals ∧ fd.builtins = builtinsNs ∧ fd.scope.kind = .function ∧ fd.scope.isCoroutine = false ∧ fd.scope.isGenerator = false ∧ as.map (·.arg) = fn.names.take fn.np ∧ mtSs G fd.scope (slots fn) fn.body body = true ∧
    (∀ x ∈ fn.names.take fn.nl, fd.scope.names.lookup x = some .local ∨ fd.scope.names.lookup x = some .cell)
  np : fn.np ≤ fn.nl
  nl : fn.nl ≤ fn.names.length
  nodup : (fn.names.take fn.nl).Nodup

theorem Le.forgetAll {Y : Addr → Prop} {W₀ W₁ W₂ : Wd} (l : Le noX W₀ W₁) (l' : Le Y W₁ W₂) (h : ∀ b, Y b → W₀.h.get? b = none) : Le noX W₀ W₂ :=
  Le.drop l l' fun b o e _ q => by rw [h b q] at e; cases e

theorem bindL_skip {k : Str → Option NameKind} {x : Str} : ∀ {binds : List (Str × Value)} {m : Str → Option Value}, (∀ p ∈ binds, p.1 ≠ x) → bindL k binds m x = m x
  | [], _, _ => rfl
  | (y, v) :: r, m, h => by
    rw [bindL, bindL_skip fun p hp => h p (by simp [hp])]
    have : x ≠ y := fun e => h (y, v) (by simp) e.symm
    split
    · simp [this]
    · rfl
theorem bindC_skip {k : Str → Option NameKind} {x : Str} : ∀ {binds : List (Str × Value)} {m : Str → Option Value}, (∀ p ∈ binds, p.1 ≠ x) → bindC k binds m x = m x
  | [], _, _ => rfl
  | (y, v) :: r, m, h => by
    rw [bindC, bindC_skip fun p hp => h p (by simp [hp])]
    have : x ≠ y := fun e => h (y, v) (by simp) e.symm
    split
    · rfl
    · simp [this]
theorem bindL_at {k : Str → Option NameKind} {x : Str} {v : Value} (hk : k x = some .local) : ∀ {names : List Str} {vals : List Value} {m : Str → Option Value} {i : Nat}, names.Nodup → names[i]? = some x → vals[i]? = some v → bindL k (names.zip vals) m x = some v
  | n :: ns, w :: vs, m, 0, hd, e1, e2 => by
    simp at e1 e2; subst e1 e2
    rw [List.zip_cons_cons, bindL, bindL_skip]
    · rw [if_pos hk]; simp
    · intro p hp e
      exact (List.nodup_cons.mp hd).1 (e ▸ (List.of_mem_zip hp).1)
  | n :: ns, w :: vs, m, i + 1, hd, e1, e2 => by
    rw [List.zip_cons_cons, bindL]
    exact bindL_at hk (List.nodup_cons.mp hd).2 (by simpa using e1) (by simpa using e2)
  | [], _, _, _, _, e1, _ => by simp at e1
  | _ :: _, [], _, _, _, _, e2 => by simp at e2
theorem bindC_at {k : Str → Option NameKind} {x : Str} {v : Value} (hk : k x ≠ some .local) : ∀ {names : List Str} {vals : List Value} {m : Str → Option Value} {i : Nat}, names.Nodup → names[i]? = some x → vals[i]? = some v → bindC k (names.zip vals) m x = some v
  | n :: ns, w :: vs, m, 0, hd, e1, e2 => by
    simp at e1 e2; subst e1 e2
    rw [List.zip_cons_cons, bindC, bindC_skip]
    · rw [if_neg hk]; simp
    · intro p hp e
      exact (List.nodup_cons.mp hd).1 (e ▸ (List.of_mem_zip hp).1)
  | n :: ns, w :: vs, m, i + 1, hd, e1, e2 => by
    rw [List.zip_cons_cons, bindC]
    exact bindC_at hk (List.nodup_cons.mp hd).2 (by simpa using e1) (by simpa using e2)
  | [], _, _, _, _, e1, _ => by simp at e1
  | _ :: _, [], _, _, _, _, e2 => by simp at e2

theorem pairwise_inj {l : List (Str × Addr)} (h : l.Pairwise fun x y => x.2 ≠ y.2) {x y : Str} {c : Addr} (h1 : l.lookup x = some c) (h2 : l.lookup y = some c) : x = y := by
  have m1 : (x, c) ∈ l := by
    obtain ⟨l1, l2, e, _⟩ := List.lookup_eq_some_iff.mp h1
    rw [e]; simp
  have m2 : (y, c) ∈ l := by
    obtain ⟨l1, l2, e, _⟩ := List.lookup_eq_some_iff.mp h2
    rw [e]; simp
  obtain ⟨i, hi, e1⟩ := List.getElem_of_mem m1
  obtain ⟨j, hj, e2⟩ := List.getElem_of_mem m2
  rw [List.pairwise_iff_getElem] at h
  rcases Nat.lt_trichotomy i j with q | q | q
  · exact absurd (by rw [e1, e2]) (h i j hi hj q)
  · subst q; rw [e1] at e2; cases e2; rfl
  · exact absurd (by rw [e1, e2]) (h j i hj hi q)

section
variable {T : Tp} {G : Gl}

theorem calls_step (hT : T.Ok) (hG : GlOk T G) {n : Nat} (hC : CallsOk T n (callF T.P n)) (hF : ∀ f fn, T.P.fns[f]? = some fn → fn.body ≠ [] → FnOk T G f fn) (f : Nat) (as : List AV) (vals : List Value) (A : Around) (W : Wd) (a : AOk (n + 1) A)
    (I : Inv T W) (r : W.Vs T as vals) (hn : callF T.P (n + 1) f as W.σ ≠ .fail) : Does T A noX W (PySem.call (.ref (T.fa f)) vals) (callF T.P (n + 1) f as W.σ) (VW T) := by
  rw [callF_q2] at hn ⊢
  cases hf : T.P.fns[f]? with
  | none => rw [hf] at hn; exact absurd rfl hn
  | some fn =>
    rw [hf] at hn
    simp only at hn ⊢
    by_cases hc : as.length = fn.np ∧ fn.body.isEmpty = false
    · rw [if_pos hc] at hn ⊢
      have hnp := hc.1
      have ok := hF f fn hf (fun q => by rw [q] at hc; exact absurd hc.2 (by simp))
      obtain ⟨o, fd, body, ps, kd, ds, h1, h2, h3, h4, h5, h6, h7, h8, h9, h10, h11, h12, h13, h14, h15⟩ := ok.obj
      have hlv : vals.length = ps.length := by
        have e1 := r.length
        have e2 : (ps.map (·.arg)).length = (fn.names.take fn.np).length := by rw [h13]
        simp only [List.length_map, List.length_take] at e2
        have := ok.np; have := ok.nl
        omega
      have hnd : (fn.names.take fn.np).Nodup := by
        have e : fn.names.take fn.np = (fn.names.take fn.nl).take fn.np := by rw [List.take_take, Nat.min_eq_left ok.np]
        rw [e]; exact ok.nodup.sublist (List.take_sublist _ _)
      have hbind := bind_simple (fd := fd) (vals := vals) h5 h6 (by rw [h13]; exact hnd) hlv
      rw [h13] at hbind
      refine wpAny_call (codeAny_call_cells (binds := (fn.names.take fn.np).zip vals) (body := body) (by have := a.depth; omega) (I.base _ _ h1) h2 (hT.nolimit.keeps I.base) ?_ h4 hbind h7 (fun p hp => ?_) (fun s₁ x => ?_) h11 h12 h10)
      · obtain ⟨c, o', vs', t, e1, e2, e3⟩ := h3
        exact ⟨c, o', vs', t, e1, I.base _ _ e2, e3⟩
      · have hm := (List.of_mem_zip hp).1
        have hm' : p.1 ∈ fn.names.take fn.nl := by
          have e : fn.names.take fn.np = (fn.names.take fn.nl).take fn.np := by rw [List.take_take, Nat.min_eq_left ok.np]
          rw [e] at hm; exact List.mem_of_mem_take hm
        rcases h15 p.1 hm' with q | q
        · exact .inl q
        · exact .inr ⟨q, cellsFrom_some _ _ _ (.inl q)⟩
      · obtain ⟨h', tk, es⟩ := x.toInCall.same
        have g := I.grow (s' := s₁) x.toInCall.keep (by rw [es]) (by rw [es])
        have hL : (callEnvC fd W.s.heap.objs.size (T.fa f)).locals = W.s.heap.objs.size := rfl
        have hnone : ∀ b, W.s.heap.objs.size ≤ b → W.s.heap.get? b = none := fun b hb' => by
          cases q : W.s.heap.get? b with
          | none => rfl
          | some o' => exact absurd (Heap.lt_size q) (Nat.not_lt.mpr hb')
        have hbase : ∀ b, W.s.heap.objs.size ≤ b → T.base.get? b = none := fun b hb' => by
          cases q : T.base.get? b with
          | none => rfl
          | some o' => have := I.base b o' q; rw [hnone b hb'] at this; cases this
        have habove : ∀ y c, (callEnvC fd W.s.heap.objs.size (T.fa f)).cells.lookup y = some c → W.s.heap.objs.size < c := fun y c e => by
          have m1 : (y, c) ∈ (callEnvC fd W.s.heap.objs.size (T.fa f)).cells := by
            obtain ⟨l1, l2, e', _⟩ := List.lookup_eq_some_iff.mp e
            rw [e']; simp
          exact x.above y c m1
        have hle : Le noX W { W with s := s₁ } := g.2
        have F : Fs T { W with s := s₁ } (callEnvC fd W.s.heap.objs.size (T.fa f)) (slots fn) (as.map some ++ List.replicate (fn.names.length - fn.np) none) := {
          fm := ⟨h10, h8, h9, fun y q => by
              have := cellsFrom_some (x := y) fd.scope.names (W.s.heap.objs.size + 1) [] (.inl q)
              obtain ⟨c, e⟩ := Option.isSome_iff_exists.mp this
              exact ⟨c, e⟩, fun i y hy av e => by
              have hy' := mem_slots.mp hy
              have hi : i < as.length := by
                rcases Nat.lt_or_ge i as.length with q | q
                · exact q
                · rw [List.getElem?_append_right (by simpa using q)] at e
                  have := List.mem_of_getElem? e
                  simp at this
              rw [List.getElem?_append_left (by simpa using hi), List.getElem?_map] at e
              obtain ⟨av', e1, e2⟩ := Option.map_eq_some_iff.mp e
              cases e2
              obtain ⟨v, ev, rv⟩ := r.get e1
              have hyn : (fn.names.take fn.np)[i]? = some y := by
                rw [List.getElem?_take] at hy' ⊢
                split at hy'
                · rw [if_pos (by omega)]; exact hy'
                · cases hy'
              refine ⟨v, rv.le hle, ?_⟩
              rcases h15 y (List.mem_of_getElem? hy') with q | q
              · exact .inl ⟨q, own_new I (hnone _ (Nat.le_refl _)), _, x.toInCall.ns, bindL_at q hnd hyn ev⟩
              · have := cellsFrom_some (x := y) fd.scope.names (W.s.heap.objs.size + 1) [] (.inl q)
                obtain ⟨c, ec⟩ := Option.isSome_iff_exists.mp this
                have hc := x.cell y c ec
                rw [bindC_at (by show fd.scope.names.lookup y ≠ _; rw [q]; simp) hnd hyn ev] at hc
                exact .inr ⟨q, c, ec, own_new I (hnone _ (Nat.le_of_lt (habove y c ec))), hc⟩⟩
          ns := ⟨_, x.toInCall.ns⟩
          ownL := own_new I (hnone _ (Nat.le_refl _))
          baseL := hbase _ (Nat.le_refl _)
          kinds := fun i y hy => h15 y (List.mem_of_getElem? (mem_slots.mp hy))
          cell := fun y c e => ⟨own_new I (hnone _ (Nat.le_of_lt (habove y c e))), hbase _ (Nat.le_of_lt (habove y c e)), Nat.ne_of_gt (habove y c e), _, x.cell y c e⟩
          cinj := fun y z c e1 e2 => pairwise_inj x.apart e1 e2
          inj := fun i j y hi hj => by
            have h1 := mem_slots.mp hi; have h2 := mem_slots.mp hj
            exact (List.getElem?_inj (List.getElem?_eq_some_iff.mp h1).1 ok.nodup).mp (h1.trans h2.symm)
          inj2 := fun i y z hi hj => by
            have h1 := mem_slots.mp hi; have h2 := mem_slots.mp hj
            rw [h1] at h2; cases h2; rfl
          len := fun i y hi => by
            have h1 := (List.getElem?_eq_some_iff.mp (mem_slots.mp hi)).1
            simp only [List.length_take] at h1
            simp only [List.length_append, List.length_map, List.length_replicate]
            have := ok.np; have := ok.nl
            omega }
        have a' : AOk n (A.deeper (callEnvC fd W.s.heap.objs.size (T.fa f))) := ⟨by have := a.depth; show A.depth + 1 + n < _; omega, by have := a.units; show A.units + 3 + _ + _ < _; omega, a.handled⟩
        have n1 : exs ⟨callF T.P n⟩ fn.body W.σ (as.map some ++ List.replicate (fn.names.length - fn.np) none) ≠ .fail := fun q => by rw [q] at hn; exact hn rfl
        have hd' := does_exs (C := ⟨callF T.P n⟩) fn.body (fun m _ => sound_s hT hG hC m) body (slots fn) _ { W with s := s₁ } _ _ h14 a' F g.1 n1
        have hfg : ∀ b, frX (callEnvC fd W.s.heap.objs.size (T.fa f)) b → W.h.get? b = none := fun b q => by
          rcases q with rfl | ⟨y, q⟩
          · exact hnone _ (Nat.le_refl _)
          · exact hnone _ (Nat.le_of_lt (habove y b q))
        refine wpAny_mono hd' (fun fl _ ⟨W', e, I', l', d⟩ => ?_) fun _ _ q => q.elim
        subst e
        have lf := Le.forgetAll hle l' hfg
        rcases d with ⟨vs', e1, rfl, _⟩ | ⟨av, v, e1, rfl, rv⟩
        · have e1' : exs ⟨callF T.P n⟩ fn.body W.σ (as.map some ++ List.replicate (fn.names.length - fn.np) none) = .next W'.σ vs' := e1
          exact ⟨.none, W', rfl, by simp only [e1'], I', lf, .none⟩
        · have e1' : exs ⟨callF T.P n⟩ fn.body W.σ (as.map some ++ List.replicate (fn.names.length - fn.np) none) = .ret av W'.σ := e1
          exact ⟨av, W', rfl, by simp only [e1'], I', lf, rv⟩
    · rw [if_neg hc] at hn; exact absurd rfl hn

theorem calls_ok (hT : T.Ok) (hG : GlOk T G) (hF : ∀ f fn, T.P.fns[f]? = some fn → fn.body ≠ [] → FnOk T G f fn) : ∀ n, CallsOk T n (callF T.P n)
  | 0 => ⟨fun f as vals A W _ _ _ hn => absurd rfl hn⟩
  | n + 1 => ⟨fun f as vals A W a I r hn => calls_step hT hG (calls_ok hT hG hF n) hF f as vals A W a I r hn⟩
end
end Mine

/-! Soundness, part 18: the head's written part answers for the text's defs (typed by hand). -/
set_option Elab.async false
namespace Mine
open PySem PySem.SeqAt PySem.Spec PySem.W PySem.Calls PyProof.Rows

noncomputable def isFn (K : Frag) (a : Addr) : Bool := match K.lookup a with
  | some ⟨_, _, .func _, _⟩ => true
  | _ => false
/-- a name of the text: a def, or nobody's -/
noncomputable def gvOf (K : Frag) (x : Str) : Option (Option Value) := match nsIn K mainGlobals x with
  | some (some (.ref a)) => if isFn K a then some (some (.ref a)) else none
  | some (some _) => none
  | some none => some none
  | none => none
noncomputable def faOf (K : Frag) (P : Pr) (f : Nat) : Addr := match P.fns[f]? with
  | some fn => (match nsIn K mainGlobals fn.name with
    | some (some (.ref a)) => a
    | _ => 0)
  | none => 0
noncomputable abbrev glOf (K : Frag) (P : Pr) : Gl := ⟨gvOf K, faOf K P⟩

noncomputable def plainPs (names : List Str) (p : Arguments) : Bool := p.posonlyargs.isEmpty && p.vararg.isNone && p.kwonlyargs.isEmpty && p.kwarg.isNone && p.args.map (·.arg) == names
noncomputable def isNoneV : Value → Bool
  | .none => true
  | _ => false
noncomputable def bodyOk (G : Gl) (sc : Scope) (fn : Fn) : FuncBody → Bool
  | .stmts body => mtSs G sc (slots fn) fn.body body
  | _ => false
noncomputable def nodupS : List Str → Bool
  | [] => true
  | x :: r => !r.contains x && nodupS r
theorem nodupS_of : ∀ {l : List Str}, nodupS l = true → l.Nodup
  | [], _ => .nil
  | x :: r, h => by
    simp only [nodupS, Bool.and_eq_true, Bool.not_eq_true'] at h
    refine List.nodup_cons.mpr ⟨fun q => ?_, nodupS_of h.2⟩
    have h1 := h.1
    rw [List.contains_iff_mem.mpr q] at h1
    exact Bool.noConfusion h1
noncomputable def isFunK : ScopeKind → Bool
  | .function => true
  | _ => false
noncomputable def isLC : Option NameKind → Bool
  | some .local => true
  | some .cell => true
  | _ => false
noncomputable def fdOk (K : Frag) (P : Pr) (fn : Fn) (fd : FuncData) : Bool :=
  codeIn K fd.code fd.qualname && bodyOk (glOf K P) fd.scope fn fd.body && plainPs (fn.names.take fn.np) fd.params && isNoneV fd.defaults && fd.closure.isEmpty && (fd.globals == mainGlobals) && (fd.builtins == builtinsNs) &&
    isFunK fd.scope.kind && !fd.scope.isCoroutine && !fd.scope.isGenerator && (fn.names.take fn.nl).all (fun x => isLC (fd.scope.names.lookup x)) && decide (fn.np ≤ fn.nl) && decide (fn.nl ≤ fn.names.length) && nodupS (fn.names.take fn.nl)
noncomputable def fnOk (K : Frag) (P : Pr) (f : Nat) (fn : Fn) : Bool := match K.lookup (faOf K P f) with
  | some ⟨_, _, .func fd, _⟩ => fdOk K P fn fd
  | _ => false
noncomputable def fnsOk (K : Frag) (P : Pr) : Nat → List Fn → Bool
  | _, [] => true
  | i, fn :: r => (fn.body.isEmpty || fnOk K P i fn) && fnsOk K P (i + 1) r

theorem fnsOk_get {K : Frag} {P : Pr} : ∀ {l : List Fn} {i : Nat}, fnsOk K P i l = true → ∀ j fn, l[j]? = some fn → fn.body ≠ [] → fnOk K P (i + j) fn = true
  | fn :: r, i, h, 0, f, e, hb => by
    cases e
    simp only [fnsOk, Bool.and_eq_true, Bool.or_eq_true, List.isEmpty_iff] at h
    rcases h.1 with q | q
    · exact absurd q hb
    · exact q
  | fn :: r, i, h, j + 1, f, e, hb => by
    simp only [fnsOk, Bool.and_eq_true] at h
    have := fnsOk_get h.2 j f (by simpa using e) hb
    rw [show i + (j + 1) = i + 1 + j by omega]; exact this

theorem fn_of {T : Tp} {K : Frag} (X : K.In T.base) (hfa : T.fa = faOf K T.P) {f : Nat} {fn : Fn} (h : fnOk K T.P f fn = true) : FnOk T (glOf K T.P) f fn := by
  unfold fnOk at h
  split at h
  · rename_i c d fd sl ho
    simp only [fdOk, Bool.and_eq_true, decide_eq_true_eq, Bool.not_eq_true', beq_iff_eq, List.isEmpty_iff, List.all_eq_true] at h
    obtain ⟨⟨⟨⟨⟨⟨⟨⟨⟨⟨⟨⟨⟨h1, h2⟩, h3⟩, h4⟩, h5⟩, h6⟩, h7⟩, h8⟩, h9⟩, h10⟩, h11⟩, h12⟩, h13⟩, h14⟩ := h
    refine ⟨?_, h12, h13, nodupS_of h14⟩
    have hb : ∃ body, fd.body = .stmts body ∧ mtSs (glOf K T.P) fd.scope (slots fn) fn.body body = true := by
      cases q : fd.body with
      | stmts body => rw [q] at h2; exact ⟨body, rfl, h2⟩
      | _ => rw [q] at h2; cases h2
    obtain ⟨body, hb1, hb2⟩ := hb
    have hp : ∃ as kd ds, fd.params = ⟨[], as, none, [], kd, none, ds⟩ ∧ as.map (·.arg) = fn.names.take fn.np := by
      cases q : fd.params with
      | mk po as va ko kd kw ds =>
        rw [q] at h3
        simp only [plainPs, Bool.and_eq_true, List.isEmpty_iff, Option.isNone_iff_eq_none, beq_iff_eq] at h3
        obtain ⟨⟨⟨⟨rfl, rfl⟩, rfl⟩, rfl⟩, e⟩ := h3
        exact ⟨as, kd, ds, rfl, e⟩
    obtain ⟨as, kd, ds, hp1, hp2⟩ := hp
    have hdn : fd.defaults = .none := by
      cases q : fd.defaults <;> rw [q] at h4 <;> first | rfl | cases h4
    have hk : fd.scope.kind = .function := by
      cases q : fd.scope.kind <;> rw [q] at h8 <;> first | rfl | cases h8
    refine ⟨⟨c, d, .func fd, sl⟩, fd, body, as, kd, ds, ?_, rfl, codeRec_of X h1, hb1, hp1, hdn, h5, h6, h7, hk, h9, h10, hp2, hb2, fun x hx => ?_⟩
    · rw [hfa]; exact X _ _ ho
    · have := h11 x hx
      cases q : fd.scope.names.lookup x with
      | none => rw [q] at this; cases this
      | some k => rw [q] at this; cases k <;> first | exact .inl rfl | exact .inr rfl | cases this
  · cases h

theorem gl_of {T : Tp} {K : Frag} (X : K.In T.base) (hT : T.Ok) (hfa : T.fa = faOf K T.P) : GlOk T (glOf K T.P) where
  sm := fun x v e => by
    simp only [gvOf] at e
    split at e
    · rename_i a q
      split at e
      · cases e; exact mg_of X hT.g q
      · cases e
    · cases e
    · cases e
    · cases e
  nn := fun x e => by
    simp only [gvOf] at e
    split at e
    · split at e <;> cases e
    · cases e
    · rename_i q; exact ns_none_of X hT.g q
    · cases e
  fa := hfa.symm
  callee := fun x f e => by
    simp only [gvOf] at e
    split at e
    · rename_i a q
      split at e
      · rename_i hi
        injection e with e; injection e with e; injection e with e
        unfold isFn at hi
        split at hi
        · rename_i c d fd sl ho
          rw [hfa, ← e]
          exact callee_fn (X _ _ ho) rfl
        · cases hi
      · cases e
    · cases e
    · cases e
    · cases e

/-- the whole law's call -/
theorem law_call {prog : Program} {w : World} {P : Pr} {s₁ : Shared} {mg mb : Str → Option Value} {K : Frag} {loose : List Str} {pv : Program} {fa l : Addr} {lw n : Nat} {x : Str} {ns : List Int} {vs : List Value} {Q : Value → Shared → Prop} {E : Value → Shared → Prop}
    (X : K.In s₁.heap) (TR : TopRead pv loose mg mb s₁.heap) (hf : fnsOk K P 0 P.fns = true) (hx : mg x = some (.ref fa)) (hl : nsIn K mainGlobals x = some (some (.ref (faOf K P lw))))
    (hL : s₁.heap.IsList l vs.toArray) (hI : IntsAre vs ns) (hn : ns.length ≤ lim) (hA : n ≤ 20) (hc : ∃ hp, callF P n lw [.scr ns] [] = .ok (.bool true) hp)
    (hR : ∀ s', (∀ b o, s₁.heap.get? b = some o → s'.heap.get? b = some o) → s'.os = s₁.os → s'.gens = s₁.gens → Q (.bool true) s') :
    wpAny (model prog w) callerA (PySem.call (.ref fa) [.ref l]) Q E s₁ := by
  obtain ⟨hp, hc⟩ := hc
  let T : Tp := { prog, w, P, base := s₁.heap, mg, mb, fa := faOf K P }
  have hT : T.Ok := ⟨TR.g, TR.b, TR.nolimit, TR.builtins⟩
  have hG := gl_of (T := T) X hT rfl
  have hfa : fa = faOf K P lw := by
    have := mg_of X TR.g hl
    rw [hx] at this
    injection this with this; injection this
  let W : Wd := { own := fun _ => .free, bt := [], σ := [], s := s₁ }
  have I : Inv T W := ⟨rfl, fun l a e => by simp [W] at e, fun a e => absurd rfl e, fun l o a e => by simp [W] at e, fun _ _ e => e⟩
  have C := calls_ok hT hG (fun f fn e hb => fn_of (T := T) X rfl (by simpa using fnsOk_get hf f fn e hb)) n
  obtain ⟨ob, ho, hcl, n', hda⟩ := hL
  have rv : W.Vs T [.scr ns] [.ref l] := .cons (.scr ho hcl hda hn (fun i x e => by
      obtain ⟨t, e'⟩ := hI.get i x e
      exact ⟨t, by simpa using e'⟩) (by simpa using hI.length)) .nil
  have a : AOk n callerA := by
    have e1 : callerA.depth = 301 := by decide
    have e2 : callerA.units = 4 := rfl
    have e3 : recursionLimit = 1000 := rfl
    exact ⟨by omega, by have : 1000 ≤ cLine := by decide
                        omega, rfl⟩
  have D := C.does lw [.scr ns] [.ref l] callerA W a I rv (by show callF P n lw [.scr ns] [] ≠ _; rw [hc]; simp)
  rw [hfa]
  refine wpAny_mono D ?_ fun e s' q => q.elim
  rintro v s' ⟨av, W', rfl, q, I', l', r⟩
  have q' : callF P n lw [.scr ns] [] = .ok av W'.σ := q
  rw [hc] at q'
  cases q'
  cases r
  exact hR W'.s I'.base l'.os l'.gens
end Mine

set_option Elab.async false
namespace Mine
/-- weight -/
noncomputable def fn_weight : Fn := { name := "weight", np := 1, nl := 3, names := ["signs", "found", "sign"], body := [.set 1 (.int 7),
  .loop 2 (.var 0) [.set 1 (.bin .mod (.bin .add (.bin .mul (.var 1) (.int 131)) (.bi .ord [.var 2])) (.int 65521))],
  .ret (.var 1)] }

/-- _law_cell_at -/
noncomputable def fn_l_cell_at : Fn := { name := "_law_cell_at", np := 2, nl := 2, names := ["_law_script", "_law_k"], body := [.ifs (.cmp (.var 1) .lt (.bi .len [.var 0])) [.ret (.idx (.var 0) (.var 1))] [],
  .ret (.int 0)] }

/-- _law_whole -/
noncomputable def fn_l_whole : Fn := { name := "_law_whole", np := 1, nl := 1, names := ["_law_got"], body := [.ret (.and [.inst (.var 0) .int, .not (.inst (.var 0) .bool)])] }

/-- _law_sign_by -/
noncomputable def fn_l_sign_by : Fn := { name := "_law_sign_by", np := 1, nl := 2, names := ["_law_cell", "_law_some"], body := [.set 1 (.str [32, 33, 34, 35, 36, 38, 39, 40, 41, 42, 43, 44, 45, 46, 47, 48, 49, 50, 51, 52, 53, 54, 55, 56, 57, 58, 59, 60, 61, 62, 63, 64, 65, 66, 67, 68, 69, 70, 71, 72, 73, 74, 75, 76, 77, 78, 79, 80, 81, 82, 83, 84, 85, 86, 87, 88, 89, 90, 91, 92, 93, 94, 95, 96]),
  .set 1 (.bin .add (.var 1) (.str [97, 98, 99, 100, 101, 102, 103, 104, 105, 106, 107, 108, 109, 110, 111, 112, 113, 114, 115, 116, 117, 118, 119, 120, 121, 122, 123, 124, 125, 126, 10])),
  .ret (.idx (.var 1) (.bin .mod (.var 0) (.int 95)))] }

/-- _law_text_by -/
noncomputable def fn_l_text_by : Fn := { name := "_law_text_by", np := 2, nl := 7, names := ["_law_cell", "_law_size", "_law_signs", "_law_block", "_law_got", "_law_number", "_law_k"], body := [.set 2 (.idx (.list [.int 2, .int 95, .int 95, .int 1]) (.bin .mod (.var 0) (.int 4))),
  .set 3 (.var 1),
  .ifs (.cmp (.bin .mod (.var 0) (.int 4)) .eq (.int 2)) [.set 3 (.bi .min [.var 1, .bin .add (.int 1) (.bin .mod (.bin .div (.var 0) (.int 4)) (.int 50))])] [],
  .ifs (.cmp (.var 3) .eq (.int 0)) [.ret (.str [])] [],
  .set 4 (.str []),
  .set 5 (.var 0),
  .loop 6 (.bi .range [.var 3]) [.set 5 (.bin .mod (.bin .add (.bin .mul (.var 5) (.int 48271)) (.int 11)) (.int 2147483647)),
  .set 4 (.bin .add (.var 4) (.call 3 [.bin .add (.int 65) (.bin .mod (.bin .div (.var 5) (.int 7)) (.var 2))]))],
  .ret (.slice (.bin .mul (.var 4) (.bin .add (.bin .div (.var 1) (.var 3)) (.int 1))) .none (.var 1))] }

/-- _law_size_by -/
noncomputable def fn_l_size_by : Fn := { name := "_law_size_by", np := 1, nl := 1, names := ["_law_cell"], body := [.ifs (.cmp (.bin .mod (.var 0) (.int 8)) .eq (.int 7)) [.ret (.bin .mod (.bin .div (.var 0) (.int 8)) (.int 300))] [],
  .ret (.bin .mod (.bin .div (.var 0) (.int 8)) (.int 60))] }

/-- law -/
noncomputable def fn_law : Fn := { name := "law", np := 1, nl := 6, names := ["_law_script", "_law_text", "_law_power", "_law_total", "_law_k", "_law_got"], body := [.set 1 (.call 4 [.call 1 [.var 0, .int 0], .call 5 [.call 1 [.var 0, .int 1]]]),
  .set 2 (.int 1),
  .set 3 (.int 0),
  .loop 4 (.bi .range [.bi .len [.var 1]]) [.set 3 (.bin .mod (.bin .add (.var 3) (.bin .mul (.bi .ord [.idx (.var 1) (.bin .sub (.bin .sub (.bi .len [.var 1]) (.int 1)) (.var 4))]) (.var 2))) (.int 65521)),
  .set 2 (.bin .mod (.bin .mul (.var 2) (.int 131)) (.int 65521))],
  .set 5 (.call 0 [.var 1]),
  .ret (.and [.call 2 [.var 5], .cmp (.var 5) .eq (.bin .mod (.bin .add (.var 3) (.bin .mul (.int 7) (.var 2))) (.int 65521))])] }















end Mine

set_option Elab.async false
namespace Mine
noncomputable def prog : Pr := {
  fns := [fn_weight, fn_l_cell_at, fn_l_whole, fn_l_sign_by, fn_l_text_by, fn_l_size_by, fn_law] }

/-- the law 01 -/
noncomputable abbrev law01 : Nat := 6
end Mine

/-! Plain lemmas on the abstract interpreter: equations that simp can run (typed by hand). -/
set_option Elab.async false
namespace Mine.PL

noncomputable def fin : OutS → Out AV
  | .next h _ => .ok .none h
  | .ret v h => .ok v h
  | .fail => .fail
noncomputable def bindS (o : Out AV) (vs : Vs) (k : AV → Hp → OutS) : OutS := match o with
  | .ok v h => k v h
  | .fail => .fail
noncomputable def seqS (o : OutS) (k : Hp → Vs → OutS) : OutS := match o with
  | .next h vs => k h vs
  | .ret v h => .ret v h
  | .fail => .fail
noncomputable def pickS (t : Option Bool) (a b : Unit → OutS) : OutS := match t with
  | some true => a ()
  | some false => b ()
  | none => .fail
noncomputable def pickO {α : Type} (t : Option Bool) (a b : Unit → Out α) : Out α := match t with
  | some true => a ()
  | some false => b ()
  | none => .fail
noncomputable def look (o : Option (Option AV)) (h : Hp) : Out AV := match o with
  | some (some v) => .ok v h
  | _ => .fail
noncomputable def giveO (o : Option AV) (h : Hp) : Out AV := match o with
  | some v => .ok v h
  | none => .fail
noncomputable def boolO (o : Option Bool) (h : Hp) : Out AV := match o with
  | some b => .ok (.bool b) h
  | none => .fail
/-- one turn of a loop -/
noncomputable def turn (C : Cx) (x : Nat) (body : List MS) (v : AV) (st : Hp × Vs) : It (Hp × Vs) OutS := match exs C body st.1 (st.2.set x (some v)) with
  | .next h vs => .go (h, vs)
  | o => .stop o
noncomputable def ended : It (Hp × Vs) OutS → OutS
  | .go st => .next st.1 st.2
  | .stop o => o
noncomputable def loopS (src : Option Src) (f : AV → Hp × Vs → It (Hp × Vs) OutS) (st : Hp × Vs) : OutS := match src with
  | some src => ended (iter src OutS.fail f st)
  | none => .fail


@[simp] theorem bind_ok {α β : Type} (a : α) (h : Hp) (f : α → Hp → Out β) : (Out.ok a h).bind f = f a h := rfl
@[simp] theorem bindS_ok (v : AV) (h : Hp) (vs : Vs) (k : AV → Hp → OutS) : bindS (.ok v h) vs k = k v h := rfl
@[simp] theorem seqS_next (h : Hp) (vs : Vs) (k : Hp → Vs → OutS) : seqS (.next h vs) k = k h vs := rfl
@[simp] theorem seqS_ret (h : Hp) (v : AV) (k : Hp → Vs → OutS) : seqS (.ret v h) k = .ret v h := rfl
@[simp] theorem pickS_true (a b : Unit → OutS) : pickS (some true) a b = a () := rfl
@[simp] theorem pickS_false (a b : Unit → OutS) : pickS (some false) a b = b () := rfl
@[simp] theorem pickO_true {α : Type} (a b : Unit → Out α) : pickO (some true) a b = a () := rfl
@[simp] theorem pickO_false {α : Type} (a b : Unit → Out α) : pickO (some false) a b = b () := rfl
@[simp] theorem look_some (v : AV) (h : Hp) : look (some (some v)) h = .ok v h := rfl
@[simp] theorem giveO_some (v : AV) (h : Hp) : giveO (some v) h = .ok v h := rfl
@[simp] theorem boolO_some (b : Bool) (h : Hp) : boolO (some b) h = .ok (.bool b) h := rfl
@[simp] theorem fin_ret (v : AV) (h : Hp) : fin (.ret v h) = .ok v h := rfl
@[simp] theorem fin_next (vs : Vs) (h : Hp) : fin (.next h vs) = .ok .none h := rfl

theorem callF_def {P : Pr} {n : Nat} {f : Nat} {args : List AV} {h : Hp} {fn : Fn} (e : P.fns[f]? = some fn) (l : args.length = fn.np) (b : fn.body.isEmpty = false) :
    callF P (n + 1) f args h = fin (exs ⟨callF P n⟩ fn.body h (args.map some ++ List.replicate (fn.names.length - fn.np) none)) := by
  rw [callF_q2, e]
  simp only [l, b, and_self, if_true]
  cases exs ⟨callF P n⟩ fn.body h (args.map some ++ List.replicate (fn.names.length - fn.np) none) <;> rfl

section
variable {C : Cx} {h : Hp} {vs : Vs}
@[simp] theorem ev_none : ev C .none h vs = .ok .none h := rfl
@[simp] theorem ev_bool (b : Bool) : ev C (.bool b) h vs = .ok (.bool b) h := rfl
@[simp] theorem ev_int (i : Int) : ev C (.int i) h vs = .ok (.int i) h := rfl
@[simp] theorem ev_str (s : List Nat) : ev C (.str s) h vs = .ok (.str s) h := rfl
@[simp] theorem ev_var (x : Nat) : ev C (.var x) h vs = look (vs[x]?) h := by
  rw [ev_q6]; rcases vs[x]? with _ | _ | v <;> rfl
@[simp] theorem ev_bin (op : BOp) (a b : ME) : ev C (.bin op a b) h vs = (ev C a h vs).bind fun x h => (ev C b h vs).bind fun y h => binA op x y h := rfl
@[simp] theorem ev_not (e : ME) : ev C (.not e) h vs = (ev C e h vs).bind fun x h => boolO ((truth h x).map (!·)) h := by
  rw [ev_q8]; first | (congr 1; done) | (congr 1; funext x h; cases truth h x <;> rfl)
@[simp] theorem ev_and (es : List ME) : ev C (.and es) h vs = evAnd C es h vs := rfl
@[simp] theorem ev_or (es : List ME) : ev C (.or es) h vs = evOr C es h vs := rfl
@[simp] theorem evAnd_one (e : ME) : evAnd C [e] h vs = ev C e h vs := rfl
@[simp] theorem evAnd_cons (e e' : ME) (r : List ME) : evAnd C (e :: e' :: r) h vs = (ev C e h vs).bind fun x h => pickO (truth h x) (fun _ => evAnd C (e' :: r) h vs) (fun _ => .ok x h) := by
  rw [evAnd_q3]; first | (congr 1; done) | (congr 1; funext x h; rcases truth h x with _ | _ | _ <;> rfl)
@[simp] theorem evOr_one (e : ME) : evOr C [e] h vs = ev C e h vs := rfl
@[simp] theorem evOr_cons (e e' : ME) (r : List ME) : evOr C (e :: e' :: r) h vs = (ev C e h vs).bind fun x h => pickO (truth h x) (fun _ => .ok x h) (fun _ => evOr C (e' :: r) h vs) := by
  rw [evOr_q3]; first | (congr 1; done) | (congr 1; funext x h; rcases truth h x with _ | _ | _ <;> rfl)
@[simp] theorem ev_cmp (l : ME) (op : COp) (r : ME) : ev C (.cmp l op r) h vs = (ev C l h vs).bind fun x h => (ev C r h vs).bind fun y h => boolO (cmpA op x y h) h := by
  rw [ev_q11]; first | (congr 1; done) | (congr 1; funext x h; congr 1; funext y h; cases cmpA op x y h <;> rfl)
@[simp] theorem ev_list (es : List ME) : ev C (.list es) h vs = (evs C es h vs).bind fun xs h => newList xs h := rfl
@[simp] theorem evs_nil : evs C [] h vs = .ok [] h := rfl
@[simp] theorem evs_cons (e : ME) (r : List ME) : evs C (e :: r) h vs = (ev C e h vs).bind fun x h => (evs C r h vs).bind fun xs h => .ok (x :: xs) h := rfl
@[simp] theorem ev_idx (o i : ME) : ev C (.idx o i) h vs = (ev C o h vs).bind fun x h => (ev C i h vs).bind fun y h => giveO (idxA x y h) h := by
  rw [ev_q15]; first | (congr 1; done) | (congr 1; funext x h; congr 1; funext y h; cases idxA x y h <;> rfl)
@[simp] theorem ev_slice (o lo hi : ME) : ev C (.slice o lo hi) h vs = (ev C o h vs).bind fun x h => (ev C lo h vs).bind fun a h => (ev C hi h vs).bind fun b h => sliceA x a b h := rfl
@[simp] theorem ev_call (f : Nat) (args : List ME) : ev C (.call f args) h vs = (evs C args h vs).bind fun xs h => C.call f xs h := rfl
@[simp] theorem ev_bi (b : Bi) (args : List ME) : ev C (.bi b args) h vs = (evs C args h vs).bind fun xs h => biA b xs h := rfl
@[simp] theorem ev_bm (m : Bm) (o : ME) (args : List ME) : ev C (.bm m o args) h vs = (ev C o h vs).bind fun x h => pickO (some (bmKd m x h)) (fun _ => (evs C args h vs).bind fun xs h => bmA m x xs h) (fun _ => .fail) := by
  rw [ev_q19]; first | (congr 1; done) | (congr 1; funext x h; cases bmKd m x h <;> rfl)
noncomputable def isN : AV → Bool
  | .none => true
  | _ => false
noncomputable def isT : AV → Bool
  | .bool true => true
  | _ => false
@[simp] theorem ev_isNone' (e : ME) : ev C (.isNone e) h vs = (ev C e h vs).bind fun x h => .ok (.bool (isN x)) h := by
  rw [ev_q12]; first | (congr 1; done) | (congr 1; funext x h; cases x <;> rfl)
@[simp] theorem ev_isTrue' (e : ME) : ev C (.isTrue e) h vs = (ev C e h vs).bind fun x h => .ok (.bool (isT x)) h := by
  rw [ev_q13]; first | (congr 1; done) | (congr 1; funext x h; cases x <;> first | rfl | (rename_i b; cases b <;> rfl))
@[simp] theorem ev_powc (a b : Nat) : ev C (.powc a b) h vs = .ok (.int ((a ^ b : Nat) : Int)) h := rfl
noncomputable def compE (src : Option Src) (f : AV → Hp × List AV → It (Hp × List AV) (Out AV)) (h : Hp) : Out AV := match src with
  | some src => (match iter src Out.fail f (h, []) with
    | .go st => newList st.2 st.1
    | .stop o => o)
  | none => .fail
@[simp] theorem ev_comp (elt : ME) (x : Nat) (src : ME) (conds : List ME) : ev C (.comp elt x src conds) h vs = (ev C src h vs).bind fun s h => compE (srcA h s) (compF (evConds C conds) (ev C elt) x vs) h := by
  rw [ev_q21]; first | (congr 1; done) | (congr 1; funext s h; cases srcA h s <;> rfl)
@[simp] theorem ev_inst (e : ME) (k : Kd) : ev C (.inst e k) h vs = (ev C e h vs).bind fun x h => boolO (instA h x k) h := by
  rw [ev_q20]; first | (congr 1; done) | (congr 1; funext x h; cases instA h x k <;> rfl)

@[simp] theorem evConds_nil : evConds C [] h vs = .ok true h := rfl
@[simp] theorem evConds_cons (e : ME) (r : List ME) : evConds C (e :: r) h vs = (ev C e h vs).bind fun x h => pickO (truth h x) (fun _ => evConds C r h vs) (fun _ => .ok false h) := by
  rw [evConds_q2]; first | (congr 1; done) | (congr 1; funext x h; rcases truth h x with _ | _ | _ <;> rfl)
@[simp] theorem exs_nil : exs C [] h vs = .next h vs := rfl
@[simp] theorem exs_cons (s : MS) (r : List MS) : exs C (s :: r) h vs = seqS (ex C s h vs) fun h vs => exs C r h vs := by
  rw [exs_q2]; cases ex C s h vs <;> rfl
theorem exs_append (a b : List MS) : ∀ {h : Hp} {vs : Vs}, exs C (a ++ b) h vs = seqS (exs C a h vs) fun h vs => exs C b h vs := by
  induction a with
  | nil => intro h vs; rfl
  | cons s r ih =>
    intro h vs
    rw [List.cons_append, exs_cons, exs_cons]
    cases ex C s h vs <;> simp only [seqS]
    exact ih
theorem exs_split (k : Nat) (l : List MS) : exs C l h vs = seqS (exs C (l.take k) h vs) fun h vs => exs C (l.drop k) h vs := by
  rw [← exs_append, List.take_append_drop]
@[simp] theorem ex_set (x : Nat) (e : ME) : ex C (.set x e) h vs = bindS (ev C e h vs) vs fun v h => .next h (vs.set x (some v)) := by
  rw [ex_q1]; cases ev C e h vs <;> rfl
@[simp] theorem ex_expr (e : ME) : ex C (.expr e) h vs = bindS (ev C e h vs) vs fun _ h => .next h vs := by
  rw [ex_q2]; cases ev C e h vs <;> rfl
@[simp] theorem ex_ret (e : ME) : ex C (.ret e) h vs = bindS (ev C e h vs) vs fun v h => .ret v h := by
  rw [ex_q5]; cases ev C e h vs <;> rfl
@[simp] theorem ex_ifs (t : ME) (a b : List MS) : ex C (.ifs t a b) h vs = bindS (ev C t h vs) vs fun v h => pickS (truth h v) (fun _ => exs C a h vs) (fun _ => exs C b h vs) := by
  rw [ex_q3]
  cases ev C t h vs with
  | ok v h => simp only [bindS]; rcases truth h v with _ | _ | _ <;> rfl
  | _ => rfl
@[simp] theorem ex_loop (x : Nat) (src : ME) (body : List MS) : ex C (.loop x src body) h vs = bindS (ev C src h vs) vs fun s h => loopS (srcA h s) (turn C x body) (h, vs) := by
  rw [ex_q4]
  cases ev C src h vs with
  | ok v h' =>
    simp only [bindS]
    cases srcA h' v with
    | none => rfl
    | some src =>
      show (match iter src OutS.fail (turn C x body) (h', vs) with | It.go st => OutS.next st.fst st.snd | It.stop o => o) = ended (iter src OutS.fail (turn C x body) (h', vs))
      cases iter src OutS.fail (turn C x body) (h', vs) <;> rfl
  | _ => rfl
@[simp] theorem ex_pass : ex C .pass h vs = .next h vs := rfl

theorem turn_next {x : Nat} {body : List MS} {v : AV} {h' : Hp} {vs' : Vs} (e : exs C body h (vs.set x (some v)) = .next h' vs') : turn C x body v (h, vs) = .go (h', vs') := by
  simp only [turn, e]
theorem loopS_go {l : List AV} {f : AV → Hp × Vs → It (Hp × Vs) OutS} {st : Hp × Vs} (e : iterL f l (h, vs) = .go st) : loopS (some (.fixed l)) f (h, vs) = .next st.1 st.2 := by
  simp only [loopS, iter, e]; rfl
end

section
variable (h : Hp)
@[simp] theorem add_int (a b : Int) : binA .add (.int a) (.int b) h = .ok (.int (a + b)) h := rfl
@[simp] theorem sub_int (a b : Int) : binA .sub (.int a) (.int b) h = .ok (.int (a - b)) h := rfl
@[simp] theorem mul_small (a b : Int) (q : b.natAbs < 18446744073709551616 ∨ a.natAbs < 18446744073709551616) : binA .mul (.int a) (.int b) h = .ok (.int (a * b)) h := by
  have : (small a || small b) = true := by unfold small; rcases q with q | q <;> simp [q]
  show (if (small a || small b) = true then _ else _) = _
  rw [if_pos this]
@[simp] theorem mod_int (a b : Int) (q : 0 < b) : binA .mod (.int a) (.int b) h = .ok (.int (a % b)) h := if_pos q
@[simp] theorem div_int (a b : Int) (q : 0 < b) (q' : b < 18446744073709551616) : binA .div (.int a) (.int b) h = .ok (.int (a / b)) h := if_pos ⟨q, q'⟩
@[simp] theorem add_str (a b : List Nat) (q : a.length + b.length ≤ lim) : binA .add (.str a) (.str b) h = .ok (.str (a ++ b)) h := if_pos q
@[simp] theorem mul_str (a : List Nat) (b : Int) (q : -lim ≤ b) (q1 : b ≤ lim) (q2 : a.length * b.toNat ≤ lim) : binA .mul (.str a) (.int b) h = .ok (.str (rep b.toNat a)) h := if_pos ⟨q, q1, q2⟩
@[simp] theorem eq_int (a b : Int) : cmpA .eq (.int a) (.int b) h = some (decide (a = b)) := rfl
@[simp] theorem ne_int (a b : Int) : cmpA .ne (.int a) (.int b) h = some (!decide (a = b)) := rfl
@[simp] theorem lt_int (a b : Int) : cmpA .lt (.int a) (.int b) h = some (decide (a < b)) := rfl
@[simp] theorem le_int (a b : Int) : cmpA .le (.int a) (.int b) h = some (decide (a ≤ b)) := rfl
@[simp] theorem gt_int (a b : Int) : cmpA .gt (.int a) (.int b) h = some (decide (a > b)) := rfl
@[simp] theorem ge_int (a b : Int) : cmpA .ge (.int a) (.int b) h = some (decide (a ≥ b)) := rfl
@[simp] theorem eq_str (a b : List Nat) : cmpA .eq (.str a) (.str b) h = some (decide (a = b)) := by
  show some (tS a == tS b) = _
  congr 1
  by_cases q : a = b
  · rw [q]; simp
  · have : tS a ≠ tS b := fun z => q (by have := congrArg (fun s : PySem.Str => s.cps.toList) z; simpa [tS] using this)
    rw [beq_eq_false_iff_ne.mpr this, decide_eq_false q]
@[simp] theorem truth_bool (b : Bool) : truth h (.bool b) = some b := rfl
@[simp] theorem truth_int (i : Int) : truth h (.int i) = some (decide (i ≠ 0)) := rfl
@[simp] theorem truth_str (s : List Nat) : truth h (.str s) = some (!s.isEmpty) := rfl
@[simp] theorem newList_eq (xs : List AV) (q : xs.length ≤ lim) : newList xs h = .ok (.ref h.length) (h ++ [.list xs]) := if_pos q
@[simp] theorem len_str (s : List Nat) : biA .len [.str s] h = .ok (.int s.length) h := rfl
@[simp] theorem len_scr (s : List Int) : biA .len [.scr s] h = .ok (.int s.length) h := rfl
@[simp] theorem ord_str (c : Nat) : biA .ord [.str [c]] h = .ok (.int c) h := rfl
@[simp] theorem range1 (b : Int) (q : -lim ≤ b) (q1 : b ≤ lim) : biA .range [.int b] h = .ok (.rng 0 b) h := if_pos ⟨by decide, by decide, q, q1⟩
@[simp] theorem min2 (a b : Int) : biA .min [.int a, .int b] h = .ok (.int (if b < a then b else a)) h := rfl
@[simp] theorem inst_int (i : Int) : instA h (.int i) .int = some true := rfl
@[simp] theorem inst_int_bool (i : Int) : instA h (.int i) .bool = some false := rfl
@[simp] theorem src_rng (a b : Int) : srcA h (.rng a b) = some (.fixed (ups a (b - a).toNat)) := rfl
@[simp] theorem src_str (s : List Nat) : srcA h (.str s) = some (.fixed (s.map fun c => .str [c])) := rfl
@[simp] theorem range2 (a b : Int) (q1 : -lim ≤ a) (q2 : a ≤ lim) (q3 : -lim ≤ b) (q4 : b ≤ lim) : biA .range [.int a, .int b] h = .ok (.rng a b) h := if_pos ⟨q1, q2, q3, q4⟩
theorem listAt_of {h : Hp} {l : Nat} {xs : List AV} (e : h[l]? = some (.list xs)) : listAt h (.ref l) = some xs := by
  show (match h[l]? with | some (.list xs) => some xs | none => none) = _; rw [e]
theorem len_list {l : Nat} {xs : List AV} (e : h[l]? = some (.list xs)) : biA .len [.ref l] h = .ok (.int xs.length) h := by
  show (match listAt h (.ref l) with | some xs => Out.ok (AV.int xs.length) h | none => .fail) = _; rw [listAt_of e]
theorem bound_at {n k : Nat} (d : Nat) (h : k ≤ n) : bound n d (.int (k : Int)) = some k := by
  show some (if 0 ≤ (k : Int) then min (k : Int).toNat n else ((k : Int) + n).toNat) = _
  rw [if_pos (by omega)]
  congr 1
  omega
theorem slice_list {l : Nat} {xs : List AV} (e : h[l]? = some (.list xs)) {a b : Nat} (ha : a ≤ xs.length) (hb : b ≤ xs.length) (hl : xs.length ≤ lim) : sliceA (.ref l) (.int a) (.int b) h = .ok (.ref h.length) (h ++ [.list ((xs.drop a).take (b - a))]) := by
  show (match h[l]? with | some (.list xs) => (match bound xs.length 0 (.int a) with | some a => (match bound xs.length xs.length (.int b) with | some b => newList (cut xs a b) h | none => .fail) | none => .fail) | none => .fail) = _
  rw [e]
  simp only [bound_at 0 ha, bound_at xs.length hb]
  exact if_pos (by rw [cut, List.length_take, List.length_drop]; omega)
theorem add_list {a b : Nat} {xs ys : List AV} (e1 : h[a]? = some (.list xs)) (e2 : h[b]? = some (.list ys)) (hl : xs.length + ys.length ≤ lim) : binA .add (.ref a) (.ref b) h = .ok (.ref h.length) (h ++ [.list (xs ++ ys)]) := by
  show (match h[a]? with | some (.list xs) => (match h[b]? with | some (.list ys) => newList (xs ++ ys) h | none => .fail) | none => .fail) = _
  rw [e1, e2]
  exact if_pos (by rw [List.length_append]; exact hl)
theorem place_at {n k : Nat} (q : k < n) : place n (k : Int) = some k := by simp [place, q]
theorem idx_str {s : List Nat} {i : Int} {k c : Nat} (e : place s.length i = some k) (q : s[k]? = some c) : idxA (.str s) (.int i) h = some (.str [c]) := by
  show ((place s.length i).bind fun k => (s[k]?).map fun c => AV.str [c]) = _; rw [e, Option.bind_some, q]; rfl
theorem idx_scr {s : List Int} {i : Int} {k : Nat} {c : Int} (e : place s.length i = some k) (q : s[k]? = some c) : idxA (.scr s) (.int i) h = some (.int c) := by
  show ((place s.length i).bind fun k => (s[k]?).map AV.int) = _; rw [e, Option.bind_some, q]; rfl
theorem idx_list {l : Nat} {xs : List AV} {i : Int} {k : Nat} {c : AV} (e : h[l]? = some (.list xs)) (e1 : place xs.length i = some k) (q : xs[k]? = some c) : idxA (.ref l) (.int i) h = some c := by
  show (match h[l]? with | some (.list xs) => (place xs.length i).bind fun k => xs[k]? | none => none) = _; rw [e]; simp only [e1, Option.bind_some, q]
end

/-- a loop over a range -/
theorem ups_inv {σ ρ : Type} {f : AV → σ → It σ ρ} (J : Nat → σ → Prop) (a : Int) (n : Nat) (step : ∀ (i : Nat) s, i < n → J i s → ∃ s', f (.int (a + i)) s = .go s' ∧ J (i + 1) s') : ∀ (m k : Nat) (s : σ), k + m = n → J k s → ∃ s', iterL f (ups (a + k) m) s = .go s' ∧ J n s'
  | 0, k, s, e, j => ⟨s, rfl, by rw [← e]; exact j⟩
  | m + 1, k, s, e, j => by
    obtain ⟨s', q, j'⟩ := step k s (by omega) j
    obtain ⟨s'', q', j''⟩ := ups_inv J a n step m (k + 1) s' (by omega) j'
    refine ⟨s'', ?_, j''⟩
    rw [ups, iterL, q]
    have : a + (k : Int) + 1 = a + ((k + 1 : Nat) : Int) := by omega
    rw [this]; exact q'
theorem range_inv {σ ρ : Type} {f : AV → σ → It σ ρ} (J : Nat → σ → Prop) (n : Nat) {s : σ} (j : J 0 s) (step : ∀ (i : Nat) s, i < n → J i s → ∃ s', f (.int i) s = .go s' ∧ J (i + 1) s') : ∃ s', iterL f (ups 0 n) s = .go s' ∧ J n s' := by
  have := ups_inv J 0 n (fun i s hi hj => by rw [Int.zero_add]; exact step i s hi hj) n 0 s (by omega) j
  simpa using this
/-- heaps that grow -/
noncomputable def Grow (h h' : Hp) : Prop := h.length ≤ h'.length ∧ ∀ i, i < h.length → h'[i]? = h[i]?
theorem Grow.refl (h : Hp) : Grow h h := ⟨Nat.le_refl _, fun _ _ => rfl⟩
theorem Grow.trans {a b c : Hp} (x : Grow a b) (y : Grow b c) : Grow a c := ⟨Nat.le_trans x.1 y.1, fun i hi => (y.2 i (Nat.lt_of_lt_of_le hi x.1)).trans (x.2 i hi)⟩
theorem Grow.get {h h' : Hp} (g : Grow h h') {l : Nat} {o : AO} (e : h[l]? = some o) : h'[l]? = some o := by
  rw [g.2 l (List.getElem?_eq_some_iff.mp e).1]; exact e
end Mine.PL

set_option Elab.async false
namespace Mine.PL

noncomputable def cellAt (ns : List Int) (k : Nat) : Int := (ns[k]?).getD 0
theorem cell_at {P : Pr} {n : Nat} {h : Hp} (e : P.fns[1]? = some fn_l_cell_at) (ns : List Int) (k : Nat) : callF P (n + 1) 1 [.scr ns, .int k] h = .ok (.int (cellAt ns k)) h := by
  rw [callF_def e rfl rfl]
  by_cases q : k < ns.length
  · have h1 : ns[k]? = some (cellAt ns k) := by simp [cellAt, q]
    simp [fn_l_cell_at, q, idx_scr h (place_at q) h1]
  · have : cellAt ns k = 0 := by simp [cellAt, List.getElem?_eq_none (Nat.le_of_not_lt q)]
    simp [fn_l_cell_at, q, this]

noncomputable def sizeBy (c : Int) : Int := if c % 8 = 7 then c / 8 % 300 else c / 8 % 60
theorem size_by {P : Pr} {n : Nat} {h : Hp} (e : P.fns[5]? = some fn_l_size_by) (c : Int) : callF P (n + 1) 5 [.int c] h = .ok (.int (sizeBy c)) h := by
  rw [callF_def e rfl rfl]
  by_cases q : c % 8 = 7
  · simp [fn_l_size_by, q, sizeBy]
  · simp [fn_l_size_by, q, sizeBy]
theorem sizeBy_lt (c : Int) : 0 ≤ sizeBy c ∧ sizeBy c < 300 := by
  unfold sizeBy; split <;> omega

noncomputable def signs : List Nat := [32, 33, 34, 35, 36, 38, 39, 40, 41, 42, 43, 44, 45, 46, 47, 48, 49, 50, 51, 52, 53, 54, 55, 56, 57, 58, 59, 60, 61, 62, 63, 64, 65, 66, 67, 68, 69, 70, 71, 72, 73, 74, 75, 76, 77, 78, 79, 80, 81, 82, 83, 84, 85, 86, 87, 88, 89, 90, 91, 92, 93, 94, 95, 96, 97, 98, 99, 100, 101, 102, 103, 104, 105, 106, 107, 108, 109, 110, 111, 112, 113, 114, 115, 116, 117, 118, 119, 120, 121, 122, 123, 124, 125, 126, 10]
noncomputable def signBy (c : Int) : Nat := (signs[(c % 95).toNat]?).getD 0
theorem sign_by {P : Pr} {n : Nat} {h : Hp} (e : P.fns[3]? = some fn_l_sign_by) (c : Int) : callF P (n + 1) 3 [.int c] h = .ok (.str [signBy c]) h := by
  rw [callF_def e rfl rfl]
  have hs : signs.length = 95 := rfl
  have h1 : 0 ≤ c % 95 := by omega
  have h2 : c % 95 < 95 := by omega
  have h3 : (c % 95).toNat < signs.length := by omega
  have h4 : signs[(c % 95).toNat]? = some (signBy c) := by
    unfold signBy; rw [List.getElem?_eq_getElem h3]; rfl
  have h5 : place signs.length (c % 95) = some (c % 95).toNat := by
    unfold place; rw [if_pos h1, if_pos (by omega)]
  have hl : 64 + 31 ≤ lim := by decide
  have key := idx_str h h5 h4
  have hl' : ([32, 33, 34, 35, 36, 38, 39, 40, 41, 42, 43, 44, 45, 46, 47, 48, 49, 50, 51, 52, 53, 54, 55, 56, 57, 58, 59, 60, 61, 62, 63, 64, 65, 66, 67, 68, 69, 70, 71, 72, 73, 74, 75, 76, 77, 78, 79, 80, 81, 82, 83, 84, 85, 86, 87, 88, 89, 90, 91, 92, 93, 94, 95, 96] : List Nat).length + ([97, 98, 99, 100, 101, 102, 103, 104, 105, 106, 107, 108, 109, 110, 111, 112, 113, 114, 115, 116, 117, 118, 119, 120, 121, 122, 123, 124, 125, 126, 10] : List Nat).length ≤ lim := by decide
  have hd : binA .add (.str [32, 33, 34, 35, 36, 38, 39, 40, 41, 42, 43, 44, 45, 46, 47, 48, 49, 50, 51, 52, 53, 54, 55, 56, 57, 58, 59, 60, 61, 62, 63, 64, 65, 66, 67, 68, 69, 70, 71, 72, 73, 74, 75, 76, 77, 78, 79, 80, 81, 82, 83, 84, 85, 86, 87, 88, 89, 90, 91, 92, 93, 94, 95, 96]) (.str [97, 98, 99, 100, 101, 102, 103, 104, 105, 106, 107, 108, 109, 110, 111, 112, 113, 114, 115, 116, 117, 118, 119, 120, 121, 122, 123, 124, 125, 126, 10]) h = .ok (.str signs) h := add_str h _ _ hl'
  simp [fn_l_sign_by, hd, key, -add_str]

theorem signBy_lt (c : Int) : signBy c < 128 := by
  have : ∀ k < 95, (signs[k]?).getD 0 < 128 := by decide
  exact this _ (by omega)

noncomputable def weigh (f : Int) : List Nat → Int
  | [] => f
  | c :: r => weigh ((f * 131 + c) % 65521) r
theorem weight_is {P : Pr} {n : Nat} {h : Hp} (e : P.fns[0]? = some fn_weight) (s : List Nat) : callF P (n + 1) 0 [.str s] h = .ok (.int (weigh 7 s)) h := by
  rw [callF_def e rfl rfl]
  have key : ∀ (t : List Nat) (f : Int) (x : Option AV), ∃ y, iterL (turn ⟨callF P n⟩ 2 [.set 1 (.bin .mod (.bin .add (.bin .mul (.var 1) (.int 131)) (.bi .ord [.var 2])) (.int 65521))]) (t.map fun c => .str [c]) (h, [some (.str s), some (.int f), x]) =
      .go (h, [some (.str s), some (.int (weigh f t)), y]) := by
    intro t
    induction t with
    | nil => intro f x; exact ⟨x, rfl⟩
    | cons c r ih =>
      intro f x
      obtain ⟨y, q⟩ := ih ((f * 131 + c) % 65521) (some (.str [c]))
      refine ⟨y, ?_⟩
      rw [List.map_cons, iterL, turn_next (h' := h) (vs' := [some (.str s), some (.int ((f * 131 + c) % 65521)), some (.str [c])]) (by simp)]
      exact q
  obtain ⟨y, q⟩ := key s 7 none
  simp [fn_weight, loopS_go q]

theorem whole_is {P : Pr} {n : Nat} {h : Hp} (e : P.fns[2]? = some fn_l_whole) (i : Int) : callF P (n + 1) 2 [.int i] h = .ok (.bool true) h := by
  rw [callF_def e rfl rfl]
  simp [fn_l_whole]

/-! ### the text -/
theorem rep_length (n : Nat) (s : List Nat) : (rep n s).length = n * s.length := by
  induction n with
  | zero => simp [rep]
  | succ n ih => simp [rep, ih, Nat.succ_mul]; omega
theorem rep_mem {n : Nat} {s : List Nat} {c : Nat} (h : c ∈ rep n s) : c ∈ s := by
  induction n with
  | zero => simp [rep] at h
  | succ n ih => simp only [rep, List.mem_append] at h; exact h.elim id ih

theorem text_tail {P : Pr} {n : Nat} {h : Hp} (e3 : P.fns[3]? = some fn_l_sign_by) (c z g b : Int) (z1 : z < 300) (b0 : 0 < b) (b1 : b ≤ z) (g0 : 0 < g) (g1 : g ≤ 95) :
    ∃ s, exs ⟨callF P (n + 1)⟩ (fn_l_text_by.body.drop 4) h [some (.int c), some (.int z), some (.int g), some (.int b), none, none, none] = .ret (.str s) h ∧ (∀ x ∈ s, x < 128) ∧ s.length = z.toNat := by
  have hl : (300 : Int) * 300 ≤ lim := by decide
  obtain ⟨k, rfl⟩ : ∃ k : Nat, b = k := ⟨b.toNat, by omega⟩
  obtain ⟨st, q, got, num, y, rfl, j1, j2⟩ := range_inv (f := turn ⟨callF P (n + 1)⟩ 6 [.set 5 (.bin .mod (.bin .add (.bin .mul (.var 5) (.int 48271)) (.int 11)) (.int 2147483647)),
      .set 4 (.bin .add (.var 4) (.call 3 [.bin .add (.int 65) (.bin .mod (.bin .div (.var 5) (.int 7)) (.var 2))]))])
    (fun i st => ∃ (got : List Nat) (num : Int) (y : Option AV), st = (h, [some (.int c), some (.int z), some (.int g), some (.int (k : Int)), some (.str got), some (.int num), y]) ∧ (∀ x ∈ got, x < 128) ∧ got.length = i) k
    (s := (h, [some (.int c), some (.int z), some (.int g), some (.int (k : Int)), some (.str []), some (.int c), none]))
    ⟨[], c, none, rfl, by simp, rfl⟩ (by
      rintro i _ hi ⟨got, num, y, rfl, j1, j2⟩
      refine ⟨_, turn_next (h' := h) (vs' := [some (.int c), some (.int z), some (.int g), some (.int (k : Int)), some (.str (got ++ [signBy (65 + (num * 48271 + 11) % 2147483647 / 7 % g)])), some (.int ((num * 48271 + 11) % 2147483647)), some (.int i)]) ?_, _, _, _, rfl, ?_, ?_⟩
      · have hq : got.length + 1 ≤ lim := by omega
        simp [g0, sign_by e3, hq]
      · intro x hx
        rcases List.mem_append.mp hx with q | q
        · exact j1 x q
        · rw [List.mem_singleton.mp q]; exact signBy_lt _
      · simp [j2])
  have d0 : 0 ≤ z / (k : Int) := Int.ediv_nonneg (by omega) (by omega)
  have d1 : z / (k : Int) ≤ z := Int.ediv_le_self _ (by omega)
  have d2 : z < (k : Int) * (z / (k : Int) + 1) := by
    have := Int.lt_mul_ediv_self_add (x := z) (k := (k : Int)) (by omega)
    rw [Int.mul_add]; omega
  have d4 : got.length * (z / (k : Int) + 1).toNat ≤ lim := by
    have : got.length * (z / (k : Int) + 1).toNat ≤ 300 * 300 := Nat.mul_le_mul (by omega) (by omega)
    have : 300 * 300 ≤ lim := by decide
    omega
  have d5 : z.toNat ≤ (rep (z / (k : Int) + 1).toNat got).length := by
    rw [rep_length, j2]
    have : (((z / (k : Int) + 1).toNat * k : Nat) : Int) = (k : Int) * (z / (k : Int) + 1) := by
      rw [Int.natCast_mul, Int.toNat_of_nonneg (by omega), Int.mul_comm]
    omega
  have hm := mul_str h got (z / (k : Int) + 1) (by omega) (by omega) d4
  refine ⟨(rep (z / (k : Int) + 1).toNat got).take z.toNat, ?_, fun x hx => j1 x (rep_mem (List.mem_of_mem_take hx)), by rw [List.length_take]; omega⟩
  have hsl : sliceA (.str (rep (z / (k : Int) + 1).toNat got)) .none (.int z) h = .ok (.str ((rep (z / (k : Int) + 1).toNat got).take z.toNat)) h := by
    simp only [sliceA, bound, cut]
    rw [if_pos (by omega), Nat.min_eq_left d5]; simp
  have r1 : -(lim : Int) ≤ (k : Int) := by omega
  have r2 : (k : Int) ≤ lim := by omega
  have r3 : 0 < (k : Int) := by omega
  have r4 : (k : Int) < 18446744073709551616 := by omega
  have hdv := div_int h z k r3 r4
  simp [fn_l_text_by, loopS_go q, hm, hsl, r1, r2, hdv, -mul_str, -div_int]

theorem text_by {P : Pr} {n : Nat} {h : Hp} (e3 : P.fns[3]? = some fn_l_sign_by) (e4 : P.fns[4]? = some fn_l_text_by) (c z : Int) (z0 : 0 ≤ z) (z1 : z < 300) :
    ∃ s, callF P (n + 2) 4 [.int c, .int z] h = .ok (.str s) (h ++ [.list [.int 2, .int 95, .int 95, .int 1]]) ∧ (∀ x ∈ s, x < 128) ∧ s.length = z.toNat := by
  rw [callF_def e4 rfl rfl]
  obtain ⟨g, hg0, hg1, hg⟩ : ∃ g : Int, 0 < g ∧ g ≤ 95 ∧ idxA (.ref h.length) (.int (c % 4)) (h ++ [.list [.int 2, .int 95, .int 95, .int 1]]) = some (.int g) := by
    have q : c % 4 = ((c % 4).toNat : Int) := by omega
    have q1 : (c % 4).toNat < 4 := by omega
    rw [q]
    generalize (c % 4).toNat = k at q1
    have : ∀ j : Nat, j < 4 → ∃ g : Int, 0 < g ∧ g ≤ 95 ∧ ([.int 2, .int 95, .int 95, .int 1] : List AV)[j]? = some (.int g) := by
      intro j hj
      match j, hj with
      | 0, _ => exact ⟨2, by decide, by decide, rfl⟩
      | 1, _ => exact ⟨95, by decide, by decide, rfl⟩
      | 2, _ => exact ⟨95, by decide, by decide, rfl⟩
      | 3, _ => exact ⟨1, by decide, by decide, rfl⟩
    obtain ⟨g, g0, g1, e⟩ := this k q1
    exact ⟨g, g0, g1, idx_list (xs := [.int 2, .int 95, .int 95, .int 1]) _ (by simp) (place_at (n := 4) q1) e⟩
  have hl : 4 ≤ lim := by decide
  rw [exs_split 3]
  obtain ⟨b, b0, b1, b2, hb⟩ : ∃ b : Int, 0 ≤ b ∧ b ≤ z ∧ (b = 0 → z = 0) ∧ exs ⟨callF P (n + 1)⟩ (fn_l_text_by.body.take 3) h ([AV.int c, AV.int z].map some ++ List.replicate (fn_l_text_by.names.length - fn_l_text_by.np) none) =
      .next (h ++ [.list [.int 2, .int 95, .int 95, .int 1]]) [some (.int c), some (.int z), some (.int g), some (.int b), none, none, none] := by
    by_cases q : c % 4 = 2
    · refine ⟨if 1 + c / 4 % 50 < z then 1 + c / 4 % 50 else z, by split <;> omega, by split <;> omega, by split <;> omega, ?_⟩
      rw [q] at hg
      simp [fn_l_text_by, hg, q, hl]
    · refine ⟨z, z0, by omega, fun e => e, ?_⟩
      simp [fn_l_text_by, hg, q, hl]
  rw [hb, seqS_next]
  by_cases q : b = 0
  · refine ⟨[], ?_, by simp, by rw [b2 q]; rfl⟩
    simp [fn_l_text_by, q]
  · obtain ⟨s, e, h1, h2⟩ := text_tail (n := n) (h := h ++ [.list [.int 2, .int 95, .int 95, .int 1]]) e3 c z g b z1 (by omega) b1 hg0 hg1
    refine ⟨s, ?_, h1, h2⟩
    have : fn_l_text_by.body.drop 3 = (.ifs (.cmp (.var 3) .eq (.int 0)) [.ret (.str [])] []) :: fn_l_text_by.body.drop 4 := rfl
    rw [this, exs_cons]
    have : ex ⟨callF P (n + 1)⟩ (.ifs (.cmp (.var 3) .eq (.int 0)) [.ret (.str [])] []) (h ++ [.list [.int 2, .int 95, .int 95, .int 1]]) [some (.int c), some (.int z), some (.int g), some (.int b), none, none, none] =
      .next (h ++ [.list [.int 2, .int 95, .int 95, .int 1]]) [some (.int c), some (.int z), some (.int g), some (.int b), none, none, none] := by simp [q]
    rw [this, seqS_next, e, fin_ret]
end Mine.PL

set_option Elab.async false
namespace Mine.PL
/-! ### the law -/
noncomputable def powMod (n : Nat) : Int := match n with
  | 0 => 1
  | n + 1 => powMod n * 131 % 65521
/-- what the loop from behind adds up -/
noncomputable def total (s : List Nat) (i : Nat) : Int := match i with
  | 0 => 0
  | i + 1 => (total s i + ((s[s.length - 1 - i]?).getD 0 : Nat) * powMod i) % 65521
theorem mod_in (t x p : Int) : (t + x % 65521 * p) % 65521 = (t + x * p) % 65521 := by
  rw [Int.emod_def x 65521]
  have : t + (x - 65521 * (x / 65521)) * p = t + x * p + 65521 * (-(x / 65521) * p) := by grind
  rw [this, Int.add_mul_emod_self_left]
theorem total_cons (c : Nat) (r : List Nat) : ∀ i, i ≤ r.length → total (c :: r) i = total r i
  | 0, _ => rfl
  | i + 1, h => by
    rw [total, total, total_cons c r i (by omega)]
    have : (c :: r).length - 1 - i = (r.length - 1 - i) + 1 := by simp only [List.length_cons]; omega
    rw [this, List.getElem?_cons_succ]
theorem weigh_is (f : Int) (s : List Nat) : weigh f s % 65521 = (total s s.length + f * powMod s.length) % 65521 := by
  induction s generalizing f with
  | nil => simp [weigh, total, powMod]
  | cons c r ih =>
    rw [weigh, ih, mod_in, List.length_cons, total, powMod, total_cons c r _ (Nat.le_refl _)]
    have : (c :: r).length - 1 - r.length = 0 := by simp
    rw [this]
    simp only [List.getElem?_cons_zero, Option.getD_some]
    rw [Int.emod_add_emod, show f * (powMod r.length * 131 % 65521) = powMod r.length * 131 % 65521 * f from Int.mul_comm _ _, mod_in]
    congr 1
    grind
theorem weigh_range {f : Int} (h : 0 ≤ f ∧ f < 65521) (s : List Nat) : 0 ≤ weigh f s ∧ weigh f s < 65521 := by
  induction s generalizing f with
  | nil => exact h
  | cons c r ih => exact ih ⟨Int.emod_nonneg _ (by decide), Int.emod_lt_of_pos _ (by decide)⟩
theorem powMod_range (n : Nat) : 0 ≤ powMod n ∧ powMod n < 65521 := by
  cases n with
  | zero => exact ⟨by decide, by decide⟩
  | succ n => exact ⟨Int.emod_nonneg _ (by decide), Int.emod_lt_of_pos _ (by decide)⟩

theorem plain01 (ns : List Int) (_ : ns.length ≤ 63) : ∃ hp, callF prog 3 law01 [.scr ns] [] = .ok (.bool true) hp := by
  have z := sizeBy_lt (cellAt ns 1)
  obtain ⟨s, es, _, hs⟩ := text_by (P := prog) (n := 0) (h := []) rfl rfl (cellAt ns 0) (sizeBy (cellAt ns 1)) z.1 z.2
  have hsl : s.length < 300 := by omega
  refine ⟨[.list [.int 2, .int 95, .int 95, .int 1]], ?_⟩
  rw [callF_def (fn := fn_law) rfl rfl rfl]
  obtain ⟨st, q, y, rfl⟩ := range_inv (f := turn ⟨callF prog 2⟩ 4 [.set 3 (.bin .mod (.bin .add (.var 3) (.bin .mul (.bi .ord [.idx (.var 1) (.bin .sub (.bin .sub (.bi .len [.var 1]) (.int 1)) (.var 4))]) (.var 2))) (.int 65521)),
      .set 2 (.bin .mod (.bin .mul (.var 2) (.int 131)) (.int 65521))])
    (fun i st => ∃ (y : Option AV), st = ([.list [.int 2, .int 95, .int 95, .int 1]], [some (.scr ns), some (.str s), some (.int (powMod i)), some (.int (total s i)), y, none])) s.length
    (s := ([.list [.int 2, .int 95, .int 95, .int 1]], [some (.scr ns), some (.str s), some (.int 1), some (.int 0), none, none])) ⟨none, rfl⟩ (by
      rintro i _ hi ⟨y, rfl⟩
      refine ⟨_, turn_next (h' := [.list [.int 2, .int 95, .int 95, .int 1]]) (vs' := [some (.scr ns), some (.str s), some (.int (powMod (i + 1))), some (.int (total s (i + 1))), some (.int i), none]) ?_, _, rfl⟩
      have h1 : place s.length ((s.length : Int) - 1 - (i : Int)) = some (s.length - 1 - i) := by
        have : (s.length : Int) - 1 - (i : Int) = ((s.length - 1 - i : Nat) : Int) := by omega
        rw [this]; exact place_at (by omega)
      have h2 : s[s.length - 1 - i]? = some ((s[s.length - 1 - i]?).getD 0) := by
        rw [List.getElem?_eq_getElem (by omega)]; rfl
      have h3 := fun h => idx_str h h1 h2
      have h4 := fun h => mul_small h (((s[s.length - 1 - i]?).getD 0 : Nat) : Int) (powMod i) (.inl (by have := powMod_range i; omega))
      simp [h3, h4, -mul_small, mul_small _ (powMod i) 131 (.inl (by decide)), powMod, total])
  have c0 := cell_at (P := prog) (n := 1) (h := []) rfl ns 0
  have c1 := cell_at (P := prog) (n := 1) (h := []) rfl ns 1
  have sz := size_by (P := prog) (n := 1) (h := []) rfl (cellAt ns 1)
  have w := weight_is (P := prog) (n := 1) (h := [.list [.int 2, .int 95, .int 95, .int 1]]) rfl s
  have wh := whole_is (P := prog) (n := 1) (h := [.list [.int 2, .int 95, .int 95, .int 1]]) rfl (weigh 7 s)
  have fin : weigh 7 s = (total s s.length + 7 * powMod s.length) % 65521 := by
    have h1 := weigh_is 7 s
    have h2 := weigh_range (f := 7) (by decide) s
    rw [← h1]; omega
  have hl : 300 ≤ lim := by decide
  have r1 : -(lim : Int) ≤ (s.length : Int) := by omega
  have r2 : s.length ≤ lim := by omega
  simp only [Nat.reduceAdd, Int.cast_ofNat_Int] at c0 c1 sz w wh es
  simp [fn_law, c0, c1, sz, es, w, wh, loopS_go q, r1, r2, fin.symm]
end Mine.PL

open PySem PySem.W PyProof.Rows
set_option Elab.async false
set_option maxRecDepth 100000
set_option maxHeartbeats 8000000
open_top Mine.hd01 for PySem.Challenge.rw_uf020013_01
theorem PySem.Challenge.cw_uf020013_01_holds : PySem.Challenge.rw_uf020013_01.Holds :=
  Mine.hd01 (by
  k_fill
  intro w s₀ s₁ mg mb G Y fa o pm cd doc dV kV ho hd hcd hD hmg hg args vals as hpre hlay hrd hwl hlo
  have KX := kIn_of Y
  refine Ground.open G ?_
  intro T B D TE TW
  wrow_args hpre hlay hrd hwl hlo
  rename_i hL hra hw1 hr0 hI hra2 hc1 hc2
  refine Mine.law_call (P := Mine.prog) (lw := Mine.law01) (n := 8) KX (topRead_of T) ?hf hmg ?hl hL hI ?hn (by decide) (Mine.PL.plain01 _ ?h63) ?hR
  case h63 => omega
  case hf => kernel_rfl
  case hl => kernel_rfl
  case hn => show _ ≤ 16777216; omega
  case hR =>
    intro s' hk hos hgs
    refine' GoodW.toG ⟨.inl ⟨_, _, _, rfl, raisesW_false (by wrow_none_raised), .bool true, postW_of ?hsh ?hva ?hen, unshared_nil⟩, hk, hos, hgs.trans hg⟩
    case hsh => o_shape
    case hva => wtm_val
    case hen => w_fin)
