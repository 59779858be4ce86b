import PyProof.Rows.All
import Wide.All
import OpenK.AllK
import Wide.FinOn
import PyProof.P3Statements
import PyProof.StrBlock
import PyProof.SliceMore
import PyProof.StrBlockL
import PyProof.StrCalls6
import PyProof.CompFree
import PyProof.DefCall
import PyProof.StationsW
import PyProof.Rows.News
import OpenK.Peek
import PyProof.ToksMono
import PyProof.EqKinds
import PyProof.DictKinds
import PyProof.TupleKey
import PyProof.DictRoadsH
import KE.KIsNot
import OpenK.KOwn
import OpenK.KLine
import PyProof.Rules3
import PyProof.Cells
import PyProof.PureInt
import PyProof.ListOps
import PyProof.StrBlock2
import PyProof.NoPylong
import PyProof.Rows.RuleB_floordiv
import PyProof.Rows.IntRules
import PyProof.DictCalls
import PyProof.DictIter
import PyProof.DictTable
import PyProof.MeetsDictList
import PyProof.DictStraight
import PyProof.DictTruth
import PyProof.EqLayable
import PyProof.P3In
import PyProof.FString5
import PyProof.Truth
import PyProof.ListTruth
import PyProof.Rows.Nodes
import PyProof.Rows.TupMore
import PyProof.Rows.Lst
import PyProof.Rows.StrInSeq3
import PyProof.SliceStr2
import PyProof.SliceSyntax
import PyProof.LetGo
import PyProof.ListIndexNeg
import PyProof.TupleIter
import PyProof.Rows.TupSub
import PyProof.Rows.StrTemp
import PyProof.Rows.FactsTup
import PyProof.Rows.FactsSeq_str
import PyProof.FactsIdx
import PyProof.StrBlockI
import PyProof.SeqI
import OpenK.KWalk
import PyProof.DictWalks
import KE.KDictSum
import KE.KSortTup
import PyProof.Rows.SortStr
import PyProof.Conv_int_bool
import KE.LcSums
import PyProof.CallStr
import PyProof.FitsInt
import PyProof.TupleOfSeq
import OpenK.KMore
import PyProof.IsRules
import PyProof.Rows.Chain
import PyProof.PlainList
import PyProof.CompMap
import PyProof.WalksMore
import PyProof.StrWalks
import PyProof.AssignAttr
import PyProof.StrLawsTight
import PyProof.FactsAll.str_6
import PyProof.RulesAs
import PyProof.CompUse
import OpenK.KRaise
import PyProof.ExcClass3
import Open.Boot
import Open.Tree
import PyProof.TableCode
import PyProof.Ascii
import PySem.Challenge.RW_uf020013_09
set_option Elab.async false
set_option genInjectivity false
set_option genSizeOf false
set_option bootstrap.genMatcherCode false
namespace Mine
set_option genInjectivity true in
inductive AV where
 | none
 | bool (b:Bool)
 | int (i:Int)
 | str (s:List Nat)
 | tup (xs:List AV)
 | ref (l:Nat)
 | scr (ns:List Int)
 | rng (a b:Int)
 | exc (c:Nat)
set_option genInjectivity true in
inductive AO where
 | list (xs:List AV)
 | dict (ep:Option Nat) (es:List (AV×AV))
 | inst (c:Nat) (fs:List (Option AV))
noncomputable abbrev Hp:=List AO
noncomputable abbrev Vs:=List (Option AV)
set_option genInjectivity true in
inductive Out (α:Type) where
 | ok (a:α) (h:Hp)
 | fail
noncomputable def Out.bind {α β:Type} (x:Out α) (f:α→Hp→Out β):Out β :=
 match x with
 | .ok a h=>f a h
 | .fail=>.fail
set_option genInjectivity true in
inductive i9 where
 | next (h:Hp) (vs:Vs)
 | ret (v:AV) (h:Hp)
 | fail
inductive BOp where|add|sub|mul|mod|div
deriving DecidableEq
inductive COp where|eq|ne|lt|le|gt|ge|isin|notin
deriving DecidableEq
inductive Kd where|int|str|bool|tup|list
deriving DecidableEq
inductive Bi where|len|ord|range|min|sum|all|sorted|list|tuple|int|str|max
deriving DecidableEq
inductive Bm where|append|get|setdefault|pop|join
deriving DecidableEq
inductive ME where
 | none
 | bool (b:Bool)
 | int (i:Int)
 | str (s:List Nat)
 | var (x:Nat)
 | gl (g:Nat)
 | bin (op:BOp) (l r:ME)
 | not (e:ME)
 | and (es:List ME)
 | or (es:List ME)
 | cmp (l:ME) (op:COp) (r:ME)
 | chain (l:ME) (op:COp) (m:ME) (op':COp) (r:ME)
 | isNone (e:ME)
 | isTrue (e:ME)
 | tup (es:List ME)
 | list (es:List ME)
 | dict (kvs:List ME)
 | idx (o i:ME)
 | slice (o lo hi:ME) (bl bh:Bool)
 | attr (o:ME) (a:Nat)
 | call (f:Nat) (args:List ME)
 | new (c:Nat) (args:List ME)
 | meth (o:ME) (m:Nat) (args:List ME)
 | bi (b:Bi) (args:List ME)
 | bm (m:Bm) (o:ME) (args:List ME)
 | inst (e:ME) (k:Kd)
 | comp (elt:ME) (x:Nat) (src:ME) (conds:List ME) (sc:PySem.Scope)
 | instX (e:ME) (k:Option Nat)
 | neg (i:Int)
 | repl (e:ME) (c:Nat) (b:List Nat)
 | chain3 (l:ME) (op:COp) (m:ME) (op':COp) (r:ME) (op'':COp) (q:ME)
inductive MS where
 | set (x:Nat) (e:ME)
 | setAttr (o:ME) (a:Nat) (e:ME)
 | setItem (o i:ME) (e:ME)
 | expr (e:ME)
 | ifs (t:ME) (a b:List MS)
 | loop (x:Nat) (src:ME) (body:List MS)
 | ret (e:ME)
 | pass
 | raise (c:Nat) (msg:List Nat)
structure Fn where
 name:PySem.Str
 ps:Nat
 np:Nat
 nl:Nat
 names:List PySem.Str
 body:List MS
 hdl:Option (Nat×Nat×ME):=none
 aft:Bool:=false
structure Cl where
 name:PySem.Str
 init:Option Nat
 meths:List (Nat×Nat)
structure Pr where
 fns:List Fn
 cls:List Cl
 consts:List (PySem.Str×AV)
 attrs:List PySem.Str
 methNames:List PySem.Str
 excs:List (PySem.Str×List Nat):=[]
 hd:Bool:=false
noncomputable def lim:Nat:=16777216
noncomputable def orO {α β:Type} (o:Option α) (f:α→β) (g:β):β:=match o with
 | some x=>f x
 | Option.none=>g
noncomputable def ofO {α β:Type} (o:Option α) (f:α→Out β):Out β:=match o with
 | some x=>f x
 | Option.none=>.fail
noncomputable def ifO {β:Type} (c:Bool) (x:Out β):Out β:=match c with
 | true=>x
 | false=>.fail
noncomputable def ifS {β:Type} (c:Bool) (x:Option β):Option β:=match c with
 | true=>x
 | false=>Option.none
noncomputable def x5 {β:Type} (t:Option Bool) (x y:Out β):Out β:=match t with
 | some b=>(match b with
  | true=>x
  | false=>y)
 | Option.none=>.fail
noncomputable def p0 {α β:Type} (f:α→Option β):List α→Option (List β)
 | []=>some []
 | x :: xs=>(f x).bind fun y=>(p0 f xs).map fun ys=>y :: ys
noncomputable def tS (s:List Nat):PySem.Str:=⟨s.toArray⟩
noncomputable def lst (o:Option AO):Option (List AV):=match o with
 | some (.list xs)=>some xs
 | _=>Option.none
noncomputable def dct (o:Option AO):Option (Option Nat×List (AV×AV)):=match o with
 | some (.dict ep es)=>some (ep,es)
 | _=>Option.none
noncomputable def ins (o:Option AO):Option (Nat×List (Option AV)):=match o with
 | some (.inst c fs)=>some (c,fs)
 | _=>Option.none
noncomputable def asInt:AV→Option Int
 | .int i=>some i
 | _=>Option.none
noncomputable def asStr:AV→Option (List Nat)
 | .str s=>some s
 | _=>Option.none
noncomputable def asRef:AV→Option Nat
 | .ref l=>some l
 | _=>Option.none
noncomputable def asTup:AV→Option (List AV)
 | .tup xs=>some xs
 | _=>Option.none
noncomputable def asScr:AV→Option (List Int)
 | .scr ns=>some ns
 | _=>Option.none
noncomputable def asExc:AV→Option Nat
 | .exc c=>some c
 | _=>Option.none
noncomputable def asBool:AV→Option Bool
 | .bool b=>some b
 | _=>Option.none
noncomputable def isN:AV→Bool
 | .none=>true
 | _=>false
noncomputable def isT (v:AV):Bool:=orO (asBool v) id false
noncomputable def o6 (h:Hp) (v:AV):Option (List AV):=(asRef v).bind fun l=>lst h[l]?
noncomputable def A5 (h:Hp) (v:AV):Option (Option Nat×List (AV×AV)):=(asRef v).bind fun l=>dct h[l]?
noncomputable def a8k (h:Hp) (v:AV):Option (Nat×List (Option AV)):=(asRef v).bind fun l=>ins h[l]?
noncomputable def b6e (v:AV):Option PySem.PyData:=orO (asInt v) (fun i=>some (.int i)) (orO (asStr v) (fun s=>some (.str (tS s))) (orO (asBool v) (fun b=>some (.bool b)) (ifS (isN v) (some .none))))
noncomputable def V7 (v:AV):Option PySem.PyData:=orO (asTup v) (fun xs=>(p0 b6e xs).map .tuple) (b6e v)
noncomputable def dat (h:Hp) (v:AV):Option PySem.PyData:=orO (o6 h v) (fun xs=>(p0 V7 xs).map .list) (V7 v)
noncomputable def eqA (h:Hp) (a b:AV):Option Bool:=(dat h a).bind fun x=>(dat h b).map fun y=>PySem.PyData.eqv x y
noncomputable def a4B (v:AV):Option (PySem.Str ⊕ Int):=orO (asInt v) (fun i=>some (.inr i)) ((asStr v).map fun s=>.inl (tS s))
noncomputable def tks (k:AV):Option (List (PySem.Str ⊕ Int)):=(asTup k).bind (p0 a4B)
noncomputable abbrev Ky:=(PySem.Str ⊕ Int) ⊕ List (PySem.Str ⊕ Int)
noncomputable def kof (v:AV):Option Ky:=orO (tks v) (fun ks=>some (.inr ks)) ((a4B v).map .inl)
noncomputable def isK (b:Bool) (v:AV):Bool:=orO (kof v) (fun x=>x.isRight == b) false
noncomputable def keq (a b:AV):Bool:=orO (kof a) (fun x=>orO (kof b) (fun y=>decide (x = y)) false) false
noncomputable def E1 (es:List (AV×AV)) (k:AV):Bool:=match es with
 | []=>(kof k).isSome
 | p :: _=>(isK true k && isK true p.1) || (isK false k && isK false p.1)
noncomputable def J0 (es:List (AV×AV)) (k:AV):Option Nat:=es.findIdx? fun p=>keq p.1 k
noncomputable def o8 (es:List (AV×AV)) (k:AV):Option AV:=(J0 es k).bind fun i=>(es[i]?).map (·.2)
noncomputable def y8 (es:List (AV×AV)) (k v:AV):List (AV×AV):=orO (J0 es k) (fun i=>es.modify i fun p=>(p.1,v)) (es ++ [(k,v)])
noncomputable def a1A (es:List (AV×AV)) (k:AV):List (AV×AV):=orO (J0 es k) (fun i=>es.eraseIdx i) es
noncomputable def rep (n:Nat) (s:List Nat):List Nat:=match n with
 | 0=>[]
 | n + 1=>s ++ rep n s
noncomputable def b5B (a:Int):Bool:=decide (a.natAbs < 18446744073709551616)
noncomputable def newList (xs:List AV) (h:Hp):Out AV:=ifO (decide (xs.length≤lim)) (.ok (.ref h.length) (h ++ [.list xs]))
noncomputable def D5 (o:Option Bool) (h:Hp):Out AV:=ofO o fun b=>.ok (.bool b) h
noncomputable def b1V (v:Option AV) (h:Hp):Out AV:=ofO v fun v=>.ok v h
noncomputable def P1 (f:Int→Int→Out AV) (a b:AV):Out AV:=ofO (asInt a) fun x=>ofO (asInt b) fun y=>f x y
noncomputable def b7y (a b:AV) (h:Hp):Out AV:=orO (asInt a) (fun x=>ofO (asInt b) fun y=>.ok (.int (x + y)) h)
 (orO (asStr a) (fun x=>ofO (asStr b) fun y=>ifO (decide (x.length + y.length≤lim)) (.ok (.str (x ++ y)) h))
  (ofO (o6 h a) fun xs=>ofO (o6 h b) fun ys=>newList (xs ++ ys) h))
noncomputable def b7a (a b:AV) (h:Hp):Out AV:=orO (asStr a) (fun x=>ofO (asInt b) fun y=>ifO (decide (-lim≤y∧y≤lim∧x.length * y.toNat≤lim)) (.ok (.str (rep y.toNat x)) h))
 (P1 (fun x y=>ifO (b5B x || b5B y) (.ok (.int (x * y)) h)) a b)
noncomputable def M2 (op:BOp) (a b:AV) (h:Hp):Out AV:=match op with
 | .add=>b7y a b h
 | .sub=>P1 (fun x y=>.ok (.int (x - y)) h) a b
 | .mul=>b7a a b h
 | .mod=>P1 (fun x y=>ifO (decide (0 < y)) (.ok (.int (x % y)) h)) a b
 | .div=>P1 (fun x y=>ifO (decide (0 < y∧y < 18446744073709551616)) (.ok (.int (x / y)) h)) a b
noncomputable def b2N (f:Int→Int→Bool) (a b:AV):Option Bool:=(asInt a).bind fun x=>(asInt b).map fun y=>f x y
noncomputable def a4t (h:Hp) (v:AV):Option (List AV):=orO (asTup v) some (o6 h v)
noncomputable def inA (h:Hp) (x v:AV):Option Bool:=orO (A5 h v) (fun p=>ifS (E1 p.2 x) (some (o8 p.2 x).isSome))
 (orO (asStr v) (fun s=>(asStr x).map fun x=>PySem.Txt.contains (tS s) (tS x)) (((a4t h v).bind (p0 V7)).bind fun ds=>(V7 x).map fun d=>ds.any fun y=>PySem.PyData.eqv y d))
noncomputable def j5 (op:COp) (a b:AV) (h:Hp):Option Bool:=match op with
 | .eq=>eqA h a b
 | .ne=>(eqA h a b).map (!·)
 | .isin=>inA h a b
 | .notin=>(inA h a b).map (!·)
 | .lt=>b2N (fun x y=>decide (x < y)) a b
 | .le=>orO (asStr a) (fun x=>(asStr b).map fun y=>!decide (y < x)) (b2N (fun x y=>decide (x≤y)) a b)
 | .gt=>b2N (fun x y=>decide (x > y)) a b
 | .ge=>b2N (fun x y=>decide (x ≥ y)) a b
noncomputable def j8 (v:AV):Option Bool:=orO (asBool v) some (orO (asInt v) (fun i=>some (decide (i≠0))) (orO (asStr v) (fun s=>some (!s.isEmpty)) (ifS (isN v) (some false))))
noncomputable def E3 (n:Nat) (i:Int):Option Nat:=PySem.seqIndex? i n
noncomputable def A4 (n:Nat) (dflt:Nat) (v:AV):Option Nat:=orO (asInt v) (fun i=>some (PySem.clipAt n i)) (ifS (isN v) (some dflt))
noncomputable def cut {α:Type} (xs:List α) (a b:Nat):List α:=(xs.drop a).take (b - a)
noncomputable def a3q (xs:List AV) (i:Int):Option AV:=(E3 xs.length i).bind fun k=>xs[k]?
noncomputable def b8a (o:AV) (i:Int) (h:Hp):Option AV:=orO (asStr o) (fun s=>(E3 s.length i).bind fun k=>(s[k]?).map fun c=>.str [c])
 (orO (asTup o) (fun xs=>a3q xs i) (orO (asScr o) (fun ns=>(E3 ns.length i).bind fun k=>(ns[k]?).map .int) ((o6 h o).bind fun xs=>a3q xs i)))
noncomputable def w4 (o i:AV) (h:Hp):Option AV:=orO (A5 h o) (fun p=>ifS (E1 p.2 i) (o8 p.2 i)) ((asInt i).bind fun i=>b8a o i h)
noncomputable def D9 (o lo hi:AV) (h:Hp):Out AV:=orO (asStr o) (fun s=>ofO (A4 s.length 0 lo) fun a=>ofO (A4 s.length s.length hi) fun b=>.ok (.str (cut s a b)) h)
 (orO (asScr o) (fun ns=>ofO (A4 ns.length 0 lo) fun a=>ofO (A4 ns.length ns.length hi) fun b=>newList ((cut ns a b).map .int) h)
  (ofO (o6 h o) fun xs=>ofO (A4 xs.length 0 lo) fun a=>ofO (A4 xs.length xs.length hi) fun b=>newList (cut xs a b) h))
noncomputable def b4E (v:AV) (h:Hp):Option Nat:=orO (asStr v) (fun s=>some s.length) (orO (asScr v) (fun ns=>some ns.length) (orO (a4t h v) (fun xs=>some xs.length) ((A5 h v).map fun p=>p.2.length)))
noncomputable def b8W (v:AV) (h:Hp):Out AV:=ofO (b4E v h) fun n=>.ok (.int n) h
noncomputable def one (s:List Nat):Option Nat:=match s with
 | []=>Option.none
 | c :: r=>(match r with
  | []=>some c
  | _ :: _=>Option.none)
noncomputable def b8A (v:AV) (h:Hp):Out AV:=ofO ((asStr v).bind one) fun c=>.ok (.int c) h
noncomputable def B5 (h:Hp) (v:AV):Option (List AV):=orO (o6 h v) some ((A5 h v).map fun p=>p.2.map (·.1))
noncomputable def a5v:List Int→Bool
 | []=>true
 | a :: r=>(match r with
  | []=>true
  | b :: _=>decide (a < b) && a5v r)
noncomputable def a1D {α:Type} (lt:α→α→Bool) (x:α):List α→List α
 | []=>[x]
 | y :: r=>if lt y x then y :: a1D lt x r else x :: y :: r
noncomputable def u7 {α:Type} (lt:α→α→Bool):List α→List α
 | []=>[]
 | x :: r=>a1D lt x (u7 lt r)
noncomputable def ltI (a b:Int):Bool:=decide (a < b)
noncomputable def ltT (a b:List Nat):Bool:=decide (a < b)
noncomputable def a3Y (xs:List AV):Option (List AV):=orO (p0 asInt xs) (fun ns=>if a5v ns then some xs else ifS (decide (ns.length < 64)) (some ((u7 ltI ns).map .int)))
 (orO (p0 asStr xs) (fun ts=>ifS (decide (ts.length < 64)) (some ((u7 ltT ts).map .str)))
  Option.none)
noncomputable def a0J:Int→List Int→Int
 | a,[]=>a
 | a,b :: r=>a0J (if b < a then b else a) r
noncomputable def b7r (ns:List Int):Option Int:=match ns with
 | []=>Option.none
 | a :: r=>some (a0J a r)
noncomputable def a2o (h:Hp) (v:AV):Option (List Int):=(o6 h v).bind (p0 asInt)
noncomputable def b9k (v:AV) (h:Hp):Out AV:=ofO ((a2o h v).bind b7r) fun i=>.ok (.int i) h
noncomputable def b4b (a b:Int) (h:Hp):Out AV:=ifO (decide (-lim≤a∧a≤lim∧-lim≤b∧b≤lim)) (.ok (.rng a b) h)
noncomputable def a5F (v:AV) (h:Hp):Out AV:=ofO ((B5 h v).bind a3Y) fun xs=>newList xs h
noncomputable def b9j (v:AV) (h:Hp):Out AV:=ofO (a2o h v) fun ns=>.ok (.int ns.sum) h
noncomputable def b8X (v:AV) (h:Hp):Out AV:=ofO ((o6 h v).bind (p0 asBool)) fun bs=>.ok (.bool (bs.all id)) h
noncomputable def a7t (xs:List AV) (h:Hp):Out AV:=ifO (decide (xs.length≤lim)) (.ok (.tup xs) h)
noncomputable def l9 (i:Int):List Nat:=(PySem.Str.ofString (toString i)).cps.toList
noncomputable def bi1 (b:Bi) (v:AV) (h:Hp):Out AV:=match b with
 | .len=>b8W v h
 | .range=>ofO (asInt v) fun b=>b4b 0 b h
 | .sorted=>a5F v h
 | .list=>ofO (B5 h v) fun xs=>newList xs h
 | .ord=>b8A v h
 | .min=>b9k v h
 | .sum=>b9j v h
 | .all=>b8X v h
 | .tuple=>ofO (o6 h v) fun xs=>a7t xs h
 | .int=>ofO (asBool v) fun b=>.ok (.int (if b then 1 else 0)) h
 | .str=>ofO (asInt v) fun i=>ifO (decide (i.natAbs.log2 < 1920) && (l9 i).all fun c=>decide (c < 128)) (.ok (.str (l9 i)) h)
 | .max=>.fail
noncomputable def bi2 (b:Bi) (v w:AV) (h:Hp):Out AV:=match b with
 | .min=>P1 (fun x y=>.ok (.int (if y < x then y else x)) h) v w
 | .range=>P1 (fun x y=>b4b x y h) v w
 | .max=>P1 (fun x y=>.ok (.int (if x < y then y else x)) h) v w
 | _=>.fail
noncomputable def biA (b:Bi) (as:List AV) (h:Hp):Out AV:=match as with
 | []=>.fail
 | v :: r=>(match r with
  | []=>bi1 b v h
  | w :: r=>(match r with
   | []=>bi2 b v w h
   | _ :: _=>.fail))
noncomputable def X6 (x k:AV) (h:Hp) (f:Nat→Option Nat→List (AV×AV)→Out AV):Out AV:=ofO (asRef x) fun l=>ofO (dct h[l]?) fun p=>ifO (E1 p.2 k && decide (p.2.length < lim)) (f l p.1 p.2)
noncomputable def a4S (x:AV) (h:Hp) (f:Nat→List AV→Out AV):Out AV:=ofO (asRef x) fun l=>ofO (lst h[l]?) (f l)
noncomputable def putL (l:Nat) (xs:List AV) (h:Hp):Out AV:=ifO (decide (xs.length≤lim)) (.ok .none (h.set l (.list xs)))
noncomputable def b6k (x v:AV) (h:Hp):Out AV:=a4S x h fun l xs=>putL l (xs ++ [v]) h
noncomputable def b7v (x k d:AV) (h:Hp):Out AV:=X6 x k h fun _ _ es=>.ok ((o8 es k).getD d) h
noncomputable def a3u (l:Nat) (ep:Option Nat) (es:List (AV×AV)) (h:Hp):Hp:=h.set l (.dict ep es)
noncomputable def b2h (x k d:AV) (h:Hp):Out AV:=X6 x k h fun l ep es=>orO (o8 es k) (fun v=>.ok v h) (.ok d (a3u l (ep.map (· + 1)) (y8 es k d) h))
noncomputable def b6K (x k:AV) (h:Hp):Out AV:=X6 x k h fun l ep es=>ofO (o8 es k) fun v=>.ok v (a3u l (ep.map (· + 1)) (a1A es k) h)
noncomputable def D8 (x k v:AV) (h:Hp):Out AV:=X6 x k h fun l ep es=>.ok .none (a3u l (if (o8 es k).isSome then ep else ep.map (· + 1)) (y8 es k v) h)
noncomputable def u6 (s:List Nat):List (List Nat)→List Nat
 | []=>[]
 | t :: r=>(match r with
  | []=>t
  | _ :: _=>t ++ (s ++ u6 s r))
noncomputable def b3D (x v:AV) (h:Hp):Out AV:=ofO (asStr x) fun s=>ofO ((o6 h v).bind (p0 asStr)) fun ts=>ifO (decide (ts.flatten.length + ts.length * s.length≤lim)) (.ok (.str (u6 s ts)) h)
noncomputable def B8 (c:Nat) (b:List Nat) (s:List Nat):List Nat:=s.flatMap fun x=>if x = c then b else [x]
noncomputable def a5V (x:AV) (c:Nat) (b:List Nat) (h:Hp):Out AV:=ofO (asStr x) fun s=>ifO (decide (s.length + (s.length + 1) * b.length≤lim)) (.ok (.str (B8 c b s)) h)
noncomputable def bm1 (m:Bm) (x v:AV) (h:Hp):Out AV:=match m with
 | .append=>b6k x v h
 | .pop=>b6K x v h
 | .join=>b3D x v h
 | _=>.fail
noncomputable def bm2 (m:Bm) (x v w:AV) (h:Hp):Out AV:=match m with
 | .get=>b7v x v w h
 | .setdefault=>b2h x v w h
 | _=>.fail
noncomputable def bmA (m:Bm) (x:AV) (as:List AV) (h:Hp):Out AV:=match as with
 | []=>.fail
 | v :: r=>(match r with
  | []=>bm1 m x v h
  | w :: r=>(match r with
   | []=>bm2 m x v w h
   | _ :: _=>.fail))
noncomputable def bmL (m:Bm):Option Bool:=match m with
 | .append=>some true
 | .join=>none
 | _=>some false
noncomputable def a6D (m:Bm) (x:AV) (h:Hp):Bool:=match bmL m with
 | some b=>(match b with
  | true=>(o6 h x).isSome
  | false=>(A5 h x).isSome)
 | none=>(asStr x).isSome
noncomputable def b8V (h:Hp) (v:AV):Option (List Kd):=match v with
 | .none=>some []
 | .bool _=>some [.bool,.int]
 | .int _=>some [.int]
 | .str _=>some [.str]
 | .tup _=>some [.tup]
 | v=>(o6 h v).map fun _=>[.list]
noncomputable def a1u (h:Hp) (v:AV) (k:Kd):Option Bool:=(b8V h v).map (·.contains k)
set_option genInjectivity true in
inductive It (σ ρ:Type) where
 | go (s:σ)
 | stop (r:ρ)
noncomputable def It.bind {σ ρ:Type} (x:It σ ρ) (f:σ→It σ ρ):It σ ρ:=match x with
 | .go s=>f s
 | .stop r=>.stop r
noncomputable def Q5 {σ ρ:Type} (f:AV→σ→It σ ρ):List AV→σ→It σ ρ
 | [],s=>.go s
 | v :: r,s=>(f v s).bind fun s=>Q5 f r s
noncomputable def s8 {σ ρ:Type} (get:σ→Option (List AV)) (bad:ρ) (f:AV→σ→It σ ρ):Nat→Nat→σ→It σ ρ
 | 0,_,_=>.stop bad
 | n + 1,i,s=>orO (get s) (fun xs=>orO xs[i]? (fun v=>(f v s).bind fun s=>s8 get bad f n (i + 1) s) (.go s)) (.stop bad)
inductive Src where
 | fixed (xs:List AV)
 | list (l n:Nat)
 | dict (l ep n:Nat)
noncomputable def ups (a:Int) (n:Nat):List AV:=match n with
 | 0=>[]
 | n + 1=>.int a :: ups (a + 1) n
noncomputable def b9q (h:Hp) (l:Nat):Option Src:=orO (lst h[l]?) (fun xs=>some (.list l xs.length)) ((dct h[l]?).bind fun p=>p.1.map fun ep=>.dict l ep p.2.length)
noncomputable def z5 (h:Hp) (v:AV):Option Src:=match v with
 | .rng a b=>some (.fixed (ups a (b - a).toNat))
 | .str s=>some (.fixed (s.map fun c=>.str [c]))
 | .tup xs=>some (.fixed xs)
 | .ref l=>b9q h l
 | _=>Option.none
noncomputable def b4D (l:Nat) (h:Hp):Option (List AV):=lst h[l]?
noncomputable def getD (l ep n:Nat) (h:Hp):Option (List AV):=(dct h[l]?).bind fun p=>ifS (decide (p.1 = some ep∧p.2.length = n)) (some (p.2.map (·.1)))
noncomputable def iter {τ ρ:Type} (src:Src) (bad:ρ) (f:AV→Hp×τ→It (Hp×τ) ρ) (s:Hp×τ):It (Hp×τ) ρ:=match src with
 | .fixed xs=>Q5 f xs s
 | .list l n=>s8 (fun s=>b4D l s.1) bad f (n + 1) 0 s
 | .dict l ep n=>s8 (fun s=>getD l ep n s.1) bad f (n + 1) 0 s
noncomputable def b4P (h:Hp):Out AV:=.ok (.ref h.length) (h ++ [.dict (some 0) []])
noncomputable def b2Y (st:List AV) (o:Out AV):It (Hp×List AV) (Out AV):=match o with
 | .ok w h=>if st.length < lim then .go (h,st ++ [w]) else .stop .fail
 | .fail=>.stop .fail
noncomputable def b3K (c:Out Bool) (st:List AV) (el:Hp→Out AV):It (Hp×List AV) (Out AV):=match c with
 | .ok b h=>(match b with
  | true=>b2Y st (el h)
  | false=>.go (h,st))
 | .fail=>.stop .fail
noncomputable def p3 (cs:Hp→Vs→Out Bool) (el:Hp→Vs→Out AV) (x:Nat) (vs:Vs) (v:AV) (st:Hp×List AV):It (Hp×List AV) (Out AV) :=
 b3K (cs st.1 (vs.set x (some v))) st.2 fun h=>el h (vs.set x (some v))
noncomputable def K9 (i:It (Hp×List AV) (Out AV)):Out AV:=match i with
 | .go st=>newList st.2 st.1
 | .stop o=>o
noncomputable def D1 (src:Option Src) (f:AV→Hp×List AV→It (Hp×List AV) (Out AV)) (h:Hp):Out AV:=ofO src fun src=>K9 (iter src Out.fail f (h,[]))
noncomputable def W9 (P:Pr) (c:Nat):Option (List Nat):=(P.excs[c]?).map (·.2)
noncomputable def instX (P:Pr) (v:AV) (k:Option Nat):Option Bool:=(asExc v).bind fun d=>(W9 P d).bind fun us=>orO k (fun c=>(W9 P c).map fun _=>us.contains c) (some true)
structure Cx where
 P:Pr
 call:Nat→List AV→Hp→Out AV
noncomputable def S9 (P:Pr) (c:Nat):Option Nat:=(P.cls[c]?).bind fun cl=>ifS (decide (P.attrs.length≤1000)) cl.init
noncomputable def b1q (C:Cx) (c:Nat) (xs:List AV) (h:Hp):Out AV:=ofO (S9 C.P c) fun f =>
 (C.call f (.ref h.length :: xs) (h ++ [.inst c (List.replicate C.P.attrs.length Option.none)])).bind fun r h'=>ifO (isN r) (.ok (.ref h.length) h')
noncomputable def L6 (P:Pr) (h:Hp) (x:AV) (m:Nat):Option Nat:=(a8k h x).bind fun p=>(P.cls[p.1]?).bind fun cl=>cl.meths.lookup m
noncomputable def O6 (h:Hp) (x:AV) (a:Nat):Option AV:=(a8k h x).bind fun p=>(p.2[a]?).bind id
noncomputable def D7 (x:AV) (a:Nat) (v:AV) (h:Hp):Out AV:=ofO (asRef x) fun l=>ofO (ins h[l]?) fun p=>ifO (decide (a < p.2.length)) (.ok .none (h.set l (.inst p.1 (p.2.set a (some v)))))
noncomputable def b8k (vs:Vs) (x:Nat) (h:Hp):Out AV:=ofO ((vs[x]?).bind id) fun v=>.ok v h
mutual
noncomputable def ev (C:Cx):ME→Hp→Vs→Out AV
 | .none,h,_=>.ok .none h
 | .bool b,h,_=>.ok (.bool b) h
 | .int i,h,_=>.ok (.int i) h
 | .str s,h,_=>.ok (.str s) h
 | .gl g,h,_=>ofO C.P.consts[g]? fun p=>.ok p.2 h
 | .var x,h,vs=>b8k vs x h
 | .bin op a b,h,vs=>(ev C a h vs).bind fun x h=>(ev C b h vs).bind fun y h=>M2 op x y h
 | .not e,h,vs=>(ev C e h vs).bind fun x h=>D5 ((j8 x).map (!·)) h
 | .and es,h,vs=>evAnd C es h vs
 | .or es,h,vs=>evOr C es h vs
 | .cmp l op r,h,vs=>(ev C l h vs).bind fun x h=>(ev C r h vs).bind fun y h=>D5 (j5 op x y h) h
 | .chain l op m op' r,h,vs=>(ev C l h vs).bind fun x h=>(ev C m h vs).bind fun y h=>x5 (j5 op x y h) ((ev C r h vs).bind fun z h=>D5 (j5 op' y z h) h) (.ok (.bool false) h)
 | .isNone e,h,vs=>(ev C e h vs).bind fun x h=>.ok (.bool (isN x)) h
 | .isTrue e,h,vs=>(ev C e h vs).bind fun x h=>.ok (.bool (isT x)) h
 | .tup es,h,vs=>(evs C es h vs).bind fun xs h=>a7t xs h
 | .list es,h,vs=>(evs C es h vs).bind fun xs h=>newList xs h
 | .dict kvs,h,_=>ifO kvs.isEmpty (b4P h)
 | .idx o i,h,vs=>(ev C o h vs).bind fun x h=>(ev C i h vs).bind fun y h=>b1V (w4 x y h) h
 | .slice o lo hi _ _,h,vs=>(ev C o h vs).bind fun x h=>(ev C lo h vs).bind fun a h=>(ev C hi h vs).bind fun b h=>D9 x a b h
 | .attr o a,h,vs=>(ev C o h vs).bind fun x h=>b1V (O6 h x a) h
 | .call f args,h,vs=>(evs C args h vs).bind fun xs h=>C.call f xs h
 | .new c args,h,vs=>ifO (S9 C.P c).isSome ((evs C args h vs).bind fun xs h=>b1q C c xs h)
 | .meth o m args,h,vs=>(ev C o h vs).bind fun x h=>ofO (L6 C.P h x m) fun f=>(evs C args h vs).bind fun xs h=>C.call f (x :: xs) h
 | .bi b args,h,vs=>ifO (!C.P.hd) ((evs C args h vs).bind fun xs h=>biA b xs h)
 | .bm m o args,h,vs=>(ev C o h vs).bind fun x h=>ifO (a6D m x h) ((evs C args h vs).bind fun xs h=>bmA m x xs h)
 | .inst e k,h,vs=>(ev C e h vs).bind fun x h=>D5 (a1u h x k) h
 | .comp elt x src conds _,h,vs=>ifO (!C.P.hd) ((ev C src h vs).bind fun s h=>D1 (z5 h s) (p3 (fun h vs=>evConds C conds h vs) (fun h vs=>ev C elt h vs) x vs) h)
 | .instX e k,h,vs=>(ev C e h vs).bind fun x h=>D5 (instX C.P x k) h
 | .neg i,h,_=>.ok (.int (-i)) h
 | .repl e c b,h,vs=>(ev C e h vs).bind fun x h=>a5V x c b h
 | .chain3 l op m op' r op'' q,h,vs=>(ev C l h vs).bind fun x h=>(ev C m h vs).bind fun y h=>x5 (j5 op x y h) ((ev C r h vs).bind fun z h=>x5 (j5 op' y z h) ((ev C q h vs).bind fun w h=>D5 (j5 op'' z w h) h) (.ok (.bool false) h)) (.ok (.bool false) h)
noncomputable def evs (C:Cx):List ME→Hp→Vs→Out (List AV)
 | [],h,_=>.ok [] h
 | e :: r,h,vs=>(ev C e h vs).bind fun x h=>(evs C r h vs).bind fun xs h=>.ok (x :: xs) h
noncomputable def evAnd (C:Cx):List ME→Hp→Vs→Out AV
 | [],_,_=>.fail
 | [e],h,vs=>ev C e h vs
 | e :: r,h,vs=>(ev C e h vs).bind fun x h=>x5 (j8 x) (evAnd C r h vs) (.ok x h)
noncomputable def evOr (C:Cx):List ME→Hp→Vs→Out AV
 | [],_,_=>.fail
 | [e],h,vs=>ev C e h vs
 | e :: r,h,vs=>(ev C e h vs).bind fun x h=>x5 (j8 x) (.ok x h) (evOr C r h vs)
noncomputable def evConds (C:Cx):List ME→Hp→Vs→Out Bool
 | [],h,_=>.ok true h
 | e :: r,h,vs=>(ev C e h vs).bind fun x h=>x5 (j8 x) (evConds C r h vs) (.ok false h)
end
noncomputable def p5 {α:Type} (o:Out α) (k:α→Hp→i9):i9:=match o with
 | .ok v h=>k v h
 | .fail=>.fail
noncomputable def ifH (c:Bool) (x:i9):i9:=match c with
 | true=>x
 | false=>.fail
noncomputable def a6j (o:i9) (k:Hp→Vs→i9):i9:=match o with
 | .next h vs=>k h vs
 | .ret v h=>.ret v h
 | .fail=>.fail
noncomputable def W6 (t:Option Bool) (a b:i9):i9:=match t with
 | some b'=>(match b' with
  | true=>a
  | false=>b)
 | Option.none=>.fail
noncomputable def Q3 (o:i9):It (Hp×Vs) i9:=match o with
 | .next h vs=>.go (h,vs)
 | .ret v h=>.stop (.ret v h)
 | .fail=>.stop .fail
noncomputable def W0 (i:It (Hp×Vs) i9):i9:=match i with
 | .go st=>.next st.1 st.2
 | .stop o=>o
noncomputable def t5 (src:Option Src) (f:AV→Hp×Vs→It (Hp×Vs) i9) (st:Hp×Vs):i9:=orO src (fun src=>W0 (iter src i9.fail f st)) .fail
mutual
noncomputable def ex (C:Cx):MS→Hp→Vs→i9
 | .set x e,h,vs=>p5 (ev C e h vs) fun v h=>.next h (vs.set x (some v))
 | .setAttr o a e,h,vs=>p5 ((ev C e h vs).bind fun v h=>(ev C o h vs).bind fun x h=>D7 x a v h) fun _ h=>.next h vs
 | .setItem o i e,h,vs=>p5 ((ev C e h vs).bind fun v h=>(ev C o h vs).bind fun x h=>(ev C i h vs).bind fun k h=>D8 x k v h) fun _ h=>.next h vs
 | .expr e,h,vs=>p5 (ev C e h vs) fun _ h=>.next h vs
 | .ifs t a b,h,vs=>p5 (ev C t h vs) fun v h=>W6 (j8 v) (exs C a h vs) (exs C b h vs)
 | .loop x src body,h,vs=>ifH (!C.P.hd) (p5 (ev C src h vs) fun s h=>t5 (z5 h s) (fun v (st:Hp×Vs)=>Q3 (exs C body st.1 (st.2.set x (some v)))) (h,vs))
 | .ret e,h,vs=>p5 (ev C e h vs) fun v h=>.ret v h
 | .pass,h,vs=>.next h vs
 | .raise _ _,_,_=>.fail
noncomputable def exs (C:Cx):List MS→Hp→Vs→i9
 | [],h,vs=>.next h vs
 | s :: r,h,vs=>a6j (ex C s h vs) fun h vs=>exs C r h vs
end
noncomputable def fin (o:i9):Out AV:=match o with
 | .next h _=>.ok .none h
 | .ret v h=>.ok v h
 | .fail=>.fail
structure Fl where
 c:Nat
 h:Hp
 vs:Vs
noncomputable def okX {α:Type} (o:Out α) (k:α→Hp→Option (Nat×Hp)):Option (Nat×Hp):=match o with
 | .ok v h=>k v h
 | .fail=>Option.none
noncomputable def a7G (e:ME):Option (ME×Nat×List ME):=match e with
 | .meth o m args=>some (o,m,args)
 | _=>Option.none
noncomputable def a2e (e:ME):Option (ME×ME):=match e with
 | .tup es=>(match es with
  | []=>Option.none
  | a :: r=>(match r with
   | []=>Option.none
   | b :: r=>(match r with
    | []=>some (a,b)
    | _ :: _=>Option.none)))
 | _=>Option.none
noncomputable def a7S (e:ME):Option (Nat×List ME):=match e with
 | .call f args=>some (f,args)
 | _=>Option.none
noncomputable def b1Z (e:ME):Option (Nat×List ME):=match e with
 | .new c args=>some (c,args)
 | _=>Option.none
noncomputable def b5y (C:Cx) (cx:Nat→List AV→Hp→Option (Nat×Hp)) (e:ME) (h:Hp) (vs:Vs):Option (Nat×Hp):=(a7G e).bind fun z=>okX (ev C z.1 h vs) fun x h=>(L6 C.P h x z.2.1).bind fun f=>okX (evs C z.2.2 h vs) fun xs h=>cx f (x :: xs) h
noncomputable def b8m (C:Cx) (cx:Nat→List AV→Hp→Option (Nat×Hp)) (e:ME) (h:Hp) (vs:Vs):Option (Nat×Hp):=(a7S e).bind fun z=>okX (evs C z.2 h vs) fun xs h=>cx z.1 xs h
noncomputable def b7T (C:Cx) (cx:Nat→List AV→Hp→Option (Nat×Hp)) (e:ME) (h:Hp) (vs:Vs):Option (Nat×Hp):=(b1Z e).bind fun z=>(S9 C.P z.1).bind fun f=>okX (evs C z.2 h vs) fun xs h=>cx f (.ref h.length :: xs) (h ++ [.inst z.1 (List.replicate C.P.attrs.length Option.none)])
noncomputable def b5i (C:Cx) (cx:Nat→List AV→Hp→Option (Nat×Hp)) (e:ME) (h:Hp) (vs:Vs):Option (Nat×Hp):=orO (b5y C cx e h vs) some (orO (b8m C cx e h vs) some (b7T C cx e h vs))
noncomputable def evX (C:Cx) (cx:Nat→List AV→Hp→Option (Nat×Hp)) (e:ME) (h:Hp) (vs:Vs):Option (Nat×Hp):=orO (a2e e) (fun p=>okX (ev C p.1 h vs) fun _ h=>b5i C cx p.2 h vs) (b5i C cx e h vs)
noncomputable def flO (o:Option (Nat×Hp)) (vs:Vs):Option Fl:=o.map fun q=>⟨q.1,q.2,vs⟩
noncomputable def okF (o:Out AV) (k:Bool→Hp→Option Fl):Option Fl:=match o with
 | .ok v h=>(j8 v).bind fun z=>k z h
 | .fail=>Option.none
noncomputable def a7f (o:i9) (k:Hp→Vs→Option Fl) (x:Option Fl):Option Fl:=match o with
 | .next h vs=>k h vs
 | .ret _ _=>Option.none
 | .fail=>x
mutual
noncomputable def exX (C:Cx) (cx:Nat→List AV→Hp→Option (Nat×Hp)):MS→Hp→Vs→Option Fl
 | .raise c _,h,vs=>ifS (!C.P.hd && (W9 C.P c).isSome) (some ⟨c,h,vs⟩)
 | .expr e,h,vs=>flO (evX C cx e h vs) vs
 | .ret e,h,vs=>flO (evX C cx e h vs) vs
 | .set _ e,h,vs=>flO (evX C cx e h vs) vs
 | .ifs t a b,h,vs=>okF (ev C t h vs) fun z h=>(match z with
  | true=>exsX C cx a h vs
  | false=>exsX C cx b h vs)
 | _,_,_=>Option.none
noncomputable def exsX (C:Cx) (cx:Nat→List AV→Hp→Option (Nat×Hp)):List MS→Hp→Vs→Option Fl
 | [],_,_=>Option.none
 | s :: r,h,vs=>a7f (ex C s h vs) (fun h vs=>exsX C cx r h vs) (exX C cx s h vs)
end
noncomputable def orF (o k:Out AV):Out AV:=match o with
 | .ok v h=>.ok v h
 | .fail=>k
noncomputable def k8 (fn:Fn) (args:List AV):Vs:=args.map some ++ List.replicate (fn.names.length - fn.np) Option.none
noncomputable def E2 (P:Pr) (ch:Nat→List AV→Hp→Out AV) (fn:Fn) (q:Fl):Out AV:=ofO fn.hdl fun z=>ifO (!P.hd && (instX P (.exc q.c) (some z.1) == some true)) (ev ⟨{ P with hd:=true },ch⟩ z.2.2 q.h (q.vs.set z.2.1 (some (.exc q.c))))
mutual
noncomputable def a9 (P:Pr):Nat→Nat→List AV→Hp→Out AV
 | 0,_,_,_=>.fail
 | n + 1,f,args,h=>ofO P.fns[f]? fun fn=>ifO (decide (args.length = fn.np) && !fn.body.isEmpty) (orF (ifO (!fn.aft) (fin (exs ⟨P,a9 P n⟩ fn.body h (k8 fn args)))) (ofO (exsX ⟨P,a9 P n⟩ (callX P n) fn.body h (k8 fn args)) (E2 P (a9 { P with hd:=true } n) fn)))
noncomputable def callX (P:Pr):Nat→Nat→List AV→Hp→Option (Nat×Hp)
 | 0,_,_,_=>Option.none
 | n + 1,f,args,h=>(P.fns[f]?).bind fun fn=>ifS (decide (args.length = fn.np) && !fn.body.isEmpty && fn.hdl.isNone) ((exsX ⟨P,a9 P n⟩ (callX P n) fn.body h (k8 fn args)).map fun q=>(q.c,q.h))
end
end Mine
namespace Mine
section
set_option autoImplicit true
set_option relaxedAutoImplicit true
set_option linter.unusedVariables false
theorem a4c {α β:Type} (f:α→Option β) (x:α) (xs:List α):p0 f (x :: xs) = (f x).bind fun y=>(p0 f xs).map fun ys=>y :: ys:=rfl
theorem b6D:ev C (.comp elt x src conds u1) h vs = (ifO (!C.P.hd) ((ev C src h vs).bind fun s h=>D1 (z5 h s) (p3 (fun h vs=>evConds C conds h vs) (fun h vs=>ev C elt h vs) x vs) h)):=rfl
theorem b6N:ev C (.chain3 l op m op' r op'' q) h vs = ((ev C l h vs).bind fun x h=>(ev C m h vs).bind fun y h=>x5 (j5 op x y h) ((ev C r h vs).bind fun z h=>x5 (j5 op' y z h) ((ev C q h vs).bind fun w h=>D5 (j5 op'' z w h) h) (.ok (.bool false) h)) (.ok (.bool false) h)):=rfl
theorem b5I:ex C (.loop x src body) h vs = (ifH (!C.P.hd) (p5 (ev C src h vs) fun s h=>t5 (z5 h s) (fun v (st:Hp×Vs)=>Q3 (exs C body st.1 (st.2.set x (some v)))) (h,vs))):=rfl
theorem a0u:a9 P (n + 1) f args h = (ofO P.fns[f]? fun fn=>ifO (decide (args.length = fn.np) && !fn.body.isEmpty) (orF (ifO (!fn.aft) (fin (exs ⟨P,a9 P n⟩ fn.body h (k8 fn args)))) (ofO (exsX ⟨P,a9 P n⟩ (callX P n) fn.body h (k8 fn args)) (E2 P (a9 { P with hd:=true } n) fn)))):=rfl
theorem a3k:callX P (n + 1) f args h = ((P.fns[f]?).bind fun fn=>ifS (decide (args.length = fn.np) && !fn.body.isEmpty && fn.hdl.isNone) ((exsX ⟨P,a9 P n⟩ (callX P n) fn.body h (k8 fn args)).map fun q=>(q.c,q.h))):=rfl
end
end Mine
namespace Mine
section
variable {α β:Type}
theorem o5 {Q:Prop} {o:Option α} {f:α→Option β} {c:β} (e:o.bind f = some c) (k:∀ x,o = some x→f x = some c→Q):Q:=by
 cases o with
 | some x=>exact k x rfl e
 | none=>cases e
theorem E0 {P:β→Prop} {o:Option α} {f:α→β} {c:β} (e:o.map f = some c) (k:∀ x,o = some x→P (f x)):P c:=by
 cases o with
 | some x=>cases e;exact k x rfl
 | none=>cases e
theorem orE {Q:Prop} {o:Option α} {f:α→Option β} {g:Option β} {c:β} (e:orO o f g = some c) (k:∀ x,o = some x→f x = some c→Q) (k':o = none→g = some c→Q):Q:=by
 cases o with
 | some x=>exact k x rfl e
 | none=>exact k' rfl e
theorem ifE {Q:Prop} {b:Bool} {x:Option α} {c:α} (e:ifS b x = some c) (k:b = true→x = some c→Q):Q:=by
 cases b with
 | true=>exact k rfl e
 | false=>cases e
theorem E6 {P:α→Prop} {x c:α} (e:some x = some c) (k:P x):P c:=Option.some.inj e▸k
theorem a6w {P:List β→Prop} {f:α→Option β} {x:α} {xs:List α} {c:List β} (e:p0 f (x :: xs) = some c) (k:∀ y ys,f x = some y→p0 f xs = some ys→P (y :: ys)):P c :=
 o5 e fun y e1 e=>E0 (P:=P) e fun ys e2=>k y ys e1 e2
end
theorem a6m {a:AV} {l:Nat} (e:asRef a = some l):a = .ref l:=by cases a<;>cases e;rfl
end Mine
namespace Mine
open PySem
inductive Ow where
 | free
 | loc (l:Nat)
structure Tp where
 prog:Program
 w:World
 P:Pr
 base:Heap
 mg:Str→Option Value
 mb:Str→Option Value
 fa:Nat→Addr
 ca:Nat→Addr
 xa:Nat→Addr
 K:PySem.W.Frag
noncomputable abbrev Tp.M (T:Tp):Model:=model T.prog T.w
noncomputable def okS (s:List Nat):Prop:=(∀ c∈s,c < 128)∧s.length≤lim
inductive VR (T:Tp) (own:Addr→Ow) (bt:List Addr) (h:Heap):AV→Value→Prop
 | none:VR T own bt h .none .none
 | bool (b:Bool):VR T own bt h (.bool b) (.bool b)
 | int (i:Int) (t:Tok):VR T own bt h (.int i) (.int i t)
 | str {s:List Nat} (t:Tok):okS s→VR T own bt h (.str s) (.str (tS s) t)
 | tup {xs:List AV} {a:Addr} {o:Obj} {vs:Array Value} {n:Nat}:h.get? a = some o→o.cls = .type "tuple"→o.data = .seq vs n→own a = .free→xs.length≤lim→vs.size = xs.length →
   (∀ (i:Nat) (x:AV) (v:Value),xs[i]? = some x→vs[i]? = some v→VR T own bt h x v)→VR T own bt h (.tup xs) (.ref a)
 | ref {l:Nat} {a:Addr}:bt[l]? = some a→VR T own bt h (.ref l) (.ref a)
 | scr {ns:List Int} {a:Addr} {o:Obj} {vs:Array Value} {n:Nat}:T.base.get? a = some o→o.cls = .type "list"→o.data = .seq vs n→ns.length≤lim →
   (∀ (i:Nat) (x:Int),ns[i]? = some x→∃ t,vs[i]? = some (Value.int x t))→vs.size = ns.length→VR T own bt h (.scr ns) (.ref a)
 | rng {x y:Int} {a:Addr} {t u v:Tok}:h.get? a = some { cls:=.type "range",dict:=none,data:=.fields #[Value.int x t,Value.int y u,Value.int 1 v],slots:=#[] }→own a = .free →
   -lim≤x→x≤lim→-lim≤y→y≤lim→VR T own bt h (.rng x y) (.ref a)
 | exc {c:Nat} {a:Addr} {o:Obj} {vs:Array Value}:h.get? a = some o→o.cls = .ref (T.xa c)→o.data = .fields vs→own a = .free→VR T own bt h (.exc c) (.ref a)
inductive Al {α β:Type} (R:α→β→Prop):List α→List β→Prop
 | nil:Al R [] []
 | cons {x:α} {v:β} {xs:List α} {vs:List β}:R x v→Al R xs vs→Al R (x :: xs) (v :: vs)
noncomputable abbrev VRs (T:Tp) (own:Addr→Ow) (bt:List Addr) (h:Heap):List AV→List Value→Prop:=Al (VR T own bt h)
section
variable {T:Tp} {own:Addr→Ow} {bt:List Addr} {h:Heap} {a:AV} {v:Value}
theorem VR.asInt {i:Int} {P:Value→Prop} (r:VR T own bt h a v) (e:asInt a = some i) (k:∀ t,P (.int i t)):P v:=by
 cases r<;>cases e
 exact k _
theorem VR.asStr {s:List Nat} {P:Value→Prop} (r:VR T own bt h a v) (e:asStr a = some s) (k:∀ t,okS s→P (.str (tS s) t)):P v:=by
 cases r<;>cases e
 exact k _ ‹_›
theorem VR.asRef {l:Nat} {P:Value→Prop} (r:VR T own bt h a v) (e:asRef a = some l) (k:∀ b,bt[l]? = some b→P (.ref b)):P v:=by
 cases r<;>cases e
 exact k _ ‹_›
theorem VR.asBool {b:Bool} {P:Value→Prop} (r:VR T own bt h a v) (e:asBool a = some b) (k:P (.bool b)):P v:=by
 cases r<;>cases e
 exact k
theorem VR.asNone {P:Value→Prop} (r:VR T own bt h a v) (e:isN a = true) (k:P .none):P v:=by
 cases r<;>cases e
 exact k
end
structure b8r (T:Tp) (own:Addr→Ow) (h:Heap) (c:Nat) (a:Addr) (o:Obj) (vs:Array Value):Prop where
 get:h.get? a = some o
 cls:o.cls = .ref (T.xa c)
 data:o.data = .fields vs
 free:own a = .free
theorem VR.asExc {T:Tp} {own:Addr→Ow} {bt:List Addr} {h:Heap} {a:AV} {v:Value} {c:Nat} {P:Value→Prop} (r:VR T own bt h a v) (e:asExc a = some c) (k:∀ b o vs,b8r T own h c b o vs→P (.ref b)):P v:=by
 cases r<;>cases e
 exact k _ _ _ ⟨‹_›,‹_›,‹_›,‹_›⟩
structure a9B (T:Tp) (own:Addr→Ow) (bt:List Addr) (h:Heap) (xs:List AV) (a:Addr) (o:Obj) (vs:Array Value) (n:Nat):Prop where
 get:h.get? a = some o
 cls:o.cls = .type "tuple"
 data:o.data = .seq vs n
 free:own a = .free
 len:xs.length≤lim
 size:vs.size = xs.length
 items:∀ (i:Nat) (x:AV) (v:Value),xs[i]? = some x→vs[i]? = some v→VR T own bt h x v
structure b3w (T:Tp) (ns:List Int) (a:Addr) (o:Obj) (vs:Array Value) (n:Nat):Prop where
 get:T.base.get? a = some o
 cls:o.cls = .type "list"
 data:o.data = .seq vs n
 len:ns.length≤lim
 items:∀ (i:Nat) (x:Int),ns[i]? = some x→∃ t,vs[i]? = some (Value.int x t)
 size:vs.size = ns.length
theorem VR.asTup {T:Tp} {own:Addr→Ow} {bt:List Addr} {h:Heap} {a:AV} {v:Value} {xs:List AV} {P:Value→Prop} (r:VR T own bt h a v) (e:asTup a = some xs) (k:∀ b o vs n,a9B T own bt h xs b o vs n→P (.ref b)):P v:=by
 cases r<;>cases e
 exact k _ _ _ _ ⟨‹_›,‹_›,‹_›,‹_›,‹_›,‹_›,‹_›⟩
theorem VR.asScr {T:Tp} {own:Addr→Ow} {bt:List Addr} {h:Heap} {a:AV} {v:Value} {ns:List Int} {P:Value→Prop} (r:VR T own bt h a v) (e:asScr a = some ns) (k:∀ b o vs n,b3w T ns b o vs n→P (.ref b)):P v:=by
 cases r<;>cases e
 exact k _ _ _ _ ⟨‹_›,‹_›,‹_›,‹_›,‹_›,‹_›⟩
inductive Sm (o:Obj):Obj→Prop
 | refl:Sm o o
 | slots {es:Array DictEntry} {n:Nat} {sl:Array (Option Value)}:o.data = .dict es n→Sm o { o with slots:=sl }
theorem Sm.trans {a b c:Obj} (x:Sm a b) (y:Sm b c):Sm a c:=by
 cases x with
 | refl=>exact y
 | slots h =>
  cases y with
  | refl=>exact .slots h
  | slots _=>exact .slots h
theorem Sm.eq {a b:Obj} (x:Sm a b) (h:∀ es n,a.data≠.dict es n):b = a:=by
 cases x with
 | refl=>rfl
 | slots z=>exact absurd z (h _ _)
noncomputable def Std (h':Heap) (a:Addr) (o:Obj):Prop:=∃ o',h'.get? a = some o'∧Sm o o'
theorem Std.eq {h':Heap} {a:Addr} {o:Obj} (x:Std h' a o) (h:∀ es n,o.data≠.dict es n):h'.get? a = some o:=let ⟨_,e,s⟩:=x;s.eq h▸e
theorem Std.of {h':Heap} {a:Addr} {o:Obj} (e:h'.get? a = some o):Std h' a o:=⟨o,e,.refl⟩
structure Ext (X:Addr→Prop) (own:Addr→Ow) (bt:List Addr) (h:Heap) (own':Addr→Ow) (bt':List Addr) (h':Heap):Prop where
 kp:∀ a o,h.get? a = some o→own a = .free→¬ X a→Std h' a o
 df:∀ a o,h.get? a = some o→¬ X a→∃ o',h'.get? a = some o'
 ow:∀ a o,h.get? a = some o→¬ X a→own' a = own a
 bt:∃ r,bt' = bt ++ r
theorem Ext.refl (X:Addr→Prop) (own:Addr→Ow) (bt:List Addr) (h:Heap):Ext X own bt h own bt h :=
 ⟨fun _ _ e _ _=>.of e,fun _ o e _=>⟨o,e⟩,fun _ _ _ _=>rfl,[],(List.append_nil _).symm⟩
theorem Ext.trans {X:Addr→Prop} {o₁ o₂ o₃:Addr→Ow} {b₁ b₂ b₃:List Addr} {h₁ h₂ h₃:Heap} (x:Ext X o₁ b₁ h₁ o₂ b₂ h₂) (y:Ext X o₂ b₂ h₂ o₃ b₃ h₃):Ext X o₁ b₁ h₁ o₃ b₃ h₃ where
 kp:=fun a o e f n=>let ⟨o1,e1,s1⟩:=x.kp a o e f n;let ⟨o2,e2,s2⟩:=y.kp a o1 e1 ((x.ow a o e n).trans f) n;⟨o2,e2,s1.trans s2⟩
 df:=fun a o e n=>let ⟨o',e'⟩:=x.df a o e n;y.df a o' e' n
 ow:=fun a o e n=>let ⟨o',e'⟩:=x.df a o e n;(y.ow a o' e' n).trans (x.ow a o e n)
 bt:=let ⟨r,e⟩:=x.bt;let ⟨r',e'⟩:=y.bt;⟨r ++ r',by rw [e',e,List.append_assoc]⟩
theorem Ext.mono {X Y:Addr→Prop} {o₁ o₂:Addr→Ow} {b₁ b₂:List Addr} {h₁ h₂:Heap} (x:Ext X o₁ b₁ h₁ o₂ b₂ h₂) (m:∀ a,X a→Y a):Ext Y o₁ b₁ h₁ o₂ b₂ h₂ :=
 ⟨fun a o e f n=>x.kp a o e f fun q=>n (m a q),fun a o e n=>x.df a o e fun q=>n (m a q),fun a o e n=>x.ow a o e fun q=>n (m a q),x.bt⟩
noncomputable def oth (o:Obj):Bool:=match o.cls with
 | .type t=>t != "tuple" && t != "range"
 | _=>(match o.data with
  | .fields _=>false
  | _=>true)
noncomputable def FrX (X:Addr→Prop) (own:Addr→Ow) (h:Heap):Prop:=∀ a,X a→own a = .free∧∀ o,h.get? a = some o→(∃ es n,o.data = .dict es n)∨(∃ v,o.data = .cell v)∨oth o = true
noncomputable def noX:Addr→Prop:=fun _=>False
theorem FrX.no {own:Addr→Ow} {h:Heap}:FrX noX own h:=fun _ q=>q.elim
section
variable {T:Tp} {X:Addr→Prop} {own own':Addr→Ow} {bt bt':List Addr} {h h':Heap}
theorem VR.ext (x:Ext X own bt h own' bt' h') (fx:FrX X own h) {av:AV} {v:Value} (r:VR T own bt h av v):VR T own' bt' h' av v:=by
 induction r with
 | none=>exact .none
 | bool b=>exact .bool b
 | int i t=>exact .int i t
 | str t q=>exact .str t q
 | ref e =>
  obtain ⟨r,q⟩:=x.bt
  refine .ref ?_
  rw [q,List.getElem?_append_left (List.getElem?_eq_some_iff.mp e).1];exact e
 | tup e c d f l z _ ih =>
  have hx:¬ X _:=fun q=>by
   rcases (fx _ q).2 _ e with ⟨_,_,z⟩|⟨_,z⟩|z
   ·rw [d] at z;cases z
   ·rw [d] at z;cases z
   ·unfold oth at z;rw [c] at z;cases z
  exact .tup ((x.kp _ _ e f hx).eq fun _ _ z=>by rw [d] at z;cases z) c d ((x.ow _ _ e hx).trans f) l z ih
 | scr e c d l r z=>exact .scr e c d l r z
 | rng e f a b c d =>
  have hx:¬ X _:=fun q=>by
   rcases (fx _ q).2 _ e with ⟨_,_,z⟩|⟨_,z⟩|z
   ·cases z
   ·cases z
   ·cases z
  exact .rng ((x.kp _ _ e f hx).eq fun _ _ z=>by cases z) ((x.ow _ _ e hx).trans f) a b c d
 | exc e c d f =>
  have hx:¬ X _:=fun q=>by
   rcases (fx _ q).2 _ e with ⟨_,_,z⟩|⟨_,z⟩|z
   ·rw [d] at z;cases z
   ·rw [d] at z;cases z
   ·unfold oth at z;rw [c,d] at z;cases z
  exact .exc ((x.kp _ _ e f hx).eq fun _ _ z=>by rw [d] at z;cases z) c d ((x.ow _ _ e hx).trans f)
theorem VRs.ext (x:Ext X own bt h own' bt' h') (fx:FrX X own h) {xs:List AV} {vs:List Value} (r:VRs T own bt h xs vs):VRs T own' bt' h' xs vs:=by
 induction r with
 | nil=>exact .nil
 | cons a _ ih=>exact .cons (VR.ext x fx a) ih
end
namespace Al
variable {α β:Type} {R:α→β→Prop} {xs:List α} {vs:List β}
theorem mono {R':α→β→Prop} (k:∀ x v,R x v→R' x v) (r:Al R xs vs):Al R' xs vs:=by
 induction r with
 | nil=>exact .nil
 | cons a _ ih=>exact .cons (k _ _ a) ih
theorem length (r:Al R xs vs):vs.length = xs.length:=by
 induction r with
 | nil=>rfl
 | cons _ _ ih=>exact congrArg Nat.succ ih
theorem get (r:Al R xs vs):∀ {i:Nat} {x:α},xs[i]? = some x→∃ v,vs[i]? = some v∧R x v:=by
 induction r with
 | nil=>intro i x e;cases e
 | cons a _ ih =>
  intro i x e
  cases i with
  | zero=>cases e;exact ⟨_,rfl,a⟩
  | succ i=>exact ih e
theorem of:∀ {xs:List α} {vs:List β},vs.length = xs.length→(∀ (i:Nat) (x:α) (v:β),xs[i]? = some x→vs[i]? = some v→R x v)→Al R xs vs:=by
 intro xs
 induction xs with
 | nil =>
  intro vs e _
  cases vs with
  | nil=>exact .nil
  | cons v vs=>cases e
 | cons x xs ih =>
  intro vs e r
  cases vs with
  | nil=>cases e
  | cons v vs=>exact .cons (r 0 x v rfl rfl) (ih (Nat.succ.inj e) fun i y w hy hw=>r (i + 1) y w hy hw)
theorem append {ys:List α} {ws:List β} (r:Al R xs vs) (k:Al R ys ws):Al R (xs ++ ys) (vs ++ ws):=by
 induction r with
 | nil=>exact k
 | cons a _ ih=>exact .cons a ih
theorem drop (n:Nat) (r:Al R xs vs):Al R (xs.drop n) (vs.drop n):=by
 induction r generalizing n with
 | nil=>rw [List.drop_nil,List.drop_nil];exact .nil
 | cons a r ih =>
  cases n with
  | zero=>exact .cons a r
  | succ n=>exact ih n
theorem take (n:Nat) (r:Al R xs vs):Al R (xs.take n) (vs.take n):=by
 induction r generalizing n with
 | nil=>rw [List.take_nil,List.take_nil];exact .nil
 | cons a r ih =>
  cases n with
  | zero=>exact .nil
  | succ n=>exact .cons a (ih n)
theorem reverse (r:Al R xs vs):Al R xs.reverse vs.reverse:=by
 induction r with
 | nil=>exact .nil
 | cons a _ ih=>rw [List.reverse_cons,List.reverse_cons];exact ih.append (.cons a .nil)
theorem modify {f:α→α} {g:β→β} (k:∀ x v,R x v→R (f x) (g v)) (r:Al R xs vs):∀ n:Nat,Al R (xs.modify n f) (vs.modify n g):=by
 induction r with
 | nil=>intro n;cases n<;>exact .nil
 | cons a r ih =>
  intro n
  cases n with
  | zero=>exact .cons (k _ _ a) r
  | succ n=>exact .cons a (ih n)
theorem erase (r:Al R xs vs):∀ n:Nat,Al R (xs.eraseIdx n) (vs.eraseIdx n):=by
 induction r with
 | nil=>intro n;exact .nil
 | cons a r ih =>
  intro n
  cases n with
  | zero=>exact r
  | succ n=>exact .cons a (ih n)
theorem find {p:α→Bool} {q:β→Bool} (k:∀ x v,x∈xs→R x v→q v = p x) (r:Al R xs vs):vs.findIdx? q = xs.findIdx? p:=by
 induction r with
 | nil=>rfl
 | cons a _ ih=>rw [List.findIdx?_cons,List.findIdx?_cons,k _ _ (List.mem_cons_self ..) a,ih fun x v m=>k x v (List.mem_cons_of_mem _ m)]
end Al
end Mine
namespace Mine
open PySem PySem.SeqAt
noncomputable def kIs:Str ⊕ Int→Value→Bool
 | .inl x,v=>Value.isStrOf x v
 | .inr i,v=>Value.isInt i v
theorem C4 {k:Str ⊕ Int} {v:Value} (h:kIs k v = true):(∃ x t,k = .inl x∧v = .str x t)∨∃ i t,k = .inr i∧v = .int i t:=by
 cases k with
 | inl x=>obtain ⟨t,rfl⟩:=Value.isStrOf_shape h;exact .inl ⟨x,t,rfl,rfl⟩
 | inr i=>obtain ⟨t,rfl⟩:=Value.isInt_shape h;exact .inr ⟨i,t,rfl,rfl⟩
noncomputable def D4 (prog:Program) (w:World):KeyKind prog w (Str ⊕ Int) where
 is:=kIs
 hash:=fun|.inl x=>hashStr w x|.inr i=>hashInt i
 inj:=fun v a b ha hb=>by
  rcases C4 ha with ⟨x,t,rfl,rfl⟩|⟨i,t,rfl,rfl⟩<;>rcases C4 hb with ⟨y,u,rfl,q⟩|⟨j,u,rfl,q⟩<;>cases q<;>rfl
 byValue:=fun k v h=>by rcases C4 h with ⟨x,t,rfl,rfl⟩|⟨i,t,rfl,rfl⟩<;>rfl
 pyHash:=fun hv h=>by
  rcases C4 hv with ⟨x,t,rfl,rfl⟩|⟨i,t,rfl,rfl⟩
  ·exact wpAny_pyHash_str h
  ·exact wpAny_pyHash_int h
 eqBool:=fun {A E s a b u v Q} hu hv h=>by
  rcases C4 hu with ⟨x,t,rfl,rfl⟩|⟨i,t,rfl,rfl⟩<;>rcases C4 hv with ⟨y,u,rfl,rfl⟩|⟨j,u,rfl,rfl⟩
  ·exact wpAny_eqBool_str (by simpa using h)
  ·exact (EqAt.str_int x t j u) prog w E Q (by simpa using h)
  ·exact (EqAt.int_str i t y u) prog w E Q (by simpa using h)
  ·exact wpAny_eqBool_int (by
    have e:(i == j) = decide ((Sum.inr i:Str ⊕ Int) = Sum.inr j):=by
     by_cases q:i = j<;>simp [q]
    rw [e];exact h)
 «strs»:=fun k x t v h=>by
  rcases C4 h with ⟨y,u,rfl,q⟩|⟨i,u,rfl,q⟩<;>cases q
  cases v<;>rfl
noncomputable def kh (T:Tp) (k:AV):Int:=orO (kof k) (fun x=>x.elim (D4 T.prog T.w).hash (tupleKind (D4 T.prog T.w)).hash) 0
structure EnR (T:Tp) (own:Addr→Ow) (bt:List Addr) (h:Heap) (p:AV×AV) (e:DictEntry):Prop where
 key:VR T own bt h p.1 e.key
 val:VR T own bt h p.2 e.val
 hash:e.hash = kh T p.1
structure a1B (es:List (AV×AV)):Prop where
 sort:∃ b,∀ p∈es,isK b p.1 = true
 nodup:es.Pairwise (fun p q=>keq p.1 q.1 = false)
structure DR (T:Tp) (own:Addr→Ow) (bt:List Addr) (h:Heap) (ep:Option Nat) (es:List (AV×AV)) (arr:Array DictEntry) (n:Nat):Prop where
 ep:∀ e,ep = some e→n = e
 en:Al (EnR T own bt h) es arr.toList
 ks:a1B es
 len:es.length≤lim
theorem DR.ext {T:Tp} {X:Addr→Prop} {own own':Addr→Ow} {bt bt':List Addr} {h h':Heap} (x:Ext X own bt h own' bt' h') (fx:FrX X own h) {ep:Option Nat} {es:List (AV×AV)} {arr:Array DictEntry} {n:Nat} (r:DR T own bt h ep es arr n):DR T own' bt' h' ep es arr n :=
 ⟨r.ep,r.en.mono fun _ _ e=>⟨e.key.ext x fx,e.val.ext x fx,e.hash⟩,r.ks,r.len⟩
noncomputable abbrev W8 (arr:Array DictEntry) (n:Nat):Obj:={ cls:=.type "dict",data:=.dict arr n }
noncomputable def fnd (ents:List DictEntry) (nm:Str):Option Value:=(ents.find? fun e=>e.key.isStr nm).map (·.val)
structure IR (T:Tp) (own:Addr→Ow) (bt:List Addr) (h:Heap) (fs:List (Option AV)) (ents:List DictEntry):Prop where
 keys:∀ e∈ents,∃ x t,e.key = .str x t∧x∈T.P.attrs
 few:ents.length≤fs.countP (·.isSome)∧fs.length≤1000
 said:∀ (i:Nat) (nm:Str),T.P.attrs[i]? = some nm→(∀ av,fs[i]? = some (some av)→∃ v,fnd ents nm = some v∧VR T own bt h av v)∧((∀ av,fs[i]?≠some (some av))→fnd ents nm = none)
theorem IR.ext {T:Tp} {X:Addr→Prop} {own own':Addr→Ow} {bt bt':List Addr} {h h':Heap} {fs:List (Option AV)} {ents:List DictEntry} (r:IR T own bt h fs ents) (x:Ext X own bt h own' bt' h') (fx:FrX X own h) :
  IR T own' bt' h' fs ents :=
 ⟨r.keys,r.few,fun i nm e=>⟨fun av q=>let ⟨v,e1,e2⟩:=(r.said i nm e).1 av q;⟨v,e1,e2.ext x fx⟩,(r.said i nm e).2⟩⟩
inductive OR (T:Tp) (own:Addr→Ow) (bt:List Addr) (h:Heap) (l:Nat) (a:Addr):AO→Prop
 | list {xs:List AV} (vs:Array Value) (n:Nat):h.get? a = some { cls:=.type "list",data:=.seq vs n }→VRs T own bt h xs vs.toList→xs.length≤lim→OR T own bt h l a (.list xs)
 | dict {ep:Option Nat} {es:List (AV×AV)} (arr:Array DictEntry) (n:Nat):h.get? a = some (W8 arr n)→DR T own bt h ep es arr n→OR T own bt h l a (.dict ep es)
 | inst {c:Nat} {fs:List (Option AV)} (cl:Cl) (dx:Addr) (ents:Array DictEntry) (n:Nat):T.P.cls[c]? = some cl→h.get? a = some { cls:=.ref (T.ca c),dict:=some dx,data:=.plain }→own dx = .loc l→dx≠a→h.get? dx = some { cls:=.type "dict",data:=.dict ents n } →
   IR T own bt h fs ents.toList→OR T own bt h l a (.inst c fs)
theorem OR.mono {T:Tp} {X:Addr→Prop} {own own':Addr→Ow} {bt bt':List Addr} {h h':Heap} {l:Nat} {a:Addr} {o:AO} (r:OR T own bt h l a o) (x:Ext X own bt h own' bt' h') (fx:FrX X own h) (ha:own a = .loc l)
  (k:∀ b q,own b = .loc l→h.get? b = some q→h'.get? b = some q):OR T own' bt' h' l a o:=by
 cases r with
 | list vs n h1 h2 h3=>exact .list vs n (k _ _ ha h1) (h2.ext x fx) h3
 | dict arr n h1 h2=>exact .dict arr n (k _ _ ha h1) (h2.ext x fx)
 | inst cl dx ents n h0 h1 h2 h3 h4 h5 =>
  exact .inst cl dx ents n h0 (k _ _ ha h1) ((x.ow _ _ h4 (fun q=>by rw [(fx _ q).1] at h2;cases h2)).trans h2) h3 (k _ _ h2 h4) (h5.ext x fx)
structure Wd where
 own:Addr→Ow
 bt:List Addr
 σ:Hp
 s:Shared
noncomputable abbrev Wd.h (W:Wd):Heap:=W.s.heap
noncomputable abbrev Wd.V (W:Wd) (T:Tp):AV→Value→Prop:=VR T W.own W.bt W.s.heap
noncomputable abbrev Wd.Vs (W:Wd) (T:Tp):List AV→List Value→Prop:=VRs T W.own W.bt W.s.heap
structure Inv (T:Tp) (W:Wd):Prop where
 len:W.bt.length = W.σ.length
 ownb:∀ l a,W.bt[l]? = some a→W.own a = .loc l
 lt:∀ a,W.own a≠.free→(∃ o,W.h.get? a = some o)∧T.base.get? a = none
 obj:∀ l o a,W.σ[l]? = some o→W.bt[l]? = some a→OR T W.own W.bt W.h l a o
 base:T.base.StaysIn W.h
 st:∃ o,T.base.get? cStatics = some o
 hi:∀ (l:Nat) (a:Addr),W.bt[l]? = some a→cStatics < a
structure Le0 (X:Addr→Prop) (W W':Wd):Prop where
 ext:Ext X W.own W.bt W.h W'.own W'.bt W'.h
 gens:W'.s.gens = W.s.gens
 os:W'.s.os = W.s.os
theorem Le0.refl (X:Addr→Prop) (W:Wd):Le0 X W W:=⟨.refl _ _ _ _,rfl,rfl⟩
theorem Le0.trans {X:Addr→Prop} {W₁ W₂ W₃:Wd} (x:Le0 X W₁ W₂) (y:Le0 X W₂ W₃):Le0 X W₁ W₃ :=
 ⟨x.ext.trans y.ext,y.gens.trans x.gens,y.os.trans x.os⟩
structure Le (X:Addr→Prop) (W W':Wd):Prop extends Le0 X W W' where
 tk:W.s.toks≤W'.s.toks
theorem Le.trans {X:Addr→Prop} {W₁ W₂ W₃:Wd} (x:Le X W₁ W₂) (y:Le X W₂ W₃):Le X W₁ W₃:=⟨x.toLe0.trans y.toLe0,Nat.le_trans x.tk y.tk⟩
theorem Le.same {X:Addr→Prop} (W:Wd):Le X W W:=⟨.refl _ _,Nat.le_refl _⟩
theorem Le0.mono {X Y:Addr→Prop} {W W':Wd} (x:Le0 X W W') (m:∀ a,X a→Y a):Le0 Y W W':=⟨x.ext.mono m,x.gens,x.os⟩
theorem Le0.ofNo {X:Addr→Prop} {W W':Wd} (x:Le0 noX W W'):Le0 X W W':=x.mono fun _ q=>q.elim
theorem VR.le {T:Tp} {W W':Wd} {av:AV} {v:Value} (r:W.V T av v) (x:Le0 noX W W'):W'.V T av v:=VR.ext x.ext .no r
theorem VRs.le {T:Tp} {W W':Wd} {av:List AV} {v:List Value} (r:W.Vs T av v) (x:Le0 noX W W'):W'.Vs T av v:=VRs.ext x.ext .no r
theorem b6T {o:Option AO} {xs:List AV} (e:lst o = some xs):o = some (.list xs):=by
 cases o with
 | none=>cases e
 | some o=>cases o<;>cases e;rfl
theorem b5V {o:Option AO} {p:Option Nat×List (AV×AV)} (e:dct o = some p):o = some (.dict p.1 p.2):=by
 cases o with
 | none=>cases e
 | some o=>cases o<;>cases e;rfl
theorem b2L {o:Option AO} {p:Nat×List (Option AV)} (e:ins o = some p):o = some (.inst p.1 p.2):=by
 cases o with
 | none=>cases e
 | some o=>cases o<;>cases e;rfl
inductive LAt (T:Tp) (W:Wd) (xs:List AV) (a:Addr):Prop
 | mk (vs:Array Value) (n:Nat):W.h.get? a = some { cls:=.type "list",data:=.seq vs n }→W.Vs T xs vs.toList→xs.length≤lim→LAt T W xs a
theorem Inv.notSys {T:Tp} {W:Wd} (I:Inv T W) {l:Nat} {a:Addr} (q:W.bt[l]? = some a):(a == sysModules) = false:=beq_eq_false_iff_ne.mpr (Nat.ne_of_gt (Nat.lt_trans (by decide) (I.hi _ _ q)))
inductive DAt (T:Tp) (W:Wd) (ep:Option Nat) (es:List (AV×AV)) (a:Addr):Prop
 | mk (arr:Array DictEntry) (n:Nat):W.h.get? a = some (W8 arr n)→DR T W.own W.bt W.h ep es arr n→(a == sysModules) = false→DAt T W ep es a
section
variable {T:Tp} {W:Wd}
theorem Inv.lo (I:Inv T W) {l:Nat} {xs:List AV} {a:Addr} (e:lst W.σ[l]? = some xs) (q:W.bt[l]? = some a):LAt T W xs a:=by
 cases I.obj _ _ _ (b6T e) q with
 | list vs n h1 h2 h3=>exact .mk vs n h1 h2 h3
theorem Inv.di (I:Inv T W) {l:Nat} {p:Option Nat×List (AV×AV)} {a:Addr} (e:dct W.σ[l]? = some p) (q:W.bt[l]? = some a):DAt T W p.1 p.2 a:=by
 cases I.obj _ _ _ (b5V e) q with
 | dict arr n h1 h2=>exact .mk arr n h1 h2 (I.notSys q)
theorem Inv.listE (I:Inv T W) {v:AV} {val:Value} {xs:List AV} {P:Value→Prop} (e:o6 W.σ v = some xs) (r:W.V T v val) (k:∀ a,LAt T W xs a→P (.ref a)):P val :=
 o5 e fun l e1 e2=>r.asRef (P:=P) e1 fun a q=>k a (I.lo e2 q)
theorem Inv.dictE (I:Inv T W) {v:AV} {val:Value} {p:Option Nat×List (AV×AV)} {P:Value→Prop} (e:A5 W.σ v = some p) (r:W.V T v val) (k:∀ a,DAt T W p.1 p.2 a→P (.ref a)):P val :=
 o5 e fun l e1 e2=>r.asRef (P:=P) e1 fun a q=>k a (I.di e2 q)
end
theorem Ext.kept {X:Addr→Prop} {own:Addr→Ow} {bt:List Addr} {h h':Heap} (k:∀ a o,h.get? a = some o→h'.get? a = some o):Ext X own bt h own bt h':=⟨fun a o e _ _=>.of (k a o e),fun a o e _=>⟨o,k a o e⟩,fun _ _ _ _=>rfl,[],(List.append_nil _).symm⟩
theorem Inv.grow {T:Tp} {W:Wd} (I:Inv T W) {s':Shared} (hk:∀ a o,W.h.get? a = some o→s'.heap.get? a = some o) (hg:s'.gens = W.s.gens) (ho:s'.os = W.s.os) :
  Inv T { W with s:=s' }∧Le0 noX W { W with s:=s' }:=by
 have x:Ext noX W.own W.bt W.h W.own W.bt s'.heap:=.kept hk
 refine ⟨⟨I.len,I.ownb,fun a q=>⟨let ⟨o,e⟩:=(I.lt a q).1;⟨o,hk a o e⟩,(I.lt a q).2⟩,fun l o a e q=>?_,fun b o e=>hk b o (I.base b o e),I.st,I.hi⟩,x,hg,ho⟩
 exact (I.obj l o a e q).mono x .no (I.ownb l a q) fun b q' _ e'=>hk b q' e'
theorem a7g {α:Type} {xs:List α} {x y:α} {l:Nat} {P:Prop} (e:(xs ++ [x])[l]? = some y) (k:xs[l]? = some y→P) (k':l = xs.length→x = y→P):P:=by
 rw [List.getElem?_append] at e
 split at e
 ·exact k e
 ·rename_i q
  cases z:l - xs.length with
  | zero=>rw [z] at e;exact k' (Nat.le_antisymm (Nat.sub_eq_zero_iff_le.mp z) (Nat.not_lt.mp q)) (Option.some.inj e)
  | succ n=>rw [z] at e;cases e
section
variable {T:Tp} {W:Wd}
theorem r7 (I:Inv T W) {a:Addr} (h:W.h.get? a = none):W.own a = .free:=by
 cases q:W.own a with
 | free=>rfl
 | _=>obtain ⟨o,e⟩:=(I.lt a (by rw [q];exact Ow.noConfusion)).1;rw [h] at e;cases e
theorem y5 (h:Heap):h.get? h.objs.size = none:=by
 cases q:h.get? h.objs.size with
 | none=>rfl
 | some o=>exact absurd (Heap.lt_size q) (Nat.lt_irrefl _)
theorem a2A (I:Inv T W) {a:Addr} (h:W.h.get? a = none):T.base.get? a = none:=by
 cases q:T.base.get? a with
 | none=>rfl
 | some o=>rw [I.base _ _ q] at h;cases h
theorem Inv.high (I:Inv T W):cStatics < W.h.objs.size:=let ⟨_,ho⟩:=I.st;Heap.lt_size (I.base _ _ ho)
end
noncomputable abbrev two (D D2:Addr):Addr→Prop:=fun b=>b = D∨b = D2
noncomputable abbrev Wd.take (W:Wd) (D D2:Addr) (o:AO):Wd:={ own:=fun a=>if a = D∨a = D2 then .loc W.σ.length else W.own a,bt:=W.bt ++ [D],σ:=W.σ ++ [o],s:=W.s }
structure Fsh (T:Tp) (W:Wd) (D:Addr):Prop where
 own:W.own D = .free
 base:T.base.get? D = none
 obj:∃ q,W.h.get? D = some q
theorem Inv.take {T:Tp} {W:Wd} (I:Inv T W) {D D2:Addr} {o:AO} (f:Fsh T W D) (f2:Fsh T W D2) (hi:cStatics < D)
  (fx:FrX (two D D2) W.own W.h) (hr:Ext (two D D2) W.own W.bt W.h (W.take D D2 o).own (W.take D D2 o).bt W.h→OR T (W.take D D2 o).own (W.take D D2 o).bt W.h W.σ.length D o) :
  Inv T (W.take D D2 o)∧Le0 (two D D2) W (W.take D D2 o)∧(W.take D D2 o).V T (.ref W.σ.length) (.ref D):=by
 have x:Ext (two D D2) W.own W.bt W.h (W.take D D2 o).own (W.take D D2 o).bt W.h:=⟨fun a o e _ _=>.of e,fun a o e _=>⟨o,e⟩,fun a o e q=>if_neg q,[D],rfl⟩
 have hbt:∀ (l:Nat) (a:Addr),W.bt[l]? = some a→¬ two D D2 a:=fun l a e q=>nomatch (I.ownb l a e).symm.trans (fx a q).1
 have self:∀ a,two D D2 a→(if a = D∨a = D2 then Ow.loc W.σ.length else W.own a) = .loc W.σ.length:=fun a q=>if_pos q
 refine ⟨⟨by simp [I.len],fun l a e=>a7g e (fun e=>(if_neg (hbt l a e)).trans (I.ownb l a e)) fun e1 e2=>(self a (.inl e2.symm)).trans (by rw [e1,I.len]),fun a q=>?_,fun l o' a e q=>?_,I.base,I.st,fun l a e=>a7g e (I.hi l a) fun _ e2=>e2▸hi⟩,⟨x,rfl,rfl⟩,.ref (by simp [← I.len])⟩
 ·by_cases e:two D D2 a
  ·rcases e with rfl|rfl
   ·exact ⟨f.obj,f.base⟩
   ·exact ⟨f2.obj,f2.base⟩
  ·exact I.lt a fun z=>q ((if_neg e).trans z)
 ·refine a7g e (fun e=>a7g q (fun q=>(I.obj l o' a e q).mono x fx (I.ownb l a q) fun b q' _ e'=>e') fun e1 _=>?_) fun e1 e2=>a7g q (fun q=>?_) fun _ e4=>?_
  ·exact absurd (List.getElem?_eq_some_iff.mp e).1 (by rw [e1,I.len];exact Nat.lt_irrefl _)
  ·exact absurd (List.getElem?_eq_some_iff.mp q).1 (by rw [e1,I.len];exact Nat.lt_irrefl _)
  ·rw [e1,← e2,← e4];exact hr x
theorem Le0.lose {X Y:Addr→Prop} {W₀ W₁ W₂:Wd} (l:Le0 X W₀ W₁) (l':Le0 Y W₁ W₂) (h:∀ b o,W₀.h.get? b = some o→¬ X b→¬ Y b):Le0 X W₀ W₂ :=
 ⟨⟨fun b o e f nx=>let ⟨o1,e1,s1⟩:=l.ext.kp b o e f nx;let ⟨o2,e2,s2⟩:=l'.ext.kp b o1 e1 ((l.ext.ow b o e nx).trans f) (h b o e nx);⟨o2,e2,s1.trans s2⟩,fun b o e nx=>(l.ext.df b o e nx).elim fun o' e'=>l'.ext.df b o' e' (h b o e nx),
  fun b o e nx=>(l.ext.df b o e nx).elim fun o' e'=>(l'.ext.ow b o' e' (h b o e nx)).trans (l.ext.ow b o e nx),l.ext.bt.elim fun r e=>l'.ext.bt.elim fun r' e'=>⟨r ++ r',by rw [e',e,List.append_assoc]⟩⟩,l'.gens.trans l.gens,l'.os.trans l.os⟩
noncomputable abbrev Wd.push (W:Wd) (D:Addr) (o:AO) (s':Shared):Wd:=Wd.take { W with s:=s' } D D o
theorem Inv.push {T:Tp} {W:Wd} (I:Inv T W) {s':Shared} {D:Addr} {o:AO} {ob:Obj} (hD:W.h.get? D = none) (hi:cStatics < D) (hs:s'.heap.get? D = some ob) (hc:oth ob = true) (hk:∀ a q,W.h.get? a = some q→s'.heap.get? a = some q)
  (hg:s'.gens = W.s.gens) (ho:s'.os = W.s.os) (hr:∀ {X},FrX X W.own s'.heap→Ext X W.own W.bt s'.heap (W.push D o s').own (W.push D o s').bt s'.heap→OR T (W.push D o s').own (W.push D o s').bt s'.heap W.σ.length D o) :
  Inv T (W.push D o s')∧Le0 noX W (W.push D o s')∧(W.push D o s').V T (.ref W.σ.length) (.ref D):=by
 obtain ⟨I1,l1⟩:=I.grow hk hg ho
 have own:∀ a,two D D a→a = D:=fun a q=>q.elim id id
 have f:Fsh T { W with s:=s' } D:=⟨r7 I hD,a2A I hD,_,hs⟩
 have fx:FrX (two D D) W.own s'.heap:=fun a q=>own a q▸⟨f.own,fun o e=>.inr (.inr (Option.some.inj (hs.symm.trans e)▸hc))⟩
 obtain ⟨I2,l2,v2⟩:=I1.take (o:=o) f f hi fx (hr fx)
 exact ⟨I2,l1.lose l2 (fun b o e _ q=>nomatch hD.symm.trans ((congrArg W.h.get? (own b q)).symm.trans e)),v2⟩
noncomputable abbrev Wd.upd (W:Wd) (l:Nat) (o:AO) (s':Shared):Wd:={ W with σ:=W.σ.set l o,s:=s' }
theorem Inv.upd {T:Tp} {W:Wd} (I:Inv T W) {s':Shared} {l:Nat} {o:AO} {a:Addr} (hl:W.bt[l]? = some a) (hs:∀ b q,W.own b = .loc l→W.h.get? b = some q→∃ q',s'.heap.get? b = some q') (hk:∀ b,W.own b≠.loc l→s'.heap.get? b = W.h.get? b)
  (hg:s'.gens = W.s.gens) (ho:s'.os = W.s.os) (hr:Ext noX W.own W.bt W.h W.own W.bt s'.heap→OR T W.own W.bt s'.heap l a o) :
  Inv T (W.upd l o s')∧Le0 noX W (W.upd l o s'):=by
 have df:∀ a o,W.h.get? a = some o→∃ o',s'.heap.get? a = some o':=fun a o e=>(Classical.em (W.own a = .loc l)).elim (fun f=>hs a o f e) (fun f=>⟨o,(hk a f).trans e⟩)
 have x:Ext noX W.own W.bt W.h W.own W.bt s'.heap:=⟨fun a o e f _=>.of ((hk a (by rw [f];exact Ow.noConfusion)).trans e),fun a o e _=>df a o e,fun _ _ _ _=>rfl,[],(List.append_nil _).symm⟩
 refine ⟨⟨by simp [I.len],I.ownb,fun a q=>⟨let ⟨o,e⟩:=(I.lt a q).1;df a o e,(I.lt a q).2⟩,fun l' o' a' e q=>?_,fun b q e=>?_,I.st,I.hi⟩,x,hg,ho⟩
 ·simp only [Wd.upd] at e
  rw [List.getElem?_set] at e
  split at e
  ·rename_i z
   subst z
   split at e
   ·cases e
    rw [hl] at q;cases q
    exact hr x
   ·cases e
  ·rename_i z
   refine (I.obj l' o' a' e q).mono x .no (I.ownb l' a' q) fun b q' f e'=>(hk b ?_).trans e'
   rw [f];intro y;injection y with y;exact z y.symm
 ·refine (hk b fun z=>?_).trans (I.base b q e)
  have:=(I.lt b (by rw [z];simp)).2
  rw [this] at e;cases e
theorem Inv.toks {T:Tp} {W:Wd} (I:Inv T W) (t:Nat):Inv T { W with s:={ W.s with toks:=t } }∧Le0 noX W { W with s:={ W.s with toks:=t } } :=
 I.grow (fun _ _ e=>e) rfl rfl
inductive a4o {α β:Type} (T:Tp) (X:Addr→Prop) (W:Wd) (r:Out α) (R:Wd→α→β→Prop) (b:β) (s':Shared):Prop
 | intro (a:α) (W':Wd):W'.s = s'→r = .ok a W'.σ→Inv T W'→Le0 X W W'→R W' a b→a4o T X W r R b s'
noncomputable def b8 {α β:Type} (T:Tp) (A:Around) (X:Addr→Prop) (W:Wd) (t:Sem β) (r:Out α) (R:Wd→α→β→Prop):Prop :=
 wpAny T.M A t (a4o T X W r R) (fun _ _=>False) W.s
section
variable {T:Tp} {A:Around} {X:Addr→Prop} {W:Wd} {α β γ δ:Type}
theorem b8.ofO {t:Sem β} {o:Option γ} {f:γ→Out α} {R:Wd→α→β→Prop} (hn:ofO o f≠.fail) (k:∀ x,o = some x→f x≠.fail→b8 T A X W t (f x) R):b8 T A X W t (ofO o f) R:=by
 cases o with
 | some x=>exact k x rfl hn
 | none=>exact absurd rfl hn
theorem b8.orO {t:Sem β} {o:Option γ} {f:γ→Out α} {g:Out α} {R:Wd→α→β→Prop} (hn:orO o f g≠.fail) (k:∀ x,o = some x→f x≠.fail→b8 T A X W t (f x) R) (k':o = none→g≠.fail→b8 T A X W t g R):b8 T A X W t (orO o f g) R:=by
 cases o with
 | some x=>exact k x rfl hn
 | none=>exact k' rfl hn
theorem b8.ifO {t:Sem β} {c:Bool} {g:Out α} {R:Wd→α→β→Prop} (hn:ifO c g≠.fail) (k:c = true→g≠.fail→b8 T A X W t g R):b8 T A X W t (ifO c g) R:=by
 cases c with
 | true=>exact k rfl hn
 | false=>exact absurd rfl hn
theorem b8.ok {t:Sem β} {a:α} {R:Wd→α→β→Prop} (h:wpAny T.M A t (fun b s'=>∃ W',W'.s = s'∧W'.σ = W.σ∧Inv T W'∧Le0 X W W'∧R W' a b) (fun _ _=>False) W.s):b8 T A X W t (.ok a W.σ) R :=
 wpAny_mono h (fun _ _ ⟨W',e,q,I,l,r⟩=>⟨a,W',e,by rw [q],I,l,r⟩) fun _ _ q=>q.elim
theorem b8.cps {t:Sem β} {r:Out α} {R:Wd→α→β→Prop} {Q:β→Shared→Prop} {E:Value→Shared→Prop} (h:b8 T A X W t r R)
  (hq:∀ a W' b,r = .ok a W'.σ→Inv T W'→Le X W W'→R W' a b→Q b W'.s):wpAny T.M A t Q E W.s :=
 wpAny_mono (wpAny_toks h) (fun b _ ⟨tk,a,W',e,q,I,l,r⟩=>e▸hq a W' b q I ⟨l,e▸tk⟩ r) fun _ _ q=>q.2.elim
theorem b8.then {t:Sem β} {x:Out α} {f:α→Hp→Out γ} {R:Wd→α→β→Prop} {Q:β→Shared→Prop} {E:Value→Shared→Prop} (h:x≠.fail→b8 T A X W t x R) (hn:x.bind f≠.fail)
  (k:∀ a W' b,Inv T W'→Le X W W'→R W' a b→f a W'.σ≠.fail→x.bind f = f a W'.σ→Q b W'.s):wpAny T.M A t Q E W.s:=by
 cases x with
 | fail=>exact absurd rfl hn
 | ok a h'=>exact (h fun z=>nomatch z).cps fun a' W' b e I l r=>k a' W' b I l r (by cases e;exact hn) (by cases e;rfl)
theorem b8.up {W₀:Wd} {t:Sem β} {r r₀:Out α} {R:Wd→α→β→Prop} {E:Value→Shared→Prop} (h:b8 T A X W t r R) (l:Le0 X W₀ W) (e:r₀ = r) :
  wpAny T.M A t (a4o T X W₀ r₀ R) E W.s:=by
 subst e
 exact wpAny_mono h (fun b _ ⟨a,W',e,q,I,l',r⟩=>⟨a,W',e,q,I,l.trans l',r⟩) fun _ _ q=>q.elim
theorem b8.bind {t:Sem β} {r:Out α} {R:Wd→α→β→Prop} {f:α→Hp→Out γ} {R':Wd→γ→δ→Prop} {k:β→Sem δ}
  (h:b8 T A X W t r R)
  (hk:∀ a W' b,r = .ok a W'.σ→Inv T W'→Le0 X W W'→R W' a b→b8 T A X W' (k b) (f a W'.σ) R'):b8 T A X W (t >>= k) (r.bind f) R' :=
 wpAny_bind (h.cps (fun a W' b e I l rr=>(hk a W' b e I l.toLe0 rr).up l.toLe0 (by rw [e];rfl)))
theorem b8.mono {t:Sem β} {r:Out α} {R R':Wd→α→β→Prop} (h:b8 T A X W t r R) (m:∀ W' a b,Inv T W'→Le0 X W W'→r = .ok a W'.σ→R W' a b→R' W' a b):b8 T A X W t r R' :=
 wpAny_mono h (fun _ _ ⟨a,W',e,q,I,l,r⟩=>⟨a,W',e,q,I,l,m _ _ _ I l q r⟩) fun _ _ q=>q
end
end Mine
namespace Mine
open PySem PySem.W
noncomputable def b2V (K:Frag) (P:Pr) (fa:Nat→Addr) (C:Addr) (cl:Cl):Bool :=
 keepIn K (.ref C) && makesIn K C && (match cl.init with|some f=>(findIn K (.ref C) "__init__" == some (some (.ref (fa f)))) && PySem.W.isFn K (.ref (fa f))|none=>false) && plainGet K C "" && hasDictIn K C &&
  (findIn K (.ref C) "__setattr__" == some (some (.builtin "object.__setattr__"))) && plainOver K C &&
  P.attrs.all (fun nm=>(match findIn K (.ref C) nm with|some a=>noGet K a|none=>false) && (takerIn K C nm == some none)) &&
  cl.meths.all (fun p=>match P.methNames[p.1]? with|some nm=>(findIn K (.ref C) nm == some (some (.ref (fa p.2)))) && PySem.W.isFn K (.ref (fa p.2)) && keepIn K (.ref (fa p.2)) && !P.attrs.contains nm|none=>false)
noncomputable def b8w:List Value:=[.type "ValueError",.type "Exception",.type "BaseException",.type "object"]
noncomputable def b0c (K:Frag) (D:Addr):Bool:=(instIn K (.ref D) (.type "tuple") == some false) && (subIn K (.ref D) (.type "BaseException") == some true) && excIn K D b8w "ValueError.__new__" && ((findIn K (.ref D) "__getattribute__" == some (some (.builtin "BaseException.__getattribute__"))) && ((findIn K (.ref D) "__getattr__" == some none) && (mroIn K D (.type "BaseException") == some true))) && (findIn K (.ref D) "__class__" == some (some (.builtin "object.__class__"))) && (mroIn K D (.type "object") == some true) && (clsIn K D).isSome && (mroIn K D (.type "ValueError") == some true)
noncomputable def gsB (K:Frag):Bool:=(specialIn K (.builtin "object.__class__") "__get__" == some (some (.builtin "getset_descriptor.__get__"))) && (takesIn K (.builtin "object.__class__") == some true)
noncomputable def a3Z (K:Frag) (D C:Addr) (yes:Bool):Bool:=if yes then isIn K (.ref D) C && (subIn K (.ref D) (.ref C) == some true) else kin_not K D C
noncomputable def a5b (K:Frag) (xa:Nat→Addr) (D:Addr) (ups:List Nat):Nat→List (Str×List Nat)→Bool
 | _,[]=>true
 | d,_ :: r=>a3Z K D (xa d) (ups.contains d) && a5b K xa D ups (d + 1) r
noncomputable def a8H (K:Frag) (P:Pr) (xa:Nat→Addr):Nat→List (Str×List Nat)→Bool
 | _,[]=>true
 | c,p :: r=>b0c K (xa c) && a5b K xa (xa c) p.2 0 P.excs && a8H K P xa (c + 1) r
theorem a2J {K:Frag} {xa:Nat→Addr} {D:Addr} {ups:List Nat}:∀ {l:List (Str×List Nat)} {i:Nat},a5b K xa D ups i l = true→∀ (j:Nat) (p:Str×List Nat),l[j]? = some p→a3Z K D (xa (i + j)) (ups.contains (i + j)) = true
 | _ :: _,_,h,0,_,_=>(Bool.and_eq_true_iff.mp h).1
 | _ :: r,i,h,j + 1,p,e=>by
  have:=a2J (l:=r) (Bool.and_eq_true_iff.mp h).2 j p e
  rw [show i + (j + 1) = i + 1 + j by exact Eq.symm (Nat.succ_add_eq_add_succ i j)];exact this
theorem a0D {K:Frag} {P:Pr} {xa:Nat→Addr}:∀ {l:List (Str×List Nat)} {i:Nat},a8H K P xa i l = true→∀ (j:Nat) (p:Str×List Nat),l[j]? = some p→(b0c K (xa (i + j)) && a5b K xa (xa (i + j)) p.2 0 P.excs) = true
 | _ :: _,_,h,0,_,e=>by cases e;exact (Bool.and_eq_true_iff.mp h).1
 | _ :: r,i,h,j + 1,p,e=>by
  have:=a0D (l:=r) (Bool.and_eq_true_iff.mp h).2 j p e
  rw [show i + (j + 1) = i + 1 + j by lia];exact this
noncomputable def a9R (K:Frag) (P:Pr) (ca fa:Nat→Addr):Nat→List Cl→Bool
 | _,[]=>true
 | c,cl :: r=>b2V K P fa (ca c) cl && a9R K P ca fa (c + 1) r
noncomputable def a2P:List Str→Bool
 | []=>true
 | x :: r=>!r.contains x && a2P r
theorem a6c {K:Frag} {P:Pr} {ca fa:Nat→Addr}:∀ {l:List Cl} {i:Nat},a9R K P ca fa i l = true→∀ (j:Nat) (cl:Cl),l[j]? = some cl→b2V K P fa (ca (i + j)) cl = true
 | c :: r,i,h,0,cl,e=>by
  cases e
  simp only [a9R,Bool.and_eq_true] at h
  exact h.1
 | c :: r,i,h,j + 1,cl,e=>by
  simp only [a9R,Bool.and_eq_true] at h
  have:=a6c h.2 j cl (by simpa using e)
  rw [show i + (j + 1) = i + 1 + j by lia];exact this
end Mine
namespace Mine
open PySem PySem.SeqAt
noncomputable def Rd (W:Wd) (env:Env) (x:Str) (v:Value):Prop :=
 (env.kindOf x = some .local∧W.own env.locals = .free∧∃ m,W.h.Ns env.locals m∧m x = some v) ∨
 (env.kindOf x = some .cell∧∃ c,env.cells.lookup x = some c∧W.own c = .free∧W.h.IsCell c (some v))
theorem b5D {h h':Heap} {a:Addr} {m:Str→Option Value} (n:h.Ns a m) (k:∀ o,h.get? a = some o→h'.get? a = some o):h'.Ns a m:=let ⟨o,es,ep,ho,r⟩:=n;⟨o,es,ep,k o ho,r⟩
theorem a1Z {h h':Heap} {a:Addr} {v:Option Value} (n:h.IsCell a v) (k:∀ o,h.get? a = some o→h'.get? a = some o):h'.IsCell a v:=let ⟨o,ho,hd⟩:=n;⟨o,k o ho,hd⟩
theorem a3P {h h':Heap} {a:Addr} {m:Str→Option Value} (n:h.Ns a m) (k:∀ o,h.get? a = some o→Std h' a o):h'.Ns a m:=by
 obtain ⟨o,es,ep,ho,hd,r⟩:=n
 obtain ⟨o',e,s⟩:=k o ho
 cases s with
 | refl=>exact ⟨o,es,ep,e,hd,r⟩
 | slots _=>exact ⟨_,es,ep,e,hd,r⟩
theorem a1S {h h':Heap} {a:Addr} {v:Option Value} (n:h.IsCell a v) (k:∀ o,h.get? a = some o→Std h' a o):h'.IsCell a v :=
 let ⟨o,ho,hd⟩:=n;⟨o,(k o ho).eq (fun _ _ z=>nomatch hd.symm.trans z),hd⟩
theorem a1l {h:Heap} {a:Addr} {m:Str→Option Value} (n:h.Ns a m):∃ o,h.get? a = some o:=let ⟨o,_,_,ho,_⟩:=n;⟨o,ho⟩
theorem C8 {h:Heap} {a:Addr} {m:Option Value} (n:h.IsCell a m):∃ o,h.get? a = some o:=let ⟨o,ho,_⟩:=n;⟨o,ho⟩
theorem Rd.le {W W':Wd} {env:Env} {x:Str} {v:Value} (r:Rd W env x v) (l:Le0 noX W W'):Rd W' env x v:=by
 rcases r with ⟨k,f,m,n,e⟩|⟨k,c,e,f,n⟩
 ·exact .inl ⟨k,(let ⟨_,z⟩:=a1l n;(l.ext.ow _ _ z id).trans f),m,a3P n fun o ho=>l.ext.kp _ o ho f id,e⟩
 ·exact .inr ⟨k,c,e,(let ⟨_,z⟩:=C8 n;(l.ext.ow _ _ z id).trans f),a1S n fun o ho=>l.ext.kp _ o ho f id⟩
structure b3V (T:Tp) (W:Wd) (L:Addr):Prop where
 own:W.own L = .free
 base:T.base.get? L = none
 obj:∃ o es n,W.h.get? L = some o∧o.data = .dict es n
noncomputable def Stk (T:Tp) (W:Wd) (l:List Env):Prop:=∀ env∈l,env.scope.kind≠.module∧∃ L,env.frame = some L∧b3V T W L
theorem b3V.leX {T:Tp} {X:Addr→Prop} {W W':Wd} {L:Addr} (F:b3V T W L) (l:Le0 X W W') (h:¬ X L):b3V T W' L:=by
 obtain ⟨o,es,n,e,d⟩:=F.obj
 obtain ⟨o',e',s⟩:=l.ext.kp L o e F.own h
 refine ⟨(l.ext.ow L o e h).trans F.own,F.base,o',es,n,e',?_⟩
 cases s with
 | refl=>exact d
 | slots _=>exact d
theorem Stk.leX {T:Tp} {X:Addr→Prop} {W W':Wd} {l:List Env} (S:Stk T W l) (x:Le0 X W W') (h:∀ env∈l,∀ L,env.frame = some L→¬ X L):Stk T W' l:=fun env he =>
 let ⟨k,L,e,F⟩:=S env he;⟨k,L,e,F.leX x (h env he L e)⟩
noncomputable def St (T:Tp) (A:Around) (W:Wd):Prop:=∃ l,A.frames = some l∧Stk T W l
theorem St.le {T:Tp} {A:Around} {W W':Wd} (S:St T A W) (x:Le0 noX W W'):St T A W':=let ⟨l,e,k⟩:=S;⟨l,e,k.leX x fun _ _ _ _=>id⟩
structure Fm (T:Tp) (W:Wd) (env:Env) (sl:List (Nat×Str)) (vs:Vs):Prop where
 kind:env.scope.kind = .function
 glob:env.globals = mainGlobals
 bi:env.builtins = builtinsNs
 cells:∀ x,env.scope.names.lookup x = some .cell→∃ c,env.cells.lookup x = some c
 rd:∀ i x,(i,x)∈sl→∀ av,vs[i]? = some (some av)→∃ v,W.V T av v∧Rd W env x v
theorem Fm.le {T:Tp} {W W':Wd} {env:Env} {sl:List (Nat×Str)} {vs:Vs} (F:Fm T W env sl vs) (l:Le0 noX W W'):Fm T W' env sl vs :=
 ⟨F.kind,F.glob,F.bi,F.cells,fun i x hi av e=>let ⟨v,r,d⟩:=F.rd i x hi av e;⟨v,r.le l,d.le l⟩⟩
structure Tp.Ok (T:Tp):Prop where
 g:T.base.Ns mainGlobals T.mg
 b:T.base.Ns builtinsNs T.mb
 nolimit:T.base.NoLimit
 bi:∀ x:Str,x≠"__name__"→T.mb x = bootBuiltins x
 X:T.K.In T.base
 cl:a9R T.K T.P T.ca T.fa 0 T.P.cls = true
 xs:a8H T.K T.P T.xa 0 T.P.excs = true
 gs:gsB T.K = true
 own:∀ (c:Nat) (us:List Nat),W9 T.P c = some us→∃ x mg,PyProof.Rows.OwnCls x (T.xa c) b8w "ValueError.__new__" mg T.base
 at_:a2P T.P.attrs = true
section
variable {T:Tp} {A:Around} {W:Wd} {env:Env} {sl:List (Nat×Str)} {vs:Vs}
noncomputable abbrev VW (T:Tp):Wd→AV→Value→Prop:=fun W av v=>W.V T av v
noncomputable abbrev VWs (T:Tp):Wd→List AV→List Value→Prop:=fun W av v=>W.Vs T av v
theorem b2P (F:Fm T W env sl vs) (I:Inv T W) {i:Nat} {x:Str} {pos:Pos} {av:AV} (hi:(i,x)∈sl) (hv:vs[i]? = some (some av)) (hd:(x == ("__debug__":Str)) = false) :
  b8 T A noX W (eval (.Name x pos) env) (.ok av W.σ) (VW T):=by
 obtain ⟨v,r,d⟩:=F.rd i x hi av hv
 refine b8.ok (wpAny_Name ?_ hd)
 rcases d with ⟨k,f,m,n,e⟩|⟨k,c,e,f,n⟩
 ·exact wpAny_loadName_local F.kind k n e ⟨W,rfl,rfl,I,.refl _ _,r⟩
 ·exact wpAny_loadName_cell F.kind k e n ⟨W,rfl,rfl,I,.refl _ _,r⟩
theorem a6E {β:Type} {t:Sem β} {a:AV} {R:Wd→AV→β→Prop} {b:β} (I:Inv T W) (k:Nat) (h:∀ Q E,Q b { W.s with toks:=k }→wpAny T.M A t Q E W.s) (r:R { W with s:={ W.s with toks:=k } } a b) :
  b8 T A noX W t (.ok a W.σ) R:=b8.ok (h _ _ ⟨{ W with s:={ W.s with toks:=k } },rfl,rfl,(I.toks k).1,(I.toks k).2,r⟩)
theorem b2u (I:Inv T W) {i:Int} {k:Nat} {pos:Pos}:b8 T A noX W (eval (.Constant (.int i) k pos) env) (.ok (.int i) W.σ) (VW T) :=
 a6E I (W.s.toks + 1) (fun _ _ h=>wpAny_Constant_int h) (.int _ _)
theorem b3g (I:Inv T W) {s:List Nat} {k:Nat} {pos:Pos} (ok:okS s):b8 T A noX W (eval (.Constant (.str (tS s)) k pos) env) (.ok (.str s) W.σ) (VW T) :=
 a6E I (W.s.toks + 1) (fun _ _ h=>wpAny_Constant_str h) (.str _ ok)
theorem a9N (I:Inv T W) {b:Bool} {k:Nat} {pos:Pos}:b8 T A noX W (eval (.Constant (.bool b) k pos) env) (.ok (.bool b) W.σ) (VW T) :=
 b8.ok (wpAny_Constant_bool ⟨W,rfl,rfl,I,.refl _ _,.bool b⟩)
theorem b0C (I:Inv T W) {k:Nat} {pos:Pos}:b8 T A noX W (eval (.Constant .none k pos) env) (.ok .none W.σ) (VW T) :=
 b8.ok (wpAny_Constant_none ⟨W,rfl,rfl,I,.refl _ _,.none⟩)
end
end Mine
namespace Mine
open PySem PySem.SeqAt
theorem w5:lim = sizeLine:=by decide +kernel
theorem k9 (s:List Nat):(tS s).length = s.length:=by simp [tS,Str.length]
theorem a0L (a b:List Nat):tS a ++ tS b = tS (a ++ b):=by
 show (⟨a.toArray ++ b.toArray⟩:Str) = ⟨(a ++ b).toArray⟩
 simp
theorem okS.append {a b:List Nat} (ha:okS a) (hb:okS b) (h:a.length + b.length≤lim):okS (a ++ b) :=
 ⟨fun c hc=>(List.mem_append.mp hc).elim (ha.1 c) (hb.1 c),by simpa using h⟩
theorem okS.sub {a b:List Nat} (ha:okS a) (h:∀ c∈b,c∈a) (hl:b.length≤a.length):okS b:=⟨fun c hc=>ha.1 c (h c hc),Nat.le_trans hl ha.2⟩
section
variable {T:Tp} {A:Around} {W:Wd}
theorem b8.keep {t:Sem Value} {a:AV} (I:Inv T W) (h:∀ Q E,(∀ v k,W.V T a v→Q v { W.s with toks:=k })→wpAny T.M A t Q E W.s):b8 T A noX W t (.ok a W.σ) (VW T) :=
 b8.ok (h _ _ fun v k r=>⟨{ W with s:={ W.s with toks:=k } },rfl,rfl,(I.toks k).1,(I.toks k).2,r.le (I.toks k).2⟩)
theorem b8.newAt {t:Sem Value} {xs:List AV} (I:Inv T W) (hn:newList xs W.σ≠.fail)
  (h:xs.length≤lim→∀ Q E,(∀ D s' arr c,W.h.get? D = none→cStatics < D→(∀ c o,W.h.get? c = some o→s'.heap.get? c = some o)→s'.gens = W.s.gens→s'.os = W.s.os→s'.heap.get? D = some { cls:=.type "list",data:=.seq arr c }→VRs T W.own W.bt s'.heap xs arr.toList→Q (.ref D) s')→wpAny T.M A t Q E W.s) :
  b8 T A noX W t (newList xs W.σ) (VW T) :=
 b8.ifO hn fun hl _=>h (of_decide_eq_true hl) _ _ fun D s' arr c hD hi hk hg ho hs r =>
  (fun ⟨a,b,c⟩=>⟨_,_,rfl,rfl,a,b,c⟩:_→_) (I.push (o:=.list xs) hD hi hs rfl hk hg ho fun fx x=>.list arr c hs (r.ext x fx) (of_decide_eq_true hl))
theorem P4 {t:Sem Value} {xs:List AV} {vs:List Value} (I:Inv T W) (r:W.Vs T xs vs)
  (h:xs.length≤lim→∀ Q E,(∀ k,Q (.ref W.h.objs.size) { W.s with heap:=W.h.push { cls:=.type "list",data:=.seq vs.toArray },toks:=k })→wpAny T.M A t Q E W.s)
  (hn:newList xs W.σ≠.fail):b8 T A noX W t (newList xs W.σ) (VW T) :=
 b8.newAt I hn fun hl Q E q=>h hl Q E fun k=>q _ _ _ 0 (y5 _) I.high (fun _ _ e=>Heap.get?_push_of_some _ e) rfl rfl (Heap.get?_push_size _ rfl) (r.ext (.kept (X:=noX) fun _ _ e=>Heap.get?_push_of_some _ e) .no)
noncomputable def opM:BOp→Operator
 | .add=>.Add
 | .sub=>.Sub
 | .mul=>.Mult
 | .mod=>.Mod
 | .div=>.FloorDiv
theorem b6z (n:Nat) (s:List Nat):∀ acc:Array Nat,(List.replicate n s.toArray).foldl (· ++ ·) acc = acc ++ (rep n s).toArray:=by
 induction n with
 | zero=>intro acc;simp [rep]
 | succ n ih=>intro acc;rw [List.replicate_succ,List.foldl_cons,ih];simp [rep]
theorem z8 (n:Nat) (s:List Nat):(rep n s).length = s.length * n:=by
 induction n with
 | zero=>rfl
 | succ n ih=>simp [rep,ih,Nat.mul_succ];exact Nat.add_comm s.length (s.length * n)
theorem b4U {n:Nat} {s:List Nat} {c:Nat} (h:c∈rep n s):c∈s:=by
 induction n with
 | zero=>simp [rep] at h
 | succ n ih=>simp only [rep,List.mem_append] at h;exact h.elim id ih
theorem b6u (s:List Nat) (n:Int):Txt.mul (tS s) n = tS (rep n.toNat s):=by
 unfold Txt.mul
 split
 ·rename_i h
  rw [show n.toNat = 0 by lia];rfl
 ·split
  ·rename_i h1 h2
   simp only [Bool.or_eq_true,beq_iff_eq] at h2
   rcases h2 with rfl|h2
   ·simp [rep]
   ·rw [k9] at h2
    have:s = []:=List.length_eq_zero_iff.mp h2
    subst this
    have:∀ n,rep n [] = []:=fun n=>by induction n with|zero=>rfl|succ n ih=>simp [rep,ih]
    rw [this]
  ·show (⟨(List.replicate n.toNat s.toArray).foldl (· ++ ·) #[]⟩:Str) = _
   rw [b6z];simp [tS]
theorem a7I {n:Nat} (h:n < 2 ^ 64):n.log2 < 9000:=by
 by_cases e:n = 0
 ·subst e;decide
 ·exact Nat.lt_trans ((Nat.log2_lt e).mpr h) (by decide)
theorem a2f {x:Int} (h:x.natAbs < 18446744073709551616):Builtin.Int.intBits x≤64:=by
 unfold Builtin.Int.intBits
 split
 ·decide
 ·rename_i q
  have:x.natAbs≠0:=by simpa using q
  exact (Nat.log2_lt this).mpr h
theorem b8J {s:List Nat} {n:Int} (h1:-(lim:Int)≤n) (h2:n≤lim) (h3:s.length * n.toNat≤lim):MulOk (tS s) n:=by
 have hl:(lim:Int) = 16777216:=rfl
 refine ⟨?_,fun h _ q=>?_,fun _ _=>?_⟩
 ·simp only [Bool.or_eq_false_iff,decide_eq_false_iff_not];lia
 ·rw [k9] at q
  have h4:(s.length:Int) * n≤2 ^ 63 - 1:=by
   have:((s.length * n.toNat:Nat):Int)≤(lim:Int):=by exact_mod_cast h3
   rw [Int.natCast_mul,Int.toNat_of_nonneg (by lia)] at this
   lia
  have h5:=(Int.le_ediv_iff_mul_le (a:=s.length) (b:=2 ^ 63 - 1) (c:=n) (by lia)).mpr h4
  lia
 ·unfold Builtin.Str.tooLong
  rw [k9,← w5]
  simp only [gt_iff_lt,decide_eq_false_iff_not];exact (Nat.not_lt.mpr) h3
theorem z7 {t:Value→Value→Sem Value} {f:Int→Int→Out AV} {a b:AV} {va vb:Value} (ra:W.V T a va) (rb:W.V T b vb) (hn:P1 f a b≠.fail) (k:∀ x y u w,f x y≠.fail→b8 T A noX W (t (.int x u) (.int y w)) (f x y) (VW T)):b8 T A noX W (t va vb) (P1 f a b) (VW T) :=
 b8.ofO hn fun x ea hn=>b8.ofO hn fun y eb hn=>ra.asInt (P:=fun va=>b8 T A noX W (t va vb) (f x y) (VW T)) ea fun u=>rb.asInt (P:=fun vb=>b8 T A noX W (t (.int x u) vb) (f x y) (VW T)) eb fun w=>k x y u w hn
theorem b0Z (I:Inv T W) {x y:List Nat} {t u:Tok} (ox:okS x) (oy:okS y) (hl:x.length + y.length≤lim):b8 T A noX W (binaryOp .Add (.str (tS x) t) (.str (tS y) u)) (.ok (.str (x ++ y)) W.σ) (VW T):=by
 refine b8.keep I fun _ _ h=>SB.add (fun t' k=>h _ _ ?_) (by rw [k9,k9,← w5];exact hl)
 rw [a0L];exact .str _ (ox.append oy hl)
theorem b1r (I:Inv T W) {xs ys:List AV} {c d:Addr} (lc:LAt T W xs c) (ld:LAt T W ys d) (hn:newList (xs ++ ys) W.σ≠.fail):b8 T A noX W (binaryOp .Add (.ref c) (.ref d)) (newList (xs ++ ys) W.σ) (VW T):=by
 obtain ⟨vs,n,h1,h2,_⟩:=lc
 obtain ⟨ws,m,k1,k2,_⟩:=ld
 refine P4 I (h2.append k2) (fun hl Q E h=>P.add_list h1 k1 ?_ ?_) hn
 ·have:=h W.s.toks
  rw [show (vs.toList ++ ws.toList).toArray = vs ++ ws from by rw [← Array.toList_append,Array.toArray_toList]] at this
  exact this
 ·have e3:=h2.length;have e4:=k2.length
  rw [Array.length_toList] at e3 e4
  rw [← w5,e3,e4,← List.length_append];exact hl
theorem a9U (I:Inv T W) {a b:AV} {va vb:Value} (ra:W.V T a va) (rb:W.V T b vb) (hn:b7y a b W.σ≠.fail):b8 T A noX W (binaryOp .Add va vb) (b7y a b W.σ) (VW T) :=
 b8.orO hn (fun x ea hn=>b8.ofO hn fun y eb _=>ra.asInt (P:=fun va=>b8 T A noX W (binaryOp .Add va vb) _ (VW T)) ea fun u=>rb.asInt (P:=fun vb=>b8 T A noX W (binaryOp .Add _ vb) _ (VW T)) eb fun w=>b8.keep I fun _ _ h=>P.add_int (h _ _ (.int _ _)))
  fun _ hn=>b8.orO hn (fun x ea hn=>b8.ofO hn fun y eb hn=>b8.ifO hn fun hl _=>ra.asStr (P:=fun va=>b8 T A noX W (binaryOp .Add va vb) _ (VW T)) ea fun u ox=>rb.asStr (P:=fun vb=>b8 T A noX W (binaryOp .Add _ vb) _ (VW T)) eb fun w oy=>b0Z I ox oy (of_decide_eq_true hl))
   fun _ hn=>b8.ofO hn fun xs ea hn=>b8.ofO hn fun ys eb hn=>I.listE (P:=fun va=>b8 T A noX W (binaryOp .Add va vb) _ (VW T)) ea ra fun c hc=>I.listE (P:=fun vb=>b8 T A noX W (binaryOp .Add _ vb) _ (VW T)) eb rb fun d hd=>b1r I hc hd hn
theorem b0T (I:Inv T W) {x:List Nat} {y:Int} {t u:Tok} (ox:okS x) (hl:-lim≤y∧y≤lim∧x.length * y.toNat≤lim):b8 T A noX W (binaryOp .Mult (.str (tS x) t) (.int y u)) (.ok (.str (rep y.toNat x)) W.σ) (VW T):=by
 refine b8.keep I fun _ _ h=>SB.mul (b8J hl.1 hl.2.1 hl.2.2) fun t' k=>h _ _ ?_
 rw [b6u]
 exact .str _ ⟨fun c hc=>ox.1 c (b4U hc),by rw [z8];exact hl.2.2⟩
theorem b0V (I:Inv T W) {x y:Int} {u w:Tok} (hl:0 < y):b8 T A noX W (binaryOp .Mod (.int x u) (.int y w)) (.ok (.int (x % y)) W.σ) (VW T):=b8.keep I fun _ _ h=>by
 refine PyProof.Rows.mod_int (Int.ne_of_gt hl) ?_
 rw [Int.fmod_eq_emod_of_nonneg _ (Int.le_of_lt hl)]
 exact h _ _ (.int _ _)
theorem b0n (I:Inv T W) {x y:Int} {u w:Tok} (hl:0 < y∧y < 18446744073709551616):b8 T A noX W (binaryOp .FloorDiv (.int x u) (.int y w)) (.ok (.int (x / y)) W.σ) (VW T):=b8.keep I fun _ _ h=>by
 refine PyProof.Rows.floordiv_int (Int.ne_of_gt hl.1) ?_ (.inl (PyProof.noPylong_of_log2 ?_))
 ·rw [Int.fdiv_eq_ediv_of_nonneg _ (Int.le_of_lt hl.1)]
  exact h _ _ (.int _ _)
 ·exact a7I (by have:=hl.2;omega)
theorem b1f (I:Inv T W) {a b:AV} {va vb:Value} (ra:W.V T a va) (rb:W.V T b vb) (hn:b7a a b W.σ≠.fail):b8 T A noX W (binaryOp .Mult va vb) (b7a a b W.σ) (VW T) :=
 b8.orO hn (fun x ea hn=>b8.ofO hn fun y eb hn=>b8.ifO hn fun hl _=>ra.asStr (P:=fun va=>b8 T A noX W (binaryOp .Mult va vb) _ (VW T)) ea fun u ox=>rb.asInt (P:=fun vb=>b8 T A noX W (binaryOp .Mult _ vb) _ (VW T)) eb fun w=>b0T I ox (of_decide_eq_true hl))
   fun _ hn=>z7 (t:=binaryOp .Mult) ra rb hn fun x y u w hn=>b8.ifO hn fun hl _=>b8.keep I fun _ _ h=>P.mul_int (h _ _ (.int _ _)) ((Bool.or_eq_true_iff.mp hl).elim (fun q=>.of_left (a2f (of_decide_eq_true q))) fun q=>.of_right (a2f (of_decide_eq_true q)))
theorem b0w (I:Inv T W) {op:BOp} {a b:AV} {va vb:Value} (ra:W.V T a va) (rb:W.V T b vb) (hn:M2 op a b W.σ≠.fail) :
  b8 T A noX W (binaryOp (opM op) va vb) (M2 op a b W.σ) (VW T):=by
 cases op with
 | add=>exact a9U I ra rb hn
 | sub=>exact z7 (t:=binaryOp .Sub) ra rb hn fun x y u w _=>b8.keep I fun _ _ h=>P.sub_int (h _ _ (.int _ _))
 | mul=>exact b1f I ra rb hn
 | mod=>exact z7 (t:=binaryOp .Mod) ra rb hn fun x y u w hn=>b8.ifO hn fun hl _=>b0V I (of_decide_eq_true hl)
 | div=>exact z7 (t:=binaryOp .FloorDiv) ra rb hn fun x y u w hn=>b8.ifO hn fun hl _=>b0n I (of_decide_eq_true hl)
end
end Mine
namespace Mine
open PySem PySem.SeqAt
theorem a5f {a b:List Nat} (h:tS a = tS b):a = b:=congrArg (fun s:Str=>s.cps.toList) h
theorem V1 {α:Type} {o:Option α} (h:o.isSome = true):∃ x,o = some x:=Option.isSome_iff_exists.mp h
theorem a7v {a b:AV} {x y:Ky} (ha:kof a = some x) (hb:kof b = some y):keq a b = decide (x = y):=by unfold keq;rw [ha,hb];rfl
theorem a8N (T:Tp) {k:AV} {x:Ky} (e:kof k = some x):kh T k = x.elim (D4 T.prog T.w).hash (tupleKind (D4 T.prog T.w)).hash:=by unfold kh;rw [e];rfl
theorem a5y {b:Bool} {k:AV} (h:isK b k = true):∃ x,kof k = some x∧x.isRight = b:=by
 unfold isK at h
 cases e:kof k with
 | none=>rw [e] at h;cases h
 | some x=>rw [e] at h;exact ⟨x,rfl,eq_of_beq h⟩
theorem a5e {k:AV} (h:isK false k = true):∃ x,kof k = some (.inl x)∧a4B k = some x:=by
 obtain ⟨x,e,q⟩:=a5y h
 cases x with
 | inl x=>exact ⟨x,e,orE e (fun _ _ e=>nomatch e) fun _ e=>E0 (P:=fun y=>y = Sum.inl x→a4B k = some x) e (fun y e z=>by cases z;exact e) rfl⟩
 | inr x=>cases q
theorem a8Q {k:AV} (h:isK true k = true):∃ x,kof k = some (.inr x)∧tks k = some x:=by
 obtain ⟨x,e,q⟩:=a5y h
 cases x with
 | inl x=>cases q
 | inr x=>exact ⟨x,e,orE e (fun y e1 e=>by cases e;exact e1) fun _ e=>E0 (P:=fun y=>y = Sum.inr x→tks k = some x) e (fun y _ z=>nomatch z) rfl⟩
section
variable {T:Tp} {own:Addr→Ow} {bt:List Addr} {h:Heap}
theorem a2p {k:AV} {v:Value} {x:Str ⊕ Int} (r:VR T own bt h k v) (e:a4B k = some x):kIs x v = true :=
 orE e (fun i ea e=>E6 (P:=fun x=>kIs x v = true) e (r.asInt (P:=fun v=>kIs (.inr i) v = true) ea fun t=>beq_self_eq_true i))
  fun _ e=>E0 (P:=fun x=>kIs x v = true) e fun s ea=>r.asStr (P:=fun v=>kIs (.inl (tS s)) v = true) ea fun t _=>beq_self_eq_true (tS s)
theorem b0a {xs:List AV} {vs:List Value} (r:VRs T own bt h xs vs):∀ {ks:List (Str ⊕ Int)},p0 a4B xs = some ks→ItemsAre (D4 T.prog T.w) ks vs:=by
 induction r with
 | nil=>intro ks e;cases e;exact .nil
 | cons a _ ih=>exact fun e=>a6w (P:=fun ks=>ItemsAre (D4 T.prog T.w) ks _) e fun k ks e1 e2=>.cons (a2p a e1) (ih e2)
theorem a9B.vrs {xs:List AV} {a:Addr} {o:Obj} {vs:Array Value} {n:Nat} (t:a9B T own bt h xs a o vs n):VRs T own bt h xs vs.toList :=
 .of (by rw [Array.length_toList];exact t.size) fun i x v hx hv=>t.items i x v hx (by rw [← Array.getElem?_toList];exact hv)
theorem b2C {P:Value→Prop} {k:AV} {v:Value} {x:List (Str ⊕ Int)} (r:VR T own bt h k v) (e:tks k = some x) (q:∀ a,IsTupleKey (D4 T.prog T.w) h x a→P (.ref a)):P v :=
 o5 e fun xs e1 e2=>r.asTup (P:=P) e1 fun b o vs n t=>q b ⟨o,vs,n,t.get,t.cls,t.data,b0a t.vrs e2⟩
theorem Al.src {α β:Type} {R:α→β→Prop} {xs:List α} {vs:List β} (r:Al R xs vs):∀ v∈vs,∃ x∈xs,R x v:=by
 induction r with
 | nil=>exact fun _ h=>nomatch h
 | cons a _ ih =>
  intro v hv
  rcases List.mem_cons.mp hv with rfl|hv
  ·exact ⟨_,List.mem_cons_self ..,a⟩
  ·obtain ⟨x,hx,q⟩:=ih v hv;exact ⟨x,List.mem_cons_of_mem _ hx,q⟩
theorem a8o {es:Array DictEntry} (p:DictEntry→Bool):es.findIdx? p = es.toList.findIdx? p:=by obtain ⟨l⟩:=es;simp
structure b6p (T:Tp) (h:Heap) (p:AV×AV) (x:List (Str ⊕ Int)×Addr×Value):Prop where
 key:kof p.1 = some (.inr x.1)
 is:IsTupleKey (D4 T.prog T.w) h x.1 x.2.1
theorem a7j {es:List (AV×AV)} {l:List DictEntry} (r:Al (EnR T own bt h) es l):(∀ p∈es,isK true p.1 = true)→∃ xs,l = xs.map (entryOfKey (tupleKind (D4 T.prog T.w)))∧Al (b6p T h) es xs:=by
 induction r with
 | nil=>exact fun _=>⟨[],rfl,.nil⟩
 | @cons p en es l a _ ih =>
  intro q
  obtain ⟨xs,e,r⟩:=ih fun p hp=>q p (List.mem_cons_of_mem _ hp)
  obtain ⟨x,kx,ex⟩:=a8Q (q _ (List.mem_cons_self ..))
  refine b2C (P:=fun key=>∃ xs,(⟨en.hash,key,en.val⟩:DictEntry) :: l = xs.map (entryOfKey (tupleKind (D4 T.prog T.w)))∧Al (b6p T h) (p :: es) xs) a.key ex fun b hb=>⟨(x,b,en.val) :: xs,?_,.cons ⟨kx,hb⟩ r⟩
  rw [e,a.hash,a8N T kx];rfl
theorem Al.nodup {es:List (AV×AV)} {xs:List (List (Str ⊕ Int)×Addr×Value)} (r:Al (b6p T h) es xs):es.Pairwise (fun p q=>keq p.1 q.1 = false)→(xs.map (·.1)).Nodup:=by
 induction r with
 | nil=>exact fun _=>List.nodup_nil
 | cons a r ih =>
  intro q
  rw [List.pairwise_cons] at q
  refine List.nodup_cons.mpr ⟨fun m=>?_,ih q.2⟩
  obtain ⟨y,hy,e⟩:=List.mem_map.mp m
  obtain ⟨p,hp,b⟩:=r.src y hy
  have:=q.1 p hp
  rw [a7v a.key b.key,e,decide_eq_true rfl] at this
  cases this
end
theorem a2r {es:List (AV×AV)} {k:AV} (ks:a1B es) (kf:E1 es k = true):∃ b,(∀ p∈es,isK b p.1 = true)∧isK b k = true:=by
 obtain ⟨b,hb⟩:=ks.sort
 cases es with
 | nil =>
  obtain ⟨x,e⟩:=V1 kf
  exact ⟨x.isRight,fun _ h=>(nomatch h),by unfold isK;rw [e];exact beq_self_eq_true _⟩
 | cons p es =>
  have one:∀ c,isK c k = true→isK c p.1 = true→isK b k = true:=fun c h1 h2=>by
   obtain ⟨x,e1,e2⟩:=a5y (hb p (List.mem_cons_self ..))
   obtain ⟨y,e3,e4⟩:=a5y h2
   rw [e1] at e3;cases e3
   rw [← e2,e4];exact h1
  exact ⟨b,hb,(Bool.or_eq_true_iff.mp kf).elim (fun z=>one _ (Bool.and_eq_true_iff.mp z).1 (Bool.and_eq_true_iff.mp z).2) fun z=>one _ (Bool.and_eq_true_iff.mp z).1 (Bool.and_eq_true_iff.mp z).2⟩
section
variable {T:Tp} {own:Addr→Ow} {bt:List Addr} {h:Heap} {A:Around} {d:Addr} {ep:Option Nat} {es:List (AV×AV)} {arr:Array DictEntry} {n:Nat} {k:AV} {key:Value}
structure Lk (T:Tp) (own:Addr→Ow) (bt:List Addr) (h:Heap) (d:Addr) (ep:Option Nat) (es:List (AV×AV)) (arr:Array DictEntry) (n:Nat) (k:AV) (key:Value):Prop where
 ho:h.get? d = some (W8 arr n)
 dr:DR T own bt h ep es arr n
 rk:VR T own bt h k key
 fit:E1 es k = true
 no:(d == sysModules) = false
structure b8H (T:Tp) (h:Heap) (A:Around) (d:Addr) (es:List (AV×AV)) (k:AV) (key:Value):Prop where
 hash:∀ {s:Shared} {Q:Int→Shared→Prop} {E:Value→Shared→Prop},s.heap = h→(∀ tk,Q (kh T k) { s with toks:=tk })→wpAny T.M A (pyHash key) Q E s
 find:∀ {s:Shared} {Q:Option Nat→Shared→Prop} {E:Value→Shared→Prop},s.heap = h→Q (J0 es k) s→wpAny T.M A (dictFind d key (kh T k)) Q E s
theorem b2l (L:Lk T own bt h d ep es arr n k key) (hu:A.units < cLine):b8H T h A d es k key:=by
 obtain ⟨b,ks,kk⟩:=a2r L.dr.ks L.fit
 cases b with
 | false =>
  obtain ⟨x,kx,ex⟩:=a5e kk
  have hx:kh T k = (D4 T.prog T.w).hash x:=a8N T kx
  have hk:KeysOf (D4 T.prog T.w) arr:=fun e he=>by
   obtain ⟨p,hp,r⟩:=L.dr.en.src e (Array.mem_toList_iff.mpr he)
   obtain ⟨y,ky,ey⟩:=a5e (ks p hp)
   exact ⟨y,a2p r.key ey,r.hash.trans (a8N T ky)⟩
  refine ⟨fun e q=>(D4 T.prog T.w).pyHash (a2p L.rk ex) (hx▸q _),fun e q=>?_⟩
  subst e
  rw [hx]
  refine wpAny_dictFind_of (a2p L.rk ex) L.ho rfl hk ?_
  rw [a8o,L.dr.en.find (p:=fun p=>keq p.1 k) fun p e hp r=>?_]
  ·exact q
  ·obtain ⟨y,ky,ey⟩:=a5e (ks p hp)
   rw [a7v ky kx,KeyKind.is_eq_decide (knd:=D4 T.prog T.w) (a2p r.key ey)]
   exact decide_eq_decide.mpr ⟨fun e=>congrArg _ e.symm,fun e=>(Sum.inl.inj e).symm⟩
 | true =>
  obtain ⟨x,kx,ex⟩:=a8Q kk
  have hx:kh T k = (tupleKind (D4 T.prog T.w)).hash x:=a8N T kx
  obtain ⟨xs,e,r⟩:=a7j L.dr.en ks
  have hn:=r.nodup L.dr.ks.nodup
  have fe:J0 es k = xs.findIdx? fun y=>decide (y.1 = x):=(r.find (p:=fun p:AV×AV=>keq p.1 k) (q:=fun y:List (Str ⊕ Int)×Addr×Value=>decide (y.1 = x)) fun p y _ z=>(decide_eq_decide.mpr ⟨fun e=>congrArg _ e,Sum.inr.inj⟩).trans (a7v z.key kx).symm).symm
  refine b2C (P:=b8H T h A d es k) L.rk ex fun b hb=>⟨fun e q=>(tupleKind (D4 T.prog T.w)).pyHash hu (e▸hb) (hx▸q _),fun {s} Q E eh q=>?_⟩
  subst eh
  rw [fe] at q
  rw [hx]
  refine wpAny_dictFind_heap (xs:=xs) (knd:=tupleKind (D4 T.prog T.w)) hu hb L.ho rfl e (fun y hy=>?_) hn (fun no=>?_) fun j p hj=>?_
  ·obtain ⟨p,_,z⟩:=r.src y hy;exact z.is
  ·rw [List.findIdx?_eq_none_iff.mpr fun y hy=>decide_eq_false fun e=>?_] at q
   ·exact q
   ·obtain ⟨j,hj⟩:=List.mem_iff_getElem?.mp hy
    exact no j y.2 (by rw [hj,← e])
  ·have lt:=(List.getElem?_eq_some_iff.mp hj).1
   have ge:=(List.getElem?_eq_some_iff.mp hj).2
   rw [List.findIdx?_eq_some_iff_getElem.mpr ⟨lt,by rw [ge];exact decide_eq_true rfl,fun i hi=>?_⟩] at q
   ·exact q
   ·rw [decide_eq_true_eq]
    intro z
    exact Nat.ne_of_lt hi (idxH_unique hn (p:=(xs[i]'(Nat.lt_trans hi lt)).2) (by rw [← z];exact List.getElem?_eq_getElem _) hj)
end
end Mine
namespace Mine
open PySem PySem.SeqAt
section
variable {T:Tp} {own:Addr→Ow} {bt:List Addr} {s:Shared} {A:Around} {d:Addr} {ep:Option Nat} {es:List (AV×AV)} {arr:Array DictEntry} {n:Nat} {k:AV} {key:Value} {E:Value→Shared→Prop}
structure Hit (T:Tp) (own:Addr→Ow) (bt:List Addr) (h:Heap) (es:List (AV×AV)) (arr:Array DictEntry) (k:AV) (i:Nat) (p:AV×AV) (e:DictEntry):Prop where
 find:J0 es k = some i
 src:es[i]? = some p
 ent:arr[i]? = some e
 rel:EnR T own bt h p e
 get:o8 es k = some p.2
theorem Lk.cases (L:Lk T own bt s.heap d ep es arr n k key) {P:Option Nat→Prop} (h0:J0 es k = none→o8 es k = none→P none) (h1:∀ i p e,Hit T own bt s.heap es arr k i p e→P (some i)):P (J0 es k):=by
 cases z:J0 es k with
 | none=>exact h0 z (by unfold o8;rw [z];rfl)
 | some i =>
  obtain ⟨hi,_⟩:=List.findIdx?_eq_some_iff_getElem.mp z
  have hp:=List.getElem?_eq_getElem hi
  obtain ⟨e,he,r⟩:=L.dr.en.get hp
  exact h1 i _ e ⟨z,hp,by rw [← Array.getElem?_toList];exact he,r,by unfold o8;rw [z,Option.bind_some,hp];rfl⟩
theorem a1O (L:Lk T own bt s.heap d ep es arr n k key) (hu:A.units < cLine) {Q:Option Nat→Shared→Prop} (h0:J0 es k = none→o8 es k = none→Q none s) (h1:∀ i p e,Hit T own bt s.heap es arr k i p e→Q (some i) s):wpAny T.M A (dictFind d key (kh T k)) Q E s :=
 (b2l L hu).find rfl (L.cases (P:=fun o=>Q o s) h0 h1)
theorem Lk.size (L:Lk T own bt s.heap d ep es arr n k key):arr.size≤sizeLine:=by rw [← Array.length_toList,L.dr.en.length,← w5];exact L.dr.len
theorem Lk.typeIs (L:Lk T own bt s.heap d ep es arr n k key):s.TypeIs (.ref d) "dict":=⟨_,L.ho,rfl⟩
theorem Y6 (L:Lk T own bt s.heap d ep es arr n k key) (hu:A.units < cLine) {Q:Option Value→Shared→Prop} (h0:o8 es k = none→∀ tk,Q none { s with toks:=tk }) (h1:∀ av v,o8 es k = some av→VR T own bt s.heap av v→∀ tk,Q (some v) { s with toks:=tk }) :
  wpAny T.M A (dictGet d key) Q E s:=by
 unfold dictGet
 refine wpAny_holding (wpAny_bind ((b2l L hu).hash rfl fun tk=>wpAny_bind (a1O (s:={ s with toks:=tk }) L hu (fun _ z=>wpAny_pure (h0 z tk)) fun i p e H=>?_)))
 refine wpAny_bind (wpAny_dictEntries (s:={ s with toks:=tk }) L.ho rfl ?_)
 rw [H.ent]
 exact wpAny_pure (h1 _ _ H.get H.rel.val tk)
theorem a7w (L:Lk T own bt s.heap d ep es arr n k key) (hu:A.units + 64 < cLine) {Q:Value→Shared→Prop} {av:AV} (g:o8 es k = some av) (h:∀ v tk,VR T own bt s.heap av v→Q v { s with toks:=tk }):wpAny T.M A (getItem (.ref d) key) Q E s:=by
 unfold getItem
 refine wpAny_holding (wpAny_bind (wpAny_sequenceKey L.typeIs (by decide) (wpAny_bind (wpAny_callSpecial?_slot (name:=Str.ofString "__getitem__") L.typeIs slot_dict_getitem
  (wpAny_call_entry slot_dict_getitem L.typeIs entry_dict_getitem ?_ (args_dict_getitem _ _))))))
 show wpAny _ _ (dictGet d key >>= _) _ _ s
 refine wpAny_bind (Y6 (A:=A.in1) L (by show A.units + 1 < cLine;omega) (fun z=>nomatch z.symm.trans g) fun av' v z r tk=>?_)
 rw [g] at z;cases z
 exact wpAny_pure ⟨v,rfl,wpAny_pure (h v tk r)⟩
theorem a1r (L:Lk T own bt s.heap d ep es arr n k key) (hu:A.units + 64 < cLine) {Q:Bool→Shared→Prop} (h:∀ tk,Q (o8 es k).isSome { s with toks:=tk }):wpAny T.M A (contains (.ref d) key) Q E s:=by
 unfold contains
 refine wpAny_holding (wpAny_bind (wpAny_specialOf L.typeIs slot_dict_contains.lookup ?_))
 show wpAny _ _ (if (some (Value.builtin "dict.__contains__") == some Value.none) = true then _ else _) _ E s
 rw [if_neg (by rw [beq_builtin_none];exact Bool.false_ne_true)]
 refine wpAny_bind (wpAny_callSpecialUnlessNone?_slot (name:=Str.ofString "__contains__") L.typeIs slot_dict_contains
  (wpAny_call_entry slot_dict_contains L.typeIs entry_dict_contains ?_ (args_dict_contains _ _)))
 show wpAny _ _ (dictGet d key >>= _) _ _ s
 refine wpAny_bind (Y6 (A:=A.in1) L (by show A.units + 1 < cLine;omega) (fun z tk=>?_) fun av v z r tk=>?_)
 ·have:=h tk
  rw [z] at this
  show wpAny _ _ (Builtin.Dict.pendingKey? d key >>= _) _ _ _
  exact wpAny_bind (wpAny_pendingKey_other L.no (wpAny_pure ⟨_,rfl,wpAny_truthy_bool this⟩))
 ·have:=h tk
  rw [z] at this
  show wpAny _ _ (ret (.bool true)) _ _ _
  exact wpAny_pure ⟨_,rfl,wpAny_truthy_bool this⟩
theorem b6B (L:Lk T own bt s.heap d ep es arr n k key) (hu:A.units + 64 < cLine) {dflt:Value} {Q:Value→Shared→Prop} (h0:o8 es k = none→∀ tk,Q dflt { s with toks:=tk }) (h1:∀ av v,o8 es k = some av→VR T own bt s.heap av v→∀ tk,Q v { s with toks:=tk }) :
  wpAny T.M A (call (.builtin "dict.get") [.ref d,key,dflt]) Q E s:=by
 refine wpAny_call_entry F.slot_dict_get L.typeIs F.entry_dict_get ?_ (F.args_dict_get_3 _ _ _)
 show wpAny _ _ (dictGet d key >>= _) _ _ s
 refine wpAny_bind (Y6 (A:=A.in1) L (by show A.units + 1 < cLine;omega) (fun z tk=>?_) fun av v z r tk=>wpAny_pure ⟨v,rfl,h1 av v z r tk⟩)
 show wpAny _ _ (Builtin.Dict.missed d key >>= _) _ _ _
 exact wpAny_bind (wpAny_missed_other L.no (wpAny_pure ⟨dflt,rfl,h0 z tk⟩))
theorem a1B.modify {es:List (AV×AV)} (ks:a1B es) (i:Nat) (v:AV):a1B (es.modify i fun p=>(p.1,v)):=by
 have e:(es.modify i fun p=>(p.1,v)).map (·.1) = es.map (·.1):=by
  apply List.ext_getElem?
  intro j
  rw [List.getElem?_map,List.getElem?_map,List.getElem?_modify]
  cases es[j]? with
  | none=>rfl
  | some p=>show some (if i = j then _ else _:AV×AV).1 = _;split<;>rfl
 obtain ⟨b,hb⟩:=ks.sort
 refine ⟨⟨b,fun p hp=>?_⟩,?_⟩
 ·have m:p.1∈es.map (·.1):=e▸List.mem_map_of_mem hp
  obtain ⟨q,hq,z⟩:=List.mem_map.mp m
  rw [← z];exact hb q hq
 ·have n:(es.map (·.1)).Pairwise fun a c=>keq a c = false:=List.pairwise_map.mpr ks.nodup
  rw [← e] at n
  exact List.pairwise_map.mp n
theorem a1B.snoc {es:List (AV×AV)} {k v:AV} (ks:a1B es) (kf:E1 es k = true) (z:J0 es k = none):a1B (es ++ [(k,v)]):=by
 obtain ⟨b,hb,hk⟩:=a2r ks kf
 refine ⟨⟨b,fun p hp=>(List.mem_append.mp hp).elim (hb p) fun q=>by rw [List.mem_singleton.mp q];exact hk⟩,List.pairwise_append.mpr ⟨ks.nodup,List.pairwise_singleton _ _,fun p hp q hq=>?_⟩⟩
 rw [List.mem_singleton.mp hq]
 exact List.findIdx?_eq_none_iff.mp z p hp
theorem a1B.erase {es:List (AV×AV)} (ks:a1B es) (i:Nat):a1B (es.eraseIdx i) :=
 ⟨ks.sort.elim fun b hb=>⟨b,fun p hp=>hb p (List.mem_of_mem_eraseIdx hp)⟩,ks.nodup.sublist (List.eraseIdx_sublist ..)⟩
structure Put (T:Tp) (own:Addr→Ow) (bt:List Addr) (h:Heap) (d:Addr) (ep:Option Nat) (es:List (AV×AV)) (h':Heap) (arr:Array DictEntry) (n:Nat):Prop where
 get:h'.get? d = some (W8 arr n)
 same:Heap.SameBut d h h'
 dr:DR T own bt h ep es arr n
theorem Lk.keys (L:Lk T own bt s.heap d ep es arr n k key) {f:Array DictEntry→Array DictEntry} {es':List (AV×AV)} (en:Al (EnR T own bt s.heap) es' (f arr).toList) (ks:a1B es') (len:es'.length≤lim):Put T own bt s.heap d (ep.map (· + 1)) es' (s.heap.update d (Obj.mapDictKeys f)) (f arr) (n + 1) :=
 ⟨Heap.get?_update_self _ L.ho rfl,Heap.SameBut.update ..,fun e he=>E0 (P:=fun e=>n + 1 = e) he fun x hx=>congrArg _ (L.dr.ep x hx),en,ks,len⟩
theorem Lk.push (L:Lk T own bt s.heap d ep es arr n k key) (hl:es.length < lim) {av:AV} {v:Value} (rv:VR T own bt s.heap av v) (z:J0 es k = none):Put T own bt s.heap d (ep.map (· + 1)) (y8 es k av) (s.heap.update d (Obj.mapDictKeys (·.push ⟨kh T k,key,v⟩))) (arr.push ⟨kh T k,key,v⟩) (n + 1):=by
 have e:y8 es k av = es ++ [(k,av)]:=by unfold y8;rw [z];rfl
 rw [e]
 exact L.keys (f:=(·.push ⟨kh T k,key,v⟩)) (by rw [Array.toList_push];exact L.dr.en.append (.cons ⟨L.rk,rv,rfl⟩ .nil)) (L.dr.ks.snoc L.fit z) (by rw [List.length_append];exact hl)
theorem a7x (L:Lk T own bt s.heap d ep es arr n k key) (hu:A.units < cLine) (hl:es.length < lim) {av:AV} {v:Value} (rv:VR T own bt s.heap av v) {Q:Unit→Shared→Prop}
  (h:∀ h' arr' n' tk,Put T own bt s.heap d (if (o8 es k).isSome then ep else ep.map (· + 1)) (y8 es k av) h' arr' n'→Q () { s with heap:=h',toks:=tk }):wpAny T.M A (dictSet d key v) Q E s:=by
 unfold dictSet
 refine wpAny_holding (wpAny_bind ((b2l L hu).hash rfl fun tk=>?_))
 unfold dictSetHashed
 refine wpAny_holding (wpAny_bind (a1O (s:={ s with toks:=tk }) L hu (fun z g=>?_) fun i p e H=>?_))
 ·rw [g] at h
  exact wpAny_bind (wpAny_rule (wpAny_updateDictKeys (hz:=L.size) (s:={ s with toks:=tk }) L.ho rfl (h _ _ _ _ (L.push hl rv z))))
 ·rw [H.get] at h
  refine wpAny_bind (wpAny_rule (wpAny_bind (wpAny_updateDict (s:={ s with toks:=tk }) L.ho rfl (wpAny_point (h _ (arr.modify i fun e=>{ e with val:=v }) n _ ⟨Heap.get?_update_self _ L.ho rfl,Heap.SameBut.update ..,L.dr.ep,?_,?_,?_⟩)))))
  all_goals have e:y8 es k av = es.modify i fun p=>(p.1,av):=by unfold y8;rw [H.find];rfl
  all_goals rw [e]
  ·rw [show (arr.modify i fun e=>{ e with val:=v }).toList = arr.toList.modify i fun e=>{ e with val:=v } from by obtain ⟨l⟩:=arr;simp]
   exact L.dr.en.modify (fun p e r=>⟨r.key,rv,r.hash⟩) i
  ·exact L.dr.ks.modify i av
  ·rw [List.length_modify];exact L.dr.len
theorem a8y (L:Lk T own bt s.heap d ep es arr n k key) (hu:A.units + 64 < cLine) (hl:es.length < lim) {av:AV} {v:Value} (rv:VR T own bt s.heap av v) {Q:Unit→Shared→Prop}
  (h:∀ h' arr' n' tk,Put T own bt s.heap d (if (o8 es k).isSome then ep else ep.map (· + 1)) (y8 es k av) h' arr' n'→Q () { s with heap:=h',toks:=tk }):wpAny T.M A (setItem (.ref d) key v) Q E s:=by
 unfold setItem
 refine wpAny_holding (wpAny_bind (wpAny_sequenceKey L.typeIs (by decide) (wpAny_bind (wpAny_callSpecial?_slot (name:=Str.ofString "__setitem__") L.typeIs slot_dict_setitem (wpAny_call_entry slot_dict_setitem L.typeIs entry_dict_setitem ?_ (args_dict_setitem _ _ _))))))
 show wpAny _ _ (Builtin.Dict.notOrdered "__setitem__" ⟨[.ref d,key,v],[]⟩ >>= _) _ _ s
 refine wpAny_bind (wpAny_notOrdered_dict L.typeIs ?_)
 show wpAny _ _ (dictSet d key v >>= _) _ _ s
 exact wpAny_bind (a7x (A:=A.in1) L (by show A.units + 1 < cLine;omega) hl rv fun h' arr' n' tk P=>wpAny_pure ⟨.none,rfl,wpAny_pure (h h' arr' n' tk P)⟩)
theorem b4l (L:Lk T own bt s.heap d ep es arr n k key) (hu:A.units + 64 < cLine) (hl:es.length < lim) {dav:AV} {dflt:Value} (rv:VR T own bt s.heap dav dflt) {Q:Value→Shared→Prop}
  (h0:o8 es k = none→∀ h' arr' n' tk,Put T own bt s.heap d (ep.map (· + 1)) (y8 es k dav) h' arr' n'→Q dflt { s with heap:=h',toks:=tk }) (h1:∀ av v,o8 es k = some av→VR T own bt s.heap av v→∀ tk,Q v { s with toks:=tk }) :
  wpAny T.M A (call (.builtin "dict.setdefault") [.ref d,key,dflt]) Q E s:=by
 refine wpAny_call_entry F.slot_dict_setdefault L.typeIs F.entry_dict_setdefault ?_ (F.args_dict_setdefault_3 _ _ _)
 unfold Builtin.«dict.setdefault»
 refine wpAny_bind ?_
 unfold Builtin.Dict.keyAndDefault
 refine wpAny_bind (wpAny_notOrdered_dict L.typeIs ?_)
 show wpAny _ _ (pure (d,key,some dflt)) _ _ s
 refine wpAny_pure ?_
 show wpAny _ _ (if (d == sysModules) = true then _ else (dictSetDefault d key dflt >>= _)) _ _ s
 rw [if_neg (by rw [L.no];exact Bool.false_ne_true)]
 refine wpAny_bind ?_
 unfold dictSetDefault
 have hu:A.in1.units < cLine:=by show A.units + 1 < cLine;omega
 refine wpAny_holding (wpAny_bind ((b2l L hu).hash rfl fun tk=>wpAny_bind (a1O (s:={ s with toks:=tk }) L hu (fun z g=>?_) fun i p e H=>?_)))
 ·exact wpAny_bind (wpAny_rule (wpAny_bind (wpAny_updateDictKeys (hz:=L.size) (s:={ s with toks:=tk }) L.ho rfl (wpAny_pure (wpAny_pure ⟨dflt,rfl,h0 g _ _ _ _ (L.push hl rv z)⟩)))))
 ·refine wpAny_bind (wpAny_dictEntries (s:={ s with toks:=tk }) L.ho rfl ?_)
  rw [H.ent]
  exact wpAny_bind (wpAny_rule (wpAny_pure (wpAny_pure ⟨e.val,rfl,h1 _ _ H.get H.rel.val tk⟩)))
theorem a8f (L:Lk T own bt s.heap d ep es arr n k key) (hu:A.units < cLine) {av:AV} (g:o8 es k = some av) {Q:Option DictEntry→Shared→Prop}
  (h:∀ e h' arr' n' tk,VR T own bt s.heap av e.val→Put T own bt s.heap d (ep.map (· + 1)) (a1A es k) h' arr' n'→Q (some e) { s with heap:=h',toks:=tk }):wpAny T.M A (Builtin.Dict.takeOut d key) Q E s:=by
 unfold Builtin.Dict.takeOut
 refine wpAny_holding (wpAny_bind ((b2l L hu).hash rfl fun tk=>wpAny_bind (a1O (s:={ s with toks:=tk }) L hu (fun _ z=>nomatch z.symm.trans g) fun i p e H=>?_)))
 refine wpAny_bind (wpAny_dictEntries (s:={ s with toks:=tk }) L.ho rfl ?_)
 rw [H.ent]
 refine wpAny_bind (wpAny_updateDictKeys (hz:=L.size) (s:={ s with toks:=tk }) L.ho rfl (wpAny_pure (h e _ (arr.eraseIdxIfInBounds i) (n + 1) tk (Option.some.inj (g.symm.trans H.get)▸H.rel.val) ?_)))
 rw [show a1A es k = es.eraseIdx i from by unfold a1A;rw [H.find];rfl]
 exact L.keys (f:=(·.eraseIdxIfInBounds i)) (by rw [show (arr.eraseIdxIfInBounds i).toList = arr.toList.eraseIdx i from by obtain ⟨l⟩:=arr;simp];exact L.dr.en.erase i) (L.dr.ks.erase i) (Nat.le_trans (List.length_eraseIdx_le ..) L.dr.len)
theorem b2q (L:Lk T own bt s.heap d ep es arr n k key) {av:AV} (g:o8 es k = some av) {β:Type} {f:Bool→Sem β} {Q:β→Shared→Prop} (h:wpAny T.M A (f false) Q E s):wpAny T.M A (if (keyPart key).isSome then pure false >>= f else dictEntries d >>= fun es=>pure es.isEmpty >>= f) Q E s:=by
 split
 ·exact wpAny_bind (wpAny_pure h)
 ·refine wpAny_bind (wpAny_dictEntries L.ho rfl (wpAny_bind (wpAny_pure ?_)))
  cases z:arr.isEmpty with
  | false=>exact h
  | true =>
   have q:=L.dr.en
   rw [Array.isEmpty_iff.mp z] at q
   cases q
   cases g
theorem b7u (L:Lk T own bt s.heap d ep es arr n k key) (hu:A.units + 64 < cLine) {av:AV} (g:o8 es k = some av) {Q:Value→Shared→Prop}
  (h:∀ v h' arr' n' tk,VR T own bt s.heap av v→Put T own bt s.heap d (ep.map (· + 1)) (a1A es k) h' arr' n'→Q v { s with heap:=h',toks:=tk }):wpAny T.M A (call (.builtin "dict.pop") [.ref d,key]) Q E s:=by
 refine wpAny_call_entry F.slot_dict_pop L.typeIs F.entry_dict_pop ?_ (F.args_dict_pop_2 _ _)
 unfold Builtin.«dict.pop»
 refine wpAny_bind ?_
 unfold Builtin.Dict.keyAndDefault
 refine wpAny_bind (wpAny_notOrdered_dict L.typeIs ?_)
 show wpAny _ _ (pure (d,key,none)) _ _ s
 refine wpAny_pure ?_
 refine b2q L g ?_
 simp only [Bool.false_eq_true,if_false]
 refine wpAny_bind (a8f (A:=A.in1) L (by show A.units + 1 < cLine;omega) g fun e h' arr' n' tk rv P=>?_)
 simp only [Option.isNone_some,Bool.false_eq_true,if_false]
 exact wpAny_bind (wpAny_letGo (wpAny_pure ⟨e.val,rfl,h _ _ _ _ _ rv P⟩))
end
end Mine
namespace Mine
open PySem PySem.SeqAt PySem.Spec
theorem b3o {s:List Nat} (h:okS s):PyData.strOk (tS s) = true:=by
 unfold PyData.strOk
 simp only [tS,Array.all_eq_true,decide_eq_true_eq]
 intro i hi
 have:=h.1 _ (List.getElem_mem (l:=s) (by simpa using hi))
 simp only [List.getElem_toArray]
 omega
section
variable {T:Tp} {A:Around} {W:Wd}
structure D6 (h:Heap) (v:Value) (d:PyData) (n:Nat):Prop where
 reads:∃ as,Reads h v d as
 lay:d.canLay0 = true
 depth:d.depth≤n
structure b2T (h:Heap) (vs:List Value) (ds:List PyData) (n:Nat):Prop where
 reads:∃ as,ReadsAll h vs ds as
 lay:PyData.canLayAll0 ds = true
 depth:PyData.depthAll ds≤n
theorem b3A {a:AV} {d:PyData} {v:Value} (e:b6e a = some d) (r:W.V T a v):D6 W.h v d 0 :=
 orE e (fun i ea e=>E6 (P:=fun d=>D6 W.h v d 0) e (r.asInt (P:=fun v=>D6 W.h v (.int i) 0) ea fun t=>⟨⟨_,.int _ _⟩,rfl,Nat.le_refl _⟩))
  fun _ e=>orE e (fun s ea e=>E6 (P:=fun d=>D6 W.h v d 0) e (r.asStr (P:=fun v=>D6 W.h v (.str (tS s)) 0) ea fun t q=>⟨⟨_,.str _ _⟩,b3o q,Nat.le_refl _⟩))
   fun _ e=>orE e (fun b ea e=>E6 (P:=fun d=>D6 W.h v d 0) e (r.asBool (P:=fun v=>D6 W.h v (.bool b) 0) ea ⟨⟨_,.bool _⟩,rfl,Nat.le_refl _⟩))
   fun _ e=>ifE e fun ea e=>E6 (P:=fun d=>D6 W.h v d 0) e (r.asNone (P:=fun v=>D6 W.h v .none 0) ea ⟨⟨_,.none⟩,rfl,Nat.le_refl _⟩)
theorem R7 {f:AV→Option PyData} {n:Nat} (k:∀ {a d v},f a = some d→W.V T a v→D6 W.h v d n) {xs:List AV} {vs:List Value} (r:W.Vs T xs vs):∀ {ds:List PyData},p0 f xs = some ds→b2T W.h vs ds n:=by
 induction r with
 | nil=>intro ds e;cases e;exact ⟨⟨[],.nil⟩,rfl,Nat.zero_le _⟩
 | cons a _ ih =>
  intro ds e
  refine a6w (P:=fun ds=>b2T W.h _ ds n) e fun d ds e1 e2=>?_
  obtain ⟨⟨as,h1⟩,h2,h3⟩:=k e1 a
  obtain ⟨⟨bs,k1⟩,k2,k3⟩:=ih e2
  exact ⟨⟨as ++ bs,.cons h1 k1⟩,by rw [PyData.canLayAll0,h2,k2];rfl,by rw [PyData.depthAll];exact Nat.max_le.mpr ⟨h3,k3⟩⟩
theorem a5z {a:AV} {d:PyData} {v:Value} (e:V7 a = some d) (r:W.V T a v):D6 W.h v d 1 :=
 orE e (fun xs ea e=>E0 (P:=fun d=>D6 W.h v d 1) e fun ds e1=>r.asTup (P:=fun v=>D6 W.h v (.tuple ds) 1) ea fun b o vs n t=>by
   obtain ⟨⟨as,k1⟩,k2,k3⟩:=R7 b3A t.vrs e1
   exact ⟨⟨_,.tuple t.get t.cls t.data k1⟩,k2,by rw [PyData.depth];exact Nat.succ_le_succ k3⟩)
  fun _ e=>let k:=b3A e r;⟨k.reads,k.lay,Nat.le_succ_of_le k.depth⟩
theorem a3a {xs:List AV} {a:Addr} (l:LAt T W xs a) {ds:List PyData} (e:p0 V7 xs = some ds):D6 W.h (.ref a) (.list ds) 2:=by
 obtain ⟨vs,n,h1,h2,_⟩:=l
 obtain ⟨⟨as,k1⟩,k2,k3⟩:=R7 a5z h2 e
 exact ⟨⟨_,.list h1 rfl rfl k1⟩,k2,by rw [PyData.depth];exact Nat.succ_le_succ k3⟩
theorem a7a (I:Inv T W) {a:AV} {d:PyData} {v:Value} (e:dat W.σ a = some d) (r:W.V T a v):D6 W.h v d 2 :=
 orE e (fun xs ea e=>E0 (P:=fun d=>D6 W.h v d 2) e fun ds e1=>I.listE (P:=fun v=>D6 W.h v (.list ds) 2) ea r fun a l=>a3a l e1)
  fun _ e=>let k:=a5z e r;⟨k.reads,k.lay,Nat.le_succ_of_le k.depth⟩
structure AOk (n:Nat) (hd:Bool) (A:Around):Prop where
 depth:A.depth + 2 * n + 1 < recursionLimit
 units:A.units + 20 * n + 200 < cLine
 handled:hd = false→A.handled = none
structure a5L (n:Nat) (hd:Bool) (A:Around):Prop where
 depth:A.depth + 2 * n < recursionLimit
 units:A.units + 20 * n + 190 < cLine
 handled:hd = false→A.handled = none
theorem AOk.call {n:Nat} {hd:Bool} {A:Around} (a:AOk n hd A):a5L n hd A:=⟨Nat.lt_of_succ_lt a.depth,Nat.lt_of_le_of_lt (Nat.add_le_add_left (show 190≤200 by decide) _) a.units,a.handled⟩
noncomputable def a5S:COp→CmpOp
 | .eq=>.Eq
 | .ne=>.NotEq
 | .lt=>.Lt
 | .le=>.LtE
 | .gt=>.Gt
 | .ge=>.GtE
 | .isin=>.In
 | .notin=>.NotIn
theorem T9 {d:PyData} (h2:d.canLay0 = true) (h3:d.depth≤2):shaped d = true:=by
 unfold shaped;rw [h2,decide_eq_true (Nat.le_trans h3 (by decide))];rfl
noncomputable def L7 (T:Tp) (A:Around) (W:Wd) (o:CmpOp) (va vb:Value) (c:Bool):Prop:=∀ Q E,(∀ k,Q (.bool c) { W.s with toks:=k })→wpAny T.M A (compareOp o va vb) Q E W.s
structure a0X (T:Tp) (A:Around) (W:Wd) (o o':CmpOp) (va vb:Value) (c:Bool):Prop where
 yes:L7 T A W o va vb c
 no:L7 T A W o' va vb (!c)
theorem a6d (I:Inv T W) {a b:AV} {va vb:Value} (ra:W.V T a va) (rb:W.V T b vb) (hu:A.units + 64 < cLine) {c:Bool} (e:eqA W.σ a b = some c):a0X T A W .Eq .NotEq va vb c :=
 o5 e fun x e1 e=>E0 (P:=fun c=>a0X T A W .Eq .NotEq va vb c) e fun y e2=>by
  obtain ⟨⟨as,h1⟩,h2,h3⟩:=a7a I e1 ra
  obtain ⟨⟨bs,k1⟩,k2,k3⟩:=a7a I e2 rb
  exact ⟨fun Q E q=>compareEq_shaped h1 k1 (T9 h2 h3) (T9 k2 k3) hu (q _),fun Q E q=>compareNe_shaped h1 k1 (T9 h2 h3) (T9 k2 k3) hu (q _)⟩
theorem a5l {a:AV} {va:Value} {d:Addr} {ep:Option Nat} {es:List (AV×AV)} (ra:W.V T a va) (D:DAt T W ep es d) (hk:E1 es a = true) (hu:A.units + 64 < cLine):a0X T A W .In .NotIn va (.ref d) (o8 es a).isSome:=by
 obtain ⟨arr,n,h1,h2,h3⟩:=D
 exact ⟨fun Q E q=>wpAny_bind (a1r ⟨h1,h2,ra,hk,h3⟩ hu fun tk=>wpAny_pure (q tk)),fun Q E q=>wpAny_bind (a1r ⟨h1,h2,ra,hk,h3⟩ hu fun tk=>wpAny_pure (q tk))⟩
theorem b7D (I:Inv T W) {a b:AV} {va vb:Value} (ra:W.V T a va) (rb:W.V T b vb) (hu:A.units + 64 < cLine) {xs:List AV} {ds:List PyData} {d:PyData} (e1:a4t W.σ b = some xs) (e2:p0 V7 xs = some ds) (e3:V7 a = some d):a0X T A W .In .NotIn va vb (ds.any fun y=>PyData.eqv y d):=by
 obtain ⟨⟨as,h1⟩,h2,h3⟩:=a5z e3 ra
 have room:∀ {ds:List PyData},A.units + 1 + min (PyData.depthAll ds) d.depth < cLine:=fun {ds}=>by have:=Nat.le_trans (Nat.min_le_right (PyData.depthAll ds) d.depth) h3;omega
 refine orE e1 (fun ys eb e=>?_) fun _ eb=>?_
 ·cases e
  refine rb.asTup (P:=fun vb=>a0X T A W .In .NotIn va vb _) eb fun b o vs n t=>?_
  obtain ⟨⟨bs,k1⟩,k2,_⟩:=R7 a5z t.vrs e2
  exact ⟨fun Q E q=>in_tuple_reads (.tuple t.get t.cls t.data k1) h1 k2 h2 room (q _),fun Q E q=>notIn_tuple_reads (.tuple t.get t.cls t.data k1) h1 k2 h2 room (q _)⟩
 ·refine I.listE (P:=fun vb=>a0X T A W .In .NotIn va vb _) eb rb fun b l=>?_
  obtain ⟨⟨bs,k1⟩,k2,_⟩:=a3a l e2
  exact ⟨fun Q E q=>in_list_reads k1 h1 k2 h2 room (q _),fun Q E q=>notIn_list_reads k1 h1 k2 h2 room (q _)⟩
theorem a6J (I:Inv T W) {a b:AV} {va vb:Value} {c:Bool} (ra:W.V T a va) (rb:W.V T b vb) (hu:A.units + 64 < cLine) (e:inA W.σ a b = some c):a0X T A W .In .NotIn va vb c :=
 orE e (fun p hx e=>ifE e fun hk e=>E6 (P:=fun c=>a0X T A W .In .NotIn va vb c) e (I.dictE (P:=fun vb=>a0X T A W .In .NotIn va vb _) hx rb fun d D=>a5l ra D hk hu))
  fun _ e=>orE e (fun s eb e=>E0 (P:=fun c=>a0X T A W .In .NotIn va vb c) e fun x ea=>ra.asStr (P:=fun va=>a0X T A W .In .NotIn va vb _) ea fun t _=>rb.asStr (P:=fun vb=>a0X T A W .In .NotIn _ vb _) eb fun u _=>⟨fun Q E q=>SB.contains (q _),fun Q E q=>SB.notContains (q _)⟩)
   fun _ e=>o5 e fun ds e1 e=>E0 (P:=fun c=>a0X T A W .In .NotIn va vb c) e fun d e3=>o5 e1 fun xs e1 e2=>b7D I ra rb hu e1 e2 e3
theorem Z3 {o:CmpOp} {f:Int→Int→Bool} {a b:AV} {va vb:Value} {c:Bool} (ra:W.V T a va) (rb:W.V T b vb) (e:b2N f a b = some c) (k:∀ x y t u,L7 T A W o (.int x t) (.int y u) (f x y)):L7 T A W o va vb c :=
 o5 e fun x ea e=>E0 (P:=fun c=>L7 T A W o va vb c) e fun y eb=>ra.asInt (P:=fun va=>L7 T A W o va vb _) ea fun t=>rb.asInt (P:=fun vb=>L7 T A W o _ vb _) eb fun u=>k x y t u
theorem b4O {a b:AV} {va vb:Value} {c:Bool} (ra:W.V T a va) (rb:W.V T b vb) (e:j5 .le a b W.σ = some c):L7 T A W .LtE va vb c :=
 orE e (fun x ea e=>E0 (P:=fun c=>L7 T A W .LtE va vb c) e fun y eb=>ra.asStr (P:=fun va=>L7 T A W .LtE va vb _) ea fun t _=>rb.asStr (P:=fun vb=>L7 T A W .LtE _ vb _) eb fun u _ Q E q=>P.le_str (q _))
  fun _ e=>Z3 ra rb e fun x y t u Q E q=>P.le_int (q _)
theorem b1i (I:Inv T W) {op:COp} {a b:AV} {va vb:Value} (ra:W.V T a va) (rb:W.V T b vb) (hu:A.units + 65 < cLine) {c:Bool} (e:j5 op a b W.σ = some c):L7 T A W (a5S op) va vb c:=by
 cases op with
 | eq=>exact (a6d I ra rb (Nat.lt_of_succ_lt hu) e).yes
 | ne=>exact E0 (P:=fun c=>L7 T A W .NotEq va vb c) e fun c e=>(a6d I ra rb (Nat.lt_of_succ_lt hu) e).no
 | lt=>exact Z3 ra rb e fun x y t u Q E q=>P.lt_int (q _)
 | le=>exact b4O ra rb e
 | gt=>exact Z3 ra rb e fun x y t u Q E q=>P.gt_int (q _)
 | ge=>exact Z3 ra rb e fun x y t u Q E q=>P.ge_int (q _)
 | isin=>exact (a6J I ra rb (Nat.lt_of_succ_lt hu) e).yes
 | notin=>exact E0 (P:=fun c=>L7 T A W .NotIn va vb c) e fun c e=>(a6J I ra rb (Nat.lt_of_succ_lt hu) e).no
noncomputable def a2t (T:Tp) (A:Around) (W:Wd) (v:Value) (c:Bool):Prop:=∀ Q E,(∀ k,Q c { W.s with toks:=k })→wpAny T.M A (truthy v) Q E W.s
theorem b0f {s:List Nat} {t:Tok} (ok:okS s):a2t T A W (.str (tS s) t) (!s.isEmpty):=fun Q E q=>by
 refine P.truthy_str (by have:=ok.2;rw [k9];have:lim = 16777216:=rfl;lia) ?_
 rw [k9,show ((s.length:Int) != 0) = !s.isEmpty by cases s<;>simp<;>lia]
 exact q _
theorem b0U {i:Int} {t:Tok}:a2t T A W (.int i t) (decide (i≠0)):=fun Q E q=>by
 refine P.truthy_int ?_
 rw [show (i != 0) = decide (i≠0) by by_cases z:i = 0<;>simp [z]]
 exact q _
theorem Z0 {a:AV} {v:Value} (r:W.V T a v) {c:Bool} (e:j8 a = some c):a2t T A W v c :=
 orE e (fun b ea e=>E6 (P:=fun c=>a2t T A W v c) e (r.asBool (P:=fun v=>a2t T A W v b) ea fun Q E q=>wpAny_truthy_bool (q W.s.toks)))
  fun _ e=>orE e (fun i ea e=>E6 (P:=fun c=>a2t T A W v c) e (r.asInt (P:=fun v=>a2t T A W v _) ea fun t=>b0U))
   fun _ e=>orE e (fun s ea e=>E6 (P:=fun c=>a2t T A W v c) e (r.asStr (P:=fun v=>a2t T A W v _) ea fun t ok=>b0f ok))
    fun _ e=>ifE e fun ea e=>E6 (P:=fun c=>a2t T A W v c) e (r.asNone (P:=fun v=>a2t T A W v false) ea fun Q E q=>PyProof.Rows.truthy_none (q W.s.toks))
end
end Mine
namespace Mine
open PySem PySem.SeqAt PySem.Spec
section
variable {T:Tp} {A:Around} {W:Wd} {env:Env}
theorem B1 {n:Nat} {i:Int} {k:Nat} (h:E3 n i = some k):seqIndex? i n = some k∧k < n∧(0≤i→i = k)∧(i < 0→i + n = k):=by
 refine ⟨h,?_⟩
 have h:(if (decide (0≤if i < 0 then i + (n:Int) else i) && decide ((if i < 0 then i + (n:Int) else i) < (n:Int))) = true then some (if i < 0 then i + (n:Int) else i).toNat else none) = some k:=h
 have key:∀ j:Int,(if (decide (0≤j) && decide (j < (n:Int))) = true then some j.toNat else none) = some k→j = k∧k < n:=fun j h=>by
  split at h
  ·rename_i q
   simp only [Bool.and_eq_true,decide_eq_true_eq] at q
   cases h
   exact ⟨(Int.toNat_of_nonneg q.1).symm,(Int.toNat_lt q.1).mpr q.2⟩
  ·cases h
 have:=key _ h
 exact ⟨this.2,fun q=>by rw [if_neg (Int.not_lt.mpr q)] at this;exact this.1,fun q=>by rw [if_pos q] at this;exact this.1⟩
noncomputable def D0 (slice:Expr):Prop:=∀ o i:Value,subscripted slice false o i = operate [o,i] (getItem o i)
theorem B9 {n:Nat} (h:n≤lim):(n:Int) < 2 ^ 63:=by have:lim = 16777216:=rfl;lia
theorem b5Q {xs:List AV} {vs:Array Value} (r:W.Vs T xs vs.toList) {k:Nat} {x:AV} (h:xs[k]? = some x):∃ v,vs[k]? = some v∧W.V T x v:=by
 obtain ⟨v,e,q⟩:=r.get h
 exact ⟨v,by rw [← Array.getElem?_toList];exact e,q⟩
theorem B2 {xs:List AV} {vs:Array Value} (r:W.Vs T xs vs.toList):vs.size = xs.length:=by
 have:=r.length;rw [Array.length_toList] at this;exact this
theorem a3V (hl:W.h.IsList l vs) {xs:List AV} (hz:vs.size = xs.length) (hlim:xs.length≤lim) {i:Int} {t:Tok} {k:Nat} {v:Value} (hp:E3 xs.length i = some k) (hv:vs[k]? = some v) {Q:Value→Shared→Prop} {E:Value→Shared→Prop} (q:Q v W.s) :
  wpAny T.M A (getItem (.ref l) (.int i t)) Q E W.s:=by
 obtain ⟨_,h2,h3,h4⟩:=B1 hp
 have h63:=B9 hlim
 by_cases h0:0≤i
 ·exact wpAny_getItem_list hl h0 (by have:=h3 h0;lia) (by rw [h3 h0];exact hv) q
 ·have:=h4 (by omega)
  exact wpAny_getItem_list_neg hl (by omega) (by lia) (by lia) (by rw [hz,this];exact hv) q
theorem a1o {n k:Nat} {i:Int} (h:E3 n i = some k) (hl:n≤lim):-(2:Int) ^ 63≤i∧i < 2 ^ 63:=by
 obtain ⟨_,h2,h3,h4⟩:=B1 h
 have h63:=B9 hl
 by_cases h0:0≤i
 ·have:=h3 h0;lia
 ·have:=h4 (by omega);lia
noncomputable def H6 (T:Tp) (A:Around) (W:Wd) (value slice:Expr) (vo vi:Value) (r:AV):Prop:=b8 T A noX W (PyProof.Rows.subscriptTail value slice vo vi) (.ok r W.σ) (VW T)
section
variable {value slice:Expr} {i:Int} {u:Tok} {r:AV}
theorem b2g (I:Inv T W) (hs:D0 slice) {s:List Nat} {t:Tok} {k c:Nat} (ok:okS s) (e1:E3 s.length i = some k) (e3:s[k]? = some c):H6 T A W value slice (.str (tS s) t) (.int i u) (.str [c]):=by
 refine b8.keep I fun Q E q=>PyProof.Rows.tail_any (T:="str") rfl PyProof.Rows.slot_str_getitem.lookup (P.getItem_str (c:=c) ?_ ?_ (q _ _ ?_)) (hs _ _)
 ·have:=a1o e1 ok.2
  simp only [Bool.or_eq_false_iff,decide_eq_false_iff_not]
  lia
 ·rw [k9,(B1 e1).1]
  show (tS s).cps[k]? = some c
  simp [tS,e3]
 ·exact .str _ ⟨fun d hd=>by rw [List.mem_singleton.mp hd];exact ok.1 _ (List.mem_of_getElem? e3),by show 1≤lim;decide⟩
theorem V6 (I:Inv T W) (hs:D0 slice) {xs:List AV} {a:Addr} {o:Obj} {vs:Array Value} {n:Nat} (h:a9B T W.own W.bt W.h xs a o vs n) (e:a3q xs i = some r):H6 T A W value slice (.ref a) (.int i u) r :=
 o5 e fun k e1 e2=>by
  have g:=B1 e1
  have ev:vs[k]? = some (vs[k]'(by rw [h.size];exact g.2.1)):=Array.getElem?_eq_getElem _
  have sm:=a1o e1 h.len
  exact b8.keep I fun Q E q=>PyProof.Rows.tail_any (T:="tuple") ⟨_,h.get,h.cls⟩ PyProof.Rows.slot_tuple_getitem.lookup (PyProof.Rows.getItem_tuple (items:=vs) (j:=k) ⟨_,h.get,h.cls,n,h.data⟩ sm.1 sm.2 (by rw [h.size];exact g.1) ev (q _ W.s.toks (h.items k _ _ e2 ev))) (hs _ _)
theorem a5m (I:Inv T W) (hs:D0 slice) {ns:List Int} {a:Addr} {o:Obj} {vs:Array Value} {n k:Nat} {c:Int} (h:b3w T ns a o vs n) (e1:E3 ns.length i = some k) (e3:ns[k]? = some c):H6 T A W value slice (.ref a) (.int i u) (.int c):=by
 obtain ⟨t,et⟩:=h.items k c e3
 exact b8.keep I fun Q E q=>PyProof.Rows.tail_any (T:="list") ⟨_,I.base _ _ h.get,h.cls⟩ slot_list_getitem.lookup (a3V (xs:=ns.map AV.int) ⟨_,I.base _ _ h.get,h.cls,n,h.data⟩ (by rw [List.length_map];exact h.size) (by rw [List.length_map];exact h.len) (by rw [List.length_map];exact e1) et (q _ W.s.toks (.int _ _))) (hs _ _)
theorem g7 (I:Inv T W) (hs:D0 slice) {l:Addr} {xs:List AV} (L:LAt T W xs l) (e:a3q xs i = some r):H6 T A W value slice (.ref l) (.int i u) r :=
 o5 e fun k e1 e2=>by
  obtain ⟨vs,n,h1,h2,h3⟩:=L
  obtain ⟨v,ev,rv⟩:=b5Q h2 e2
  exact b8.keep I fun Q E q=>PyProof.Rows.tail_any (T:="list") ⟨_,h1,rfl⟩ slot_list_getitem.lookup (a3V ⟨_,h1,rfl,n,rfl⟩ (B2 h2) h3 e1 ev (q v W.s.toks rv)) (hs _ _)
theorem a9V (I:Inv T W) {o:AV} {vo:Value} (hs:D0 slice) (ro:W.V T o vo) (e:b8a o i W.σ = some r):H6 T A W value slice vo (.int i u) r :=
 orE e (fun s eo e=>ro.asStr (P:=fun vo=>H6 T A W value slice vo (.int i u) r) eo fun t ok=>o5 e fun k e1 e=>E0 (P:=fun r=>H6 T A W value slice _ (.int i u) r) e fun c e3=>b2g I hs ok e1 e3)
  fun _ e=>orE e (fun xs eo e=>ro.asTup (P:=fun vo=>H6 T A W value slice vo (.int i u) r) eo fun b o vs n h=>V6 I hs h e)
   fun _ e=>orE e (fun ns eo e=>ro.asScr (P:=fun vo=>H6 T A W value slice vo (.int i u) r) eo fun b o vs n h=>o5 e fun k e1 e=>E0 (P:=fun r=>H6 T A W value slice _ (.int i u) r) e fun c e3=>a5m I hs h e1 e3)
    fun _ e=>o5 e fun xs e0 e=>I.listE (P:=fun vo=>H6 T A W value slice vo (.int i u) r) e0 ro fun a l=>g7 I hs l e
theorem O4 (I:Inv T W) (hu:A.units + 64 < cLine) {i:AV} {d:Addr} {vi:Value} {ep:Option Nat} {es:List (AV×AV)} (hs:D0 slice) (D:DAt T W ep es d) (ri:W.V T i vi) (hk:E1 es i = true) (e:o8 es i = some r):H6 T A W value slice (.ref d) vi r:=by
 obtain ⟨arr,n,h1,h2,h3⟩:=D
 exact b8.keep I fun Q E q=>PyProof.Rows.tail_any (T:="dict") ⟨_,h1,rfl⟩ slot_dict_getitem.lookup (a7w ⟨h1,h2,ri,hk,h3⟩ hu e fun v tk rv=>q v tk rv) (hs _ _)
theorem b0g (I:Inv T W) (hu:A.units + 64 < cLine) {o i:AV} {vo vi:Value} (hs:D0 slice) (ro:W.V T o vo) (ri:W.V T i vi) (e:w4 o i W.σ = some r):H6 T A W value slice vo vi r :=
 orE e (fun p hx e=>ifE e fun hk e=>I.dictE (P:=fun vo=>H6 T A W value slice vo vi r) hx ro fun d D=>O4 I hu hs D ri hk e)
  fun _ e=>o5 e fun i ei e=>ri.asInt (P:=fun vi=>H6 T A W value slice vo vi r) ei fun t=>a9V I hs ro e
end
structure a5J (n d a:Nat) (v:Value) (p:Option Int):Prop where
 part:IsPart v p
 eq:p.elim d (clipAt n) = a
theorem C0 {n d a:Nat} {av:AV} {v:Value} (e:A4 n d av = some a) (r:W.V T av v):∃ p,a5J n d a v p :=
 orE e (fun i ea e=>r.asInt (P:=fun v=>∃ p,a5J n d a v p) ea fun t=>⟨some i,.int i t,Option.some.inj e⟩)
  fun _ e=>ifE e fun ea e=>r.asNone (P:=fun v=>∃ p,a5J n d a v p) ea ⟨none,.none,Option.some.inj e⟩
theorem a2d {α:Type} (xs:List α) (a:Nat):∀ k,((List.range k).map fun i=>a + i).filterMap (fun i=>xs[i]?) = (xs.drop a).take k:=by
 intro k
 induction k with
 | zero=>simp
 | succ k ih =>
  rw [List.range_succ,List.map_append,List.filterMap_append,ih,List.take_add_one]
  congr 1
  simp only [List.map_cons,List.map_nil,List.filterMap_cons,List.filterMap_nil,List.getElem?_drop]
  cases xs[a + k]?<;>rfl
theorem a6t (lo hi:Option Int) (n:Nat):Builtin.Str.strSliceIndices lo hi 1 n = (List.range (hi.elim n (clipAt n) - lo.elim 0 (clipAt n))).map fun i=>lo.elim 0 (clipAt n) + i:=by
 have h:=sliceBounds_plain lo hi n
 have e:Builtin.Str.strSliceIndices lo hi 1 n = sliceRange (sliceBounds lo hi none n).1 (sliceBounds lo hi none n).2.1 1:=by
  cases lo<;>cases hi<;>rfl
 rw [e,h]
 exact sliceRange_one _ _
theorem a7P {s:List Nat} (lo hi:Option Int):Txt.slice (tS s) lo hi = tS (cut s (lo.elim 0 (clipAt s.length)) (hi.elim s.length (clipAt s.length))):=by
 unfold Txt.slice
 rw [k9,a6t]
 have e:(List.filterMap (fun x=>(tS s).cps[x]?) ((List.range (hi.elim s.length (clipAt s.length) - lo.elim 0 (clipAt s.length))).map fun i=>lo.elim 0 (clipAt s.length) + i)) = cut s (lo.elim 0 (clipAt s.length)) (hi.elim s.length (clipAt s.length)):=by
  have:=a2d s (lo.elim 0 (clipAt s.length)) (hi.elim s.length (clipAt s.length) - lo.elim 0 (clipAt s.length))
  rw [show (fun x=>(tS s).cps[x]?) = fun i=>s[i]? from funext fun i=>by simp [tS]]
  exact this
 split
 ·rename_i h
  simp only [List.length_map,List.length_range] at h
  have h':hi.elim s.length (clipAt s.length) - lo.elim 0 (clipAt s.length) = s.length:=by simpa using h
  have hh:hi.elim s.length (clipAt s.length)≤s.length:=by
   cases hi with
   | none=>exact Nat.le_refl _
   | some i=>exact Int.toNat_le.mpr (Int.max_le.mpr ⟨Int.natCast_nonneg _,Int.min_le_right _ _⟩)
  unfold cut
  rw [h']
  rcases Nat.eq_zero_or_pos s.length with z|z
  ·have:s = []:=List.length_eq_zero_iff.mp z
   subst this;simp
  ·rw [show lo.elim 0 (clipAt s.length) = 0 by omega];simp
 ·rw [e];rfl
theorem a8v {s:List Nat} {a b:Nat} (h:okS s):okS (cut s a b) :=
 h.sub (fun _ hc=>List.mem_of_mem_drop (List.mem_of_mem_take hc)) (by unfold cut;exact Nat.le_trans (List.length_take_le' _ _) (by rw [List.length_drop];exact Nat.sub_le ..))
theorem a1d {value:Expr} {lo hi:Option Expr} {p:Pos} {o i:Value} {Ty id:String} {Q:Value→Shared→Prop} {E:Value→Shared→Prop} {s:Shared} (hT:s.TypeIs o Ty)
  (hl:typeLookup (.type Ty) "__getitem__" = pure (some (.builtin id))) (hg:wpAny T.M A (getItem o i) Q E s):wpAny T.M A (PyProof.Rows.subscriptTail value (.Slice lo hi none p) o i) Q E s :=
 PyProof.Rows.tail_any hT hl hg rfl
theorem a7q {v:Value} {p:Option Int} (h:IsPart v p):∃ pt:Option (Int×Tok),v = partValue pt∧pt.map (·.1) = p:=by
 cases h with
 | none=>exact ⟨none,rfl,rfl⟩
 | int i t=>exact ⟨some (i,t),rfl,rfl⟩
theorem O9 (I:Inv T W) {value:Expr} {lo hi:Option Expr} {p:Pos} {x y:AV} {vx vy:Value} {a l:Addr} {xs:List AV} {b c:Nat} (L:LAt T W xs l)
  (e1:A4 xs.length 0 x = some b) (e2:A4 xs.length xs.length y = some c) (rx:W.V T x vx) (ry:W.V T y vy) (ha:W.h.get? a = some { cls:=.type "slice",data:=.fields #[vx,vy,.none] })
  (hn:newList (cut xs b c) W.σ≠.fail):b8 T A noX W (PyProof.Rows.subscriptTail value (.Slice lo hi none p) (.ref l) (.ref a)) (newList (cut xs b c) W.σ) (VW T):=by
 obtain ⟨vs,n,h1,h2,h3⟩:=L
 obtain ⟨pl,i1,i2⟩:=C0 e1 rx
 obtain ⟨pu,j1,j2⟩:=C0 e2 ry
 have hz:=B2 h2
 refine P4 (vs:=(vs.toList.drop b).take (c - b)) I ((h2.drop b).take (c - b)) (fun hl' Q E q=>a1d (Ty:="list") ⟨_,h1,rfl⟩ slot_list_getitem.lookup ?_) hn
 refine wpAny_getItem_list_slice ⟨_,h1,rfl,n,rfl⟩ ⟨_,ha,rfl,rfl⟩ i1 j1 .none (by simp) ?_ (by rw [hz,← w5];exact h3)
 rw [slicePick_plain,hz,i2,j2]
 exact q W.s.toks
theorem b0e (I:Inv T W) {value:Expr} {lo hi:Option Expr} {p:Pos} {x y:AV} {vx vy:Value} {a l:Addr} {o:Obj} {vs:Array Value} {n:Nat} {ns:List Int} {b c:Nat} (L:b3w T ns l o vs n)
  (e1:A4 ns.length 0 x = some b) (e2:A4 ns.length ns.length y = some c) (rx:W.V T x vx) (ry:W.V T y vy) (ha:W.h.get? a = some { cls:=.type "slice",data:=.fields #[vx,vy,.none] })
  (hn:newList ((cut ns b c).map .int) W.σ≠.fail):b8 T A noX W (PyProof.Rows.subscriptTail value (.Slice lo hi none p) (.ref l) (.ref a)) (newList ((cut ns b c).map .int) W.σ) (VW T):=by
 obtain ⟨pl,i1,i2⟩:=C0 e1 rx
 obtain ⟨pu,j1,j2⟩:=C0 e2 ry
 have h1:=I.base _ _ L.get
 have r:W.Vs T (ns.map .int) vs.toList:=.of (by rw [List.length_map,Array.length_toList,L.size]) fun i x v hx hv=>by
  obtain ⟨k,hk,rfl⟩:=Option.map_eq_some_iff.mp ((List.getElem?_map ..).symm.trans hx)
  obtain ⟨t,e⟩:=L.items i k hk
  rw [Array.getElem?_toList,e] at hv
  cases hv
  exact .int _ _
 have e:(cut ns b c).map AV.int = ((ns.map AV.int).drop b).take (c - b):=by unfold cut;rw [List.map_take,List.map_drop]
 rw [e] at hn ⊢
 refine P4 (vs:=(vs.toList.drop b).take (c - b)) I ((r.drop b).take (c - b)) (fun hl' Q E q=>a1d (Ty:="list") ⟨_,h1,L.cls⟩ slot_list_getitem.lookup ?_) hn
 refine wpAny_getItem_list_slice ⟨_,h1,L.cls,n,L.data⟩ ⟨_,ha,rfl,rfl⟩ i1 j1 .none (by simp) ?_ (by rw [L.size,← w5];exact L.len)
 rw [slicePick_plain,L.size,i2,j2]
 exact q W.s.toks
theorem a0Y (I:Inv T W) {value:Expr} {lo hi:Option Expr} {p:Pos} {x y:AV} {vx vy:Value} {a:Addr} {s:List Nat} {t:Tok} {b c:Nat} (ok:okS s) (e1:A4 s.length 0 x = some b) (e2:A4 s.length s.length y = some c) (rx:W.V T x vx) (ry:W.V T y vy)
  (ha:W.h.get? a = some { cls:=.type "slice",data:=.fields #[vx,vy,.none] }):b8 T A noX W (PyProof.Rows.subscriptTail value (.Slice lo hi none p) (.str (tS s) t) (.ref a)) (.ok (.str (cut s b c)) W.σ) (VW T):=by
 obtain ⟨pl,i1,i2⟩:=C0 e1 rx
 obtain ⟨pu,j1,j2⟩:=C0 e2 ry
 obtain ⟨ptl,rfl,rfl⟩:=a7q i1
 obtain ⟨ptu,rfl,rfl⟩:=a7q j1
 refine b8.keep I fun Q E q=>a1d (Ty:="str") rfl PyProof.Rows.slot_str_getitem.lookup (wpAny_getItem_str_slice (l:=ptl) (u:=ptu) (st:=none) ⟨_,ha,rfl,rfl⟩ rfl ?_)
 have hh:=a7P (s:=s) (ptl.map (·.1)) (ptu.map (·.1))
 rw [i2,j2] at hh
 unfold Txt.slice at hh
 unfold sliceMade slicePicked
 show Made.post (if ((1:Int) == 1 && (Builtin.Str.strSliceIndices (ptl.map (·.1)) (ptu.map (·.1)) 1 (tS s).length).length == (tS s).length) = true then _ else _) _ _
 split at hh
 ·rename_i z
  rw [if_pos z,hh]
  exact q _ W.s.toks (.str _ (a8v ok))
 ·rename_i z
  rw [if_neg z]
  refine ⟨Nat.le_trans (Nat.le_of_eq (congrArg Str.length hh)) (by rw [k9,← w5];exact (a8v ok).2),?_⟩
  have q':=q _ (W.s.toks + 1) (.str W.s.toks (a8v (a:=b) (b:=c) ok))
  rw [← hh] at q'
  exact q'
theorem a6r (I:Inv T W) {value:Expr} {lo hi:Option Expr} {p:Pos} {o x y:AV} {vo vx vy:Value} {a:Addr} (ro:W.V T o vo) (rx:W.V T x vx) (ry:W.V T y vy)
  (ha:W.h.get? a = some { cls:=.type "slice",data:=.fields #[vx,vy,.none] }) (hn:D9 o x y W.σ≠.fail) :
  b8 T A noX W (PyProof.Rows.subscriptTail value (.Slice lo hi none p) vo (.ref a)) (D9 o x y W.σ) (VW T) :=
 b8.orO hn (fun s eo hn=>b8.ofO hn fun b e1 hn=>b8.ofO hn fun c e2 _=>ro.asStr (P:=fun vo=>b8 T A noX W (PyProof.Rows.subscriptTail value (.Slice lo hi none p) vo (.ref a)) _ (VW T)) eo fun t ok=>a0Y I ok e1 e2 rx ry ha)
  fun _ hn=>b8.orO hn (fun ns eo hn=>b8.ofO hn fun b e1 hn=>b8.ofO hn fun c e2 hz=>ro.asScr (P:=fun vo=>b8 T A noX W (PyProof.Rows.subscriptTail value (.Slice lo hi none p) vo (.ref a)) _ (VW T)) eo fun l o vs n L=>b0e I L e1 e2 rx ry ha hz)
   fun _ hn=>b8.ofO hn fun xs eo hn=>b8.ofO hn fun b e1 hn=>b8.ofO hn fun c e2 hz=>I.listE (P:=fun vo=>b8 T A noX W (PyProof.Rows.subscriptTail value (.Slice lo hi none p) vo (.ref a)) _ (VW T)) eo ro fun l L=>O9 I L e1 e2 rx ry ha hz
end
end Mine
namespace Mine
open PySem PySem.SeqAt PySem.Spec PySem.W PySem.Calls
section
variable {T:Tp} {A:Around} {W:Wd} {env:Env}
noncomputable def U3:Expr→Bool
 | .Starred ..=>false
 | _=>true
theorem i8 {e:Expr} {rest:List Expr} (h:U3 e = true):starEach (e :: rest) env = (false,eval e env) :: starEach rest env:=by
 cases e<;>first|rfl|cases h
noncomputable def C3 (es:List Expr):Bool:=es.all U3
theorem O7 {pos:Pos}:∀ {es:List Expr},C3 es = true→(backTo pos (starEach es env)).any (·.1) = false
 | [],_=>rfl
 | e :: r,h=>by
  have h':U3 e = true∧C3 r = true:=by simpa [C3] using h
  rw [i8 h'.1]
  show (false || (backTo pos (starEach r env)).any (·.1)) = false
  rw [O7 h'.2];rfl
theorem a3z (I:Inv T W) {pos:Pos}:b8 T A noX W (spliced (backTo pos (starEach [] env))) (.ok [] W.σ) (VWs T) :=
 b8.ok (spliced_nil ⟨W,rfl,rfl,I,.refl _ _,.nil⟩)
noncomputable def T0 (T:Tp) (f:Value):Prop:=∀ h,T.base.StaysIn h→∃ k,(k = Keeper.frame∨k = Keeper.machine∨k = Keeper.boundFrame)∧Looks T.M h (keeperOf f) k
theorem w6 (id:String):T0 T (.builtin id):=fun _ _=>⟨.machine,.inr (.inl rfl),Looks.of_pure rfl⟩
theorem a6s (id:String):T0 T (.type id):=fun _ _=>⟨.machine,.inr (.inl rfl),Looks.of_pure rfl⟩
end
end Mine
namespace Mine
open PySem PySem.SeqAt PySem.Spec PySem.W PySem.Calls
section
variable {prog:Program} {w:World} {A:Around} {E:Value→Shared→Prop} {s:Shared}
theorem a6g {d:Addr} {es:Array DictEntry} {ep:Nat} {Q:Value→Shared→Prop} (hd:(d == sysModules) = false) (ho:s.heap.get? d = some { cls:=.type "dict",data:=.dict es ep })
  (hQ:Q (.ref s.heap.objs.size) { s with heap:=s.heap.push { cls:=.type "dict_keyiterator",data:=.fields #[.ref d,.int 0 0,.int es.size 0,.int ep 0] } }):wpAny (model prog w) A (pyIter (.ref d)) Q E s:=by
 have hT:s.TypeIs (.ref d) "dict":=⟨_,ho,rfl⟩
 refine wpAny_pyIter_slot hT F.slot_dict_iter (wpAny_call_entry F.slot_dict_iter hT F.entry_dict_iter ?_ (F.args_dict_iter_1 _))
 unfold Builtin.«dict.__iter__»
 refine wpAny_bind ?_
 unfold Builtin.Dict.dictSlotNone
 refine wpAny_bind (wpAny_notOrdered_dict hT ?_)
 show wpAny _ _ (pure (Value.ref d)) _ _ s
 refine wpAny_pure ?_
 show wpAny _ _ (Builtin.Dict.showsAll d >>= _) _ _ s
 unfold Builtin.Dict.showsAll
 rw [if_neg (by rw [hd];exact Bool.false_ne_true)]
 refine wpAny_bind (wpAny_pure ?_)
 refine wpAny_bind (wpAny_dictEntries ho rfl ?_)
 refine wpAny_bind (wpAny_dictEpoch ho rfl ?_)
 exact wpAny_bind (wpAny_newObj_type (wpAny_pure ⟨_,rfl,"dict_keyiterator",_,⟨_,Heap.get?_push_size _ rfl,rfl⟩,F.slot_dict_keyiterator_next.lookup,hQ⟩))
theorem b4v {I:Addr} {s':Shared} {Q:Option Value→Shared→Prop} (hh:A.handled = none) (hx:Heap.ExtBut I s.heap s'.heap) (hs:s' = { s with heap:=s'.heap }) (hQ:∀ h',Heap.ExtBut I s.heap h'→Q none { s with heap:=h' }) :
  wpAny (model prog w) A.in1 (do raiseNew (← newExc (Value.type "StopIteration") []):Sem PySem.Fin) (fun fin s'=>∃ v,fin = Fin.done (Flow.ret v)∧wpAny (model prog w) A (pure (some v)) Q E s')
   (fun e s'=>wpAny (model prog w) A (do if (← isInstance e (Value.type "StopIteration")) = true then pure none else throw e) Q E s') s':=by
 refine wpAny_bind ?_
 simp only [newExc,newTuple]
 refine wpAny_bind (wpAny_newObj_type ?_ (by size_fits))
 refine wpAny_bind (m:=firstArgMember _ _) (wpAny_of_eq (a:=Value.none) (by first|rfl|(simp only [firstArgMember];rfl)) ?_)
 refine wpAny_newObj_type ?_ (by size_fits)
 simp only [raiseNew]
 refine wpAny_bind (wpAny_handled ?_)
 rw [show A.in1.handled = none from hh]
 refine wpAny_bind (wpAny_pure (wpAny_throw ?_))
 refine wpAny_bind (wpAny_isInstance (T:="StopIteration") (b:=true) ⟨_,Heap.get?_push_size _ rfl,rfl⟩ isSubtype_stop ?_)
 rw [hs]
 exact wpAny_pure (hQ _ ((hx.push _).push _))
theorem a3c {it d:Addr} {i ep:Nat} {es:Array DictEntry} {Q:Option Value→Shared→Prop} (hh:A.handled = none) (hit:s.heap.IsKeyIter it d i es.size ep) (hod:s.heap.get? d = some (W8 es ep))
  (h1:∀ e h',es[i]? = some e→h'.IsKeyIter it d (i + 1) es.size ep→Heap.SameBut it s.heap h'→Q (some e.key) { s with heap:=h' }) (h2:es[i]? = none→∀ h',Heap.ExtBut it s.heap h'→Q none { s with heap:=h' }):wpAny (model prog w) A (pyNext (.ref it)) Q E s:=by
 obtain ⟨o,ho,hc,hd⟩:=id hit
 unfold pyNext
 refine wpAny_bind (wpAny_attempt (wpAny_callSpecial?_slot (name:=Str.ofString "__next__") hit.typeIs F.slot_dict_keyiterator_next
  (wpAny_call_entry F.slot_dict_keyiterator_next hit.typeIs F.entry_dict_keyiterator_next ?_ (F.args_dict_keyiterator_next_1 _))))
 refine wpAny_bind (wpAny_pure (wpAny_bind (wpAny_bind (wpAny_bind (wpAny_typeNameOfWhole_keyiter hit.typeIs (wpAny_pure ?_))))))
 refine wpAny_bind (wpAny_fieldsOf ho hd ?_)
 show wpAny _ _ (if (Value.ref d == Value.none) = true then _ else _) _ _ s
 rw [if_neg (show ¬ ((Value.ref d == Value.none) = true) from Bool.false_ne_true)]
 refine wpAny_bind (wpAny_pure (wpAny_bind (wpAny_dictEntries hod rfl ?_)))
 rw [if_neg (by simp)]
 refine wpAny_bind (wpAny_pure (wpAny_bind (wpAny_dictEpoch hod rfl ?_)))
 rw [if_neg (by simp)]
 refine wpAny_pure ?_
 show wpAny _ _ (match if (i:Int) < 0 then none else es[(i:Int).toNat]? with|some e=>_|none=>_) _ _ s
 rw [if_neg (Int.not_lt.mpr (Int.natCast_nonneg i)),Int.toNat_natCast]
 cases hx:es[i]? with
 | some e =>
  refine wpAny_bind (wpAny_bind (wpAny_typeNameOfWhole_keyiter hit.typeIs (wpAny_pure ?_)))
  refine wpAny_bind (wpAny_isOneOf_keyiter hit.typeIs ?_)
  show wpAny _ _ (setField (.ref it) 1 (rawInt ((i:Int) + 1)) >>= _) _ _ s
  refine wpAny_bind (wpAny_setField ho hd (by simp) ?_)
  have hit':(s.heap.update it (Obj.mapFields (·.setIfInBounds 1 (rawInt ((i:Int) + 1))))).IsKeyIter it d (i + 1) es.size ep :=
   ⟨_,Heap.get?_update_self _ ho (Obj.isFreed_of_fields (Obj.data_mapFields hd _)),(Obj.cls_mapFields ..).trans hc,by rw [Obj.data_mapFields hd];simp [rawInt]⟩
  refine wpAny_bind (wpAny_holding (wpAny_bind (wpAny_isOneOf_keyiter (s:={ s with heap:=s.heap.update it (Obj.mapFields (·.setIfInBounds 1 (rawInt ((i:Int) + 1)))) }) hit'.typeIs ?_)))
  show wpAny _ _ (pure e.key) _ _ _
  exact wpAny_pure (wpAny_pure ⟨_,rfl,wpAny_pure (h1 e _ hx hit' (Heap.SameBut.update ..))⟩)
 | none =>
  refine wpAny_bind (wpAny_bind (wpAny_typeNameOfWhole_keyiter hit.typeIs (wpAny_pure ?_)))
  show wpAny _ _ (setField (.ref it) 0 .none >>= _) _ _ s
  refine wpAny_bind (wpAny_setField ho hd (by simp) ?_)
  exact b4v (s:=s) hh (Heap.SameBut.update ..).extBut rfl (h2 hx)
theorem Walks.raw (hh:A.handled = none) (I d:Addr) (hne:d≠I) (es:Array DictEntry) (ep:Nat) :
  Walks prog w A I [I,d] [I] es.size (fun i v=>∃ e,es[i]? = some e∧v = e.key) (fun i h=>h.IsKeyIter I d i es.size ep∧h.get? d = some (W8 es ep)) where
 sub:=fun b hb=>by simp at hb;simp [hb]
 frame:=fun _ _ _ st hk=>⟨st.1.at fun o e=>hk I (by simp) o e,hk d (by simp) _ st.2⟩
 item:=fun i s Q E hi st hQ=>a3c hh st.1 st.2 (fun e h' he hit' hs'=>hQ _ h' s.toks ⟨e,he,rfl⟩ ⟨hit',(hs'.2 d hne).trans st.2⟩ fun b o hb e=>(hs'.2 b fun h=>hb (List.mem_singleton.mpr h)).trans e) fun z=>absurd hi (Nat.not_lt.mpr (Array.getElem?_eq_none_iff.mp z))
 done:=fun s Q E st hQ=>a3c hh st.1 st.2 (fun e _ he=>absurd (Array.getElem?_eq_some_iff.mp he).1 (Nat.lt_irrefl _)) fun _ h' he'=>hQ h' s.toks fun b o hb e=>he' b o (fun h=>hb (List.mem_singleton.mpr h)) e
 self:=fun _ _ _ _ st hQ=>wpAny_pyIter_keyiter st.1 hQ
theorem a9D {d:Addr} {es:Array DictEntry} {ep:Nat} (lo:(d == sysModules) = false):KdlSrc prog w "dict" d d es.size (fun i v=>∃ e,es[i]? = some e∧v = e.key) (fun h=>h.get? d = some (W8 es ep)) where
 type:=fun _ ho=>⟨_,ho,rfl⟩
 there:=fun _ ho=>⟨Heap.lt_size ho,Heap.lt_size ho⟩
 keep:=fun _ _ ho hk=>hk d (.inl rfl) _ ho
 notList:=by decide
 notTuple:=by decide
 hint:=fun _ _ _ _ ho hq=>kdl_hint_dict ⟨_,ho,rfl⟩ hq
 iter:=fun _ _ hh ho=>⟨_,_,(fun _ _ hq=>a6g lo ho hq),Walks.raw hh _ d (Nat.ne_of_lt (Heap.lt_size ho)) es ep,⟨⟨_,Heap.get?_push_size _ rfl,rfl,rfl⟩,Heap.get?_push_of_some _ ho⟩⟩
end
section
variable {T:Tp} {own:Addr→Ow} {bt:List Addr} {h:Heap}
theorem a4G {es:List (AV×AV)} {arr:Array DictEntry} {ep:Option Nat} {n:Nat} {acc:Array Value} (dr:DR T own bt h ep es arr n) (hp:ItemsOf (fun i v=>∃ e,arr[i]? = some e∧v = e.key) acc arr.size):VRs T own bt h (es.map (·.1)) acc.toList:=by
 have hl:=dr.en.length
 rw [Array.length_toList] at hl
 refine .of (by rw [Array.length_toList,List.length_map,hp.1,hl]) fun i x v hx hv=>?_
 rw [List.getElem?_map] at hx
 rw [Array.getElem?_toList] at hv
 refine E0 (P:=fun x=>VR T own bt h x v) hx fun p hp'=>?_
 obtain ⟨e,he,r⟩:=dr.en.get hp'
 obtain ⟨e',he',rfl⟩:=hp.2 i v hv
 rw [Array.getElem?_toList,he'] at he
 cases he
 exact r.key
end
end Mine
namespace Mine
open PySem PySem.SeqAt PySem.Spec PySem.W PySem.Calls PyProof.Rows
theorem a4j:∀ (f n r:Nat),minRun' f n r≤n + r
 | 0,n,r=>Nat.le_refl _
 | f + 1,n,r=>by
  rw [minRun'_succ]
  split
  ·exact Nat.le_refl _
  ·have:=a4j f (n / 2) (max r (n % 2))
   refine Nat.le_trans this (Nat.le_trans (Nat.add_le_add_left (Nat.max_le.mpr ⟨Nat.le_add_right r (n % 2),Nat.le_add_left (n % 2) r⟩) _) ?_)
   rw [Nat.add_left_comm,Nat.add_comm n]
   exact Nat.add_le_add_left (Nat.le_trans (Nat.add_le_add_right (Nat.le_mul_of_pos_left (n / 2) (by decide)) _) (Nat.le_of_eq (Nat.div_add_mod n 2))) r
section
variable {prog:Program} {w:World} {A:Around} {E:Value→Shared→Prop} {κ:SortKind} {it:Array Keyed} {s:Shared}
theorem a8T {n:Nat} {G:Nat→Shared→Prop} (hcmp:∀ i,1≤i→i < n→∀ C:Bool→Shared→Prop,C false s→kas_cmp prog w A κ it i (i - 1) C s) (hG:G n s):∀ f m,m + f = n→1≤m→(kas_asc (List.toArray (List.range n)) f m).kasWp (kas_cmp prog w A κ it) G s
 | 0,m,e,_=>by rw [Nat.add_zero] at e;subst e;exact hG
 | f + 1,m,e,h1=>by
  have g:∀ i,i < n→(List.toArray (List.range n)).getD i 0 = i:=fun i hi=>by simp [Array.getD,hi]
  have lm:m < n:=e▸Nat.lt_add_of_pos_right (Nat.succ_pos f)
  show kas_cmp prog w A κ it ((List.toArray (List.range n)).getD m 0) ((List.toArray (List.range n)).getD (m - 1) 0) _ s
  rw [g m lm,g (m - 1) (Nat.lt_of_le_of_lt (Nat.sub_le ..) lm)]
  exact hcmp m h1 lm _ (a8T hcmp hG f (m + 1) ((Nat.succ_add_eq_add_succ ..).trans e) (Nat.succ_pos _))
theorem b4K {σ β:Type} {M:Model} {l:List Nat} {b b1 b2:β} {f:Nat→β→StateT σ Sem (ForInStep β)} {Q:β→σ→Shared→Prop} {st st1:σ} (h1:∀ R:ForInStep β→σ→Shared→Prop,R (.yield b1) st1 s→kasC M A E (f 0 b) R st s) (h2:∀ R:ForInStep β→σ→Shared→Prop,R (.done b2) st1 s→kasC M A E (f 1 b1) R st1 s)
  (h:Q b2 st1 s):kasC M A E (forIn (0 :: 1 :: l) b f) Q st s:=kasC_cons (h1 _ (kasC_cons (h2 _ h)))
theorem b4G {σ β:Type} {M:Model} {l:List Nat} {b b1:β} {f:Nat→β→StateT σ Sem (ForInStep β)} {Q:β→σ→Shared→Prop} {st:σ} (h1:∀ R:ForInStep β→σ→Shared→Prop,R (.done b1) st s→kasC M A E (f 0 b) R st s) (h:Q b1 st s):kasC M A E (forIn (0 :: l) b f) Q st s:=kasC_cons (h1 _ h)
theorem b1M {n:Nat} {Q:Unit→SortSt→Shared→Prop} (h2:2≤n) (hcmp:∀ i,1≤i→i < n→∀ C:Bool→Shared→Prop,C false s→kas_cmp prog w A κ it i (i - 1) C s)
  (hQ:∀ st',arrOf st' = (List.toArray (List.range n)).map (kas_item it)→failedOf st' = none→Q () st' s):kasC (model prog w) A E sortRuns' Q (kas_st κ it (List.toArray (List.range n))) s:=by
 obtain ⟨r,rfl⟩:∃ r,n = r + 2:=⟨n - 2,(Nat.sub_add_cancel h2).symm⟩
 have hsz:(arrOf (kas_st κ it (List.toArray (List.range (r + 2))))).size = r + 2:=by
  show ((List.toArray (List.range (r + 2))).map (kas_item it)).size = _
  rw [Array.size_map];simp
 have hmr:minRun' (r + 2) (r + 2) 0≤r + 2:=a4j _ _ _
 rw [sortRuns'_eq]
 refine kasC_bind (kasC_get ?_)
 dsimp only
 rw [hsz]
 generalize minRun' (r + 2) (r + 2) 0 = mr at hmr
 refine kasC_bind (kasC_range (b4K (l:=List.range' 2 r) (st1:=setPending (kas_st κ it (List.toArray (List.range (r + 2)))) #[(0,r + 2,0)]) (b1:=⟨none,r + 2⟩) (b2:=⟨none,r + 2⟩) (fun R hR=>?_) (fun R hR=>?_) (kasC_bind (kasC_range (b4G (l:=List.range' 1 (r + 1)) (b1:=⟨none,()⟩) (fun R hR=>?_) ?_)))))
 ·dsimp only
  rw [if_neg (Nat.not_succ_le_zero _)]
  refine kasC_bind (kas_count_ (p:=List.toArray (List.range (r + 2))) (G:=fun q s'=>q = (r + 2,List.toArray (List.range (r + 2)))∧s' = s) (Nat.succ_pos _) (by simp) (fun m p' s' _ _ _ hg=>?_) ?_)
  ·obtain ⟨hg,rfl⟩:=hg
   cases hg
   dsimp only
   rw [if_neg (Nat.not_lt.mpr hmr)]
   refine kasC_bind (kasC_get (kasC_bind (kasC_modify (kasC_pure ?_))))
   rw [show 0 + (r + 2) = r + 2 from Nat.zero_add _]
   exact hR
  ·unfold kas_count
   rw [KasT.kasWp_bind]
   refine a8T hcmp ?_ _ 1 (Nat.add_comm 1 _) (Nat.le_refl 1)
   rw [if_pos (show (r + 2 == r + 2 - 0) = true from beq_self_eq_true _)]
   exact ⟨rfl,rfl⟩
 ·dsimp only
  rw [if_pos (Nat.le_refl _)]
  exact kasC_pure hR
 ·refine kasC_bind (kasC_get ?_)
  rw [if_pos (show (pendingOf (setPending (kas_st κ it (List.toArray (List.range (r + 2)))) #[(0,r + 2,0)])).size≤1 from Nat.le_refl 1)]
  exact kasC_pure hR
 ·exact kasC_pure (hQ _ rfl rfl)
end
section
variable {prog:Program} {w:World} {A:Around} {E:Value→Shared→Prop} {s:Shared}
theorem a4z (vs:List Value):(pairsOf vs).map (·.2) = vs.toArray:=by
 apply Array.toList_inj.mp
 rw [Array.toList_map,pairsOf_toList,List.map_snd_zip (Nat.le_refl _)]
structure a8W (prog:Program) (w:World) (A:Around) (E:Value→Shared→Prop) (κ:SortKind) (vs out:List Value) (s:Shared):Prop where
 kind:∀ Q:SortKind→Shared→Prop,Q κ s→wpAny (model prog w) A (keyKind' vs.toArray) Q E s
 runs:∀ Q:Unit→SortSt→Shared→Prop,(∀ st',(arrOf st').map (·.2) = out.toArray→failedOf st' = none→Q () st' s)→kasC (model prog w) A E sortRuns' Q (kas_st κ (pairsOf vs) (List.toArray (List.range vs.length))) s
theorem a2S {κ:SortKind} {a:Addr} {vs out:List Value} {n:Nat} {P:PySem.Fin→Shared→Prop} (ho:s.heap.get? a = some (seqObj "list" vs.toArray n)) (hs:vs.length≤sizeLine) (hz:out.length = vs.length) (few:vs.length < 2→out = vs)
  (hk:∀ h',(∀ b o,b≠a→s.heap.get? b = some o→h'.get? b = some o)→2≤vs.length→a8W prog w A E κ vs out { s with heap:=h' })
  (h:P (.done (.ret .none)) { s with heap:=sortedHeap s.heap a vs out.toArray }):wpAny (model prog w) A (Builtin.«list.sort» ⟨[.ref a],[]⟩) P E s:=by
 have s1:=Heap.SameBut.update s.heap a (Obj.mapSeq fun _=>(#[]:Array Value))
 obtain ⟨e1,ho1⟩:∃ e1,(s.heap.update a (Obj.mapSeq fun _=>(#[]:Array Value))).get? a = some (seqObj "list" #[] e1):=⟨_,get?_update_seq ho fun _=>#[]⟩
 have ho3:(((s.heap.update a (Obj.mapSeq fun _=>(#[]:Array Value))).push (seqObj "tuple" vs.toArray 0)).push (seqObj "list" #[] 0)).get? a = some (seqObj "list" #[] e1):=Heap.get?_push_of_some _ (Heap.get?_push_of_some _ ho1)
 obtain hk:=hk _ (fun b o q e=>Heap.get?_push_of_some _ (Heap.get?_push_of_some _ ((s1.2 b q).trans e)))
 have hv:vs.toArray.size = vs.length:=List.size_toArray
 rw [list_sort_plain]
 refine wpAny_bind (listItems_at ho rfl (wpAny_bind (listUpdate_at ho rfl ?_ (by rw [hv];exact hs) (Nat.zero_le _))))
 refine wpAny_bind (seqEpoch_at ho1 rfl (wpAny_bind (wpAny_newTuple ?_ (by show vs.length≤_;exact hs))))
 refine wpAny_bind (wpAny_newList (wpAny_holding ?_) (Nat.zero_le _))
 show wpAny (model prog w) A _ P E { s with heap:=((s.heap.update a (Obj.mapSeq fun _=>(#[]:Array Value))).push (seqObj "tuple" vs.toArray 0)).push (seqObj "list" #[] 0) }
 dsimp only
 have fin:∀ st':SortSt,(arrOf st').map (·.2) = out.toArray→failedOf st' = none→wpAny (model prog w) A (do
   let sorted:=(arrOf st').map (·.2)
   let touched:=(← seqEpoch a) != e1
   Builtin.List.listUpdate (.ref a) fun _=>sorted
   if let some e:=failedOf st' then rule "list.sort.comparison-raised";throw e
   if touched then rule "list.sort.modified";raiseError "ValueError" "list modified during sort"
   ret .none) P E { s with heap:=((s.heap.update a (Obj.mapSeq fun _=>(#[]:Array Value))).push (seqObj "tuple" vs.toArray 0)).push (seqObj "list" #[] 0) }:=fun st' a1 a2=>by
  dsimp only
  rw [a1,a2]
  refine wpAny_bind (seqEpoch_at ho3 rfl (wpAny_bind (listUpdate_at ho3 rfl ?_ (Nat.zero_le _) (by rw [List.size_toArray,hz];exact Nat.le_succ_of_le hs))))
  simp only [bne_self_eq_false,Bool.false_eq_true,if_false]
  exact wpAny_pure h
 by_cases h2:vs.toArray.size < 2
 ·rw [if_pos h2,if_pos h2]
  refine wpAny_bind (wpAny_pure ?_)
  rw [StateT.run_pure]
  exact wpAny_bind (wpAny_pure (fin _ (by rw [few (hv▸h2)];exact a4z vs) rfl))
 ·rw [if_neg h2,if_neg h2]
  have hk:=hk (by exact Nat.le_of_not_lt h2)
  refine wpAny_bind (hk.kind _ ?_)
  have est:SortSt.mk' κ (vs.toArray.zip vs.toArray) #[] 7 none = kas_st κ (pairsOf vs) (List.toArray (List.range vs.length)):=by
   have e:=kas_range (pairsOf vs)
   rw [pairsOf_size] at e
   show SortSt.mk' κ (pairsOf vs) #[] 7 none = SortSt.mk' κ ((List.toArray (List.range vs.length)).map (kas_item (pairsOf vs))) #[] 7 none
   rw [e]
  rw [est]
  refine wpAny_bind (wpAny_mono (hk.runs (fun _ st' s'=>(arrOf st').map (·.2) = out.toArray∧failedOf st' = none∧s' = _) fun st' a1 a2=>⟨a1,a2,rfl⟩) ?_ fun _ _ e=>e)
  rintro ⟨⟨⟩,st'⟩ s' ⟨a1,a2,rfl⟩
  exact fin st' a1 a2
theorem a8W.asc {κ:SortKind} {vs:List Value} (h2:2≤vs.length) (kind:∀ Q:SortKind→Shared→Prop,Q κ s→wpAny (model prog w) A (keyKind' vs.toArray) Q E s)
  (lt:∀ i,1≤i→i < vs.length→∀ C:Bool→Shared→Prop,C false s→wpAny (model prog w) A (keyLt' κ (vs.getD i .none) (vs.getD (i - 1) .none)) C (fun _ _=>False) s):a8W prog w A E κ vs vs s :=
 ⟨kind,fun Q q=>b1M h2 (fun i h1 h3 C hC=>by rw [← kas_ask_eq];exact lt i h1 h3 C hC) fun st' a1 a2=>q st' (by have e:=kas_range (pairsOf vs);rw [pairsOf_size] at e;rw [a1,e,a4z]) a2⟩
end
end Mine
namespace Mine
open PySem PySem.SeqAt PySem.Spec PySem.W PySem.Calls
structure a7s {α:Type} (lt:α→α→Bool):Prop where
 asym:∀ {a b},lt a b = true→lt b a = false
 trans:∀ {a b c},lt b a = false→lt c b = false→lt c a = false
 anti:∀ {a b},lt a b = false→lt b a = false→a = b
section
variable {α:Type} {lt:α→α→Bool}
noncomputable abbrev Up (lt:α→α→Bool) (l:List α):Prop:=l.Pairwise fun a b=>lt b a = false
theorem a4f (x:α) (l:List α):(a1D lt x l).Perm (x :: l):=by
 induction l with
 | nil=>exact .refl _
 | cons y r ih =>
  show (if lt y x then y :: a1D lt x r else x :: y :: r).Perm _
  split
  ·exact (ih.cons y).trans (.swap x y r)
  ·exact .refl _
theorem a2Q (l:List α):(u7 lt l).Perm l:=by
 induction l with
 | nil=>exact .refl _
 | cons x r ih=>exact (a4f x _).trans (ih.cons x)
theorem b4g (o:a7s lt) (x:α) (l:List α):Up lt l→Up lt (a1D lt x l):=by
 induction l with
 | nil=>exact fun _=>List.pairwise_singleton _ _
 | cons y r ih =>
  intro h
  have h':=List.pairwise_cons.mp h
  show Up lt (if lt y x then y :: a1D lt x r else x :: y :: r)
  split
  ·rename_i q
   exact List.pairwise_cons.mpr ⟨fun z hz=>(List.mem_cons.mp ((a4f x r).mem_iff.mp hz)).elim (fun e=>e▸o.asym q) (h'.1 z),ih h'.2⟩
  ·rename_i q
   have q:lt y x = false:=Bool.not_eq_true _▸q
   exact List.pairwise_cons.mpr ⟨fun z hz=>(List.mem_cons.mp hz).elim (fun e=>e▸q) fun hz=>o.trans q (h'.1 z hz),h⟩
theorem b3B (o:a7s lt) (l:List α):Up lt (u7 lt l):=by
 induction l with
 | nil=>exact List.Pairwise.nil
 | cons x r ih=>exact b4g o x _ ih
theorem a7k (o:a7s lt) {a b:List α} (p:a.Perm b) (s:Up lt a):a = u7 lt b :=
 List.Perm.eq_of_pairwise (fun _ _ _ _ h1 h2=>o.anti h2 h1) s (b3B o b) (p.trans (a2Q b).symm)
end
theorem b7E:a7s ltI where
 asym h:=decide_eq_false (Int.not_lt.mpr (Int.le_of_lt (of_decide_eq_true h)))
 trans h1 h2:=decide_eq_false (Int.not_lt.mpr (Int.le_trans (Int.not_lt.mp (of_decide_eq_false h1)) (Int.not_lt.mp (of_decide_eq_false h2))))
 anti h1 h2:=Int.le_antisymm (Int.not_lt.mp (of_decide_eq_false h2)) (Int.not_lt.mp (of_decide_eq_false h1))
theorem b2M:a7s ltT where
 asym h:=decide_eq_false (List.not_lt.mpr (List.le_of_lt (of_decide_eq_true h)))
 trans h1 h2:=decide_eq_false (List.not_lt.mpr (List.le_trans (List.not_lt.mp (of_decide_eq_false h1)) (List.not_lt.mp (of_decide_eq_false h2))))
 anti h1 h2:=List.le_antisymm (List.not_lt.mp (of_decide_eq_false h2)) (List.not_lt.mp (of_decide_eq_false h1))
section
variable {T:Tp} {A:Around} {W:Wd}
theorem VRs.kept {own:Addr→Ow} {bt:List Addr} {h h':Heap} {xs:List AV} {vs:List Value} (r:VRs T own bt h xs vs) (k:∀ a o,h.get? a = some o→h'.get? a = some o):VRs T own bt h' xs vs:=r.ext (.kept (X:=noX) k) .no
theorem a5M (I:Inv T W) (hh:A.handled = none) {v:AV} {val:Value} {xs:List AV} (ra:W.V T v val) (hx:B5 W.σ v = some xs) {Q:List Value→Shared→Prop} {E:Value→Shared→Prop}
  (h:∀ (h':Heap) (tk:Nat) (vs:List Value),(∀ b o,W.h.get? b = some o→h'.get? b = some o)→xs.length≤lim→VRs T W.own W.bt h' xs vs→Q vs { W.s with heap:=h',toks:=tk }):wpAny T.M A (collect val) Q E W.s:=by
 refine orE hx (fun ys e1 e=>?_) fun _ e=>?_
 ·cases e
  refine I.listE (P:=fun val=>wpAny T.M A (collect val) Q E W.s) e1 ra fun a l=>?_
  obtain ⟨vs,m,h1,h2,h3⟩:=l
  have hk:∀ b o,W.h.get? b = some o→((W.s.heap.push (PyProof.Rows.seqObj "list" #[] 0)).update W.s.heap.objs.size (Obj.mapSeq (· ++ vs.toList.toArray))).get? b = some o:=fun b o q=>by
   rw [Heap.get?_update_ne _ _ _ _ (Nat.ne_of_lt (Heap.lt_size q)),Heap.get?_push_ne _ _ _ (Nat.ne_of_lt (Heap.lt_size q))];exact q
  exact PyProof.Rows.collect_list (vs:=vs.toList) ⟨_,h1,rfl,m,by simp⟩ (h _ W.s.toks _ hk h3 (h2.kept hk)) (by rw [h2.length,← w5];exact h3)
 ·revert h
  refine E0 (P:=fun xs=>(∀ (h':Heap) (tk:Nat) (vs:List Value),(∀ b o,W.h.get? b = some o→h'.get? b = some o)→xs.length≤lim→VRs T W.own W.bt h' xs vs→Q vs { W.s with heap:=h',toks:=tk })→wpAny T.M A (collect val) Q E W.s) e fun p e1 h=>?_
  refine I.dictE (P:=fun val=>wpAny T.M A (collect val) Q E W.s) e1 ra fun d D=>?_
  obtain ⟨arr,n,h1,h2,h3⟩:=D
  have hl:=h2.en.length
  rw [Array.length_toList] at hl
  exact kdu_collect (a9D h3) hh h1 (by rw [hl,← w5];exact h2.len) fun h' tk acc hk hacc=>h h' tk _ hk (by rw [List.length_map];exact h2.len) ((a4G h2 hacc).kept hk)
theorem a0U (I:Inv T W) (hh:A.handled = none) {v:AV} {val:Value} {xs ys:List AV} (ra:W.V T v val) (hx:B5 W.σ v = some xs) (hn:newList ys W.σ≠.fail)
  (hs:∀ (h':Heap) (tk:Nat) (vs:List Value) (P:PySem.Fin→Shared→Prop) (E:Value→Shared→Prop),xs.length≤lim→VRs T W.own W.bt h' xs vs →
   (∀ out,VRs T W.own W.bt h' ys out→P (.done (.ret .none)) { W.s with heap:=PyProof.Rows.sortedHeap (h'.push (PyProof.Rows.seqObj "list" vs.toArray 0)) h'.objs.size vs out.toArray,toks:=tk }) →
   wpAny T.M A.in1.in1 (Builtin.«list.sort» ⟨[.ref h'.objs.size],[]⟩) P E { W.s with heap:=h'.push (PyProof.Rows.seqObj "list" vs.toArray 0),toks:=tk }) :
  b8 T A noX W (call (.builtin "sorted") [val]) (newList ys W.σ) (VW T):=by
 refine b8.newAt I hn fun hl Q E q=>?_
 refine call_function_entry PyProof.Rows.kind_sorted PyProof.Rows.plain_sorted PyProof.Rows.entry_sorted (PyProof.Rows.args_sorted1 _) ?_
 unfold Builtin.«sorted»
 refine wpAny_bind (m:=checkCount "sorted" 1 1 _) (wpAny_pure ?_)
 refine wpAny_bind (a5M (A:=A.in1) I hh ra hx fun h' tk vs hk hxl r=>?_)
 refine wpAny_bind (wpAny_newList ?_ (by rw [r.length,← w5];exact hxl))
 have ho:(h'.push (PyProof.Rows.seqObj "list" vs.toArray 0)).get? h'.objs.size = some (PyProof.Rows.seqObj "list" vs.toArray 0):=Heap.get?_push_size _ rfl
 have hold:∀ out b o,h'.get? b = some o→(PyProof.Rows.sortedHeap (h'.push (PyProof.Rows.seqObj "list" vs.toArray 0)) h'.objs.size vs out).get? b = some o:=fun out b o z=>by
  have hb:=Heap.lt_size z
  rw [PyProof.Rows.sortedHeap_old (Nat.ne_of_lt hb) (by rw [PyProof.Rows.size_push'];exact Nat.lt_succ_of_lt hb)]
  exact Heap.get?_push_of_some _ z
 refine wpAny_bind (wpAny_holding (wpAny_call_entry (s:={ W.s with heap:=h'.push (PyProof.Rows.seqObj "list" vs.toArray 0),toks:=tk }) PyProof.Rows.slot_list_sort ⟨_,ho,rfl⟩ PyProof.Rows.entry_list_sort
  (hs h' tk vs _ _ hxl r fun out ro=>⟨_,rfl,?_⟩) (PyProof.Rows.args_list_sort _)))
 obtain ⟨e,he⟩:=PyProof.Rows.sortedHeap_at (out:=out.toArray) ho
 refine wpAny_pure ⟨_,rfl,q _ _ _ e ?_ ?_ (fun b o z=>hold _ b o (hk b o z)) rfl rfl he (ro.kept (hold _))⟩
 ·cases z:W.h.get? h'.objs.size with
  | none=>rfl
  | some o=>exact absurd (Heap.lt_size (hk _ _ z)) (Nat.lt_irrefl _)
 ·obtain ⟨_,ho⟩:=I.st;exact Heap.lt_size (hk _ _ (I.base _ _ ho))
end
end Mine
namespace Mine
open PySem PySem.SeqAt PySem.Spec PySem.W PySem.Calls
section
variable {T:Tp} {A:Around} {W:Wd} {own:Addr→Ow} {bt:List Addr} {h:Heap}
theorem a1L {xs:List AV} {vs:List Value} (r:VRs T own bt h xs vs):∀ {ns:List Int},p0 asInt xs = some ns→PyProof.Rows.IntsAre vs ns:=by
 induction r with
 | nil=>intro ns e;cases e;exact .nil
 | @cons x v xs vs a _ ih=>exact fun e=>a6w (P:=fun ns=>PyProof.Rows.IntsAre (v :: vs) ns) e fun n ns e1 e2=>a.asInt (P:=fun v=>PyProof.Rows.IntsAre (v :: vs) (n :: ns)) e1 fun t=>.cons _ _ (ih e2)
theorem b3L {vs:List Value} {ns:List Int} (r:PyProof.Rows.IntsAre vs ns):VRs T own bt h (ns.map .int) vs:=by
 induction r with
 | nil=>exact .nil
 | cons n t _ ih=>exact .cons (.int _ _) ih
structure a1c (vs:List Value) (ts:List (List Nat)):Prop where
 are:PyProof.Rows.StrsAre vs (ts.map tS)
 ok:∀ t∈ts,okS t
theorem a8E {xs:List AV} {vs:List Value} (r:VRs T own bt h xs vs):∀ {ts:List (List Nat)},p0 asStr xs = some ts→a1c vs ts:=by
 induction r with
 | nil=>intro ts e;cases e;exact ⟨.nil,fun _ h=>nomatch h⟩
 | @cons x v xs vs a _ ih=>exact fun e=>a6w (P:=fun ts=>a1c (v :: vs) ts) e fun s ts e1 e2=>a.asStr (P:=fun v=>a1c (v :: vs) (s :: ts)) e1 fun t q=>⟨.cons _ _ (ih e2).are,fun t ht=>(List.mem_cons.mp ht).elim (fun e=>e▸q) ((ih e2).ok t)⟩
theorem b0t {vs:List Value} {ts:List (List Nat)} (r:a1c vs ts):VRs T own bt h (ts.map .str) vs:=by
 induction ts generalizing vs with
 | nil=>obtain ⟨r,_⟩:=r;cases r;exact .nil
 | cons x ts ih =>
  obtain ⟨r,ok⟩:=r
  cases r
  exact .cons (.str _ (ok x (List.mem_cons_self ..))) (ih ⟨‹_›,fun t ht=>ok t (List.mem_cons_of_mem _ ht)⟩)
theorem a7i:∀ {ns:List Int},a5v ns = true→∀ (i:Nat) (a b:Int),ns[i]? = some a→ns[i + 1]? = some b→a < b
 | a :: b :: r,h,i,x,y,e1,e2=>by
  have h:=Bool.and_eq_true_iff.mp (show (decide (a < b) && a5v (b :: r)) = true from h)
  cases i with
  | zero=>cases e1;cases e2;exact of_decide_eq_true h.1
  | succ i=>exact a7i h.2 i x y e1 e2
 | [a],_,0,_,_,_,e2=>nomatch e2
 | [a],_,_ + 1,_,_,e1,_=>nomatch e1
 | [],_,_,_,_,e1,_=>nomatch e1
theorem b3r {vs:List Value} {ns:List Int} (h:PyProof.Rows.IntsAre vs ns):∀ i,i < vs.length→∃ a t,vs.getD i .none = .int a t∧ns[i]? = some a:=by
 induction h with
 | nil=>intro i hi;cases hi
 | cons n t _ ih =>
  intro i hi
  cases i with
  | zero=>exact ⟨n,t,rfl,rfl⟩
  | succ i=>exact ih i (Nat.lt_of_succ_lt_succ hi)
theorem b6g {vs:List Value} {ns:List Int} (h:PyProof.Rows.IntsAre vs ns) (hs:a5v ns = true) {i:Nat} (h1:1≤i) (h2:i < vs.length):∃ a t b u,vs.getD i .none = .int a t∧vs.getD (i - 1) .none = .int b u∧b < a:=by
 obtain ⟨a,t,e1,e2⟩:=b3r h i h2
 obtain ⟨b,u,e3,e4⟩:=b3r h (i - 1) (Nat.lt_of_le_of_lt (Nat.sub_le ..) h2)
 exact ⟨a,t,b,u,e1,e3,a7i hs (i - 1) b a e4 (by rw [Nat.sub_add_cancel h1];exact e2)⟩
noncomputable def a2g (T:Tp) (A:Around) (W:Wd) (val:Value) (ys:List AV):Prop:=b8 T A noX W (call (.builtin "sorted") [val]) (newList ys W.σ) (VW T)
theorem a7C {κ:PyProof.Rows.SortKind} (I:Inv T W) (hh:A.handled = none) {v:AV} {val:Value} {xs:List AV} (ra:W.V T v val) (hx:B5 W.σ v = some xs) (hn:newList xs W.σ≠.fail)
  (hs:∀ (s:Shared) (vs:List Value) (E:Value→Shared→Prop),VRs T W.own W.bt s.heap xs vs→2≤vs.length→a8W T.prog T.w A.in1.in1 E κ vs vs s):a2g T A W val xs :=
 a0U I hh ra hx hn fun h' tk vs P E hxl r q=>a2S (κ:=κ) (Heap.get?_push_size _ rfl) (by rw [r.length,← w5];exact hxl) rfl (fun _=>rfl)
  (fun h'' hk h2=>hs { W.s with heap:=h'',toks:=tk } vs E (r.kept fun a o e=>hk a o (Nat.ne_of_lt (Heap.lt_size e)) (Heap.get?_push_of_some _ e)) h2) (q _ r)
theorem b0E {prog:Program} {w:World} {s:Shared} {E:Value→Shared→Prop} {vs:List Value} {ns:List Int} (hI:PyProof.Rows.IntsAre vs ns) (h2:2≤vs.length) (Q:PyProof.Rows.SortKind→Shared→Prop) (q:Q PyProof.Rows.oneType' s):wpAny (model prog w) A (PyProof.Rows.keyKind' vs.toArray) Q E s:=by
 match vs,h2,hI with
 | v₁ :: v₂ :: rest,_,hI=>rw [PyProof.Rows.keyKind_ints hI];exact wpAny_pure q
 | [_],h2,_=>exact absurd h2 (by simp)
 | [],h2,_=>exact absurd h2 (by simp)
theorem a6h (I:Inv T W) (hh:A.handled = none) {v:AV} {val:Value} {xs ys:List AV} {ns:List Int} (ra:W.V T v val) (hx:B5 W.σ v = some xs) (hn:newList ys W.σ≠.fail) (hi:p0 asInt xs = some ns)
  (e:(if a5v ns then some xs else ifS (decide (ns.length < 64)) (some ((u7 ltI ns).map .int))) = some ys):a2g T A W val ys:=by
 cases hs:a5v ns with
 | true =>
  rw [hs] at e
  cases e
  refine a7C (κ:=PyProof.Rows.oneType') I hh ra hx hn fun s vs E r h2=>?_
  have hI:=a1L r hi
  refine .asc h2 (b0E hI h2) fun i h1 h3 C q=>?_
  obtain ⟨a,t,b,u,e1,e2,lt⟩:=b6g hI hs h1 h3
  rw [e1,e2,PyProof.Rows.keyLt'_oneType]
  exact PyProof.Rows.oneLt_int (by rw [decide_eq_false (Int.not_lt.mpr (Int.le_of_lt lt))];exact q)
 | false =>
  rw [hs] at e
  refine ifE e fun h64 e=>?_
  cases e
  refine a0U I hh ra hx hn fun h' tk vs P E hxl r q=>?_
  have hI:=a1L r hi
  refine PyProof.Rows.list_sort_tree (Heap.get?_push_size _ rfl) hI (by rw [PyProof.Rows.IntsAre.length hI];exact of_decide_eq_true h64) fun out ns' a1 a2 a3=>?_
  rw [a7k b7E a2 (a3.imp fun h=>decide_eq_false (Int.not_lt.mpr h))] at a1
  have:=q out.toList (b3L a1)
  rw [Array.toArray_toList] at this
  exact this
theorem a4A:∀ {l:List Str} {p:Str},PyProof.Rows.risingS p l = true→Up ltT ((p :: l).map fun x:Str=>x.cps.toList)
 | [],_,_=>List.pairwise_singleton _ _
 | x :: r,p,h=>by
  have h:=Bool.and_eq_true_iff.mp (show (!PySem.Spec.ltCps x.cps.toList p.cps.toList && PyProof.Rows.risingS x r) = true from h)
  have ih:=a4A h.2
  have h1:ltT x.cps.toList p.cps.toList = false:=by have:=h.1;rw [PyProof.Rows.ltCps_eq,Bool.not_eq_true'] at this;exact this
  exact List.pairwise_cons.mpr ⟨fun y hy=>(List.mem_cons.mp hy).elim (fun e=>e▸h1) fun hy=>b2M.trans h1 ((List.pairwise_cons.mp ih).1 y hy),ih⟩
theorem b1l {ss:List Str} {ts:List (List Nat)} (p:ss.Perm (ts.map tS)) (h:PyProof.Rows.sortedS ss = true):ss = (u7 ltT ts).map tS:=by
 have e:(ss.map fun x:Str=>x.cps.toList) = u7 ltT ts:=by
  refine a7k b2M ((p.map _).trans (.of_eq ?_)) ?_
  ·rw [List.map_map];exact List.map_id _
  ·cases ss with
   | nil=>exact .nil
   | cons x r=>exact a4A h
 rw [← e,List.map_map];exact (List.map_id _).symm
theorem a6G {prog:Program} {w:World} {s:Shared} {E:Value→Shared→Prop} {a:Addr} {vs:List Value} {ts:List (List Nat)} {n:Nat} {P:PySem.Fin→Shared→Prop} (ho:s.heap.get? a = some (PyProof.Rows.seqObj "list" vs.toArray n)) (hS:a1c vs ts) (h64:ts.length < 64)
  (q:∀ out,a1c out (u7 ltT ts)→P (.done (.ret .none)) { s with heap:=PyProof.Rows.sortedHeap s.heap a vs out.toArray }):wpAny (model prog w) A (Builtin.«list.sort» ⟨[.ref a],[]⟩) P E s:=by
 refine PyProof.Rows.list_sort_treeK PyProof.Rows.strKind_oneLt ho hS.are.keysOf (fun v₁ v₂ rest e=>PyProof.Rows.keyKind_strs (ss:=ts.map tS) (by rw [← e];exact hS.are)) (by rw [PyProof.Rows.StrsAre.length hS.are,List.length_map];exact h64) fun st' hp hs=>?_
 obtain ⟨ss',a1,a2,a3⟩:=PyProof.Rows.sorted_out_str hS.are hp hs
 rw [b1l a2 a3] at a1
 have:=q _ ⟨a1,fun t ht=>hS.ok t ((a2Q ts).mem_iff.mp ht)⟩
 rw [Array.toArray_toList] at this
 exact this
theorem a5h (I:Inv T W) (hh:A.handled = none) {v:AV} {val:Value} {xs:List AV} {ts:List (List Nat)} (ra:W.V T v val) (hx:B5 W.σ v = some xs) (hn:newList ((u7 ltT ts).map .str) W.σ≠.fail) (hi:p0 asStr xs = some ts) (h64:ts.length < 64):a2g T A W val ((u7 ltT ts).map .str) :=
 a0U I hh ra hx hn fun h' tk vs P E hxl r q=>a6G (Heap.get?_push_size _ rfl) (a8E r hi) h64 fun out ho=>q out (b0t ho)
end
end Mine
namespace Mine
open PySem PySem.SeqAt PySem.Spec PySem.W PySem.Calls
section
variable {α:Type} {lt:α→α→Bool} {key:Nat→α} {N:Nat} {cmp:Nat→Nat→(Bool→Shared→Prop)→Shared→Prop} {s:Shared} {p:Array Nat}
structure b8I (lt:α→α→Bool) (key:Nat→α) (N:Nat) (cmp:Nat→Nat→(Bool→Shared→Prop)→Shared→Prop) (s:Shared):Prop where
 o:a7s lt
 ans:∀ i j,i < N→j < N→∀ C:Bool→Shared→Prop,C (lt (key i) (key j)) s→cmp i j C s
 inj:∀ i j,i < N→j < N→key i = key j→i = j
noncomputable abbrev a0d (key:Nat→α) (p:Array Nat) (i:Nat):α:=key (p.getD i 0)
noncomputable def a1H (N:Nat) (p:Array Nat):Prop:=p.toList.Perm (List.range N)
theorem a5B {i x:Nat} (h:p[i]? = some x):p.getD i 0 = x:=by rw [Array.getD_eq_getD_getElem?,h];rfl
theorem a9w {q:Array Nat} {i j:Nat} (h:q[i]? = p[j]?):q.getD i 0 = p.getD j 0:=by rw [Array.getD_eq_getD_getElem?,h,← Array.getD_eq_getD_getElem?]
theorem a1H.size (h:a1H N p):p.size = N:=by have:=h.length_eq;rw [Array.length_toList,List.length_range] at this;exact this
theorem a1H.get (h:a1H N p) {i:Nat} (hi:i < N):∃ x,p[i]? = some x∧x < N:=by
 have hi:i < p.size:=h.size▸hi
 exact ⟨p[i],Array.getElem?_eq_getElem hi,List.mem_range.mp (h.mem_iff.mp (Array.getElem_mem_toList hi))⟩
theorem a1H.below (h:a1H N p) {i:Nat} (hi:i < N):p.getD i 0 < N:=let ⟨_,e,l⟩:=h.get hi;a5B e▸l
theorem a1H.inj (h:a1H N p) {i j:Nat} (hi:i < N) (hj:j < N) (e:p.getD i 0 = p.getD j 0):i = j:=by
 obtain ⟨x,e1,_⟩:=h.get hi
 obtain ⟨y,e2,_⟩:=h.get hj
 rw [a5B e1,a5B e2] at e
 rw [← Array.getElem?_toList] at e1 e2
 exact (List.getElem?_inj (List.getElem?_eq_some_iff.mp e1).1 (h.nodup_iff.mpr List.nodup_range)).mp (e1.trans (e▸e2.symm))
noncomputable abbrev Asc (lt:α→α→Bool) (key:Nat→α) (p:Array Nat) (m:Nat):Prop:=∀ i j,i < j→j < m→lt (a0d key p j) (a0d key p i) = false
noncomputable abbrev Dsc (lt:α→α→Bool) (key:Nat→α) (p:Array Nat) (m:Nat):Prop:=∀ i j,i < j→j < m→lt (a0d key p i) (a0d key p j) = false
theorem b8I.other (a:b8I lt key N cmp s) (h:a1H N p) {i j:Nat} (hi:i < N) (hj:j < N) (ne:i≠j) (e:lt (a0d key p i) (a0d key p j) = false):lt (a0d key p j) (a0d key p i) = true:=by
 cases z:lt (a0d key p j) (a0d key p i) with
 | true=>rfl
 | false=>exact absurd (h.inj hi hj (a.inj _ _ (h.below hi) (h.below hj) (a.o.anti e z))) ne
theorem a0c {i n:Nat} {P:Prop} (h:i < n + 1) (k:i < n→P) (k':i = n→P):P:=(Nat.lt_or_eq_of_le (Nat.le_of_lt_succ h)).elim k k'
theorem Asc.step (o:a7s lt) {n:Nat} (h:Asc lt key p (n + 1)) (e:lt (a0d key p (n + 1)) (a0d key p n) = false):Asc lt key p (n + 1 + 1):=fun i j q r =>
 a0c r (h i j q) fun z=>z▸a0c (z▸q) (fun y=>o.trans (h i n y (Nat.lt_succ_self n)) e) fun y=>y▸e
theorem Dsc.step (o:a7s lt) {n:Nat} (h:Dsc lt key p (n + 1)) (e:lt (a0d key p n) (a0d key p (n + 1)) = false):Dsc lt key p (n + 1 + 1):=fun i j q r =>
 a0c r (h i j q) fun z=>z▸a0c (z▸q) (fun y=>o.trans e (h i n y (Nat.lt_succ_self n))) fun y=>y▸e
theorem more {n f N:Nat} (h:n + (f + 1) = N):n < N:=h▸Nat.lt_add_of_pos_right (Nat.succ_pos f)
theorem next {n f N:Nat} (h:n + (f + 1) = N):n + 1 + f = N:=(Nat.add_right_comm n 1 f).trans h
theorem a1H.of (h:a1H N p) {q:Array Nat} (e:q.Perm p):a1H N q:=(Array.perm_iff_toList_perm.mp e).trans h
theorem Asc.one:Asc lt key p 1:=fun i j q r=>absurd (Nat.lt_of_lt_of_le q (Nat.le_of_lt_succ r)) (Nat.not_lt_zero i)
end
section
variable {α:Type} {lt:α→α→Bool} {cmp:Nat→Nat→(Bool→Shared→Prop)→Shared→Prop} {s:Shared}
end
end Mine
namespace Mine
open PySem PySem.SeqAt PySem.Spec PySem.W PySem.Calls
section
variable {T:Tp} {A:Around} {W:Wd}
theorem a6C (I:Inv T W) (hh:A.handled = none) {v:AV} {val:Value} (ra:W.V T v val) (hn:a5F v W.σ≠.fail):b8 T A noX W (call (.builtin "sorted") [val]) (a5F v W.σ) (VW T) :=
 b8.ofO hn fun ys e hn=>o5 e fun xs hx e=>show a2g T A W val ys from
  orE e (fun ns hi e=>a6h I hh ra hx hn hi e)
   fun _ e=>orE e (fun ts hi e=>ifE e fun h64 e=>E6 (P:=fun ys=>newList ys W.σ≠.fail→a2g T A W val ys) e (fun hn=>a5h I hh ra hx hn hi (of_decide_eq_true h64)) hn) fun _ e=>nomatch e
end
end Mine
namespace Mine
open PySem PySem.SeqAt PySem.Spec PySem.W PySem.Calls
section
variable {T:Tp} {A:Around} {W:Wd} {env:Env}
theorem b8.grown {t:Sem Value} {a:AV} (I:Inv T W) (h:∀ Q E,(∀ v h' k,(∀ c o,W.h.get? c = some o→h'.get? c = some o)→VR T W.own W.bt h' a v→Q v { W.s with heap:=h',toks:=k })→wpAny T.M A t Q E W.s) :
  b8 T A noX W t (.ok a W.σ) (VW T) :=
 b8.ok (h _ _ fun v h' k hk r=>(fun g=>⟨{ W with s:={ W.s with heap:=h',toks:=k } },rfl,rfl,And.left g,And.right g,r⟩:_∧_→_) (I.grow (s':={ W.s with heap:=h',toks:=k }) hk rfl rfl))
noncomputable def biV:Bi→Value
 | .len=>.builtin "len"
 | .ord=>.builtin "ord"
 | .range=>.type "range"
 | .min=>.builtin "min"
 | .sum=>.builtin "sum"
 | .all=>.builtin "all"
 | .sorted=>.builtin "sorted"
 | .list=>.type "list"
 | .tuple=>.type "tuple"
 | .int=>.type "int"
 | .str=>.type "str"
 | .max=>.builtin "max"
theorem a9M (b:Bi):T0 T (biV b):=by
 cases b<;>first|exact w6 _|exact a6s _
theorem a4r:∀ (r:List Int) (a:Int),a0J a r∈a :: r∧∀ x∈a :: r,a0J a r≤x
 | [],a=>⟨List.mem_singleton.mpr rfl,fun x hx=>Int.le_of_eq (List.mem_singleton.mp hx).symm⟩
 | b :: r,a=>by
  obtain ⟨h1,h2⟩:=a4r r (if b < a then b else a)
  show a0J (if b < a then b else a) r∈_∧∀ x∈_,a0J (if b < a then b else a) r≤x
  generalize a0J (if b < a then b else a) r = m at h1 h2
  have h3:=h2 _ (List.mem_cons_self ..)
  have h4:m≤a∧m≤b:=by split at h3<;>lia
  refine ⟨(List.mem_cons.mp h1).elim (fun q=>?_) fun q=>List.mem_cons_of_mem _ (List.mem_cons_of_mem _ q),fun x hx=>(List.mem_cons.mp hx).elim (fun e=>e▸h4.1) fun hx=>(List.mem_cons.mp hx).elim (fun e=>e▸h4.2) fun hx=>h2 x (List.mem_cons_of_mem _ hx)⟩
  rw [q]
  split
  ·exact List.mem_cons_of_mem _ (List.mem_cons_self ..)
  ·exact List.mem_cons_self ..
theorem a5w {l:Addr} {vs:List Value} {ns:List Int} {Q:Value→Shared→Prop} {E:Value→Shared→Prop} {s:Shared} (hh:A.handled = none) (hl:s.heap.IsList l vs.toArray) (hi:PyProof.Rows.IntsAre vs ns) (hne:0 < ns.length)
  (h:∀ h' M (t:Tok) tk,(∀ c o,s.heap.get? c = some o→h'.get? c = some o)→M∈ns→(∀ a,a∈ns→M≤a)→Q (.int M t) { s with heap:=h',toks:=tk }) :
  wpAny T.M A (call (.builtin "min") [.ref l]) Q E s:=by
 obtain ⟨xs,e⟩:=hi.allInts.items
 have hns:ns = xs.toList.map (·.1):=by
  rw [← hi.numsOf,← nums_intItems,← e]
 have hsz:0 < xs.size:=by
  have h3:=hne;rw [hns,List.length_map,Array.length_toList] at h3;exact h3
 rw [e] at hl
 refine min_intList hh hl hsz fun v h' tk hv hk=>?_
 obtain ⟨t,rfl⟩:=intItems_at hv
 obtain ⟨h1,h2⟩:=argBest_lt (numAt xs) (xs.size - 1)
 refine h _ _ t tk hk ?_ fun a ha=>?_
 ·rw [hns,numAt_eq];exact getD_mem (by rw [List.length_map,Array.length_toList];exact Nat.lt_of_le_pred hsz h1)
 ·rw [hns] at ha
  obtain ⟨j,hj,rfl⟩:=mem_getD ha
  rw [List.length_map,Array.length_toList] at hj
  rw [← numAt_eq]
  exact h2 j (by exact ((Nat.le_sub_one_iff_lt hsz).mpr) hj)
theorem a6F (I:Inv T W) {a b:Int} {t:Sem Value} (hn:b4b a b W.σ≠.fail) (h:∀ Q E,(∀ x y z k,Q (.ref W.s.heap.objs.size) { W.s with heap:=W.s.heap.push { cls:=.type "range",data:=.fields #[.int a x,.int b y,.int 1 z] },toks:=k })→wpAny T.M A t Q E W.s) :
  b8 T A noX W t (b4b a b W.σ) (VW T) :=
 b8.ifO hn fun c _=>b8.grown I fun Q E q=>h Q E fun x y z k=>q _ _ _ (fun c o e=>Heap.get?_push_of_some _ e) (.rng (Heap.get?_push_size _ rfl) (r7 I (y5 _)) (of_decide_eq_true c).1 (of_decide_eq_true c).2.1 (of_decide_eq_true c).2.2.1 (of_decide_eq_true c).2.2.2)
structure b4F (T:Tp) (W:Wd) (xs:List AV) (a:Addr) (vs:List Value):Prop where
 is:W.h.IsList a vs.toArray
 vals:W.Vs T xs vs
theorem LAt.arg {xs:List AV} {a:Addr} (l:LAt T W xs a):∃ vs,b4F T W xs a vs:=by
 obtain ⟨vs,n,h1,h2,_⟩:=l
 exact ⟨vs.toList,⟨_,h1,rfl,n,by simp⟩,h2⟩
theorem b2B {own:Addr→Ow} {bt:List Addr} {h:Heap} {xs:List AV} {vs:List Value} (r:VRs T own bt h xs vs):∀ {bs:List Bool},p0 asBool xs = some bs→PyProof.Rows.LSm.BoolsAre vs bs:=by
 induction r with
 | nil=>intro ns e;cases e;exact .nil
 | @cons x v xs vs a _ ih=>exact fun e=>a6w (P:=fun bs=>PyProof.Rows.LSm.BoolsAre (v :: vs) bs) e fun b bs e1 e2=>a.asBool (P:=fun v=>PyProof.Rows.LSm.BoolsAre (v :: vs) (b :: bs)) e1 (.cons _ (ih e2))
theorem a9K {s:Shared} {l:Addr} {vs:List Value} {bs:List Bool} {Q:Value→Shared→Prop} {E:Value→Shared→Prop} (hh:A.handled = none) (hl:s.heap.IsList l vs.toArray) (hb:PyProof.Rows.LSm.BoolsAre vs bs)
  (h:∀ h' tk,(∀ b o,s.heap.get? b = some o→h'.get? b = some o)→Q (.bool (bs.all id)) { s with heap:=h',toks:=tk }):wpAny T.M A (call (.builtin "all") [.ref l]) Q E s:=by
 have hlt:l < s.heap.objs.size:=by obtain ⟨_,e,_⟩:=hl;exact Heap.lt_size e
 refine call_all_walk (wpAny_pyIter_list hl ?_)
 refine ⟨s.heap.objs.size,[s.heap.objs.size,l],[s.heap.objs.size],vs.toArray.size,_,_,fun i=>(bs[i]?).getD true,rfl,Walks.list (A:=A.in1) hh _ l (Nat.ne_of_lt hlt) vs.toArray,
  ⟨⟨_,Heap.get?_push_size _ rfl,rfl,rfl⟩,hl.push _⟩,fun i v s' Q' E' hP hQ=>?_,fun h' tk hk=>?_⟩
 ·obtain ⟨b,e,rfl⟩:=hb.get i v (by simpa using hP)
  simp only [e,Option.getD_some] at hQ
  exact wpAny_truthy_bool hQ
 ·have e:((List.range vs.toArray.size).all fun i=>(bs[i]?).getD true) = bs.all id:=by
   rw [List.size_toArray,hb.length];exact PyProof.Rows.LSm.range_all bs
  rw [e]
  exact h h' tk (PyProof.Rows.LSm.kept_iter hk)
theorem b2y {s:Shared} {l:Addr} {vs:List Value} {ns:List Int} {Q:Value→Shared→Prop} {E:Value→Shared→Prop} (hh:A.handled = none) (hl:s.heap.IsList l vs.toArray) (hi:PyProof.Rows.IntsAre vs ns)
  (h:∀ h' tk t',(∀ b o,s.heap.get? b = some o→h'.get? b = some o)→Q (.int ns.sum t') { s with heap:=h',toks:=tk }):wpAny T.M A (call (.builtin "sum") [.ref l]) Q E s:=by
 obtain ⟨xs,hx⟩:=hi.allInts.items
 have hl':s.heap.IsList l (intItems xs):=hx▸hl
 refine sum_intListG hh hl' fun h' tk t' hk=>?_
 have e1:ns = xs.toList.map (·.1):=by
  rw [← nums_intItems,← hx]
  exact (show numsOf vs.toArray.toList = ns from hi.numsOf).symm
 have e2:preSum (numAt xs) xs.size = ns.sum:=by
  rw [preSum_eq,List.take_of_length_le (by simp),e1]
 rw [e2]
 exact h h' tk t' hk
theorem b1a (I:Inv T W) (hh:A.handled = none) {v:AV} {val:Value} (ra:W.V T v val) {xs:List AV} (hx:B5 W.σ v = some xs) (hn:newList xs W.σ≠.fail):b8 T A noX W (call (.type "list") [val]) (newList xs W.σ) (VW T) :=
 orE hx (fun ys e1 e=>E6 (P:=fun xs=>newList xs W.σ≠.fail→b8 T A noX W (call (.type "list") [val]) (newList xs W.σ) (VW T)) e (fun hn=>I.listE (P:=fun val=>b8 T A noX W (call (.type "list") [val]) _ (VW T)) e1 ra fun a l=>by
   obtain ⟨vs,n,h1,h2,h3⟩:=l
   exact b8.newAt I hn fun _ Q E q=>call_list_seq (hsz:=by rw [B2 h2,sizeLine_eq];exact h3) _ (.inl rfl) h1 rfl rfl fun h' c' hk hD=>q _ _ _ c' (y5 _) I.high hk rfl rfl hD (h2.kept hk)) hn)
  fun _ e=>E0 (P:=fun xs=>newList xs W.σ≠.fail→b8 T A noX W (call (.type "list") [val]) (newList xs W.σ) (VW T)) e (fun p e1 hn=>I.dictE (P:=fun val=>b8 T A noX W (call (.type "list") [val]) _ (VW T)) e1 ra fun d D=>by
   obtain ⟨arr,n,h1,h2,h3⟩:=D
   have hl:=h2.en.length
   rw [Array.length_toList] at hl
   exact b8.newAt I hn fun _ Q E q=>kdl_call (a9D h3) hh h1 (by rw [hl,← w5];exact h2.len) fun h' tk acc' c' hk hD hacc=>q _ _ _ c' (y5 _) I.high hk rfl rfl hD ((a4G h2 hacc).kept hk)) hn
theorem b4J {d:Addr} {arr:Array DictEntry} {n:Nat} {s:Shared} {Q:Value→Shared→Prop} {E:Value→Shared→Prop} (hd:(d == sysModules) = false) (ho:s.heap.get? d = some (W8 arr n)) (hfit:(arr.size:Int) < 2 ^ 63) (h:∀ t k,Q (.int arr.size t) { s with toks:=k }):wpAny T.M A (call (.builtin "len") [.ref d]) Q E s:=by
 have hT:s.TypeIs (.ref d) "dict":=⟨_,ho,rfl⟩
 refine call_function_entry kind_len plain_len entry_len (args_len1 _) ?_
 unfold Builtin.«len»
 refine wpAny_bind (m:=oneArg "len" _) (wpAny_pure ?_)
 refine wpAny_bind (m:=callSpecial? (.ref d) (Str.ofString "__len__")) (wpAny_callSpecial?_slot (name:=Str.ofString "__len__") hT F.slot_dict_len (wpAny_call_entry F.slot_dict_len hT F.entry_dict_len ?_ (F.args_dict_len_1 _)))
 show wpAny _ _ (dictSize d >>= _) _ _ s
 unfold dictSize
 refine wpAny_bind (wpAny_bind (wpAny_dictEntries ho rfl (wpAny_pure ?_)))
 show wpAny _ _ (Builtin.Dict.pendingCount d >>= _) _ _ s
 refine wpAny_bind (wpAny_pendingCount_other hd ?_)
 refine wpAny_ret_mkInt ?_
 refine wpAny_bind (wpAny_holding (wpAny_pure (wpAny_bind (wpAny_letGo ?_))))
 show wpAny _ _ (if ((arr.size:Nat):Int) < 0 then _ else if ((arr.size:Nat):Int) ≥ 2 ^ 63 then _ else _) _ _ _
 rw [if_neg (Int.not_lt.mpr (Int.natCast_nonneg _)),if_neg (Int.not_le.mpr hfit)]
 exact wpAny_bind (wpAny_mkInt (wpAny_pure ⟨_,rfl,h _ _⟩))
noncomputable def N7 (T:Tp) (A:Around) (W:Wd) (val:Value) (n:Nat):Prop:=b8 T A noX W (call (.builtin "len") [val]) (.ok (.int n) W.σ) (VW T)
theorem b5o (I:Inv T W) {v:AV} {val:Value} {xs:List AV} (r:W.V T v val) (e:a4t W.σ v = some xs):N7 T A W val xs.length :=
 orE e (fun ys e1 e=>E6 (P:=fun xs=>N7 T A W val xs.length) e (r.asTup (P:=fun val=>N7 T A W val ys.length) e1 fun b o vs n t=>b8.keep I fun Q E q=>PyProof.Rows.len_tuple ⟨_,t.get,t.cls,n,t.data⟩ (by rw [t.size];exact B9 t.len) (by rw [t.size];exact q _ _ (.int _ _))))
  fun _ e=>I.listE (P:=fun val=>N7 T A W val xs.length) e r fun a l=>by
   obtain ⟨vs,n,h1,h2,h3⟩:=l
   have z:=B2 h2
   exact b8.keep I fun Q E q=>PyProof.Rows.len_list ⟨_,h1,rfl,n,rfl⟩ (by rw [z];exact B9 h3) (by rw [z];exact q _ _ (.int _ _))
theorem a3f (I:Inv T W) {d:Addr} {ep:Option Nat} {es:List (AV×AV)} (D:DAt T W ep es d):N7 T A W (.ref d) es.length:=by
 obtain ⟨arr,n,h1,h2,h3⟩:=D
 have hl:=h2.en.length
 rw [Array.length_toList] at hl
 exact b8.keep I fun Q E q=>b4J h3 h1 (by rw [hl];exact B9 h2.len) fun t k=>by rw [hl];exact q _ _ (.int _ _)
theorem b3s (I:Inv T W) {v:AV} {val:Value} (r:W.V T v val) {n:Nat} (e:b4E v W.σ = some n):N7 T A W val n :=
 orE e (fun s e1 e=>E6 (P:=fun n=>N7 T A W val n) e (r.asStr (P:=fun val=>N7 T A W val s.length) e1 fun t ok=>b8.keep I fun Q E q=>P.len_str (by rw [k9];exact Int.not_le.mpr (B9 ok.2)) (by rw [k9];exact q _ _ (.int _ _))))
  fun _ e=>orE e (fun ns e1 e=>E6 (P:=fun n=>N7 T A W val n) e (r.asScr (P:=fun val=>N7 T A W val ns.length) e1 fun b o vs n t=>b8.keep I fun Q E q=>PyProof.Rows.len_list ⟨_,I.base _ _ t.get,t.cls,n,t.data⟩ (by rw [t.size];exact B9 t.len) (by rw [t.size];exact q _ _ (.int _ _))))
   fun _ e=>orE e (fun xs e1 e=>E6 (P:=fun n=>N7 T A W val n) e (b5o I r e1))
    fun _ e=>E0 (P:=fun n=>N7 T A W val n) e fun p e1=>I.dictE (P:=fun val=>N7 T A W val p.2.length) e1 r fun d D=>a3f I D
noncomputable def R5 (T:Tp) (A:Around) (W:Wd) (b:Bi) (vals:List Value) (r:Out AV):Prop:=b8 T A noX W (call (biV b) vals) r (VW T)
theorem b5X (I:Inv T W) {v:AV} {val:Value} {c:Nat} (r:W.V T v val) (e:(asStr v).bind one = some c):R5 T A W .ord [val] (.ok (.int c) W.σ) :=
 o5 e fun s e1 e2=>r.asStr (P:=fun val=>R5 T A W .ord [val] (.ok (.int c) W.σ)) e1 fun t _=>by
  match s,e2 with
  | [c],e2=>cases e2;exact b8.keep I fun Q E q=>P.ord_of_char (q _ _ (.int _ _))
theorem b6w (I:Inv T W) (hh:A.handled = none) {v:AV} {val:Value} {i:Int} (r:W.V T v val) (e:(a2o W.σ v).bind b7r = some i):R5 T A W .min [val] (.ok (.int i) W.σ) :=
 o5 e fun ns e1 e2=>o5 e1 fun xs e1 e3=>I.listE (P:=fun val=>R5 T A W .min [val] (.ok (.int i) W.σ)) e1 r fun a l=>by
  cases ns with
  | nil=>cases e2
  | cons n ns =>
   cases e2
   obtain ⟨vs,h1,h2⟩:=l.arg
   refine b8.grown I fun Q E q=>a5w hh h1 (a1L h2 e3) (Nat.succ_pos _) fun h' M t tk hk hm hle=>?_
   obtain ⟨g1,g2⟩:=a4r ns n
   rw [Int.le_antisymm (hle _ g1) (g2 _ hm)]
   exact q _ _ _ hk (.int _ _)
theorem b6Q (I:Inv T W) (hh:A.handled = none) {v:AV} {val:Value} {ns:List Int} (r:W.V T v val) (e:a2o W.σ v = some ns):R5 T A W .sum [val] (.ok (.int ns.sum) W.σ) :=
 o5 e fun xs e1 e3=>I.listE (P:=fun val=>R5 T A W .sum [val] (.ok (.int ns.sum) W.σ)) e1 r fun a l=>l.arg.elim fun vs h=>b8.grown I fun Q E q=>b2y hh h.is (a1L h.vals e3) fun h' tk t' hk=>q _ _ _ hk (.int _ _)
theorem b5U (I:Inv T W) (hh:A.handled = none) {v:AV} {val:Value} {bs:List Bool} (r:W.V T v val) (e:(o6 W.σ v).bind (p0 asBool) = some bs):R5 T A W .all [val] (.ok (.bool (bs.all id)) W.σ) :=
 o5 e fun xs e1 e3=>I.listE (P:=fun val=>R5 T A W .all [val] (.ok (.bool (bs.all id)) W.σ)) e1 r fun a l=>l.arg.elim fun vs h=>b8.grown I fun Q E q=>a9K hh h.is (b2B h.vals e3) fun h' tk hk=>q _ _ _ hk (.bool _)
theorem b2b (I:Inv T W) {a:Addr} {xs:List AV} (l:LAt T W xs a):R5 T A W .tuple [.ref a] (.ok (.tup xs) W.σ):=by
 obtain ⟨vs,n,h1,h2,h3⟩:=l
 refine b8.grown I fun Q E q=>call_tuple_list ⟨_,h1,rfl,n,rfl⟩ (fun h' hk=>?_) (by rw [B2 h2,← w5];exact h3)
 have hk':∀ b o,W.h.get? b = some o→(h'.push { cls:=.type "tuple",data:=.seq vs }).get? b = some o:=fun b o e=>Heap.get?_push_of_some _ (hk b o e)
 refine q _ _ W.s.toks hk' (.tup (Heap.get?_push_size _ rfl) rfl rfl (r7 I ?_) h3 (B2 h2) fun i x v ex ev=>?_)
 ·cases z:W.h.get? h'.objs.size with
  | none=>rfl
  | some o=>exact absurd (Heap.lt_size (hk _ _ z)) (Nat.lt_irrefl _)
 ·obtain ⟨w,e1,e2⟩:=(h2.kept hk').get ex
  rw [Array.getElem?_toList,ev] at e1
  cases e1
  exact e2
theorem b7h (I:Inv T W) {v:AV} {val:Value} {i:Int} (r:W.V T v val) (e:asInt v = some i) (c:(decide (i.natAbs.log2 < 1920) && (l9 i).all fun c=>decide (c < 128)) = true):R5 T A W .str [val] (.ok (.str (l9 i)) W.σ) :=
 r.asInt (P:=fun val=>R5 T A W .str [val] (.ok (.str (l9 i)) W.σ)) e fun t=>by
  have c:=Bool.and_eq_true_iff.mp c
  have hi:i.natAbs.log2 < 1920:=of_decide_eq_true c.1
  refine b8.keep I fun Q E q=>P.str_of_int hi ?_
  have:=q (.str (tS (l9 i)) W.s.toks) (W.s.toks + 1) (.str _ ⟨fun d hd=>of_decide_eq_true (List.all_eq_true.mp c.2 d hd),by rw [← k9];exact int_text_fits hi⟩)
  exact this
theorem b1N (I:Inv T W) (hh:A.handled = none) {b:Bi} {v:AV} {val:Value} (r:W.V T v val) (hn:bi1 b v W.σ≠.fail):R5 T A W b [val] (bi1 b v W.σ):=by
 cases b with
 | len=>exact b8.ofO hn fun n e _=>b3s I r e
 | ord=>exact b8.ofO hn fun c e _=>b5X I r e
 | range=>exact b8.ofO hn fun i e hn=>r.asInt (P:=fun val=>R5 T A W .range [val] _) e fun t=>a6F I hn fun Q E q=>call_range_1 (q _ _ _ _)
 | min=>exact b8.ofO hn fun c e _=>b6w I hh r e
 | sum=>exact b8.ofO hn fun c e _=>b6Q I hh r e
 | all=>exact b8.ofO hn fun c e _=>b5U I hh r e
 | sorted=>exact a6C I hh r hn
 | list=>exact b8.ofO hn fun xs e hn=>b1a I hh r e hn
 | int=>exact b8.ofO hn fun b e _=>r.asBool (P:=fun val=>R5 T A W .int [val] _) e (b8.keep I fun Q E q=>call_int_bool (q _ _ (.int _ _)))
 | str=>exact b8.ofO hn fun i e hn=>b8.ifO hn fun c _=>b7h I r e c
 | max=>exact absurd rfl hn
 | tuple=>exact b8.ofO hn fun xs e hn=>b8.ifO hn fun _ _=>I.listE (P:=fun val=>R5 T A W .tuple [val] _) e r fun a l=>b2b I l
theorem b1I (I:Inv T W) (hh:A.handled = none) {b:Bi} {v w:AV} {val wal:Value} (r:W.V T v val) (q:W.V T w wal) (hn:bi2 b v w W.σ≠.fail):R5 T A W b [val,wal] (bi2 b v w W.σ):=by
 cases b with
 | range=>exact z7 (t:=fun a b=>call (biV .range) [a,b]) r q hn fun x y u w hn=>a6F I hn fun Q E q=>call_range_2 (q _ _ _ _)
 | min =>
  exact z7 (t:=fun a b=>call (biV .min) [a,b]) r q hn fun x y u w _=>b8.grown I fun Q E q=>min_two_ints hh fun h' tk hk=>by
   split
   ·rename_i z;rw [if_pos z] at q;exact q _ _ _ hk (.int _ _)
   ·rename_i z;rw [if_neg z] at q;exact q _ _ _ hk (.int _ _)
 | max =>
  exact z7 (t:=fun a b=>call (biV .max) [a,b]) r q hn fun x y u w _=>b8.grown I fun Q E q=>max_two_ints hh fun h' tk hk=>by
   split
   ·rename_i z;rw [if_pos z] at q;exact q _ _ _ hk (.int _ _)
   ·rename_i z;rw [if_neg z] at q;exact q _ _ _ hk (.int _ _)
 | _=>exact absurd rfl hn
theorem b1L (I:Inv T W) (hh:A.handled = none) {b:Bi} {as:List AV} {vals:List Value} (r:W.Vs T as vals) (hn:biA b as W.σ≠.fail):R5 T A W b vals (biA b as W.σ):=by
 cases r with
 | nil=>exact absurd rfl hn
 | cons ra rr =>
  cases rr with
  | nil=>exact b1N I hh ra hn
  | cons rb rr =>
   cases rr with
   | cons _ _=>exact absurd rfl hn
   | nil=>exact b1I I hh ra rb hn
end
end Mine
set_option maxRecDepth 100000
namespace Mine
open PySem PySem.W PySem.Spec PySem.Calls PyProof.Rows Builtin Builtin.ObjectAttr Builtin.Getset_descriptor
section
variable {prog:Program} {w:World} {A:Around} {E:Value→Shared→Prop} {s:Shared} {K:Frag} {x C D:Addr}
theorem a6y {tp:Value} {R:Result→Shared→Prop} (X:K.In s.heap) (L0:Looks (model prog w) s.heap (typeOf (.ref x)) (.ref D)) (hm:mroIn K D (.type "object") = some true)
  (h:R (.ok (.ret (.ref D))) s):codeAny (model prog w) A (.call (.builtin "getset_descriptor.__get__") ⟨[.builtin "object.__class__",.ref x,tp],[]⟩) R s:=by
 obtain ⟨hh,g,dr,t,os⟩:=s
 have L1:=looks_mroIn (M:=model prog w) X hm
 refine codeAny_call_builtin KF.slot_gs.plain KF.entry_gs (KF.slot_gs.check _ _ _ _ _ _ _ _ KF.type_class (KF.args_gs _ _ _) ?_)
 unfold Builtin.«getset_descriptor.__get__» descrGet
 rw [dga_obj]
 refine wpAny_bind (wpAny_pure ?_)
 unfold descrGetter descrCheckInstance descrNameAndClass isInstance
 simp only [KF.owner_class]
 repeat lk
 refine ⟨Code.quiet_builtin _ (by decide +kernel),codeAny_builtin KF.entry_class ?_⟩
 unfold Builtin.«object.__class__» shownTypeOf
 repeat lk
 exact h
variable (hg:findIn K (.ref D) "__getattribute__" = some (some (.builtin "BaseException.__getattribute__"))∧findIn K (.ref D) "__getattr__" = some none∧mroIn K D (.type "BaseException") = some true) (ha:findIn K (.ref D) "__class__" = some (some (.builtin "object.__class__")))
 (hn:specialIn K (.builtin "object.__class__") "__get__" = some (some (.builtin "getset_descriptor.__get__"))) (htk:takesIn K (.builtin "object.__class__") = some true) (hm:mroIn K D (.type "object") = some true)
include hg ha hn htk hm
theorem b4n {Q:Option Value→Shared→Prop} (X:K.In s.heap) (L0:Looks (model prog w) s.heap (typeOf (.ref x)) (.ref D)) (h:Q (some (.ref D)) { s with toks:=s.toks + 1 }):wpAny (model prog w) A (getAttr? (.ref x) "__class__") Q E s:=by
 obtain ⟨hg1,hg2,hg3⟩:=hg
 have L1:=looks_findIn (M:=model prog w) X hg1
 have L2:=looks_findIn (M:=model prog w) X hg2
 have LS:Looks (model prog w) s.heap (isInstance (.ref x) (.type "BaseException")) true:=L0.andThen (looks_mroIn X hg3)
 have LF:Looks (model prog w) s.heap (find (.ref x) (.ref D) "__class__") (.bind (.builtin "getset_descriptor.__get__") (.builtin "object.__class__")) :=
  (looks_findIn X ha).andThen ((looks_specialIn X hn).andThen ((show Looks (model prog w) s.heap (dataDescriptor? (some (.builtin "object.__class__")) (some (.builtin "getset_descriptor.__get__"))) (some (.builtin "getset_descriptor.__get__",.builtin "object.__class__")) from (looks_takesIn X htk).andThen .now).andThen (Looks.tag .now)))
 obtain ⟨hh,g,d,t,os⟩:=s
 unfold getAttr? getAttrBy? getAttrBy
 refine wpAny_bind (wpAny_mkText (wpAny_bind (wpAny_attempt (wpAny_holding (wpAny_bind (L0.at (wpAny_bind (L1.at ?_))))))))
 dsimp only
 rw [if_neg (by rw [Bool.and_eq_true];rintro ⟨_,q⟩;injection (beq_iff_eq.mp q) with z;exact absurd z (by decide))]
 unfold getAttrByItsOwn
 refine wpAny_bind (L2.at (wpAny_bind (wpAny_attempt (wpAny_holding ?_))))
 unfold callGetattribute boundAndCalled
 rw [if_neg (by decide),F.excAttr_ValueError.ga.bind (.ref x)]
 refine wpAny_bind (wpAny_pure (wpAny_call (codeAny_call_builtin F.excAttr_ValueError.ga.plain F.entry_bexc_ga (@check_slot (model prog w) _ _ _ "BaseException.__getattribute__" "BaseException" "__getattribute__" (.ref x) [.str "__class__" t] [] _ (by decide +kernel) (by decide +kernel) LS (F.args_bexc_ga _ _) ?_))))
 unfold Builtin.«object.__getattribute__»
 refine wpAny_bind (wpAny_pure (wpAny_bind (wpAny_pure (wpAny_bind (L0.at (wpAny_bind (LF.at ?_)))))))
 show wpAny _ _ (holding [Value.builtin "object.__class__"] (call (.builtin "getset_descriptor.__get__") [.builtin "object.__class__",.ref x,.ref D]) >>= ret) _ _ _
 refine wpAny_bind (wpAny_holding (wpAny_call (a6y (s:=⟨hh,g,d,t + 1,os⟩) X L0 hm ?_)))
 refine wpAny_pure ?_
 exact handed_on rfl (wpAny_pure h)
theorem b2c {c:Value} {dep:Int} {tk:Tok} {Q:Fin→Shared→Prop} (X:K.In s.heap) (L0:Looks (model prog w) s.heap (typeOf (.ref x)) (.ref D)) (hD:(clsIn K D).isSome = true) (hty:Looks (model prog w) s.heap (typeOf c) (.type "type")) (his:Looks (model prog w) s.heap (isType c) true)
  (hne:(Value.ref D == c) = false) (hsub:Looks (model prog w) s.heap (isSubtype (.ref D) c) false) (h:Q (.done (.ret (.bool false))) { s with toks:=s.toks + 1 }) :
  wpAny (model prog w) A (Builtin.«isinstance.nested» ⟨[.ref x,c,.int dep tk],[]⟩) Q E s:=by
 obtain ⟨cdD,hcD⟩:=Option.isSome_iff_exists.mp hD
 have hisD:Looks (model prog w) s.heap (isType (.ref D)) true:=by
  unfold clsIn at hcD
  split at hcD
  ·rename_i c' d' cd' sl' ho
   intro A' Q' E' s' k q
   unfold isType loadHead
   exact wpAny_bind (wpAny_loadPart (k _ _ (X _ _ ho)) (wpAny_pure q))
  ·cases hcD
 obtain ⟨h0,g,d,tt,os⟩:=s
 have LI:Looks (model prog w) h0 (isInstance (.ref x) c) false:=L0.andThen hsub
 unfold Builtin.«isinstance.nested»
 refine wpAny_bind (L0.at ?_)
 rw [if_neg (fun q=>by rw [hne] at q;exact Bool.noConfusion q)]
 refine wpAny_bind (hty.at ?_)
 rw [if_pos (by decide)]
 k_delta "plainIsInstance"
 refine wpAny_bind (wpAny_bind (his.at ?_))
 simp only [Bool.not_true,Bool.false_eq_true,if_false]
 refine wpAny_bind (LI.at ?_)
 simp only [Bool.false_eq_true,if_false]
 refine wpAny_bind (b4n hg ha hn htk hm X L0 ?_)
 refine wpAny_bind (hisD.at ?_)
 simp only [Bool.not_true,Bool.false_eq_true,if_false]
 refine wpAny_bind (wpAny_rule ?_)
 refine hsub.at ?_
 first
  | exact wpAny_pure h
  | exact wpAny_pure (wpAny_pure h)
  | exact wpAny_bind (wpAny_pure (wpAny_pure h))
theorem b7V {ox:Obj} {Q:Value→Shared→Prop} (X:K.In s.heap) (hx:s.heap.get? x = some ox) (hc:ox.cls = .ref D) (hD:(clsIn K D).isSome = true) (e:kin_not K D C = true) (h:Q (.bool false) { s with toks:=s.toks + 1 }) :
  wpAny (model prog w) A (call (.builtin "isinstance") [.ref x,.ref C]) Q E s:=by
 unfold kin_not at e
 rw [Bool.and_eq_true,Bool.and_eq_true,Bool.and_eq_true] at e
 obtain ⟨⟨⟨e0,e1⟩,e2⟩,e3⟩:=e
 refine call_isinstance (S:=fun _ R s=>(K.In s.heap∧s.heap.get? x = some ox)∧R (.ok (.ret (.bool false))) { s with toks:=s.toks + 1 })
  (fun _ _ _ _ _ hs=>isinstance_outer (b2c hg ha hn htk hm hs.1.1 (hc▸(Looks.ld hs.1.2).andThen .now) hD (looks_typeIn hs.1.1 (beq_iff_eq.mp e2)) ?_ ?_ (looks_subIn hs.1.1 (beq_iff_eq.mp e3)) hs.2) (by intro q;cases q)) ⟨⟨X,hx⟩,h⟩
 ·unfold clsIn at e1
  split at e1
  ·rename_i c' d' cd' sl' ho
   intro A' Q' E' s' k q
   unfold isType loadHead
   exact wpAny_bind (wpAny_loadPart (k _ _ (hs.1.1 _ _ ho)) (wpAny_pure q))
  ·cases e1
 ·exact Bool.eq_false_iff.mpr fun q=>of_decide_eq_true e0 (Value.ref.inj (beq_iff_eq.mp q))
omit hg ha hn htk hm
theorem b8j {T:String} {ox:Obj} {Q:Value→Shared→Prop} (X:K.In s.heap) (hx:s.heap.get? x = some ox) (hc:ox.cls = .ref D) (hty:typeOf (.type T) = pure (.type "type")) (e:mroIn K D (.type T) = some true) (h:Q (.bool true) s) :
  wpAny (model prog w) A (call (.builtin "isinstance") [.ref x,.type T]) Q E s:=by
 refine call_isinstance (S:=fun _ R s=>(K.In s.heap∧s.heap.get? x = some ox)∧R (.ok (.ret (.bool true))) s)
  (fun _ _ _ _ _ hs=>isinstance_outer ?_ (by intro q;cases q)) ⟨⟨X,hx⟩,h⟩
 rename_i s'
 obtain ⟨⟨X',hx'⟩,hr⟩:=hs
 have L0:∀ M,Looks M s'.heap (typeOf (.ref x)) (.ref D):=fun M=>hc▸(Looks.ld hx').andThen .now
 have LI:∀ M,Looks M s'.heap (isInstance (.ref x) (.type T)) true:=fun M=>(L0 M).andThen (looks_mroIn X' e)
 obtain ⟨h0,g,d,tt,os⟩:=s'
 unfold Builtin.«isinstance.nested»
 refine wpAny_bind ((L0 _).at ?_)
 rw [if_neg (fun q=>by cases beq_iff_eq.mp q)]
 refine wpAny_bind ((Looks.of_pure hty).at ?_)
 rw [if_pos (by decide)]
 k_delta "plainIsInstance"
 refine wpAny_bind (wpAny_bind ((Looks.of_pure (show isType (.type T) = pure true from rfl)).at ?_))
 simp only [Bool.not_true,Bool.false_eq_true,if_false]
 refine wpAny_bind ((LI _).at ?_)
 simp only [if_true]
 first
  | exact wpAny_pure hr
  | exact wpAny_pure (wpAny_pure hr)
  | exact wpAny_bind (wpAny_pure (wpAny_pure hr))
  | exact wpAny_bind (wpAny_rule (wpAny_pure hr))
  | exact wpAny_bind (wpAny_rule (wpAny_pure (wpAny_pure hr)))
  | exact wpAny_bind (wpAny_rule (wpAny_bind (wpAny_pure (wpAny_pure hr))))
end
end Mine
namespace Mine
open PySem PySem.SeqAt PySem.Spec PySem.W PySem.Calls
section
variable {T:Tp} {A:Around} {W:Wd} {env:Env}
noncomputable def kdT:Kd→String
 | .int=>"int"
 | .str=>"str"
 | .bool=>"bool"
 | .tup=>"tuple"
 | .list=>"list"
noncomputable def a1g (T:Tp) (A:Around) (W:Wd) (k:Kd) (b:Bool) (val:Value):Prop:=b8 T A noX W (call (.builtin "isinstance") [val,.type (kdT k)]) (.ok (.bool b) W.σ) (VW T)
theorem a0F (I:Inv T W) {k:Kd} {b:Bool} {val:Value} (h:∀ (Q:Value→Shared→Prop) (E:Value→Shared→Prop),Q (.bool b) W.s→Q (.bool b) { W.s with toks:=W.s.toks + 1 }→wpAny T.M A (call (.builtin "isinstance") [val,.type (kdT k)]) Q E W.s):a1g T A W k b val :=
 b8.keep I fun Q E q=>h Q E (q _ W.s.toks (.bool _)) (q _ _ (.bool _))
theorem b3a (I:Inv T W) (k:Kd):a1g T A W k ([].contains k) .none:=a0F I fun Q E q0 q1=>by
 cases k with
 | int=>exact IsiPair.NoneType_int q1
 | str=>exact IsiPair.NoneType_str q1
 | bool=>exact IsiPair.NoneType_bool q1
 | tup=>exact IsiPair.NoneType_tuple q1
 | list=>exact IsiPair.NoneType_list q1
theorem b3F (I:Inv T W) (k:Kd) (b:Bool):a1g T A W k ([Kd.bool,.int].contains k) (.bool b):=a0F I fun Q E q0 q1=>by
 cases k with
 | int=>exact IsiPair.bool_int q0
 | str=>exact IsiPair.bool_str q1
 | bool=>exact IsiPair.bool_bool q0
 | tup=>exact IsiPair.bool_tuple q1
 | list=>exact IsiPair.bool_list q1
theorem b4S (I:Inv T W) (k:Kd) (i:Int) (t:Tok):a1g T A W k ([Kd.int].contains k) (.int i t):=a0F I fun Q E q0 q1=>by
 cases k with
 | int=>exact IsiPair.int_int q0
 | str=>exact IsiPair.int_str q1
 | bool=>exact IsiPair.int_bool q1
 | tup=>exact IsiPair.int_tuple q1
 | list=>exact IsiPair.int_list q1
theorem b5k (I:Inv T W) (k:Kd) (s:Str) (t:Tok):a1g T A W k ([Kd.str].contains k) (.str s t):=a0F I fun Q E q0 q1=>by
 cases k with
 | int=>exact IsiPair.str_int q1
 | str=>exact IsiPair.str_str q0
 | bool=>exact IsiPair.str_bool q1
 | tup=>exact IsiPair.str_tuple q1
 | list=>exact IsiPair.str_list q1
theorem b4d (I:Inv T W) (k:Kd) {a:Addr} {o:Obj} (h1:W.h.get? a = some o) (h2:o.cls = .type "tuple"):a1g T A W k ([Kd.tup].contains k) (.ref a):=a0F I fun Q E q0 q1=>by
 cases k with
 | int=>exact IsiPair.tuple_int h1 h2 q1
 | str=>exact IsiPair.tuple_str h1 h2 q1
 | bool=>exact IsiPair.tuple_bool h1 h2 q1
 | tup=>exact IsiPair.tuple_tuple h1 h2 q0
 | list=>exact IsiPair.tuple_list h1 h2 q1
theorem b1S (I:Inv T W) (k:Kd) {a:Addr} {o:Obj} (h1:W.h.get? a = some o) (h2:o.cls = .type "list"):a1g T A W k ([Kd.list].contains k) (.ref a):=a0F I fun Q E q0 q1=>by
 cases k with
 | int=>exact IsiPair.list_int h1 h2 q1
 | str=>exact IsiPair.list_str h1 h2 q1
 | bool=>exact IsiPair.list_bool h1 h2 q1
 | tup=>exact IsiPair.list_tuple h1 h2 q1
 | list=>exact IsiPair.list_list h1 h2 q0
theorem a7T (I:Inv T W) {v:AV} {k:Kd} {b:Bool} {val:Value} (r:W.V T v val) (e:a1u W.σ v k = some b):a1g T A W k b val:=by
 cases r with
 | none=>cases e;exact b3a I k
 | bool=>cases e;exact b3F I k _
 | int=>cases e;exact b4S I k _ _
 | str=>cases e;exact b5k I k _ _
 | tup h1 h2=>cases e;exact b4d I k h1 h2
 | ref hl =>
  rename_i l a
  have e:((o6 W.σ (.ref l)).map fun _=>[Kd.list]).map (·.contains k) = some b:=e
  cases z:o6 W.σ (.ref l) with
  | none=>rw [z] at e;cases e
  | some xs =>
   rw [z] at e
   cases e
   obtain ⟨vs,n,h1,_⟩:=I.lo z hl
   exact b1S I k h1 rfl
 | _=>cases e
end
end Mine
namespace Mine
open PySem PySem.SeqAt PySem.Spec PySem.W PySem.Calls
section
variable {T:Tp} {A:Around} {W:Wd}
structure b5C (T:Tp) (c:Nat) (us:List Nat):Prop where
 b:b0c T.K (T.xa c) = true
 pair:∀ (d:Nat) (vs:List Nat),W9 T.P d = some vs→a3Z T.K (T.xa c) (T.xa d) (us.contains d) = true
theorem Tp.Ok.exc (O:T.Ok) {c:Nat} {us:List Nat} (e:W9 T.P c = some us):b5C T c us :=
 E0 (P:=fun us=>b5C T c us) e fun p e1=>by
  have h:=a0D O.xs c p e1
  rw [Nat.zero_add] at h
  have h:=Bool.and_eq_true_iff.mp h
  refine ⟨h.1,fun d vs e2=>E0 (P:=fun _=>a3Z T.K (T.xa c) (T.xa d) (p.2.contains d) = true) e2 fun q e3=>?_⟩
  have:=a2J h.2 d q e3
  rw [Nat.zero_add] at this
  exact this
theorem a8g (O:T.Ok) (I:Inv T W) {v:AV} {k:Option Nat} {b:Bool} {val:Value} (r:W.V T v val) (e:instX T.P v k = some b):b8 T A noX W (call (.builtin "isinstance") [val,orO k (fun c=>.ref (T.xa c)) (.type "ValueError")]) (.ok (.bool b) W.σ) (VW T) :=
 o5 e fun c e1 e=>o5 e fun us e2 e=>r.asExc (P:=fun val=>b8 T A noX W (call (.builtin "isinstance") [val,orO k (fun c=>.ref (T.xa c)) (.type "ValueError")]) (.ok (.bool b) W.σ) (VW T)) e1 fun a o vs x=>by
  have X:=O.X.keeps I.base
  have ok:=O.exc e2
  have hb:=ok.b
  have hg:=O.gs
  unfold b0c at hb
  unfold gsB at hg
  simp only [Bool.and_eq_true,beq_iff_eq] at hb hg
  cases k with
  | none =>
   cases e
   exact b8.keep I fun Q E q=>b8j X x.get x.cls rfl hb.2 (q _ W.s.toks (.bool _))
  | some d =>
   obtain ⟨vs,e3,rfl⟩:=Option.map_eq_some_iff.mp (show (W9 T.P d).map (fun _=>us.contains d) = some b from e)
   have hp:=ok.pair d vs e3
   unfold a3Z at hp
   cases q:us.contains d with
   | true =>
    rw [q,if_pos rfl] at hp
    have hp:=(Bool.and_eq_true_iff.mp hp).1
    exact b8.keep I fun Q E q=>isi_call X (fun M=>x.cls▸(Looks.ld x.get).andThen .now) hp (by intro z;cases z) (q _ W.s.toks (.bool _))
   | false =>
    rw [q] at hp
    exact b8.keep I fun Q E q=>b7V hb.1.1.1.1.2 hb.1.1.1.2 hg.1 hg.2 hb.1.1.2 X x.get x.cls hb.1.2 hp (q _ _ (.bool _))
end
end Mine
namespace Mine
open PySem PySem.SeqAt PySem.Spec PySem.W PySem.Calls
noncomputable def g8 (n:Nat):Pos:=⟨n % 1024,n / 1024 % 512,n / 524288 % 1024,n / 536870912 % 512⟩
noncomputable def kAt (n:Nat):Nat:=n / 274877906944 % 1024
noncomputable def nx (n:Nat):Nat:=n / 281474976710656
structure Nm where
 P:Pr
 names:List Str
noncomputable def Nm.var (N:Nm) (x:Nat):Str:=(N.names[x]?).getD ""
noncomputable def Nm.fn (N:Nm) (f:Nat):Str:=((N.P.fns[f]?).map (·.name)).getD ""
noncomputable def Nm.cl (N:Nm) (c:Nat):Str:=((N.P.cls[c]?).map (·.name)).getD ""
noncomputable def Nm.xc (N:Nm) (c:Nat):Str:=((N.P.excs[c]?).map (·.1)).getD ""
noncomputable def Nm.gl (N:Nm) (g:Nat):Str:=((N.P.consts[g]?).map (·.1)).getD ""
noncomputable def Nm.at_ (N:Nm) (a:Nat):Str:=(N.P.attrs[a]?).getD ""
noncomputable def Nm.me (N:Nm) (m:Nat):Str:=(N.P.methNames[m]?).getD ""
noncomputable def biN:Bi→Str
 | .len=>"len"
 | .ord=>"ord"
 | .range=>"range"
 | .min=>"min"
 | .sum=>"sum"
 | .all=>"all"
 | .sorted=>"sorted"
 | .list=>"list"
 | .tuple=>"tuple"
 | .int=>"int"
 | .str=>"str"
 | .max=>"max"
noncomputable def b6I:Bm→Str
 | .append=>"append"
 | .get=>"get"
 | .setdefault=>"setdefault"
 | .pop=>"pop"
 | .join=>"join"
noncomputable def a5i {α:Type} (b:Bool):List α→List α
 | []=>[]
 | x :: r=>if b then x :: a5i false r else a5i true r
mutual
noncomputable def f6 (N:Nm):ME→Nat→Expr×Nat
 | .none,n=>(.Constant .none (kAt n) (g8 n),nx n)
 | .bool b,n=>(.Constant (.bool b) (kAt n) (g8 n),nx n)
 | .int i,n=>(.Constant (.int i) (kAt n) (g8 n),nx n)
 | .str s,n=>(.Constant (.str (tS s)) (kAt n) (g8 n),nx n)
 | .var x,n=>(.Name (N.var x) (g8 n),nx n)
 | .gl g,n=>(.Name (N.gl g) (g8 n),nx n)
 | .bin op a b,n=>(.BinOp (f6 N a (nx n)).1 (opM op) (f6 N b (f6 N a (nx n)).2).1 (g8 n),(f6 N b (f6 N a (nx n)).2).2)
 | .not e,n=>(.UnaryOp .Not (f6 N e (nx n)).1 (g8 n),(f6 N e (nx n)).2)
 | .and es,n=>(.BoolOp .And (embEs N es (nx n)).1 (g8 n),(embEs N es (nx n)).2)
 | .or es,n=>(.BoolOp .Or (embEs N es (nx n)).1 (g8 n),(embEs N es (nx n)).2)
 | .cmp l op r,n=>(.Compare (f6 N l (nx n)).1 [a5S op] [(f6 N r (f6 N l (nx n)).2).1] (g8 n),(f6 N r (f6 N l (nx n)).2).2)
 | .chain l op m op' r,n=>(.Compare (f6 N l (nx n)).1 [a5S op,a5S op'] [(f6 N m (f6 N l (nx n)).2).1,(f6 N r (f6 N m (f6 N l (nx n)).2).2).1] (g8 n),(f6 N r (f6 N m (f6 N l (nx n)).2).2).2)
 | .isNone e,n=>(.Compare (f6 N e (nx (nx n))).1 [.Is] [.Constant .none (kAt (nx n)) (g8 (nx n))] (g8 n),(f6 N e (nx (nx n))).2)
 | .isTrue e,n=>(.Compare (f6 N e (nx (nx n))).1 [.Is] [.Constant (.bool true) (kAt (nx n)) (g8 (nx n))] (g8 n),(f6 N e (nx (nx n))).2)
 | .tup es,n=>(.Tuple (embEs N es (nx n)).1 (kAt n) (g8 n),(embEs N es (nx n)).2)
 | .list es,n=>(.List (embEs N es (nx n)).1 (g8 n),(embEs N es (nx n)).2)
 | .dict kvs,n=>(.Dict ((a5i true (embEs N kvs (nx n)).1).map some) (a5i false (embEs N kvs (nx n)).1) (g8 n),(embEs N kvs (nx n)).2)
 | .idx o i,n=>(.Subscript (f6 N o (nx n)).1 (f6 N i (f6 N o (nx n)).2).1 (g8 n),(f6 N i (f6 N o (nx n)).2).2)
 | .slice o lo hi bl bh,n=>(.Subscript (f6 N o (nx (nx n))).1 (.Slice (if bl then some (f6 N lo (f6 N o (nx (nx n))).2).1 else none) (if bh then some (f6 N hi (f6 N lo (f6 N o (nx (nx n))).2).2).1 else none) none (g8 (nx n))) (g8 n),
   (f6 N hi (f6 N lo (f6 N o (nx (nx n))).2).2).2)
 | .attr o a,n=>(.Attribute (f6 N o (nx n)).1 (N.at_ a) (g8 n),(f6 N o (nx n)).2)
 | .call f args,n=>(.Call (.Name (N.fn f) (g8 (nx n))) (embEs N args (nx (nx n))).1 [] (g8 n),(embEs N args (nx (nx n))).2)
 | .new c args,n=>(.Call (.Name (N.cl c) (g8 (nx n))) (embEs N args (nx (nx n))).1 [] (g8 n),(embEs N args (nx (nx n))).2)
 | .meth o m args,n=>(.Call (.Attribute (f6 N o (nx (nx n))).1 (N.me m) { g8 (nx n) with endLine:=(g8 n).line }) (embEs N args (f6 N o (nx (nx n))).2).1 [] (g8 n),(embEs N args (f6 N o (nx (nx n))).2).2)
 | .bi b args,n=>(.Call (.Name (biN b) (g8 (nx n))) (embEs N args (nx (nx n))).1 [] (g8 n),(embEs N args (nx (nx n))).2)
 | .bm m o args,n=>(.Call (.Attribute (f6 N o (nx (nx n))).1 (b6I m) { g8 (nx n) with endLine:=(g8 n).line }) (embEs N args (f6 N o (nx (nx n))).2).1 [] (g8 n),(embEs N args (f6 N o (nx (nx n))).2).2)
 | .inst e k,n=>(.Call (.Name "isinstance" (g8 (nx n))) [(f6 N e (nx (nx (nx n)))).1,.Name (Str.ofString (kdT k)) (g8 (nx (nx n)))] [] (g8 n),(f6 N e (nx (nx (nx n)))).2)
 | .comp elt x src conds sc,n=>(.ListComp (f6 N elt (embEs N conds (f6 N src (nx (nx n))).2).2).1 [⟨.Name (N.var x) (g8 (nx n)),(f6 N src (nx (nx n))).1,(embEs N conds (f6 N src (nx (nx n))).2).1,0⟩] sc (g8 n),
   (f6 N elt (embEs N conds (f6 N src (nx (nx n))).2).2).2)
 | .instX e k,n=>(.Call (.Name "isinstance" (g8 (nx n))) [(f6 N e (nx (nx (nx n)))).1,.Name (orO k N.xc "ValueError") (g8 (nx (nx n)))] [] (g8 n),(f6 N e (nx (nx (nx n)))).2)
 | .neg i,n=>(.UnaryOp .USub (.Constant (.int i) (kAt (nx n)) (g8 (nx n))) (g8 n),nx (nx n))
 | .repl e c b,n=>(.Call (.Attribute (f6 N e (nx (nx n))).1 "replace" { g8 (nx n) with endLine:=(g8 n).line }) [.Constant (.str (tS [c])) (kAt (f6 N e (nx (nx n))).2) (g8 (f6 N e (nx (nx n))).2),.Constant (.str (tS b)) (kAt (nx (f6 N e (nx (nx n))).2)) (g8 (nx (f6 N e (nx (nx n))).2))] [] (g8 n),nx (nx (f6 N e (nx (nx n))).2))
 | .chain3 l op m op' r op'' q,n=>(.Compare (f6 N l (nx n)).1 [a5S op,a5S op',a5S op''] [(f6 N m (f6 N l (nx n)).2).1,(f6 N r (f6 N m (f6 N l (nx n)).2).2).1,(f6 N q (f6 N r (f6 N m (f6 N l (nx n)).2).2).2).1] (g8 n),(f6 N q (f6 N r (f6 N m (f6 N l (nx n)).2).2).2).2)
noncomputable def embEs (N:Nm):List ME→Nat→List Expr×Nat
 | [],n=>([],n)
 | e :: r,n=>((f6 N e n).1 :: (embEs N r (f6 N e n).2).1,(embEs N r (f6 N e n).2).2)
end
structure Gl where
 gv:Str→Option (Option Value)
 fa:Nat→Addr
 ca:Nat→Addr
 xa:Nat→Addr
noncomputable def C6 (sc:Scope) (x:Str):Bool:=sc.names.lookup x == some .globalImplicit && !(x == ("__debug__":Str))
noncomputable def a8h (s:List Nat):Bool:=s.all (fun c=>decide (c < 128)) && decide (s.length≤100000)
theorem a7B {s:List Nat} (h:a8h s = true):okS s:=by
 simp only [a8h,Bool.and_eq_true,List.all_eq_true,decide_eq_true_eq] at h
 exact ⟨h.1,Nat.le_trans h.2 (by decide)⟩
noncomputable def a8a (G:Gl) (sc:Scope) (x:Str) (v:Value):Bool:=C6 sc x && (match G.gv x with|some none=>true|_=>false) && bootBuiltins x == some v && !(x == ("__name__":Str))
noncomputable def C7 (a:Addr):Option (Option Value)→Bool
 | some (some (.ref b))=>b == a
 | _=>false
theorem w9 {a:Addr} {o:Option (Option Value)} (h:C7 a o = true):o = some (some (.ref a)):=by
 unfold C7 at h
 split at h
 ·rw [eq_of_beq h]
 ·cases h
noncomputable def a6X:ME→Bool
 | .none=>true
 | _=>false
noncomputable def a2L:ME→Bool
 | .call ..=>false
 | .new ..=>false
 | .meth ..=>false
 | .bi ..=>false
 | .bm ..=>false
 | .inst ..=>false
 | .instX ..=>false
 | _=>true
noncomputable def O0 (sc' sc:Scope):Scope :=
 { sc' with names:=sc'.names.map fun (n,k)=>if (k == .free && sc.kind == .function && sc.names.lookup n == some .cell) then (n,.cell) else (n,k) }
noncomputable def T1 (sc' sc:Scope) (sl:List (Nat×Str)) (x:Nat) (nm:Str):List (Nat×Str) :=
 (x,nm) :: sl.filter fun p=>!(p.1 == x) && sc'.names.lookup p.2 == some .free && sc.names.lookup p.2 == some .cell
noncomputable def b7A (sc' sc:Scope) (nm:Str):Bool:=(sc'.kind == .function) && sc'.names.lookup nm == some .local &&
 sc'.names.all fun p=>!(p.2 == .cell) && (!(p.2 == .local) || sc'.names.lookup p.1 == some .local) && (!(p.2 == .free) || sc.names.lookup p.1 == some .cell)
mutual
noncomputable def okE (G:Gl) (N:Nm) (sc:Scope) (sl:List (Nat×Str)):ME→Bool
 | .none=>true
 | .bool _=>true
 | .int _=>true
 | .str s=>a8h s
 | .var x=>sl.contains (x,N.var x) && !(N.var x == ("__debug__":Str))
 | .gl g=>C6 sc (N.gl g)
 | .bin _ a b=>okE G N sc sl a && okE G N sc sl b
 | .not e=>okE G N sc sl e
 | .and es=>okEs G N sc sl es
 | .or es=>okEs G N sc sl es
 | .cmp l _ r=>okE G N sc sl l && okE G N sc sl r
 | .chain l _ m _ r=>okE G N sc sl l && okE G N sc sl m && okE G N sc sl r
 | .isNone e=>okE G N sc sl e
 | .isTrue e=>okE G N sc sl e
 | .tup es=>okEs G N sc sl es
 | .list es=>okEs G N sc sl es
 | .dict kvs=>kvs.isEmpty
 | .idx o i=>okE G N sc sl o && okE G N sc sl i
 | .slice o lo hi bl bh=>okE G N sc sl o && okE G N sc sl lo && okE G N sc sl hi && (bl || a6X lo) && (bh || a6X hi)
 | .attr o a=>a2L o && okE G N sc sl o && decide (a < N.P.attrs.length)
 | .call f args=>C6 sc (N.fn f) && C7 (G.fa f) (G.gv (N.fn f)) && okEs G N sc sl args
 | .new c args=>C6 sc (N.cl c) && C7 (G.ca c) (G.gv (N.cl c)) && okEs G N sc sl args
 | .meth o m args=>a2L o && okE G N sc sl o && okEs G N sc sl args && decide (args.length < 30) && decide (m < N.P.methNames.length)
 | .bi b args=>a8a G sc (biN b) (biV b) && okEs G N sc sl args
 | .bm _ o args=>a2L o && okE G N sc sl o && okEs G N sc sl args && decide (args.length < 30)
 | .inst e k=>a8a G sc "isinstance" (.builtin "isinstance") && a8a G sc (Str.ofString (kdT k)) (.type (kdT k)) && okE G N sc sl e
 | .comp elt x src conds sc'=>b7A sc' sc (N.var x) && okE G N sc sl src && okEs G N (O0 sc' sc) (T1 sc' sc sl x (N.var x)) conds && okE G N (O0 sc' sc) (T1 sc' sc sl x (N.var x)) elt
 | .instX e k=>a8a G sc "isinstance" (.builtin "isinstance") && (match k with
  | some c=>C6 sc (N.xc c) && C7 (G.xa c) (G.gv (N.xc c))
  | none=>a8a G sc "ValueError" (.type "ValueError")) && okE G N sc sl e
 | .neg _=>true
 | .repl e c b=>a2L e && okE G N sc sl e && a8h [c] && a8h b && !(tS [c] == tS b)
 | .chain3 l _ m _ r _ q=>okE G N sc sl l && okE G N sc sl m && okE G N sc sl r && okE G N sc sl q
noncomputable def okEs (G:Gl) (N:Nm) (sc:Scope) (sl:List (Nat×Str)):List ME→Bool
 | []=>true
 | e :: r=>okE G N sc sl e && okEs G N sc sl r
end
theorem a0w {a b c:Bool} (h:(a && b && c) = true):(a = true∧b = true)∧c = true:=⟨Bool.and_eq_true_iff.mp (Bool.and_eq_true_iff.mp h).1,(Bool.and_eq_true_iff.mp h).2⟩
theorem a6N {a b c d:Bool} (h:(a && b && c && d) = true):((a = true∧b = true)∧c = true)∧d = true:=⟨a0w (Bool.and_eq_true_iff.mp h).1,(Bool.and_eq_true_iff.mp h).2⟩
theorem b3j {a b c d e:Bool} (h:(a && b && c && d && e) = true):(((a = true∧b = true)∧c = true)∧d = true)∧e = true:=⟨a6N (Bool.and_eq_true_iff.mp h).1,(Bool.and_eq_true_iff.mp h).2⟩
theorem p8 {N:Nm} (m:ME) (n:Nat):U3 (f6 N m n).1 = true:=by cases m<;>rfl
theorem b5s {N:Nm} (m:ME) (n:Nat):D0 (f6 N m n).1:=by cases m<;>exact fun _ _=>rfl
theorem F6 {N:Nm} (op:CmpOp) (m:ME) (n:Nat):behindInMarks op (f6 N m n).1 = false:=by cases m<;>rfl
theorem R0 {N:Nm} {m:ME} (h:a2L m = true) (n:Nat) (nm:Str) (env:Env):attributeBase (f6 N m n).1 nm env (eval (f6 N m n).1 env) = eval (f6 N m n).1 env:=by
 cases m<;>first|rfl|cases h
theorem G9 {N:Nm}:∀ (ms:List ME) (n:Nat),C3 (embEs N ms n).1 = true
 | [],_=>rfl
 | m :: r,n=>by
  show (U3 (f6 N m n).1 && C3 (embEs N r (f6 N m n).2).1) = true
  rw [p8,G9 r];rfl
theorem L8 {N:Nm}:∀ (ms:List ME) (n:Nat),(embEs N ms n).1.length = ms.length
 | [],_=>rfl
 | m :: r,n=>congrArg Nat.succ (L8 r _)
structure a1a (T:Tp) (G:Gl):Prop where
 sm:∀ x v,G.gv x = some (some v)→T.mg x = some v
 nn:∀ x,G.gv x = some none→T.mg x = none
 fa:G.fa = T.fa
 ca:G.ca = T.ca
 xa:G.xa = T.xa
 con:∀ (g:Nat) (p:Str×AV),T.P.consts[g]? = some p→∃ v,T.mg p.1 = some v∧∀ own bt h,VR T own bt h p.2 v
 callee:∀ x f,G.gv x = some (some (.ref (G.fa f)))→T0 T (.ref (T.fa f))
structure u3 (T:Tp) (n:Nat) (hd:Bool) (call:Nat→List AV→Hp→Out AV):Prop where
 code:∀ f as vals A W,a5L n hd A→St T A W→Inv T W→W.Vs T as vals→0 < W.s.toks→call f as W.σ≠.fail →
  codeAny T.M A (.call (.ref (T.fa f)) ⟨vals,[]⟩) (fun r s'=>match r with|.ok (.ret v)=>a4o T noX W (call f as W.σ) (VW T) v s'|_=>False) W.s
theorem u3.does {T:Tp} {n:Nat} {hd:Bool} {call:Nat→List AV→Hp→Out AV} (h:u3 T n hd call) (f:Nat) (as:List AV) (vals:List Value) (A:Around) (W:Wd) (a:a5L n hd A) (S:St T A W) (I:Inv T W) (r:W.Vs T as vals) (tk:0 < W.s.toks) (hn:call f as W.σ≠.fail) :
  b8 T A noX W (PySem.call (.ref (T.fa f)) vals) (call f as W.σ) (VW T):=wpAny_call (codeAny_mono (h.code f as vals A W a S I r tk hn) fun r s' q=>by
   cases r with
   | ok fl=>cases fl<;>first|exact q|exact q.elim
   | error e=>exact q)
section
variable {T:Tp} {A:Around} {W:Wd} {env:Env} {sl:List (Nat×Str)} {vs:Vs} {G:Gl}
theorem u0 (hT:T.Ok) (I:Inv T W) (F:Fm T W env sl vs) {x:Str} {pos:Pos} {v:Value} (hx:C6 env.scope x = true) (e:T.mg x = some v) {Q:Value→Shared→Prop} {E:Value→Shared→Prop} (q:Q v W.s) :
  wpAny T.M A (eval (.Name x pos) env) Q E W.s:=by
 simp only [C6,Bool.and_eq_true,beq_iff_eq,Bool.not_eq_true'] at hx
 exact Name_function_global F.kind hx.1 (loadGlobal_global (by rw [F.glob];exact hT.g.keeps I.base) e q) hx.2
theorem B0 (hT:T.Ok) (hG:a1a T G) (I:Inv T W) (F:Fm T W env sl vs) {x:Str} {pos:Pos} {v:Value} (hx:a8a G env.scope x v = true) {Q:Value→Shared→Prop} {E:Value→Shared→Prop} (q:Q v W.s) :
  wpAny T.M A (eval (.Name x pos) env) Q E W.s:=by
 simp only [a8a,C6,Bool.and_eq_true,beq_iff_eq,Bool.not_eq_true',beq_eq_false_iff_ne] at hx
 obtain ⟨⟨⟨⟨h1,h2⟩,h3⟩,h4⟩,h5⟩:=hx
 have hm:T.mg x = none:=by
  cases z:G.gv x with
  | none=>rw [z] at h3;cases h3
  | some y=>cases y with
   | none=>exact hG.nn x z
   | some w=>rw [z] at h3;cases h3
 exact Name_function_global F.kind h1 (loadGlobal_builtin (by rw [F.glob];exact hT.g.keeps I.base) hm (by rw [F.bi];exact hT.b.keeps I.base) ((hT.bi x h5).trans h4) q) (by simpa using h2)
theorem a4h {a:AV} {v:Value} (r:W.V T a v) {α:Type} {x y:Out α} (hn:x5 (j8 a) x y≠.fail) {Q:Bool→Shared→Prop} {E:Value→Shared→Prop}
  (ht:∀ k,W.s.toks≤k→x≠.fail→x5 (j8 a) x y = x→Q true { W.s with toks:=k }) (hf:∀ k,W.s.toks≤k→y≠.fail→x5 (j8 a) x y = y→Q false { W.s with toks:=k }):wpAny T.M A (truthy v) Q E W.s:=by
 cases e:j8 a with
 | none=>rw [e] at hn;exact absurd rfl hn
 | some b =>
  rw [e] at hn ht hf
  refine wpAny_with_toks (Nat.le_refl _) (Z0 r e _ _ fun k hk=>?_)
  cases b with
  | true=>exact ht k hk hn rfl
  | false=>exact hf k hk hn rfl
end
end Mine
namespace Mine
open PySem PySem.SeqAt PySem.Spec PySem.W PySem.Calls
structure E8 (T:Tp) (n:Nat) (hd:Bool) (sl:List (Nat×Str)) (A:Around) (W:Wd) (env:Env) (vs:Vs):Prop where
 a:AOk n hd A
 F:Fm T W env sl vs
 I:Inv T W
 S:St T A W
 tk:0 < W.s.toks
section
variable {T:Tp} {G:Gl} {N:Nm} {n:Nat} {C:Cx} {sl:List (Nat×Str)} {A:Around} {W W':Wd} {env:Env} {vs:Vs}
theorem E8.le (H:E8 T n C.P.hd sl A W env vs) (I:Inv T W') (l:Le noX W W'):E8 T n C.P.hd sl A W' env vs:=⟨H.a,H.F.le l.toLe0,I,H.S.le l.toLe0,Nat.lt_of_lt_of_le H.tk l.tk⟩
theorem E8.toks (H:E8 T n C.P.hd sl A W env vs) {k:Nat} (hk:W.s.toks≤k):E8 T n C.P.hd sl A { W with s:={ W.s with toks:=k } } env vs:=H.le (H.I.toks k).1 ⟨(H.I.toks k).2,hk⟩
theorem E8.room (H:E8 T n C.P.hd sl A W env vs):A.units + 65 < cLine:=Nat.lt_of_le_of_lt (Nat.add_le_add (Nat.le_add_right _ _) (show 65≤200 by decide)) H.a.units
theorem a0x {es:List Expr} {pos:Pos} {x:Out (List AV)} (h:x≠.fail→b8 T A noX W (spliced (backTo pos (starEach es env))) x (VWs T)) (hn:x.bind (fun xs h=>newList xs h)≠.fail) :
  b8 T A noX W (eval (.List es pos) env) (x.bind fun xs h=>newList xs h) (VW T) :=
 wpAny_List_spliced (b8.then h hn fun xs W' vals I l r hn e=>by
  cases z:decide (xs.length≤lim) with
  | false=>unfold newList at hn;rw [z] at hn;exact absurd rfl hn
  | true =>
   have hl:=of_decide_eq_true z
   refine ⟨by rw [r.length,← w5];exact hl,?_⟩
   obtain ⟨I1,l1,v1⟩:=I.push (s':={ W'.s with heap:=W'.h.push { cls:=.type "list",data:=.seq vals.toArray } }) (o:=.list xs) (y5 _) I.high (Heap.get?_push_size _ rfl) rfl (fun a q e=>Heap.get?_push_of_some _ e) rfl rfl
    fun fx x=>.list vals.toArray 0 (Heap.get?_push_size _ rfl) ((r.ext (.kept (X:=noX) fun _ _ e=>Heap.get?_push_of_some _ e) .no).ext x fx) hl
   exact ⟨.ref W'.σ.length,_,rfl,e.trans (by unfold newList;rw [z];rfl),I1,l.toLe0.trans l1,v1⟩)
theorem a0E {es:List Expr} {k:Nat} {pos:Pos} {x:Out (List AV)} (h:x≠.fail→b8 T A noX W (spliced (backTo pos (starEach es env))) x (VWs T)) (hn:x.bind (fun xs h=>a7t xs h)≠.fail) :
  b8 T A noX W (eval (.Tuple es k pos) env) (x.bind fun xs h=>a7t xs h) (VW T) :=
 wpAny_Tuple_spliced (b8.then h hn fun xs W' vals I l r hn e=>by
  cases z:decide (xs.length≤lim) with
  | false=>unfold a7t at hn;rw [z] at hn;exact absurd rfl hn
  | true =>
   have hl:=of_decide_eq_true z
   refine ⟨by rw [r.length,← w5];exact hl,?_⟩
   obtain ⟨I1,l1⟩:=I.grow (s':={ W'.s with heap:=W'.h.push { cls:=.type "tuple",data:=.seq vals.toArray } }) (fun a q e=>Heap.get?_push_of_some _ e) rfl rfl
   refine ⟨.tup xs,_,rfl,e.trans (by unfold a7t;rw [z];rfl),I1,l.toLe0.trans l1,.tup (Heap.get?_push_size _ rfl) rfl rfl (r7 I (y5 _)) hl (by rw [List.size_toArray,r.length]) fun i y v hy hv=>?_⟩
   obtain ⟨v',e1,e2⟩:=(r.le l1).get hy
   rw [List.getElem?_toArray,e1] at hv
   cases hv;exact e2)
theorem a1q {pos:Pos} {op:BoolOp} {x y:Sem Value} {r:List (Sem Value)}:boolOp pos op (x :: y :: r) = (do
  let v ← x
  standAt pos
  let t ← holding [v] (truthy v)
  match op,t with
  | .And,false|.Or,true=>pure v
  | _,_=>boolOp pos op (y :: r)):=rfl
noncomputable def SE (T:Tp) (G:Gl) (N:Nm) (n:Nat) (C:Cx) (m:ME):Prop :=
 ∀ {p:Nat} {sl:List (Nat×Str)} {A:Around} {W:Wd} {env:Env} {vs:Vs},E8 T n C.P.hd sl A W env vs→okE G N env.scope sl m = true→ev C m W.σ vs≠.fail→b8 T A noX W (eval (f6 N m p).1 env) (ev C m W.σ vs) (VW T)
theorem j7 {sc:Scope} {sl:List (Nat×Str)} {m:ME} {ms:List ME} (h:okEs G N sc sl (m :: ms) = true):okE G N sc sl m = true∧okEs G N sc sl ms = true:=Bool.and_eq_true_iff.mp h
theorem Z6 {pos:Pos}:∀ (ms:List ME),(∀ m∈ms,SE T G N n C m)→∀ {p:Nat} {W:Wd},E8 T n C.P.hd sl A W env vs→okEs G N env.scope sl ms = true→evs C ms W.σ vs≠.fail →
  b8 T A noX W (spliced (backTo pos (starEach (embEs N ms p).1 env))) (evs C ms W.σ vs) (VWs T)
 | [],_,_,_,H,_,_=>a3z H.I
 | m :: ms,ih,p,W,H,h,hn=>by
  show wpAny T.M A (spliced (backTo pos (starEach ((f6 N m p).1 :: (embEs N ms (f6 N m p).2).1) env))) _ _ _
  rw [i8 (p8 m p)]
  exact spliced_cons (b8.then (ih m List.mem_cons_self H (j7 h).1) hn fun x W1 v I1 l1 r1 n1 e1=>b8.then (Z6 ms (fun m' hm=>ih m' (List.mem_cons_of_mem _ hm)) (H.le I1 l1) (j7 h).2) n1 fun xs W2 vals I2 l2 r2 _ e2=>⟨x :: xs,W2,rfl,e1.trans e2,I2,(l1.trans l2).toLe0,.cons (r1.le l2.toLe0) r2⟩)
theorem a7p {pos:Pos}:∀ (ms:List ME),(∀ m∈ms,SE T G N n C m)→∀ {p:Nat} {W:Wd},E8 T n C.P.hd sl A W env vs→okEs G N env.scope sl ms = true→evAnd C ms W.σ vs≠.fail→b8 T A noX W (boolOp pos .And (evalEach (embEs N ms p).1 env)) (evAnd C ms W.σ vs) (VW T)
 | [],_,_,_,_,_,hn=>absurd rfl hn
 | [m],ih,_,_,H,h,hn=>ih m List.mem_cons_self H (j7 h).1 hn
 | m :: m' :: ms,ih,p,W,H,h,hn=>by
  show wpAny T.M A (boolOp pos .And (eval (f6 N m p).1 env :: eval (f6 N m' (f6 N m p).2).1 env :: evalEach (embEs N ms (f6 N m' (f6 N m p).2).2).1 env)) _ _ _
  rw [a1q]
  exact wpAny_bind (b8.then (ih m List.mem_cons_self H (j7 h).1) hn fun x W1 v I1 l1 r1 n1 e1=>wpAny_bind (wpAny_standAt (wpAny_bind (wpAny_holding (a4h r1 n1
   (fun k hk n2 e2=>(a7p (m' :: ms) (fun q hq=>ih q (List.mem_cons_of_mem _ hq)) ((H.le I1 l1).toks hk) (j7 h).2 n2).up (l1.toLe0.trans (I1.toks k).2) (e1.trans e2))
   fun k _ _ e2=>wpAny_pure ⟨x,{ W1 with s:={ W1.s with toks:=k } },rfl,e1.trans e2,(I1.toks k).1,l1.toLe0.trans (I1.toks k).2,r1.le (I1.toks k).2⟩)))))
theorem a9G {pos:Pos}:∀ (ms:List ME),(∀ m∈ms,SE T G N n C m)→∀ {p:Nat} {W:Wd},E8 T n C.P.hd sl A W env vs→okEs G N env.scope sl ms = true→evOr C ms W.σ vs≠.fail→b8 T A noX W (boolOp pos .Or (evalEach (embEs N ms p).1 env)) (evOr C ms W.σ vs) (VW T)
 | [],_,_,_,_,_,hn=>absurd rfl hn
 | [m],ih,_,_,H,h,hn=>ih m List.mem_cons_self H (j7 h).1 hn
 | m :: m' :: ms,ih,p,W,H,h,hn=>by
  show wpAny T.M A (boolOp pos .Or (eval (f6 N m p).1 env :: eval (f6 N m' (f6 N m p).2).1 env :: evalEach (embEs N ms (f6 N m' (f6 N m p).2).2).1 env)) _ _ _
  rw [a1q]
  exact wpAny_bind (b8.then (ih m List.mem_cons_self H (j7 h).1) hn fun x W1 v I1 l1 r1 n1 e1=>wpAny_bind (wpAny_standAt (wpAny_bind (wpAny_holding (a4h r1 n1
   (fun k _ _ e2=>wpAny_pure ⟨x,{ W1 with s:={ W1.s with toks:=k } },rfl,e1.trans e2,(I1.toks k).1,l1.toLe0.trans (I1.toks k).2,r1.le (I1.toks k).2⟩)
   fun k hk n2 e2=>(a9G (m' :: ms) (fun q hq=>ih q (List.mem_cons_of_mem _ hq)) ((H.le I1 l1).toks hk) (j7 h).2 n2).up (l1.toLe0.trans (I1.toks k).2) (e1.trans e2))))))
end
end Mine
namespace Mine
open PySem PySem.SeqAt PySem.Spec PySem.W PySem.Calls
noncomputable def frX (env:Env):Addr→Prop:=fun a=>a = env.locals∨∃ x,env.cells.lookup x = some a
structure Fs (T:Tp) (W:Wd) (env:Env) (sl:List (Nat×Str)) (vs:Vs):Prop where
 fm:Fm T W env sl vs
 ns:∃ m,W.h.Ns env.locals m
 ownL:W.own env.locals = .free
 baseL:T.base.get? env.locals = none
 kinds:∀ i x,(i,x)∈sl→env.kindOf x = some .local∨env.kindOf x = some .cell
 cell:∀ x c,env.cells.lookup x = some c→W.own c = .free∧T.base.get? c = none∧c≠env.locals∧∃ v,W.h.IsCell c v
 cinj:∀ x y c,env.cells.lookup x = some c→env.cells.lookup y = some c→x = y
 inj:∀ i j x,(i,x)∈sl→(j,x)∈sl→i = j
 inj2:∀ i x y,(i,x)∈sl→(i,y)∈sl→x = y
 len:∀ i x,(i,x)∈sl→i < vs.length
section
variable {T:Tp} {A:Around} {W W':Wd} {env:Env} {sl:List (Nat×Str)} {vs:Vs}
theorem Fs.le (F:Fs T W env sl vs) (l:Le0 noX W W'):Fs T W' env sl vs where
 fm:=F.fm.le l
 ns:=let ⟨m,n⟩:=F.ns;⟨m,a3P n fun o ho=>l.ext.kp _ o ho F.ownL id⟩
 ownL:=let ⟨_,n⟩:=F.ns;let ⟨_,z⟩:=a1l n;(l.ext.ow _ _ z id).trans F.ownL
 baseL:=F.baseL
 kinds:=F.kinds
 cell:=fun x c e=>let ⟨h1,h2,h3,v,h4⟩:=F.cell x c e;let ⟨_,z⟩:=C8 h4;⟨(l.ext.ow _ _ z id).trans h1,h2,h3,v,a1S h4 fun o ho=>l.ext.kp _ o ho h1 id⟩
 cinj:=F.cinj
 inj:=F.inj
 inj2:=F.inj2
 len:=F.len
theorem Fs.frX (F:Fs T W env sl vs):FrX (frX env) W.own W.h:=by
 intro a q
 rcases q with rfl|⟨x,q⟩
 ·refine ⟨F.ownL,fun o e=>?_⟩
  obtain ⟨m,o',es,ep,ho,hd,_⟩:=F.ns
  rw [e] at ho;cases ho
  exact .inl ⟨es,ep,hd⟩
 ·refine ⟨(F.cell x a q).1,fun o e=>?_⟩
  obtain ⟨_,_,_,v,o',ho,hd⟩:=F.cell x a q
  rw [e] at ho;cases ho
  exact .inr (.inl ⟨v,hd⟩)
theorem Inv.touch {X:Addr→Prop} (I:Inv T W) {a:Addr} {s':Shared} (ha:W.own a = .free) (hb:T.base.get? a = none) (hx:X a) (fx:FrX X W.own W.h) (hs:∀ b o,b≠a→W.h.get? b = some o→s'.heap.get? b = some o)
  (hg:s'.gens = W.s.gens) (hos:s'.os = W.s.os):Inv T { W with s:=s' }∧Le0 X W { W with s:=s' }:=by
 have x:Ext X W.own W.bt W.h W.own W.bt s'.heap:=⟨fun b o e f n=>.of (hs b o (fun q=>n (q▸hx)) e),
  fun b o e n=>⟨o,hs b o (fun q=>n (q▸hx)) e⟩,fun _ _ _ _=>rfl,[],(List.append_nil _).symm⟩
 refine ⟨⟨I.len,I.ownb,fun b q=>⟨let ⟨o,e⟩:=(I.lt b q).1;⟨o,hs b o (fun z=>q (z▸ha)) e⟩,(I.lt b q).2⟩,fun l o b e q=>?_,fun b o e=>hs b o (fun q=>by rw [q,hb] at e;cases e) (I.base b o e),I.st,I.hi⟩,x,hg,hos⟩
 exact (I.obj l o b e q).mono x fx (I.ownb l b q) fun c r f e'=>hs c r (fun z=>by rw [z,ha] at f;cases f) e'
theorem VR.leX {X:Addr→Prop} {av:AV} {v:Value} (r:W.V T av v) (x:Le0 X W W') (fx:FrX X W.own W.h):W'.V T av v:=VR.ext x.ext fx r
theorem getElem?_set_ne' {vs:Vs} {i j:Nat} (h:i≠j) (v:Option AV):(vs.set i v)[j]? = vs[j]?:=by simp [List.getElem?_set,h]
theorem P7 (F:Fs T W env sl vs) (I:Inv T W) {i:Nat} {x:Str} {av:AV} {v:Value} (hi:(i,x)∈sl) (r:W.V T av v) {Q:Unit→Shared→Prop} {E:Value→Shared→Prop}
  (h:∀ W',Inv T W'→Le0 (frX env) W W'→W'.σ = W.σ→Fs T W' env sl (vs.set i (some av))→Q () W'.s):wpAny T.M A (storeName env x v) Q E W.s:=by
 have fx:=F.frX
 rcases F.kinds i x hi with hk|hk
 ·obtain ⟨m,hm⟩:=F.ns
  refine wpAny_storeName_local hk hm (fun h' hn hs=>?_) (by rw [F.fm.kind];rfl)
  obtain ⟨o',z⟩:=a1l hn
  obtain ⟨I',l'⟩:=I.touch (X:=Mine.frX env) (s':={ W.s with heap:=h',toks:=W.s.toks + 1 }) F.ownL F.baseL (.inl rfl) fx (fun b o n e=>(hs.2 b n).trans e) rfl rfl
  refine h { W with s:={ W.s with heap:=h',toks:=W.s.toks + 1 } } I' l' rfl ⟨⟨F.fm.kind,F.fm.glob,F.fm.bi,F.fm.cells,fun j y hj aw e=>?_⟩,⟨_,hn⟩,F.ownL,F.baseL,F.kinds,fun y c e=>?_,F.cinj,F.inj,F.inj2,fun j y hj=>by simpa using F.len j y hj⟩
  ·by_cases q:i = j
   ·subst q
    have:=F.inj2 i x y hi hj
    subst this
    rw [List.getElem?_set_self (F.len i x hi)] at e
    cases e
    exact ⟨v,r.leX l' fx,.inl ⟨hk,F.ownL,_,hn,by simp⟩⟩
   ·rw [getElem?_set_ne' q] at e
    obtain ⟨w,rw',d⟩:=F.fm.rd j y hj aw e
    refine ⟨w,rw'.leX l' fx,?_⟩
    rcases d with ⟨k,f,m',n',e'⟩|⟨k,c,e',f,n'⟩
    ·refine .inl ⟨k,f,_,hn,?_⟩
     have hxy:y≠x:=fun z=>q (F.inj i j x hi (z▸hj))
     simp only [if_neg hxy]
     rw [← e']
     obtain ⟨o1,es1,ep1,g1,g2,g3,g4⟩:=hm
     obtain ⟨o2,es2,ep2,k1,k2,k3,k4⟩:=n'
     rw [g1] at k1;cases k1
     rw [g2] at k2;cases k2
     rw [← g4,← k4]
    ·obtain ⟨_,_,g3,_⟩:=F.cell y c e'
     exact .inr ⟨k,c,e',f,a1Z n' fun o ho=>(hs.2 c g3).trans ho⟩
  ·obtain ⟨g1,g2,g3,w,g4⟩:=F.cell y c e
   exact ⟨g1,g2,g3,w,a1Z g4 fun o ho=>(hs.2 c g3).trans ho⟩
 ·obtain ⟨c,hc⟩:=F.fm.cells x hk
  obtain ⟨g1,g2,g3,w,g4⟩:=F.cell x c hc
  refine wpAny_storeName_cell F.fm.kind hk hc g4 (fun h' hn hs=>?_)
  obtain ⟨o',z⟩:=C8 hn
  obtain ⟨I',l'⟩:=I.touch (X:=Mine.frX env) (s':={ W.s with heap:=h' }) g1 g2 (.inr ⟨x,hc⟩) fx (fun b o n e=>(hs.2 b n).trans e) rfl rfl
  have hL:∀ {m:Str→Option Value},W.h.Ns env.locals m→h'.Ns env.locals m:=fun n=>b5D n fun o ho=>(hs.2 _ g3.symm).trans ho
  refine h { W with s:={ W.s with heap:=h' } } I' l' rfl ⟨⟨F.fm.kind,F.fm.glob,F.fm.bi,F.fm.cells,fun j y hj aw e=>?_⟩,let ⟨m,n⟩:=F.ns;⟨m,hL n⟩,F.ownL,F.baseL,F.kinds,fun y d e=>?_,F.cinj,F.inj,F.inj2,fun j y hj=>by simpa using F.len j y hj⟩
  ·by_cases q:i = j
   ·subst q
    have:=F.inj2 i x y hi hj
    subst this
    rw [List.getElem?_set_self (F.len i x hi)] at e
    cases e
    exact ⟨v,r.leX l' fx,.inr ⟨hk,c,hc,g1,hn⟩⟩
   ·rw [getElem?_set_ne' q] at e
    obtain ⟨w,rw',d⟩:=F.fm.rd j y hj aw e
    refine ⟨w,rw'.leX l' fx,?_⟩
    rcases d with ⟨k,f,m',n',e'⟩|⟨k,d,e',f,n'⟩
    ·exact .inl ⟨k,f,m',hL n',e'⟩
    ·have hxy:y≠x:=fun z=>q (F.inj i j x hi (z▸hj))
     have hdc:d≠c:=fun z=>hxy (F.cinj y x c (z▸e') hc)
     exact .inr ⟨k,d,e',f,a1Z n' fun o ho=>(hs.2 d hdc).trans ho⟩
  ·obtain ⟨k1,k2,k3,w',k4⟩:=F.cell y d e
   by_cases z:d = c
   ·subst z;exact ⟨k1,k2,k3,_,hn⟩
   ·exact ⟨k1,k2,k3,w',a1Z k4 fun o ho=>(hs.2 d z).trans ho⟩
end
end Mine
namespace Mine
open PySem PySem.SeqAt PySem.Spec PySem.W PySem.Calls
inductive TOk:Out AV→Prop
 | mk {v:AV} {h:Hp} {b:Bool}:j8 v = some b→TOk (.ok v h)
theorem TOk.ne {x:Out AV} (t:TOk x):x≠.fail:=by cases t;exact fun z=>nomatch z
inductive b2k (T:Tp) (W:Wd) (r:Out AV) (b:Bool) (s':Shared):Prop
 | intro (v:AV) (W':Wd):W'.s = s'→r = .ok v W'.σ→j8 v = some b→Inv T W'→Le0 noX W W'→b2k T W r b s'
noncomputable def H5 (T:Tp) (A:Around) (W:Wd) (t:Sem Bool) (r:Out AV):Prop:=wpAny T.M A t (b2k T W r) (fun _ _=>False) W.s
section
variable {T:Tp} {G:Gl} {N:Nm} {n:Nat} {C:Cx} {sl:List (Nat×Str)} {A:Around} {W:Wd} {env:Env} {vs:Vs}
theorem H5.cps {t:Sem Bool} {r:Out AV} {Q:Bool→Shared→Prop} {E:Value→Shared→Prop} (h:H5 T A W t r) (k:∀ v W' b,r = .ok v W'.σ→j8 v = some b→Inv T W'→Le noX W W'→Q b W'.s):wpAny T.M A t Q E W.s :=
 wpAny_mono (wpAny_toks h) (fun b _ ⟨tk,v,W',e,q,ht,I,l⟩=>e▸k v W' b q ht I ⟨l,e▸tk⟩) fun _ _ q=>q.2.elim
theorem H5.up {W₀:Wd} {t:Sem Bool} {r r₀:Out AV} {E:Value→Shared→Prop} (h:H5 T A W t r) (l:Le0 noX W₀ W) (e:r₀ = r):wpAny T.M A t (b2k T W₀ r₀) E W.s :=
 wpAny_mono h (fun b _ ⟨v,W',e',q,ht,I,l'⟩=>⟨v,W',e',e.trans q,ht,I,l.trans l'⟩) fun _ _ q=>q.elim
theorem H5.pick {α:Type} {t:Sem Bool} {x:Out AV} {g k:AV→Hp→Out α} {Q:Bool→Shared→Prop} {E:Value→Shared→Prop} {P:Out α→Prop} (hP:¬ P .fail) (ht:P (x.bind fun v h=>x5 (j8 v) (g v h) (k v h))) (h:TOk x→H5 T A W t x)
  (kt:∀ v W',Inv T W'→Le noX W W'→j8 v = some true→P (g v W'.σ)→(x.bind fun v h=>x5 (j8 v) (g v h) (k v h)) = g v W'.σ→Q true W'.s)
  (kf:∀ v W',Inv T W'→Le noX W W'→j8 v = some false→P (k v W'.σ)→(x.bind fun v h=>x5 (j8 v) (g v h) (k v h)) = k v W'.σ→Q false W'.s):wpAny T.M A t Q E W.s:=by
 cases x with
 | fail=>exact absurd ht hP
 | ok v h' =>
  have ht:P (x5 (j8 v) (g v h') (k v h')):=ht
  cases z:j8 v with
  | none=>rw [z] at ht;exact absurd ht hP
  | some b =>
   refine (h (.mk z)).cps fun v' W' b' e tv I l=>?_
   cases e
   rw [tv] at ht
   have e2:((Out.ok v W'.σ).bind fun v h=>x5 (j8 v) (g v h) (k v h)) = x5 (some b') (g v W'.σ) (k v W'.σ):=congrArg (fun o=>x5 o (g v W'.σ) (k v W'.σ)) tv
   cases b' with
   | true=>exact kt v W' I l tv ht e2
   | false=>exact kf v W' I l tv ht e2
noncomputable def ST (T:Tp) (G:Gl) (N:Nm) (n:Nat) (C:Cx) (m:ME):Prop :=
 ∀ {p:Nat} {sl:List (Nat×Str)} {A:Around} {W:Wd} {env:Env} {vs:Vs},E8 T n C.P.hd sl A W env vs→okE G N env.scope sl m = true→TOk (ev C m W.σ vs)→H5 T A W (isTrue (f6 N m p).1 env (eval (f6 N m p).1 env)) (ev C m W.σ vs)
structure SB (T:Tp) (G:Gl) (N:Nm) (n:Nat) (C:Cx) (m:ME):Prop where
 e:SE T G N n C m
 t:ST T G N n C m
theorem Z5 {x:AV} {v:Value} (r:W.V T x v) {Q:Value→Shared→Prop} {E:Value→Shared→Prop} (q:Q (.bool (isN x)) W.s):wpAny T.M A (compareOp .Is v .none) Q E W.s:=by
 cases r<;>exact wpAny_is_plain rfl q
theorem a0j {x:AV} {v:Value} (r:W.V T x v) {Q:Value→Shared→Prop} {E:Value→Shared→Prop} (q:Q (.bool (isT x)) W.s):wpAny T.M A (compareOp .Is v (.bool true)) Q E W.s:=by
 cases r with
 | bool b=>cases b<;>exact wpAny_is_plain rfl q
 | _=>exact wpAny_is_plain rfl q
theorem b1C {e0:ME} (i:SE T G N n C e0):SB T G N n C (.isNone e0) :=
 ⟨fun H hm hn=>wpAny_Compare1 (b8.then (i H hm) hn fun x W1 v I1 l1 r _ e1=>wpAny_Constant_none (Z5 r ⟨_,W1,rfl,e1,I1,l1.toLe0,.bool _⟩)) rfl,
  fun H hm ht=>wpAny_isTrue_Compare1 (b8.then (i H hm) ht.ne fun x W1 v I1 l1 r _ e1=>wpAny_Constant_none (Z5 r (wpAny_truthy_bool ⟨_,W1,rfl,e1,rfl,I1,l1.toLe0⟩))) rfl⟩
theorem b0z {e0:ME} (i:SE T G N n C e0):SB T G N n C (.isTrue e0) :=
 ⟨fun H hm hn=>wpAny_Compare1 (b8.then (i H hm) hn fun x W1 v I1 l1 r _ e1=>wpAny_Constant_bool (a0j r ⟨_,W1,rfl,e1,I1,l1.toLe0,.bool _⟩)) rfl,
  fun H hm ht=>wpAny_isTrue_Compare1 (b8.then (i H hm) ht.ne fun x W1 v I1 l1 r _ e1=>wpAny_Constant_bool (a0j r (wpAny_truthy_bool ⟨_,W1,rfl,e1,rfl,I1,l1.toLe0⟩))) rfl⟩
theorem p7 {m:ME} {op:COp} {p:Nat} (i:SE T G N n C m) (H:E8 T n C.P.hd sl A W env vs) (hm:okE G N env.scope sl m = true) {x:AV} {vx:Value} (rx:W.V T x vx) {g:Bool→AV→Hp→Out AV}
  (hn:((ev C m W.σ vs).bind fun y h=>ofO (j5 op x y h) fun b=>g b y h)≠.fail) {E:Value→Shared→Prop} {K:Value→Value→Shared→Prop}
  (k:∀ (y:AV) (vy:Value) (b:Bool) (W3:Wd),Inv T W3→Le noX W W3→W3.V T y vy→g b y W3.σ≠.fail→((ev C m W.σ vs).bind fun y h=>ofO (j5 op x y h) fun b=>g b y h) = g b y W3.σ→K vy (.bool b) W3.s) :
  wpAny T.M A (eval (f6 N m p).1 env) (fun b s₁=>wpAny T.M A (compareOp (a5S op) vx b) (K b) E s₁) E W.s :=
 b8.then (i H hm) hn fun y W2 vy I2 l2 ry n2 e2=>by
  cases z:j5 op x y W2.σ with
  | none=>rw [z] at n2;exact absurd rfl n2
  | some b =>
   rw [z] at n2 e2
   exact wpAny_with_toks (n:=W2.s.toks) (Nat.le_refl _) (b1i I2 (rx.le l2.toLe0) ry H.room z _ _ fun t ht=>k y vy b { W2 with s:={ W2.s with toks:=t } } (I2.toks t).1 ⟨l2.toLe0.trans (I2.toks t).2,Nat.le_trans l2.tk ht⟩ (ry.le (I2.toks t).2) n2 e2)
theorem b7d {l r:ME} {op:COp} (il:SE T G N n C l) (ir:SE T G N n C r):SB T G N n C (.cmp l op r) :=
 ⟨fun H hm hn=>wpAny_Compare1 (b8.then (il H (Bool.and_eq_true_iff.mp hm).1) hn fun x W1 vx I1 l1 rx n1 e1=>p7 (g:=fun b _ h=>.ok (.bool b) h) ir (H.le I1 l1) (Bool.and_eq_true_iff.mp hm).2 rx n1 fun y vy b W3 I3 l3 _ _ e3=>⟨.bool b,W3,rfl,e1.trans e3,I3,(l1.trans l3).toLe0,.bool _⟩) (F6 _ r _),
  fun H hm ht=>wpAny_isTrue_Compare1 (b8.then (il H (Bool.and_eq_true_iff.mp hm).1) ht.ne fun x W1 vx I1 l1 rx n1 e1=>p7 (K:=fun _ c s=>wpAny T.M _ (truthy c) _ _ s) (g:=fun b _ h=>.ok (.bool b) h) ir (H.le I1 l1) (Bool.and_eq_true_iff.mp hm).2 rx n1 fun y vy b W3 I3 l3 _ _ e3=>wpAny_truthy_bool ⟨.bool b,W3,rfl,e1.trans e3,rfl,I3,(l1.trans l3).toLe0⟩) (F6 _ r _)⟩
noncomputable def b5A (C:Cx) (op':COp) (r:ME) (vs:Vs) (b:Bool) (y:AV) (h:Hp):Out AV:=match b with
 | true=>(ev C r h vs).bind fun z h=>D5 (j5 op' y z h) h
 | false=>.ok (.bool false) h
theorem a6U (l:ME) (op:COp) (m:ME) (op':COp) (r:ME) (h:Hp) (vs:Vs):ev C (.chain l op m op' r) h vs = (ev C l h vs).bind fun x h=>(ev C m h vs).bind fun y h=>ofO (j5 op x y h) fun b=>b5A C op' r vs b y h:=by
 show ((ev C l h vs).bind fun x h=>(ev C m h vs).bind fun y h=>x5 (j5 op x y h) ((ev C r h vs).bind fun z h=>D5 (j5 op' y z h) h) (.ok (.bool false) h)) = _
 congr 1;funext x h;congr 1;funext y h
 rcases j5 op x y h with _|_|_<;>rfl
theorem b2D {l m r:ME} {op op':COp} (il:SE T G N n C l) (im:SE T G N n C m) (ir:SE T G N n C r):SB T G N n C (.chain l op m op' r):=by
 constructor
 ·intro p sl A W env vs H hm hn
  have hm:=a0w hm
  rw [a6U] at hn ⊢
  exact PyProof.Rows.Compare_chain (rs:=[]) (b8.then (il H hm.1.1) hn fun x W1 vx I1 l1 rx n1 e1=>PyProof.Rows.chain_link (p7 (K:=fun vy c s=>wpAny T.M _ (truthy c) _ _ s) im (H.le I1 l1) hm.1.2 rx n1 fun y vy b W3 I3 l3 ry n3 e3=>wpAny_truthy_bool (by
   cases b with
   | false=>exact ⟨.bool false,W3,rfl,e1.trans e3,I3,(l1.trans l3).toLe0,.bool _⟩
   | true=>exact PyProof.Rows.chain_last (p7 (g:=fun b _ h=>.ok (.bool b) h) ir (H.le I3 (l1.trans l3)) hm.2 ry n3 fun z vz b W5 I5 l5 _ _ e5=>⟨.bool b,W5,rfl,(e1.trans e3).trans e5,I5,((l1.trans l3).trans l5).toLe0,.bool _⟩)))) (F6 _ r _)
 ·intro p sl A W env vs H hm ht
  have hm:=a0w hm
  rw [a6U] at ht ⊢
  exact PyProof.Rows.isTrue_chain (rs:=[]) (b8.then (il H hm.1.1) ht.ne fun x W1 vx I1 l1 rx n1 e1=>PyProof.Rows.test_link (p7 (K:=fun vy c s=>wpAny T.M _ (truthy c) _ _ s) im (H.le I1 l1) hm.1.2 rx n1 fun y vy b W3 I3 l3 ry n3 e3=>wpAny_truthy_bool (by
   cases b with
   | false=>exact ⟨.bool false,W3,rfl,e1.trans e3,rfl,I3,(l1.trans l3).toLe0⟩
   | true=>exact PyProof.Rows.test_last (p7 (K:=fun _ c s=>wpAny T.M _ (truthy c) _ _ s) (g:=fun b _ h=>.ok (.bool b) h) ir (H.le I3 (l1.trans l3)) hm.2 ry n3 fun z vz b W5 I5 l5 _ _ e5=>wpAny_truthy_bool ⟨.bool b,W5,rfl,(e1.trans e3).trans e5,rfl,I5,((l1.trans l3).trans l5).toLe0⟩)))) (F6 _ r _)
noncomputable def b6H (C:Cx) (op':COp) (r:ME) (op'':COp) (q:ME) (vs:Vs) (b:Bool) (y:AV) (h:Hp):Out AV:=match b with
 | true=>(ev C r h vs).bind fun z h=>ofO (j5 op' y z h) fun b=>b5A C op'' q vs b z h
 | false=>.ok (.bool false) h
theorem a4l (l:ME) (op:COp) (m:ME) (op':COp) (r:ME) (op'':COp) (q:ME) (h:Hp) (vs:Vs):ev C (.chain3 l op m op' r op'' q) h vs = (ev C l h vs).bind fun x h=>(ev C m h vs).bind fun y h=>ofO (j5 op x y h) fun b=>b6H C op' r op'' q vs b y h:=by
 rw [b6N]
 congr 1;funext x h;congr 1;funext y h
 rcases j5 op x y h with _|_|_
 ·rfl
 ·rfl
 ·show (ev C r h vs).bind _ = (ev C r h vs).bind _
  congr 1;funext z h
  rcases j5 op' y z h with _|_|_<;>rfl
theorem b0M {l m r q:ME} {op op' op'':COp} (il:SE T G N n C l) (im:SE T G N n C m) (ir:SE T G N n C r) (iq:SE T G N n C q):SB T G N n C (.chain3 l op m op' r op'' q):=by
 constructor
 ·intro p sl A W env vs H hm hn
  have hm:=a6N hm
  rw [a4l] at hn ⊢
  exact PyProof.Rows.Compare_chain (rs:=[_]) (b8.then (il H hm.1.1.1) hn fun x W1 vx I1 l1 rx n1 e1=>PyProof.Rows.chain_link (p7 (K:=fun vy c s=>wpAny T.M _ (truthy c) _ _ s) im (H.le I1 l1) hm.1.1.2 rx n1 fun y vy b W3 I3 l3 ry n3 e3=>wpAny_truthy_bool (by
   cases b with
   | false=>exact ⟨.bool false,W3,rfl,e1.trans e3,I3,(l1.trans l3).toLe0,.bool _⟩
   | true=>exact PyProof.Rows.chain_link (p7 (K:=fun vy c s=>wpAny T.M _ (truthy c) _ _ s) ir (H.le I3 (l1.trans l3)) hm.1.2 ry n3 fun z vz b W5 I5 l5 rz n5 e5=>wpAny_truthy_bool (by
    cases b with
    | false=>exact ⟨.bool false,W5,rfl,(e1.trans e3).trans e5,I5,((l1.trans l3).trans l5).toLe0,.bool _⟩
    | true=>exact PyProof.Rows.chain_last (p7 (g:=fun b _ h=>.ok (.bool b) h) iq (H.le I5 ((l1.trans l3).trans l5)) hm.2 rz n5 fun w vw b W7 I7 l7 _ _ e7=>⟨.bool b,W7,rfl,((e1.trans e3).trans e5).trans e7,I7,(((l1.trans l3).trans l5).trans l7).toLe0,.bool _⟩)))))) (F6 _ q _)
 ·intro p sl A W env vs H hm ht
  have hm:=a6N hm
  rw [a4l] at ht ⊢
  exact PyProof.Rows.isTrue_chain (rs:=[_]) (b8.then (il H hm.1.1.1) ht.ne fun x W1 vx I1 l1 rx n1 e1=>PyProof.Rows.test_link (p7 (K:=fun vy c s=>wpAny T.M _ (truthy c) _ _ s) im (H.le I1 l1) hm.1.1.2 rx n1 fun y vy b W3 I3 l3 ry n3 e3=>wpAny_truthy_bool (by
   cases b with
   | false=>exact ⟨.bool false,W3,rfl,e1.trans e3,rfl,I3,(l1.trans l3).toLe0⟩
   | true=>exact PyProof.Rows.test_link (p7 (K:=fun vy c s=>wpAny T.M _ (truthy c) _ _ s) ir (H.le I3 (l1.trans l3)) hm.1.2 ry n3 fun z vz b W5 I5 l5 rz n5 e5=>wpAny_truthy_bool (by
    cases b with
    | false=>exact ⟨.bool false,W5,rfl,(e1.trans e3).trans e5,rfl,I5,((l1.trans l3).trans l5).toLe0⟩
    | true=>exact PyProof.Rows.test_last (p7 (K:=fun _ c s=>wpAny T.M _ (truthy c) _ _ s) (g:=fun b _ h=>.ok (.bool b) h) iq (H.le I5 ((l1.trans l3).trans l5)) hm.2 rz n5 fun w vw b W7 I7 l7 _ _ e7=>wpAny_truthy_bool ⟨.bool b,W7,rfl,((e1.trans e3).trans e5).trans e7,rfl,I7,(((l1.trans l3).trans l5).trans l7).toLe0⟩)))))) (F6 _ q _)
theorem a4L {v:AV} {h:Hp} {b:Bool} (e:j8 v = some b):D5 ((j8 v).map (!·)) h = .ok (.bool (!b)) h:=by rw [e];rfl
theorem b6X {e0:ME} (i:SB T G N n C e0):SB T G N n C (.not e0):=by
 constructor
 ·exact fun H hm hn=>wpAny_UnaryOp (b8.then (i.e H hm) hn fun x W1 v I1 l1 r n1 e1=>PyProof.Rows.not_of (by
   cases z:j8 x with
   | none=>rw [z] at n1;exact absurd rfl n1
   | some b=>exact Z0 r z _ _ fun k=>⟨.bool (!b),{ W1 with s:={ W1.s with toks:=k } },rfl,e1.trans (a4L z),(I1.toks k).1,l1.toLe0.trans (I1.toks k).2,.bool _⟩))
 ·intro p sl A W env vs H hm ht
  have hx:TOk (ev C e0 W.σ vs):=by
   have ht:TOk ((ev C e0 W.σ vs).bind fun x h=>D5 ((j8 x).map (!·)) h):=ht
   cases q:ev C e0 W.σ vs with
   | fail=>rw [q] at ht;cases ht
   | ok v h =>
    rw [q] at ht
    have ht:TOk (D5 ((j8 v).map (!·)) h):=ht
    cases z:j8 v with
    | none=>rw [z] at ht;cases ht
    | some b=>exact .mk z
  exact wpAny_isTrue_Not ((i.t H hm hx).cps fun v W1 b e z I1 l1=>⟨.bool (!b),W1,rfl,(congrArg (fun o=>Out.bind o fun x h=>D5 ((j8 x).map (!·)) h) e).trans (a4L z),rfl,I1,l1.toLe0⟩)
theorem a5W:∀ (ms:List ME),(∀ m∈ms,ST T G N n C m)→∀ {p:Nat} {W:Wd},E8 T n C.P.hd sl A W env vs→okEs G N env.scope sl ms = true→TOk (evAnd C ms W.σ vs)→H5 T A W (allTrue .And (embEs N ms p).1 env) (evAnd C ms W.σ vs)
 | [],_,_,_,_,_,ht=>nomatch ht
 | [m],ih,_,_,H,h,ht=>wpAny_allTrue_And_cons ((ih m List.mem_cons_self H (j7 h).1 ht).cps fun v W1 b e z I1 l1=>by
   cases b with
   | true=>exact wpAny_allTrue_And_nil ⟨v,W1,rfl,e,z,I1,l1.toLe0⟩
   | false=>exact ⟨v,W1,rfl,e,z,I1,l1.toLe0⟩)
 | m :: m' :: ms,ih,_,_,H,h,ht=>wpAny_allTrue_And_cons (H5.pick (P:=TOk) (fun z=>nomatch z) ht (ih m List.mem_cons_self H (j7 h).1)
   (fun v W1 I1 l1 _ t1 e1=>(a5W (m' :: ms) (fun q hq=>ih q (List.mem_cons_of_mem _ hq)) (H.le I1 l1) (j7 h).2 t1).up l1.toLe0 e1) fun v W1 I1 l1 z _ e1=>⟨v,W1,rfl,e1,z,I1,l1.toLe0⟩)
theorem a9j:∀ (ms:List ME),(∀ m∈ms,ST T G N n C m)→∀ {p:Nat} {W:Wd},E8 T n C.P.hd sl A W env vs→okEs G N env.scope sl ms = true→TOk (evOr C ms W.σ vs)→H5 T A W (allTrue .Or (embEs N ms p).1 env) (evOr C ms W.σ vs)
 | [],_,_,_,_,_,ht=>nomatch ht
 | [m],ih,_,_,H,h,ht=>wpAny_allTrue_Or_cons ((ih m List.mem_cons_self H (j7 h).1 ht).cps fun v W1 b e z I1 l1=>by
   cases b with
   | false=>exact wpAny_allTrue_Or_nil ⟨v,W1,rfl,e,z,I1,l1.toLe0⟩
   | true=>exact ⟨v,W1,rfl,e,z,I1,l1.toLe0⟩)
 | m :: m' :: ms,ih,_,_,H,h,ht=>wpAny_allTrue_Or_cons (H5.pick (P:=TOk) (fun z=>nomatch z) ht (ih m List.mem_cons_self H (j7 h).1)
   (fun v W1 I1 l1 z _ e1=>⟨v,W1,rfl,e1,z,I1,l1.toLe0⟩) fun v W1 I1 l1 _ t1 e1=>(a9j (m' :: ms) (fun q hq=>ih q (List.mem_cons_of_mem _ hq)) (H.le I1 l1) (j7 h).2 t1).up l1.toLe0 e1)
theorem b6S {es:List ME} (ih:∀ m∈es,SB T G N n C m):SB T G N n C (.and es) :=
 ⟨fun H hm hn=>a7p es (fun m hm=>(ih m hm).e) H hm hn,fun H hm ht=>wpAny_isTrue_BoolOp (a5W es (fun m hm=>(ih m hm).t) H hm ht)⟩
theorem b7Z {es:List ME} (ih:∀ m∈es,SB T G N n C m):SB T G N n C (.or es) :=
 ⟨fun H hm hn=>a9G es (fun m hm=>(ih m hm).e) H hm hn,fun H hm ht=>wpAny_isTrue_BoolOp (a9j es (fun m hm=>(ih m hm).t) H hm ht)⟩
noncomputable def b8l:ME→Bool
 | .not _=>false
 | .and _=>false
 | .or _=>false
 | .isNone _=>false
 | .isTrue _=>false
 | .cmp _ _ _=>false
 | .chain _ _ _ _ _=>false
 | .chain3 _ _ _ _ _ _ _=>false
 | _=>true
theorem a9W {m:ME} {p:Nat} {env:Env} (h:b8l m = true):isTrue (f6 N m p).1 env (eval (f6 N m p).1 env) = (do let v ← eval (f6 N m p).1 env;standAt (f6 N m p).1.pos;holding [v] (truthy v)):=by
 cases m<;>first|rfl|cases h
theorem p4 {m:ME} (hv:b8l m = true) (i:SE T G N n C m):SB T G N n C m :=
 ⟨i,fun H hm ht=>wpAny_isTrue_value ((i H hm ht.ne).cps fun v W1 val e I1 l1 r=>by
  rw [e] at ht
  cases ht with
  | mk z=>exact Z0 r z _ _ fun k=>⟨v,{ W1 with s:={ W1.s with toks:=k } },rfl,e,z,(I1.toks k).1,l1.toLe0.trans (I1.toks k).2⟩) (a9W hv)⟩
end
end Mine
namespace Mine
open PySem PySem.SeqAt PySem.Spec PySem.W PySem.Calls
noncomputable def A7:Src→Hp→Option (List AV)
 | .fixed xs,_=>some xs
 | .list l _,h=>b4D l h
 | .dict l ep n,h=>getD l ep n h
noncomputable def b6n:Src→Nat
 | .fixed xs=>xs.length
 | .list _ n=>n
 | .dict _ _ n=>n
theorem b3x {σ ρ:Type} (bad:ρ) (f:AV→σ→It σ ρ) (xs:List AV):∀ (k i:Nat) (s:σ),i + k = xs.length→Q5 f (xs.drop i) s = s8 (fun _=>some xs) bad f (k + 1) i s:=by
 intro k
 induction k with
 | zero =>
  intro i s h
  have h:xs.length≤i:=Nat.le_of_eq h.symm
  rw [s8,List.drop_eq_nil_of_le h]
  show _ = orO xs[i]? _ _
  rw [List.getElem?_eq_none h]
  rfl
 | succ k ih =>
  intro i s h
  have hi:i < xs.length:=by exact more h
  rw [s8,List.drop_eq_getElem_cons hi]
  show (f xs[i] s).bind _ = orO xs[i]? _ _
  rw [List.getElem?_eq_getElem hi]
  show (f xs[i] s).bind _ = (f xs[i] s).bind _
  cases f xs[i] s with
  | go s'=>exact ih (i + 1) s' (by exact next h)
  | stop x=>rfl
theorem a5A {τ ρ:Type} (src:Src) (bad:ρ) (f:AV→Hp×τ→It (Hp×τ) ρ) (s:Hp×τ):iter src bad f s = s8 (fun st=>A7 src st.1) bad f (b6n src + 1) 0 s:=by
 cases src with
 | fixed xs=>exact b3x bad f xs xs.length 0 s (Nat.zero_add _)
 | list l n=>rfl
 | dict l ep n=>rfl
section
variable {T:Tp} {A:Around} {W W':Wd}
inductive a3s (T:Tp) (W:Wd) (J:Addr):Src→Nat→Prop
 | str {s:List Nat} {t:Tok} {i:Nat}:W.h.IsStrIter J "str_ascii_iterator" (tS s) t i→okS s→a3s T W J (.fixed (s.map fun c=>.str [c])) i
 | tup {xs:List AV} {a:Addr} {i:Nat}:W.h.IsTupleIter J a i→W.V T (.tup xs) (.ref a)→a3s T W J (.fixed xs) i
 | rng {a:Int} {k i:Nat}:IsRangeIter W.h J (a + i) (k - i) 1→a3s T W J (.fixed (ups a k)) i
 | list {l k i:Nat} {a:Addr}:W.h.IsListIter J a i→W.bt[l]? = some a→a3s T W J (.list l k) i
 | dict {l ep k i:Nat} {a:Addr}:W.h.IsKeyIter J a i k ep→W.bt[l]? = some a→a3s T W J (.dict l ep k) i
structure Q9 (T:Tp) (W:Wd) (J:Addr) (src:Src) (i:Nat):Prop where
 own:W.own J = .free
 base:T.base.get? J = none
 it:a3s T W J src i
theorem a3s.there {J:Addr} {src:Src} {i:Nat} (h:a3s T W J src i):∃ o,W.h.get? J = some o∧oth o = true:=by
 cases h with
 | str h _=>obtain ⟨o,h1,h2,_⟩:=h;exact ⟨o,h1,by unfold oth;rw [h2];rfl⟩
 | tup h _=>obtain ⟨o,h1,h2,_⟩:=h;exact ⟨o,h1,by unfold oth;rw [h2];rfl⟩
 | rng h=>exact ⟨_,h,rfl⟩
 | list h _=>obtain ⟨o,h1,h2,_⟩:=h;exact ⟨o,h1,by unfold oth;rw [h2];rfl⟩
 | dict h _=>obtain ⟨o,h1,h2,_⟩:=h;exact ⟨o,h1,by unfold oth;rw [h2];rfl⟩
theorem Q9.frX {J:Addr} {src:Src} {i:Nat} (h:Q9 T W J src i):FrX (fun a=>a = J) W.own W.h:=fun a q=>⟨q▸h.own,fun o e=>by
 subst q
 obtain ⟨o',h1,h2⟩:=h.it.there
 rw [e] at h1;cases h1
 exact .inr (.inr h2)⟩
theorem Q9.leX {X:Addr→Prop} {J:Addr} {src:Src} {i:Nat} (h:Q9 T W J src i) (x:Le0 X W W') (fx:FrX X W.own W.h) (hJ:¬ X J):Q9 T W' J src i:=by
 obtain ⟨o,ho,hc⟩:=h.it.there
 have hk:∀ o,W.h.get? J = some o→(∀ es n,o.data≠.dict es n)→W'.h.get? J = some o:=fun o e z=>(x.ext.kp J o e h.own hJ).eq z
 refine ⟨(x.ext.ow _ _ ho hJ).trans h.own,h.base,?_⟩
 cases h.it with
 | str q ok=>obtain ⟨o',h1,h2⟩:=q;exact .str ⟨o',hk _ h1 (fun _ _ z=>nomatch h2.2.symm.trans z),h2⟩ ok
 | tup q r=>obtain ⟨o',h1,h2⟩:=q;exact .tup ⟨o',hk _ h1 (fun _ _ z=>nomatch h2.2.symm.trans z),h2⟩ (r.leX x fx)
 | rng q=>exact .rng (hk _ q fun _ _ z=>nomatch z)
 | list q e =>
  obtain ⟨o',h1,h2⟩:=q
  obtain ⟨r,er⟩:=x.ext.bt
  exact .list ⟨o',hk _ h1 (fun _ _ z=>nomatch h2.2.symm.trans z),h2⟩ (by rw [er,List.getElem?_append_left (List.getElem?_eq_some_iff.mp e).1];exact e)
 | dict q e =>
  obtain ⟨o',h1,h2⟩:=q
  obtain ⟨r,er⟩:=x.ext.bt
  exact .dict ⟨o',hk _ h1 (fun _ _ z=>nomatch h2.2.symm.trans z),h2⟩ (by rw [er,List.getElem?_append_left (List.getElem?_eq_some_iff.mp e).1];exact e)
theorem a8L (a:Int):∀ (k i:Nat),(ups a k)[i]? = if i < k then some (.int (a + i)) else none
 | 0,i=>by simp [ups]
 | k + 1,0=>by simp [ups]
 | k + 1,i + 1=>by
  rw [ups,List.getElem?_cons_succ,a8L (a + 1) k i]
  by_cases h:i < k
  ·rw [if_pos h,if_pos (by exact Nat.add_lt_add_right h 1)];congr 2;lia
  ·rw [if_neg h,if_neg (by lia)]
theorem a2i (I:Inv T W) {J:Addr} {src:Src} {i:Nat} (h:Q9 T W J src i) {h':Heap} {k:Nat} (hs:∀ b o,b≠J→W.h.get? b = some o→h'.get? b = some o) :
  Inv T { W with s:={ W.s with heap:=h',toks:=k } }∧Le0 (fun a=>a = J) W { W with s:={ W.s with heap:=h',toks:=k } } :=
 I.touch (s':={ W.s with heap:=h',toks:=k }) h.own h.base rfl h.frX hs rfl rfl
structure a6I (T:Tp) (W:Wd) (J:Addr) (src:Src) (i:Nat) (xs:List AV) (Q:Option Value→Shared→Prop):Prop where
 item:∀ av v W',xs[i]? = some av→Inv T W'→Le0 (fun a=>a = J) W W'→W'.σ = W.σ→Q9 T W' J src (i + 1)→W'.V T av v→Q (some v) W'.s
 stop:∀ W',xs[i]? = none→Inv T W'→Le0 (fun a=>a = J) W W'→W'.σ = W.σ→Q none W'.s
section
variable {J:Addr} {src:Src} {i:Nat} {xs:List AV} {Q:Option Value→Shared→Prop} {E:Value→Shared→Prop}
theorem a6I.go (q:a6I T W J src i xs Q) (I:Inv T W) (h:Q9 T W J src i) {av:AV} {h':Heap} {k:Nat} {v:Value} (e:xs[i]? = some av) (hs:Heap.SameBut J W.h h') (hit:a3s T { W with s:={ W.s with heap:=h',toks:=k } } J src (i + 1)) (r:W.V T av v):Q (some v) { W.s with heap:=h',toks:=k } :=
 let t:=a2i I h fun b o n e=>(hs.2 b n).trans e
 q.item av v { W with s:={ W.s with heap:=h',toks:=k } } e t.1 t.2 rfl ⟨h.own,h.base,hit⟩ (r.leX t.2 h.frX)
theorem a6I.end_ (q:a6I T W J src i xs Q) (I:Inv T W) (h:Q9 T W J src i) {h':Heap} (e:xs[i]? = none) (hs:Heap.ExtBut J W.h h'):Q none { W.s with heap:=h' } :=
 let t:=a2i (k:=W.s.toks) I h fun b o n e=>hs b o n e
 q.stop { W with s:={ W.s with heap:=h' } } e t.1 t.2 rfl
theorem a4a (I:Inv T W) (hh:A.handled = none) (h:Q9 T W J src i) (hx:A7 src W.σ = some xs) (q:a6I T W J src i xs Q):wpAny T.M A (pyNext (.ref J)) Q E W.s:=by
 cases h.it with
 | str hit ok =>
  rename_i s t
  cases hx
  cases z:s[i]? with
  | none=>exact wpAny_pyNext_ascii_end hh hit (by simpa [tS] using z) fun h' hs=>q.end_ I h (by rw [List.getElem?_map,z];rfl) hs
  | some c=>exact wpAny_pyNext_ascii_item hit (c:=c) (by simp [tS,z]) fun h' hit' hs=>q.go I h (by rw [List.getElem?_map,z];rfl) hs (.str hit' ok) (.str (s:=[c]) _ ⟨fun d hd=>List.mem_singleton.mp hd▸ok.1 _ (List.mem_of_getElem? z),by show 1≤lim;decide⟩)
 | tup hit r =>
  cases hx
  cases id r with
  | tup o1 c d f l z itm =>
   rename_i ob ws m
   cases hi:xs[i]? with
   | none=>exact wpAny_pyNext_tuple_end hh hit (items:=ws) ⟨_,o1,c,m,d⟩ (Array.getElem?_eq_none (by rw [z];exact List.getElem?_eq_none_iff.mp hi)) fun h' hs=>q.end_ I h hi hs
   | some av =>
    have hk:i < ws.size:=by rw [z];exact (List.getElem?_eq_some_iff.mp hi).1
    have ev:ws[i]? = some ws[i]:=Array.getElem?_eq_getElem hk
    exact wpAny_pyNext_tuple_item hit ⟨_,o1,c,m,d⟩ ev fun h' hit' hs=>q.go I h hi hs (.tup hit' (r.leX (a2i (k:=W.s.toks) I h fun b o n e=>(hs.2 b n).trans e).2 h.frX)) (itm i _ _ hi ev)
 | rng hit =>
  rename_i a k
  cases hx
  have u:=a8L a k i
  by_cases z:i < k
  ·rw [if_pos z] at u
   refine wpAny_pyNext_range_item hit (by lia) fun h' hit' hs=>q.go I h u hs (.rng ?_) (.int _ _)
   rw [show a + ((i + 1:Nat):Int) = a + i + 1 by lia,show (k:Int) - ((i + 1:Nat):Int) = k - i - 1 by lia];exact hit'
  ·rw [if_neg z] at u
   exact wpAny_pyNext_range_end hh hit (by lia) fun h' hs=>q.end_ I h u hs
 | list hit e =>
  obtain ⟨vs,m,h1,h2,h3⟩:=I.lo hx e
  cases hi:xs[i]? with
  | none=>exact wpAny_pyNext_list_end hh hit (items:=vs) ⟨_,h1,rfl,m,rfl⟩ (Array.getElem?_eq_none (by rw [B2 h2];exact List.getElem?_eq_none_iff.mp hi)) fun h' hs=>q.end_ I h hi hs
  | some av =>
   obtain ⟨v,ev,rv⟩:=h2.get hi
   rw [Array.getElem?_toList] at ev
   exact wpAny_pyNext_list_item hit ⟨_,h1,rfl,m,rfl⟩ ev fun h' hit' hs=>q.go I h hi hs (.list hit' e) rv
 | dict hit e =>
  rename_i l ep k a
  refine o5 hx fun p hp hx=>ifE hx fun hc hx=>?_
  cases hx
  obtain ⟨c1,rfl⟩:=of_decide_eq_true hc
  obtain ⟨arr,n,h1,dr,hs⟩:=I.di hp e
  obtain rfl:=dr.ep ep c1
  have sz:arr.size = p.2.length:=by rw [← Array.length_toList,dr.en.length]
  rw [← sz] at hit
  refine a3c hh hit h1 (fun e' h' he hit' hs'=>?_) fun he h' hs'=>q.end_ I h (by rw [List.getElem?_map,List.getElem?_eq_none (by rw [← sz];exact Array.getElem?_eq_none_iff.mp he)];rfl) hs'
  have hi:i < p.2.length:=by rw [← sz];exact (Array.getElem?_eq_some_iff.mp he).1
  obtain ⟨e2,he2,r⟩:=dr.en.get (List.getElem?_eq_getElem hi)
  rw [Array.getElem?_toList,he] at he2
  cases he2
  exact q.go (k:=W.s.toks) I h (by rw [List.getElem?_map,List.getElem?_eq_getElem hi];rfl) hs' (.dict (by rw [← sz];exact hit') e) r.key
end
theorem a0S (I:Inv T W) {av:AV} {v:Value} {src:Src} (r:W.V T av v) (e:z5 W.σ av = some src) {Q:Value→Shared→Prop} {E:Value→Shared→Prop}
  (q:∀ J W',Inv T W'→Le0 noX W W'→W'.σ = W.σ→W.h.get? J = none→(∀ b o,W.h.get? b = some o→W'.h.get? b = some o)→Q9 T W' J src 0→Q (.ref J) W'.s):wpAny T.M A (pyIter v) Q E W.s:=by
 have key:∀ ob:Obj,ob.isFreed = false→a3s T { W with s:={ W.s with heap:=W.h.push ob } } W.h.objs.size src 0→Q (.ref W.h.objs.size) { W.s with heap:=W.h.push ob }:=fun ob hf hit=>by
  have g:=I.grow (s':={ W.s with heap:=W.h.push ob }) (fun a q e=>Heap.get?_push_of_some _ e) rfl rfl
  refine q _ _ g.1 g.2 rfl (y5 _) (fun a q e=>Heap.get?_push_of_some _ e) ⟨r7 I (y5 _),?_,hit⟩
  cases z:T.base.get? W.h.objs.size with
  | none=>rfl
  | some o=>exact absurd (Heap.lt_size (I.base _ _ z)) (Nat.lt_irrefl _)
 cases id r with
 | str t ok =>
  rename_i s
  cases e
  refine wpAny_pyIter_ascii (by simp only [tS,Array.all_eq_true,decide_eq_true_eq];intro j hj;have:=ok.1 _ (List.getElem_mem (l:=s) (by simpa using hj));simpa using this) ?_
  exact key _ rfl (.str ⟨_,Heap.get?_push_size _ rfl,rfl,rfl⟩ ok)
 | tup o1 c d f l z itm =>
  rename_i m
  cases e
  exact wpAny_pyIter_tuple ⟨_,o1,c,m,d⟩ (key _ rfl (.tup ⟨_,Heap.get?_push_size _ rfl,rfl,rfl⟩ (r.le (I.grow (s':={ W.s with heap:=W.h.push _ }) (fun a q e=>Heap.get?_push_of_some _ e) rfl rfl).2)))
 | ref hl =>
  refine orE e (fun xs e1 e=>?_) fun _ e=>o5 e fun p e1 e=>?_
  ·cases e
   obtain ⟨vs,m,h1,h2,h3⟩:=I.lo e1 hl
   exact wpAny_pyIter_list ⟨_,h1,rfl,m,rfl⟩ (key _ rfl (.list ⟨_,Heap.get?_push_size _ rfl,rfl,rfl⟩ hl))
  ·obtain ⟨ep,e2,rfl⟩:=Option.map_eq_some_iff.mp e
   obtain ⟨arr,n,h1,dr,hs⟩:=I.di e1 hl
   obtain rfl:=dr.ep ep e2
   refine a6g hs h1 (key _ rfl (.dict ⟨_,Heap.get?_push_size _ rfl,rfl,?_⟩ hl))
   rw [← dr.en.length,Array.length_toList];rfl
 | rng h1 h2 h3 h4 h5 h6 =>
  rename_i x y a t u v'
  cases e
  have hl:(lim:Int) = 16777216:=rfl
  refine wpAny_pyIter_range h1 (small_one (by lia) (by lia) (by lia) (by lia)) (key _ rfl (.rng ?_))
  have e1:Builtin.Range.rangeSize x y 1 = (((y - x).toNat:Nat):Int):=by rw [rangeSize_one];split<;>lia
  rw [e1]
  have:=Heap.get?_push_size W.h (o:={ cls:=.type "range_iterator",data:=.fields #[rawInt x,rawInt (((y - x).toNat:Nat):Int),rawInt 1] }) rfl
  simpa using this
 | _=>cases e
end
end Mine
namespace Mine
open PySem PySem.SeqAt PySem.Spec PySem.W PySem.Calls
section
variable {T:Tp} {A:Around} {W:Wd}
theorem b1h {J:Addr} {src:Src} {i:Nat} (h:Q9 T W J src i) {Q:Value→Shared→Prop} {E:Value→Shared→Prop} (q:Q (.ref J) W.s):wpAny T.M A (pyIter (.ref J)) Q E W.s:=by
 cases h.it with
 | str hit _=>exact wpAny_pyIter_striter_ascii hit q
 | tup hit _=>exact wpAny_pyIter_tupleiter hit q
 | rng hit=>exact wpAny_pyIter_rangeiter hit q
 | list hit _=>exact wpAny_pyIter_listiter hit q
 | dict hit _=>exact wpAny_pyIter_keyiter hit q
noncomputable def L4 (cells:List (Str×Addr)):List (Str×NameKind)→List (Str×Addr)→List (Str×Addr)
 | [],acc=>acc
 | (n,k) :: r,acc=>if k == .free then L4 cells r ((n,(cells.lookup n).getD 0) :: acc) else L4 cells r acc
theorem a2T {scope:Scope} {env:Env} (h:∀ p∈scope.names,p.2 = .free→∃ c,env.cells.lookup p.1 = some c):closureFor scope env = pure (L4 env.cells scope.names []):=by
 unfold closureFor
 have key:∀ (names:List (Str×NameKind)) (acc:List (Str×Addr)),(∀ p∈names,p.2 = .free→∃ c,env.cells.lookup p.1 = some c) →
   (forIn names acc fun (x:Str×NameKind) (cs:List (Str×Addr))=>match x with
     | (name,kind)=>if (kind == NameKind.free) = true then (do let c ← cellOf env name;pure (ForInStep.yield ((name,c) :: cs)):Sem (ForInStep (List (Str×Addr)))) else pure (ForInStep.yield cs)) = pure (L4 env.cells names acc):=by
  intro names
  induction names with
  | nil=>intro acc _;rfl
  | cons p r ih =>
   intro acc hp
   obtain ⟨nm,k⟩:=p
   rw [List.forIn_cons]
   simp only [L4]
   by_cases hk:(k == NameKind.free) = true
   ·obtain ⟨c,hc⟩:=hp (nm,k) (by simp) (eq_of_beq hk)
    simp only [hk,if_true]
    have e:cellOf env nm = pure c:=by unfold cellOf;rw [hc]
    rw [e,pure_bind,pure_bind]
    simp only
    rw [ih _ fun q hq=>hp q (by simp [hq]),hc]
    rfl
   ·simp only [hk,if_false,Bool.false_eq_true]
    rw [pure_bind]
    exact ih _ fun q hq=>hp q (by simp [hq])
 have e:=key scope.names [] h
 show (forIn scope.names [] _ >>= fun cs=>pure cs) = _
 rw [bind_pure]
 exact e
theorem U0 {cells:List (Str×Addr)} {y:Str} {c:Addr} (hc:cells.lookup y = some c):∀ (names:List (Str×NameKind)) (acc:List (Str×Addr)),(acc.lookup y = some c∨(acc.lookup y = none∧(y,NameKind.free)∈names))→(L4 cells names acc).lookup y = some c
 | [],acc,h=>by
  rcases h with h|⟨_,h⟩
  ·exact h
  ·cases h
 | (n,k) :: r,acc,h=>by
  simp only [L4]
  by_cases hk:(k == NameKind.free) = true
  ·rw [if_pos hk]
   refine U0 hc r _ ?_
   by_cases hn:(y == n) = true
   ·have:y = n:=eq_of_beq hn
    subst this
    exact .inl (by simp [hc])
   ·have hn':(y == n) = false:=by simpa using hn
    rcases h with h|⟨h1,h2⟩
    ·exact .inl (by rw [List.lookup_cons,hn'];exact h)
    ·refine .inr ⟨by rw [List.lookup_cons,hn'];exact h1,?_⟩
     rcases List.mem_cons.mp h2 with q|q
     ·cases q;simp at hn
     ·exact q
  ·rw [if_neg hk]
   refine U0 hc r _ ?_
   rcases h with h|⟨h1,h2⟩
   ·exact .inl h
   ·refine .inr ⟨h1,?_⟩
    rcases List.mem_cons.mp h2 with q|q
    ·cases q;exact absurd rfl hk
    ·exact q
end
end Mine
namespace Mine
open PySem PySem.SeqAt PySem.Spec PySem.W PySem.Calls
theorem a0z {sc:Scope} (hf:(sc.kind == ScopeKind.function) = true):∀ {names:List (Str×NameKind)} {y:Str},names.lookup y = some .free→sc.names.lookup y = some .cell →
  (names.map fun (n,k)=>if (k == NameKind.free && sc.kind == .function && sc.names.lookup n == some .cell) then (n,NameKind.cell) else (n,k)).lookup y = some .cell
 | [],_,h,_=>by simp at h
 | (n,k) :: r,y,h,hc=>by
  have ih:=@a0z sc hf r y
  show List.lookup y ((if (k == NameKind.free && sc.kind == .function && sc.names.lookup n == some .cell) = true then (n,NameKind.cell) else (n,k)) :: _) = _
  cases hx:y == n with
  | true =>
   simp only [List.lookup_cons,hx] at h
   cases h
   have:y = n:=eq_of_beq hx
   subst this
   rw [hf,hc]
   simp
  | false =>
   simp only [List.lookup_cons,hx] at h
   by_cases hq:(k == NameKind.free && sc.kind == .function && sc.names.lookup n == some .cell) = true
   ·rw [if_pos hq];simp only [List.lookup_cons,hx];exact ih h hc
   ·rw [if_neg hq];simp only [List.lookup_cons,hx];exact ih h hc
theorem a0b {sc:Scope}:∀ {names:List (Str×NameKind)} {y:Str},(∀ p∈names,p.2≠.cell) →
  (names.map fun (n,k)=>if (k == NameKind.free && sc.kind == .function && sc.names.lookup n == some .cell) then (n,NameKind.cell) else (n,k)).lookup y = some .cell→(y,NameKind.free)∈names∧sc.names.lookup y = some .cell
 | [],_,_,h=>by simp at h
 | (n,k) :: r,y,hc,h=>by
  have ih:=@a0b sc r y fun p hp=>hc p (by simp [hp])
  have h':List.lookup y ((if (k == NameKind.free && sc.kind == .function && sc.names.lookup n == some .cell) = true then (n,NameKind.cell) else (n,k)) :: (r.map fun (n,k)=>if (k == NameKind.free && sc.kind == .function && sc.names.lookup n == some .cell) then (n,NameKind.cell) else (n,k))) = some .cell:=h
  by_cases hq:(k == NameKind.free && sc.kind == .function && sc.names.lookup n == some .cell) = true
  ·rw [if_pos hq] at h'
   cases hx:y == n with
   | true =>
    have:y = n:=eq_of_beq hx
    subst this
    simp only [Bool.and_eq_true,beq_iff_eq] at hq
    exact ⟨by rw [hq.1.1];simp,hq.2⟩
   | false =>
    simp only [List.lookup_cons,hx] at h'
    exact ⟨by simp [(ih h').1],(ih h').2⟩
  ·rw [if_neg hq] at h'
   cases hx:y == n with
   | true =>
    simp only [List.lookup_cons,hx,Option.some.injEq] at h'
    exact absurd h' (hc (n,k) (by simp))
   | false =>
    simp only [List.lookup_cons,hx] at h'
    exact ⟨by simp [(ih h').1],(ih h').2⟩
theorem a8w {names:List (Str×NameKind)} {y:Str} {k:NameKind} (h:names.lookup y = some k):(y,k)∈names:=by
 obtain ⟨l1,l2,e,_⟩:=List.lookup_eq_some_iff.mp h
 rw [e];simp
structure b4p (sc' sc:Scope) (nm:Str):Prop where
 kind:sc'.kind = .function
 nm:sc'.names.lookup nm = some .local
 cell:∀ p∈sc'.names,p.2≠.cell
 loc:∀ p∈sc'.names,p.2 = .local→sc'.names.lookup p.1 = some .local
 free:∀ p∈sc'.names,p.2 = .free→sc.names.lookup p.1 = some .cell
theorem a9t {sc' sc:Scope} {nm:Str} (h:b7A sc' sc nm = true):b4p sc' sc nm:=by
 simp only [b7A,Bool.and_eq_true,beq_iff_eq,List.all_eq_true,Bool.or_eq_true,Bool.not_eq_true',beq_eq_false_iff_ne] at h
 obtain ⟨⟨h1,h2⟩,h3⟩:=h
 exact ⟨h1,h2,fun p hp=>(h3 p hp).1.1,fun p hp q=>(h3 p hp).1.2.resolve_left fun z=>z q,fun p hp q=>(h3 p hp).2.resolve_left fun z=>z q⟩
section
variable {T:Tp} {G:Gl} {N:Nm} {n:Nat} {C:Cx} {A:Around}
theorem Fm.comp {W:Wd} {env:Env} {sl:List (Nat×Str)} {vs:Vs} (F:Fm T W env sl vs) {sc:Scope} {nm:Str} (ok:b4p sc env.scope nm) {Ca:Addr} (hC:W.own Ca = .free) {m:Str→Option Value} (hns:W.h.Ns Ca m) {v:Value} {av:AV}
  (hm:m nm = some v) (r:W.V T av v) {x:Nat}:Fm T W (compEnvC sc (L4 env.cells sc.names []) Ca env) (T1 sc env.scope sl x nm) (vs.set x (some av)) where
 kind:=ok.kind
 glob:=F.glob
 bi:=F.bi
 cells:=fun y h=>by
  obtain ⟨h1,h2⟩:=a0b (sc:=env.scope) ok.cell h
  obtain ⟨c,hc⟩:=F.cells y h2
  exact ⟨c,U0 hc _ _ (.inr ⟨rfl,h1⟩)⟩
 rd:=fun i y hi aw e=>by
  rcases List.mem_cons.mp hi with q|q
  ·cases q
   by_cases hl:x < vs.length
   ·rw [List.getElem?_set_self hl] at e
    cases e
    exact ⟨v,r,.inl ⟨lookup_relabel_local ok.nm,hC,m,hns,hm⟩⟩
   ·rw [List.getElem?_eq_none (by simpa using hl)] at e;cases e
  ·obtain ⟨q1,q2⟩:=List.mem_filter.mp q
   simp only [Bool.and_eq_true,Bool.not_eq_true',beq_eq_false_iff_ne,beq_iff_eq] at q2
   obtain ⟨⟨h1,h2⟩,h3⟩:=q2
   rw [getElem?_set_ne' (fun z=>h1 z.symm)] at e
   obtain ⟨w,rw',d⟩:=F.rd i y q1 aw e
   refine ⟨w,rw',?_⟩
   rcases d with ⟨k,_⟩|⟨k,c,ec,f,nn⟩
   ·have:env.scope.names.lookup y = some .local:=k
    rw [h3] at this;cases this
   ·exact .inr ⟨a0z (by rw [F.kind];rfl) h2 h3,c,U0 ec _ _ (.inr ⟨rfl,a8w h2⟩),f,nn⟩
theorem a6H {env:Env} (ifs:List Expr):(forIn ifs false fun c r=>if r = true then (do let ok ← isTrue c env (eval c env);pure (ForInStep.yield ok):Sem (ForInStep Bool)) else pure (ForInStep.yield r)) = pure false :=
 forIn_yield_id' ifs
where
 forIn_yield_id' {env:Env}:∀ ifs:List Expr,(forIn ifs false fun c r=>if r = true then (do let ok ← isTrue c env (eval c env);pure (ForInStep.yield ok):Sem (ForInStep Bool)) else pure (ForInStep.yield r)) = pure false
  | []=>rfl
  | e :: r=>by
   rw [List.forIn_cons]
   simp only [Bool.false_eq_true,if_false]
   rw [pure_bind]
   exact forIn_yield_id' r
noncomputable abbrev BW:Wd→Bool→Bool→Prop:=fun _ a b=>a = b
theorem a2Y {env:Env} {sl:List (Nat×Str)} {vs:Vs}:∀ (ms:List ME),(∀ m∈ms,ST T G N n C m)→∀ {p:Nat} {W:Wd},E8 T n C.P.hd sl A W env vs→okEs G N env.scope sl ms = true →
  evConds C ms W.σ vs≠.fail→b8 T A noX W (forIn (embEs N ms p).1 true fun c r=>if r = true then (do let ok ← isTrue c env (eval c env);pure (ForInStep.yield ok):Sem (ForInStep Bool)) else pure (ForInStep.yield r)) (evConds C ms W.σ vs) BW
 | [],_,_,W,H,_,_=>wpAny_pure ⟨true,W,rfl,rfl,H.I,.refl _ _,rfl⟩
 | m :: ms,ih,p,W,H,h,hn=>by
  show b8 T A noX W (forIn ((f6 N m p).1 :: (embEs N ms (f6 N m p).2).1) true _) _ _
  rw [List.forIn_cons]
  exact wpAny_bind (wpAny_bind (H5.pick (P:=(·≠.fail)) (fun z=>z rfl) hn (ih m List.mem_cons_self H (j7 h).1)
   (fun v W1 I1 l1 _ n1 e1=>wpAny_pure ((a2Y ms (fun q hq=>ih q (List.mem_cons_of_mem _ hq)) (H.le I1 l1) (j7 h).2 n1).up l1.toLe0 e1))
   fun v W1 I1 l1 _ _ e1=>wpAny_pure (wpAny_of_eq (a6H _) ⟨false,W1,rfl,e1,I1,l1.toLe0,rfl⟩)))
end
end Mine
namespace Mine
open PySem PySem.SeqAt PySem.Spec PySem.W PySem.Calls
section
variable {T:Tp} {G:Gl} {N:Nm} {n:Nat} {C:Cx} {A:Around}
structure CS (T:Tp) (W:Wd) (J Ca D:Addr) (src:Src) (i:Nat) (ys:List AV):Prop where
 inv:Inv T W
 it:Q9 T W J src i
 ownC:W.own Ca = .free
 baseC:T.base.get? Ca = none
 ns:∃ m,W.h.Ns Ca m
 ownD:W.own D = .free
 baseD:T.base.get? D = none
 list:∃ arr k,W.h.get? D = some { cls:=.type "list",data:=.seq arr k }∧W.Vs T ys arr.toList
structure CB (T:Tp) (W:Wd) (Ca D:Addr) (ys:List AV):Prop where
 inv:Inv T W
 ownC:W.own Ca = .free
 baseC:T.base.get? Ca = none
 ns:∃ m,W.h.Ns Ca m
 ownD:W.own D = .free
 baseD:T.base.get? D = none
 list:∃ arr k,W.h.get? D = some { cls:=.type "list",data:=.seq arr k }∧W.Vs T ys arr.toList
theorem CS.b {W:Wd} {J Ca D:Addr} {src:Src} {i:Nat} {ys:List AV} (c:CS T W J Ca D src i ys):CB T W Ca D ys:=⟨c.inv,c.ownC,c.baseC,c.ns,c.ownD,c.baseD,c.list⟩
theorem CB.s {W:Wd} {J Ca D:Addr} {src:Src} {i:Nat} {ys:List AV} (c:CB T W Ca D ys) (it:Q9 T W J src i):CS T W J Ca D src i ys:=⟨c.inv,it,c.ownC,c.baseC,c.ns,c.ownD,c.baseD,c.list⟩
theorem CB.frC {W:Wd} {Ca D:Addr} {ys:List AV} (c:CB T W Ca D ys):FrX (fun b=>b = Ca) W.own W.h:=fun a q=>by
 subst q
 refine ⟨c.ownC,fun o e=>?_⟩
 obtain ⟨m,o',es,ep,ho,hd,_⟩:=c.ns
 rw [e] at ho;cases ho
 exact .inl ⟨es,ep,hd⟩
theorem CB.frD {W:Wd} {Ca D:Addr} {ys:List AV} (c:CB T W Ca D ys):FrX (fun b=>b = D) W.own W.h:=fun a q=>by
 subst q
 refine ⟨c.ownD,fun o e=>?_⟩
 obtain ⟨arr,k,ho,_⟩:=c.list
 rw [e] at ho;cases ho
 exact .inr (.inr rfl)
theorem CB.leX {X:Addr→Prop} {W W':Wd} {Ca D:Addr} {ys:List AV} (c:CB T W Ca D ys) (l:Le0 X W W') (I':Inv T W') (fx:FrX X W.own W.h) (hC:¬ X Ca) (hD:¬ X D):CB T W' Ca D ys where
 inv:=I'
 ownC:=let ⟨_,nn⟩:=c.ns;let ⟨_,z⟩:=a1l nn;(l.ext.ow _ _ z hC).trans c.ownC
 baseC:=c.baseC
 ns:=let ⟨m,nn⟩:=c.ns;⟨m,a3P nn fun o ho=>l.ext.kp _ o ho c.ownC hC⟩
 ownD:=let ⟨_,_,ho,_⟩:=c.list;(l.ext.ow _ _ ho hD).trans c.ownD
 baseD:=c.baseD
 list:=by
  obtain ⟨arr,k,ho,r⟩:=c.list
  exact ⟨arr,k,(l.ext.kp _ _ ho c.ownD hD).eq fun _ _ z=>(nomatch z),VRs.ext l.ext fx r⟩
theorem CB.setC {W:Wd} {Ca D:Addr} {ys:List AV} (c:CB T W Ca D ys) (hCD:Ca≠D) {h':Heap} {k:Nat} {m:Str→Option Value} (hn:h'.Ns Ca m) (hs:∀ a o,a≠Ca→W.h.get? a = some o→h'.get? a = some o) :
  CB T { W with s:={ W.s with heap:=h',toks:=k } } Ca D ys∧Le0 (fun b=>b = Ca) W { W with s:={ W.s with heap:=h',toks:=k } }:=by
 obtain ⟨I',l'⟩:=c.inv.touch (X:=fun b=>b = Ca) (a:=Ca) (s':={ W.s with heap:=h',toks:=k }) c.ownC c.baseC rfl c.frC hs rfl rfl
 refine ⟨⟨I',c.ownC,c.baseC,⟨m,hn⟩,c.ownD,c.baseD,?_⟩,l'⟩
 obtain ⟨arr,j,ho,r⟩:=c.list
 exact ⟨arr,j,hs _ _ (fun q=>hCD q.symm) ho,VRs.ext l'.ext c.frC r⟩
theorem CB.setD {W:Wd} {Ca D:Addr} {ys:List AV} (c:CB T W Ca D ys) (hCD:Ca≠D) {h':Heap} {k j:Nat} {arr:Array Value} {w:AV} {v:Value} (ho:∃ j,W.h.get? D = some { cls:=.type "list",data:=.seq arr j }) (r:W.Vs T ys arr.toList) (rv:W.V T w v)
  (hn:h'.get? D = some { cls:=.type "list",data:=.seq (arr.push v) j }) (hs:∀ a o,a≠D→W.h.get? a = some o→h'.get? a = some o) :
  CB T { W with s:={ W.s with heap:=h',toks:=k } } Ca D (ys ++ [w])∧Le0 (fun b=>b = D) W { W with s:={ W.s with heap:=h',toks:=k } }:=by
 obtain ⟨I',l'⟩:=c.inv.touch (X:=fun b=>b = D) (a:=D) (s':={ W.s with heap:=h',toks:=k }) c.ownD c.baseD rfl c.frD hs rfl rfl
 refine ⟨⟨I',c.ownC,c.baseC,?_,c.ownD,c.baseD,arr.push v,j,hn,?_⟩,l'⟩
 ·obtain ⟨m,nn⟩:=c.ns
  exact ⟨m,b5D nn fun o ho=>hs _ o hCD ho⟩
 ·have h1:=VRs.ext l'.ext c.frD r
  have h2:=VR.ext l'.ext c.frD rv
  simpa using h1.append (.cons h2 .nil)
theorem a3o {W₀ W₁:Wd} {env:Env} {sl:List (Nat×Str)} {vs:Vs} {elt:ME} {x:Nat} {conds:List ME} {src:Src} {J Ca D:Addr} {iter:Expr} {pe pc:Nat} {nm:Str} {px pos:Pos} {sc:Scope}
  (hse:SE T G N n C elt) (hst:∀ m∈conds,ST T G N n C m) (ok:b4p sc env.scope nm) (hmE:okE G N (O0 sc env.scope) (T1 sc env.scope sl x nm) elt = true) (hmC:okEs G N (O0 sc env.scope) (T1 sc env.scope sl x nm) conds = true)
  (a:AOk n C.P.hd A) (hh:A.handled = none) (F:Fm T W₀ env sl vs) (S:St T A W₀) (l01:Le0 noX W₀ W₁) (hfr:∀ b,(b = J∨b = Ca∨b = D)→W₀.h.get? b = none) (hJC:J≠Ca) (hJD:J≠D) (hCD:Ca≠D) {r0:Out AV} (hr:r0≠.fail)
  {R:Result→Shared→Prop} (hR:∀ W' ys,CB T W' Ca D ys→Le0 (fun b=>b = J∨b = Ca∨b = D) W₁ W'→r0 = newList ys W'.σ→R (.ok .next) W'.s)
  {W:Wd} {i m:Nat} {ys:List AV} (c:CS T W J Ca D src i ys) (l:Le0 (fun b=>b = J∨b = Ca∨b = D) W₁ W)
  (e:K9 (s8 (fun st=>A7 src st.1) Out.fail (p3 (fun h vs=>evConds C conds h vs) (fun h vs=>ev C elt h vs) x vs) m i (W.σ,ys)) = r0) :
  codeAny T.M A (.compLoop (.ListComp (f6 N elt pe).1 [⟨.Name nm px,iter,(embEs N conds pc).1,0⟩] sc pos) 0 (.ref J) (.ref D) (compEnvC sc (L4 env.cells sc.names []) Ca env)) R W.s:=by
 refine codeAny_compLoop_tests (fun m s=>∃ W i ys,W.s = s∧CS T W J Ca D src i ys∧Le0 (fun b=>b = J∨b = Ca∨b = D) W₁ W ∧
  K9 (s8 (fun st=>A7 src st.1) Out.fail (p3 (fun h vs=>evConds C conds h vs) (fun h vs=>ev C elt h vs) x vs) m i (W.σ,ys)) = r0) (fun m s ⟨W,i,ys,es,c,l,e⟩=>?_) m ⟨W,i,ys,rfl,c,l,e⟩
 subst es
 cases m with
 | zero=>exact absurd e.symm hr
 | succ m =>
  cases hg:A7 src W.σ with
  | none=>rw [s8,hg] at e;exact absurd e.symm hr
  | some xs =>
   rw [s8,hg] at e
   have e:K9 (orO xs[i]? (fun v=>(p3 (fun h vs=>evConds C conds h vs) (fun h vs=>ev C elt h vs) x vs v (W.σ,ys)).bind fun s=>s8 (fun st=>A7 src st.1) Out.fail (p3 (fun h vs=>evConds C conds h vs) (fun h vs=>ev C elt h vs) x vs) m (i + 1) s) (.go (W.σ,ys))) = r0:=e
   have hJC':¬ (Ca = J):=fun q=>hJC q.symm
   have hJD':¬ (D = J):=fun q=>hJD q.symm
   refine a4a c.inv hh c.it hg ⟨fun av v W1 hi I1 l1 es1 it1 r1=>?_,fun W' hi I' l' es=>?_⟩
   ·rw [hi] at e
    have c1:=c.b.leX l1 I1 c.it.frX hJC' hJD'
    obtain ⟨m1,nn1⟩:=c1.ns
    refine wpAny_assign_Name (wpAny_storeName_local (lookup_relabel_local ok.nm) nn1 (fun h2 hn2 hs2=>?_) (by show (sc.kind == _ || (sc.kind == _ && _)) = false;rw [ok.kind];rfl))
    obtain ⟨c2,l2⟩:=c1.setC hCD (k:=W1.s.toks + 1) hn2 fun b o q e=>(hs2.2 b q).trans e
    have it2:=it1.leX l2 c1.frC hJC
    have r2:=r1.leX l2 c1.frC
    have lX2:Le0 (fun b=>b = J∨b = Ca∨b = D) W₁ { W1 with s:={ W1.s with heap:=h2,toks:=W1.s.toks + 1 } }:=(l.trans (l1.mono fun _ q=>.inl q)).trans (l2.mono fun _ q=>.inr (.inl q))
    have l02:Le0 noX W₀ { W1 with s:={ W1.s with heap:=h2,toks:=W1.s.toks + 1 } }:=Le0.lose l01 lX2 fun b o e _ q=>by rw [hfr b q] at e;cases e
    have F2:Fm T { W1 with s:={ W1.s with heap:=h2,toks:=W1.s.toks + 1 } } env sl vs:=F.le l02
    have HC:E8 T n C.P.hd (T1 sc env.scope sl x nm) A { W1 with s:={ W1.s with heap:=h2,toks:=W1.s.toks + 1 } } (compEnvC sc (L4 env.cells sc.names []) Ca env) (vs.set x (some av)):=⟨a,F2.comp (x:=x) ok c2.ownC hn2 (by simp) r2,c2.inv,S.le l02,Nat.succ_pos _⟩
    have e:K9 ((b3K (evConds C conds W.σ (vs.set x (some av))) ys fun h=>ev C elt h (vs.set x (some av))).bind fun s=>s8 (fun st=>A7 src st.1) Out.fail (p3 (fun h vs=>evConds C conds h vs) (fun h vs=>ev C elt h vs) x vs) m (i + 1) s) = r0:=e
    rw [← es1] at e
    have n1:evConds C conds W1.σ (vs.set x (some av))≠.fail:=fun q=>by rw [q] at e;exact hr e.symm
    refine (a2Y conds hst HC hmC n1).cps (fun b W3 b' e3 I3 l3t r3=>?_)
    have l3:=l3t.toLe0
    cases r3
    rw [show evConds C conds W1.σ (vs.set x (some av)) = _ from e3] at e
    have c3:=c2.leX l3 I3 .no id id
    have it3:=it2.leX l3 .no id
    have lX3:=lX2.trans l3.ofNo
    cases b with
    | false=>exact ⟨m,Nat.lt_succ_self _,W3,i + 1,ys,rfl,c3.s it3,lX3,e⟩
    | true =>
     have e:K9 ((b2Y ys (ev C elt W3.σ (vs.set x (some av)))).bind fun s=>s8 (fun st=>A7 src st.1) Out.fail (p3 (fun h vs=>evConds C conds h vs) (fun h vs=>ev C elt h vs) x vs) m (i + 1) s) = r0:=e
     have n2:ev C elt W3.σ (vs.set x (some av))≠.fail:=fun q=>by rw [q] at e;exact hr e.symm
     refine (hse (HC.le I3 l3t) hmE n2).cps (fun w W4 vw e4 I4 l4t r4=>?_)
     have l4:=l4t.toLe0
     rw [e4] at e
     have c4:=c3.leX l4 I4 .no id id
     have it4:=it3.leX l4 .no id
     obtain ⟨arr,k4,ho4,ra4⟩:=c4.list
     have e:K9 ((if ys.length < lim then It.go (W4.σ,ys ++ [w]) else .stop .fail:It (Hp×List AV) (Out AV)).bind fun s=>s8 (fun st=>A7 src st.1) Out.fail (p3 (fun h vs=>evConds C conds h vs) (fun h vs=>ev C elt h vs) x vs) m (i + 1) s) = r0:=e
     by_cases hl:ys.length < lim
     ·rw [if_pos hl] at e
      refine wpAny_list_append_plain ⟨k4,ho4⟩ (fun h5 hn5 hs5=>?_) (by have:=B2 ra4;rw [← w5];lia)
      obtain ⟨k5,ho5⟩:=hn5
      obtain ⟨c5,l5⟩:=c4.setD hCD (k:=W4.s.toks) ⟨k4,ho4⟩ ra4 r4 ho5 fun b o q e=>(hs5.2 b q).trans e
      exact ⟨m,Nat.lt_succ_self _,_,i + 1,ys ++ [w],rfl,c5.s (it4.leX l5 c4.frD hJD),(lX3.trans l4.ofNo).trans (l5.mono fun _ q=>.inr (.inr q)),e⟩
     ·rw [if_neg hl] at e;exact absurd e.symm hr
   ·rw [hi] at e
    exact hR W' ys (c.b.leX l' I' c.it.frX hJC' hJD') (l.trans (l'.mono fun _ q=>.inl q)) (by rw [es];exact e.symm)
end
end Mine
namespace Mine
open PySem PySem.SeqAt PySem.Spec PySem.W PySem.Calls
section
variable {T:Tp} {G:Gl} {N:Nm} {n:Nat} {C:Cx} {A:Around}
theorem a2W {W₁ W₂:Wd} {env:Env} {sl:List (Nat×Str)} {vs:Vs} {elt:ME} {x:Nat} {conds:List ME} {src:Src} {J:Addr} {iter:Expr} {pe pc:Nat} {nm:Str} {px pos:Pos} {sc:Scope}
  (hse:SE T G N n C elt) (hst:∀ m∈conds,ST T G N n C m) (ok:b4p sc env.scope nm) (hmE:okE G N (O0 sc env.scope) (T1 sc env.scope sl x nm) elt = true) (hmC:okEs G N (O0 sc env.scope) (T1 sc env.scope sl x nm) conds = true)
  (a:AOk n C.P.hd A) (hh:A.handled = none) (F:Fm T W₁ env sl vs) (S:St T A W₁) (I₂:Inv T W₂) (l12:Le0 noX W₁ W₂) (hJ:W₁.h.get? J = none) (it:Q9 T W₂ J src 0) {r0:Out AV} (hr:r0≠.fail)
  (e:K9 (Mine.iter src Out.fail (p3 (fun h vs=>evConds C conds h vs) (fun h vs=>ev C elt h vs) x vs) (W₂.σ,[])) = r0) {E:Value→Shared→Prop}
  {RR:Value→Addr→Result→Shared→Prop} (hRR:∀ D Ca W' av,r0 = .ok av W'.σ→Inv T W'→Le0 (fun b=>b = J) W₂ W'→W₂.h.get? Ca = none→W'.own Ca = .free→T.base.get? Ca = none→(∃ m,W'.h.Ns Ca m)→W'.V T av (.ref D)→RR (.ref D) Ca (.ok .next) W'.s) :
  wpAny T.M A (PySem.newList []) (fun acc s₃=>wpAny T.M A (newFunctionEnv sc env.globals (L4 env.cells sc.names []) [] env.qual none .none (some env)) (fun cenv s₄ =>
   codeAny T.M A (.compStart (.ListComp (f6 N elt pe).1 [⟨.Name nm px,iter,(embEs N conds pc).1,0⟩] sc pos) 0 (.ref J) acc { cenv with scope:=relabel sc env }) (RR acc cenv.locals) s₄) E s₃) E W₂.s:=by
 refine wpAny_newObj_type (wpAny_newFunctionEnv ok.cell (by intro y hy;simp at hy) (fun h₁ hns₁ hsb₁=>?_) ok.kind)
 dsimp only at hns₁ hsb₁ ⊢
 generalize hH2:W₂.s.heap.push { cls:=.type "list",dict:=none,data:=.seq ([]:List Value).toArray } = H2 at hns₁ hsb₁ ⊢
 have hC:H2.objs.size = W₂.s.heap.objs.size + 1:=by rw [← hH2,Heap.size_push]
 have hN:W₂.s.heap.objs.size < H2.objs.size:=by rw [hC];exact Nat.lt_succ_self _
 have hCD:H2.objs.size≠W₂.s.heap.objs.size:=Nat.ne_of_gt hN
 have old:∀ b o,W₂.s.heap.get? b = some o→h₁.get? b = some o:=fun b o e=>by
  have hb:=Heap.lt_size e
  exact hsb₁.extBut b o (Nat.ne_of_lt (Nat.lt_trans hb hN)) (Heap.get?_push_of_some _ (hH2▸Heap.get?_push_of_some _ e))
 have g:=I₂.grow (s':={ W₂.s with heap:=h₁,toks:=W₂.s.toks + ([]:List (Str×Value)).length }) old rfl rfl
 have hfD:W₂.h.get? W₂.s.heap.objs.size = none:=y5 _
 have hfC:W₂.h.get? H2.objs.size = none:=by
  cases q:W₂.h.get? H2.objs.size with
  | none=>rfl
  | some o=>exact absurd (Nat.lt_trans (Heap.lt_size q) hN) (Nat.lt_irrefl _)
 have bs:∀ b,W₂.h.get? b = none→T.base.get? b = none:=fun b q=>by
  cases z:T.base.get? b with
  | none=>rfl
  | some o=>have:=I₂.base b o z;rw [q] at this;cases this
 obtain ⟨oJ,hoJ,_⟩:=it.it.there
 have hlJ:=Heap.lt_size hoJ
 have old1:∀ b,W₂.h.get? b = none→W₁.h.get? b = none:=fun b q=>by
  cases z:W₁.h.get? b with
  | none=>rfl
  | some o=>obtain ⟨o',e'⟩:=l12.ext.df b o z id;rw [q] at e';cases e'
 have c0:CS T { W₂ with s:={ W₂.s with heap:=h₁,toks:=W₂.s.toks + ([]:List (Str×Value)).length } } J H2.objs.size W₂.s.heap.objs.size src 0 []:={
  inv:=g.1
  it:=it.leX g.2 .no id
  ownC:=r7 I₂ hfC
  baseC:=bs _ hfC
  ns:=⟨_,hns₁⟩
  ownD:=r7 I₂ hfD
  baseD:=bs _ hfD
  list:=⟨#[],0,hsb₁.extBut _ _ (Nat.ne_of_lt hN) (Heap.get?_push_of_some _ (hH2▸Heap.get?_push_size _ rfl)),.nil⟩ }
 have loop:codeAny T.M A (.compLoop (.ListComp (f6 N elt pe).1 [⟨.Name nm px,iter,(embEs N conds pc).1,0⟩] sc pos) 0 (.ref J) (.ref W₂.s.heap.objs.size) (compEnvC sc (L4 env.cells sc.names []) H2.objs.size env)) (RR (.ref W₂.s.heap.objs.size) H2.objs.size)
   { W₂.s with heap:=h₁,toks:=W₂.s.toks + ([]:List (Str×Value)).length }:=by
  refine a3o (W₀:=W₁) (W₁:={ W₂ with s:={ W₂.s with heap:=h₁,toks:=W₂.s.toks + ([]:List (Str×Value)).length } }) (src:=src) (i:=0) (m:=b6n src + 1) (ys:=[]) hse hst ok hmE hmC a hh F S (l12.trans g.2) (fun b q=>?_) (Nat.ne_of_lt (Nat.lt_trans hlJ hN)) (Nat.ne_of_lt hlJ) hCD hr
   (fun W' ys cb lX er=>?_) c0 (.refl _ _) ?_
  ·rcases q with rfl|rfl|rfl
   ·exact hJ
   ·exact old1 _ hfC
   ·exact old1 _ hfD
  ·obtain ⟨arr,k,ho,ra⟩:=cb.list
   have z:decide (ys.length≤lim) = true:=by
    cases z:decide (ys.length≤lim) with
    | true=>rfl
    | false=>rw [er] at hr;unfold Mine.newList at hr;rw [z] at hr;exact absurd rfl hr
   have hl:=of_decide_eq_true z
   have fx:FrX (fun b=>b = W₂.s.heap.objs.size∨b = W₂.s.heap.objs.size) W'.own W'.h:=fun a q=>cb.frD a (q.elim id id)
   obtain ⟨I',l',rv⟩:=cb.inv.take (o:=.list ys) ⟨cb.ownD,cb.baseD,_,ho⟩ ⟨cb.ownD,cb.baseD,_,ho⟩ I₂.high fx fun x=>.list arr k ho (ra.ext x fx) hl
   refine hRR W₂.s.heap.objs.size H2.objs.size (W'.take W₂.s.heap.objs.size W₂.s.heap.objs.size (.list ys)) (.ref W'.σ.length) ?_ I' ?_ hfC ?_ cb.baseC cb.ns rv
   ·rw [er];unfold Mine.newList;rw [z];rfl
   ·refine Le0.lose (Le0.lose (W₁:={ W₂ with s:={ W₂.s with heap:=h₁,toks:=W₂.s.toks + ([]:List (Str×Value)).length } }) (g.2.ofNo (X:=fun b=>b = J)) lX fun b o e nx q=>?_) l' fun b o e nx q=>?_
    ·rcases q with q|rfl|rfl
     ·exact nx q
     ·rw [hfC] at e;cases e
     ·rw [hfD] at e;cases e
    ·rw [q.elim id id,hfD] at e;cases e
   ·exact (if_neg fun q=>hCD (q.elim id id)).trans cb.ownC
  ·rw [a5A] at e;exact e
 exact codeAny_compStart_list loop (b1h (W:={ W₂ with s:={ W₂.s with heap:=h₁,toks:=W₂.s.toks + ([]:List (Str×Value)).length } }) c0.it loop)
theorem a4d {W':Wd} (I:Inv T W') {Ca:Addr} (hC:W'.own Ca = .free) (hb:T.base.get? Ca = none) {m:Str→Option Value} (hn:W'.h.Ns Ca m) {h':Heap} (hs:Heap.SameBut Ca W'.h h') :
  FrX (fun b=>b = Ca) W'.own W'.h∧Inv T { W' with s:={ W'.s with heap:=h' } }∧Le0 (fun b=>b = Ca) W' { W' with s:={ W'.s with heap:=h' } }:=by
 have fx:FrX (fun b=>b = Ca) W'.own W'.h:=fun a q=>by
  subst q
  refine ⟨hC,fun o e=>?_⟩
  obtain ⟨o',es,ep,ho,hd,_⟩:=hn
  rw [e] at ho;cases ho
  exact .inl ⟨es,ep,hd⟩
 exact ⟨fx,I.touch (X:=fun b=>b = Ca) (a:=Ca) (s':={ W'.s with heap:=h' }) hC hb rfl fx (fun b o q e=>(hs.2 b q).trans e) rfl rfl⟩
theorem X5 (m:ME) (p:Nat) (env:Env) (x:Value):foldedSetIterable (f6 N m p).1 env x = pure x:=by cases m<;>rfl
theorem b4x {elt src:ME} {x:Nat} {conds:List ME} {sc:Scope} (hse:SE T G N n C elt) (hss:SE T G N n C src) (hst:∀ m∈conds,ST T G N n C m):SE T G N n C (.comp elt x src conds sc):=by
 intro p sl A W env vs H hm hn
 have hm:=a6N hm
 have ok:=a9t hm.1.1.1
 have hcl:closureFor sc env = pure (L4 env.cells sc.names []):=a2T fun p hp q=>H.F.cells _ (ok.free p hp q)
 refine b8.ifO hn fun hc hn=>?_
 have hh:=H.a.handled (Bool.not_eq_true' _▸hc)
 show wpAny T.M A (eval (.ListComp _ _ _ _) env) _ _ _
 rw [eval_ListComp]
 refine wpAny_comprehension_free (use:=none) rfl (X5 src _ _) hcl ok.kind ok.loc (b8.then (hss H hm.1.1.2) hn fun av W1 v I1 l1 r1 n3 e1=>?_)
 cases hs:z5 W1.σ av with
 | none=>rw [hs] at n3;exact absurd rfl n3
 | some sr =>
  rw [hs] at n3 e1
  refine a0S I1 r1 hs fun J W2 I2 l2 es2 hJ _ it2=>?_
  refine a2W (r0:=_) (x:=x) (vs:=vs) (sl:=sl) hse hst ok hm.2 hm.1.2 H.a hh (H.F.le l1.toLe0) (H.S.le l1.toLe0) I2 l2 hJ it2 n3 (by rw [es2];rfl) fun D Ca W' av' er I' lJ hfC oC bC hnC rv=>?_
  obtain ⟨m,hnC⟩:=hnC
  refine ⟨m,hnC,fun h' hsb=>?_⟩
  obtain ⟨fx,I'',l''⟩:=a4d I' oC bC hnC hsb
  refine ⟨av',{ W' with s:={ W'.s with heap:=h' } },rfl,e1.trans er,I'',l1.toLe0.trans (Le0.lose (Le0.lose l2 lJ fun b o e _ q=>?_) l'' fun b o e _ q=>?_),rv.leX l'' fx⟩
  ·rw [q,hJ] at e;cases e
  ·obtain ⟨o',e'⟩:=l2.ext.df b o e id
   rw [q,hfC] at e';cases e'
end
end Mine
namespace Mine
open PySem PySem.SeqAt PySem.Spec PySem.W PySem.Calls PyProof.Rows
theorem ofP {α β:Type} {P:Out β→Prop} {o:Option α} {f:α→Out β} (hn:ofO o f≠.fail) (k:∀ x,o = some x→f x≠.fail→P (f x)):P (ofO o f):=by
 cases o with
 | some x=>exact k x rfl hn
 | none=>exact absurd rfl hn
theorem ifP {β:Type} {P:Out β→Prop} {c:Bool} {g:Out β} (hn:ifO c g≠.fail) (k:c = true→g≠.fail→P g):P (ifO c g):=by
 cases c with
 | true=>exact k rfl hn
 | false=>exact absurd rfl hn
section
variable {T:Tp} {n:Nat} {A:Around} {W:Wd}
noncomputable def b5q:Bm→String
 | .append=>"list.append"
 | .get=>"dict.get"
 | .setdefault=>"dict.setdefault"
 | .pop=>"dict.pop"
 | .join=>"str.join"
theorem b7W (I:Inv T W) {m:Bm} {x:AV} {v:Value} (r:W.V T x v) (hk:a6D m x W.σ = true) {pos:Pos} {trees:List (Bool×Sem Value)} {Q:Value→Shared→Prop} {E:Value→Shared→Prop}
  (h:wpAny T.M A (callWith pos (.builtin (b5q m)) [v] trees []) Q E W.s):MethodOn T.prog T.w A (b6I m) pos v trees Q E W.s:=by
 have L:(o6 W.σ x).isSome = true→∃ a vs n,v = .ref a∧W.h.get? a = some { cls:=.type "list",data:=.seq vs n }:=fun hk =>
  let ⟨xs,e⟩:=V1 hk
  I.listE (P:=fun v=>∃ a vs n,v = .ref a∧W.h.get? a = some { cls:=.type "list",data:=.seq vs n }) e r fun a ⟨vs,n,h1,_,_⟩=>⟨a,vs,n,rfl,h1⟩
 have D:(A5 W.σ x).isSome = true→∃ a arr n,v = .ref a∧W.h.get? a = some (W8 arr n):=fun hk =>
  let ⟨xs,e⟩:=V1 hk
  I.dictE (P:=fun v=>∃ a arr n,v = .ref a∧W.h.get? a = some (W8 arr n)) e r fun a ⟨arr,n,h1,_,_⟩=>⟨a,arr,n,rfl,h1⟩
 cases m with
 | join =>
  obtain ⟨s,e⟩:=V1 (show (asStr x).isSome = true from hk)
  exact r.asStr (P:=fun v=>wpAny T.M A (callWith pos (.builtin (b5q .join)) [v] trees []) Q E W.s→MethodOn T.prog T.w A (b6I .join) pos v trees Q E W.s) e (fun t _ h=>⟨"str","str.join",F.plainAttrs_str,F.slot_str_join,F.type_str_join,typeIs_str _ _ _,fun b e=>(nomatch e),h⟩) h
 | append=>obtain ⟨a,vs,n,rfl,ho⟩:=L hk;exact ⟨"list","list.append",F.plainAttrs_list,F.slot_list_append,F.type_list_append,⟨_,ho,rfl⟩,fun b e=>by cases e;exact ⟨_,ho,rfl⟩,h⟩
 | get=>obtain ⟨a,arr,n,rfl,ho⟩:=D hk;exact ⟨"dict","dict.get",F.plainAttrs_dict,F.slot_dict_get,F.type_dict_get,⟨_,ho,rfl⟩,fun b e=>by cases e;exact ⟨_,ho,rfl⟩,h⟩
 | setdefault=>obtain ⟨a,arr,n,rfl,ho⟩:=D hk;exact ⟨"dict","dict.setdefault",F.plainAttrs_dict,F.slot_dict_setdefault,F.type_dict_setdefault,⟨_,ho,rfl⟩,fun b e=>by cases e;exact ⟨_,ho,rfl⟩,h⟩
 | pop=>obtain ⟨a,arr,n,rfl,ho⟩:=D hk;exact ⟨"dict","dict.pop",F.plainAttrs_dict,F.slot_dict_pop,F.type_dict_pop,⟨_,ho,rfl⟩,fun b e=>by cases e;exact ⟨_,ho,rfl⟩,h⟩
theorem Inv.write (I:Inv T W) {l:Nat} {d:Addr} {o:AO} {ob:Obj} {h':Heap} {tk:Nat} (hb:W.bt[l]? = some d) (ho:h'.get? d = some ob) (hs:Heap.SameBut d W.h h') (hr:Ext noX W.own W.bt W.h W.own W.bt h'→OR T W.own W.bt h' l d o) :
  Inv T (W.upd l o { W.s with heap:=h',toks:=tk })∧Le0 noX W (W.upd l o { W.s with heap:=h',toks:=tk }) :=
 I.upd (s':={ W.s with heap:=h',toks:=tk }) hb (fun b q _ e=>(Classical.em (b = d)).elim (fun z=>⟨ob,z▸ho⟩) fun z=>⟨q,(hs.2 b z).trans e⟩) (fun b q=>hs.2 b fun z=>q (z▸I.ownb _ _ hb)) rfl rfl hr
theorem Inv.put (I:Inv T W) {l:Nat} {d:Addr} {ep:Option Nat} {es:List (AV×AV)} {h':Heap} {arr:Array DictEntry} {m:Nat} {tk:Nat} (hb:W.bt[l]? = some d) (P:Put T W.own W.bt W.h d ep es h' arr m) :
  Inv T (W.upd l (.dict ep es) { W.s with heap:=h',toks:=tk })∧Le0 noX W (W.upd l (.dict ep es) { W.s with heap:=h',toks:=tk }) :=
 I.write hb P.get P.same fun x=>.dict arr m P.get (P.dr.ext x .no)
theorem b0K (I:Inv T W) {t:Sem Value} {l:Nat} {d:Addr} {xs:List AV} (hb:W.bt[l]? = some d) (hn:putL l xs W.σ≠.fail)
  (h:xs.length≤lim→∀ Q E,(∀ h' arr k,h'.get? d = some { cls:=.type "list",data:=.seq arr k }→Heap.SameBut d W.h h'→W.Vs T xs arr.toList→Q Value.none { W.s with heap:=h' })→wpAny T.M A t Q E W.s):b8 T A noX W t (putL l xs W.σ) (VW T) :=
 b8.ifO hn fun hl _=>h (of_decide_eq_true hl) _ _ fun h' arr k ho hs r =>
  have g:=I.write (o:=.list xs) (tk:=W.s.toks) hb ho hs fun x=>.list arr k ho (r.ext x .no) (of_decide_eq_true hl)
  ⟨.none,_,rfl,rfl,g.1,g.2,.none⟩
theorem a6k {t:Value→Sem Value} (I:Inv T W) {x:AV} {v:Value} {f:Nat→List AV→Out AV} (rx:W.V T x v) (hn:a4S x W.σ f≠.fail) (k:∀ l d xs,W.bt[l]? = some d→LAt T W xs d→f l xs≠.fail→b8 T A noX W (t (.ref d)) (f l xs) (VW T)):b8 T A noX W (t v) (a4S x W.σ f) (VW T) :=
 b8.ofO hn fun l e1 hn=>b8.ofO hn fun xs e2 hn=>rx.asRef (P:=fun v=>b8 T A noX W (t v) (f l xs) (VW T)) e1 fun d hb=>k l d xs hb (I.lo e2 hb) hn
theorem a9Z (I:Inv T W) {x w:AV} {v vw:Value} (rx:W.V T x v) (rw':W.V T w vw) (hn:b6k x w W.σ≠.fail):b8 T A noX W (call (.builtin "list.append") [v,vw]) (b6k x w W.σ) (VW T) :=
 a6k (t:=fun v=>call (.builtin "list.append") [v,vw]) I rx hn fun l d xs hb ⟨vs,k,ho,ra,_⟩ hn=>b0K I hb hn fun hl Q E q =>
  wpAny_list_append_plain ⟨k,ho⟩ (fun h' ⟨k',ho'⟩ hs=>q h' _ k' ho' hs (by rw [Array.toList_push];exact ra.append (.cons rw' .nil))) (by rw [B2 ra,← w5];rw [List.length_append] at hl;exact Nat.le_of_succ_le hl)
theorem T6 {t:Value→Sem Value} (I:Inv T W) {x k:AV} {v vk:Value} {f:Nat→Option Nat→List (AV×AV)→Out AV} (rx:W.V T x v) (rk:W.V T k vk) (hn:X6 x k W.σ f≠.fail)
  (h:∀ l d ep es arr n,W.bt[l]? = some d→Lk T W.own W.bt W.h d ep es arr n k vk→es.length < lim→f l ep es≠.fail→b8 T A noX W (t (.ref d)) (f l ep es) (VW T)):b8 T A noX W (t v) (X6 x k W.σ f) (VW T) :=
 b8.ofO hn fun l e1 hn=>b8.ofO hn fun p e2 hn=>b8.ifO hn fun hc hn=>rx.asRef (P:=fun v=>b8 T A noX W (t v) (f l p.1 p.2) (VW T)) e1 fun d hb=>by
  obtain ⟨arr,m,h1,h2,h3⟩:=I.di e2 hb
  have hc:=Bool.and_eq_true_iff.mp hc
  exact h l d p.1 p.2 arr m hb ⟨h1,h2,rk,hc.1,h3⟩ (of_decide_eq_true hc.2) hn
theorem b1o (I:Inv T W) (hu:A.units + 64 < cLine) {x w y:AV} {v vw vy:Value} (rx:W.V T x v) (rw':W.V T w vw) (ry:W.V T y vy) (hn:b7v x w y W.σ≠.fail):b8 T A noX W (call (.builtin "dict.get") [v,vw,vy]) (b7v x w y W.σ) (VW T) :=
 T6 (t:=fun v=>call (.builtin "dict.get") [v,vw,vy]) I rx rw' hn fun l d ep es arr n hb L hl _=>b8.keep I fun Q E q=>b6B L hu (fun z tk=>q _ tk (by rw [z];exact ry)) fun av v z r tk=>q _ tk (by rw [z];exact r)
theorem a8t (I:Inv T W) (hu:A.units + 64 < cLine) {x w y:AV} {v vw vy:Value} (rx:W.V T x v) (rw':W.V T w vw) (ry:W.V T y vy) (hn:b2h x w y W.σ≠.fail):b8 T A noX W (call (.builtin "dict.setdefault") [v,vw,vy]) (b2h x w y W.σ) (VW T) :=
 T6 (t:=fun v=>call (.builtin "dict.setdefault") [v,vw,vy]) I rx rw' hn fun l d ep es arr n hb L hl _=>b4l L hu hl ry
  (fun z h' arr' n' tk P=>have g:=I.put (tk:=tk) hb P;⟨y,_,rfl,by rw [z];rfl,g.1,g.2,ry.le g.2⟩)
  fun av v z r tk=>⟨av,{ W with s:={ W.s with toks:=tk } },rfl,by rw [z];rfl,(I.toks tk).1,(I.toks tk).2,VR.le (W:=W) r (I.toks tk).2⟩
theorem b1u (I:Inv T W) (hu:A.units + 64 < cLine) {x w:AV} {v vw:Value} (rx:W.V T x v) (rw':W.V T w vw) (hn:b6K x w W.σ≠.fail):b8 T A noX W (call (.builtin "dict.pop") [v,vw]) (b6K x w W.σ) (VW T) :=
 T6 (t:=fun v=>call (.builtin "dict.pop") [v,vw]) I rx rw' hn fun l d ep es arr n hb L hl hn=>b8.ofO hn fun av g _=>b7u L hu g fun v h' arr' n' tk r P=>have g:=I.put (tk:=tk) hb P;⟨av,_,rfl,rfl,g.1,g.2,VR.le (W:=W) r g.2⟩
theorem a1Q (s:List Nat):∀ ts:List (List Nat),Str.join (tS s) (ts.map tS) = tS (u6 s ts)
 | []=>rfl
 | [t]=>by show Str.join (tS s) [tS t] = tS t;rw [Str.join]
 | t :: u :: r=>by
  show Str.join (tS s) (tS t :: tS u :: r.map tS) = tS (t ++ (s ++ u6 s (u :: r)))
  have e:Str.join (tS s) (tS u :: r.map tS) = tS (u6 s (u :: r)):=a1Q s (u :: r)
  show tS t ++ tS s ++ Str.join (tS s) (tS u :: r.map tS) = _
  rw [e,a0L,a0L,List.append_assoc]
theorem a4m {s:List Nat} {c:Nat}:∀ {ts:List (List Nat)},c∈u6 s ts→c∈s∨∃ t∈ts,c∈t
 | [t],h=>.inr ⟨t,List.mem_cons_self,h⟩
 | t :: u :: r,h=>(List.mem_append.mp h).elim (fun h=>.inr ⟨t,List.mem_cons_self,h⟩) fun h=>(List.mem_append.mp h).elim .inl fun h=>(a4m h).imp id fun ⟨x,hx,y⟩=>⟨x,List.mem_cons_of_mem _ hx,y⟩
theorem F0 (s:List Nat):∀ ts:List (List Nat),(u6 s ts).length≤ts.flatten.length + ts.length * s.length
 | []=>Nat.zero_le _
 | [t]=>by show t.length≤([t].flatten).length + 1 * s.length;rw [List.flatten_cons,List.length_append];exact Nat.le_trans (Nat.le_add_right _ _) (Nat.le_add_right _ _)
 | t :: u :: r=>by
  show (t ++ (s ++ u6 s (u :: r))).length≤((t :: u :: r).flatten).length + ((u :: r).length + 1) * s.length
  have:=F0 s (u :: r)
  rw [List.length_append,List.length_append,List.flatten_cons,List.length_append,Nat.succ_mul]
  lia
theorem a8c (I:Inv T W) {x w:AV} {v vw:Value} (rx:W.V T x v) (rw':W.V T w vw) (hn:b3D x w W.σ≠.fail):b8 T A noX W (call (.builtin "str.join") [v,vw]) (b3D x w W.σ) (VW T) :=
 b8.ofO hn fun s e hn=>b8.ofO hn fun ts e2 hn=>b8.ifO hn fun c2 _=>rx.asStr (P:=fun v=>b8 T A noX W (call (.builtin "str.join") [v,vw]) (.ok (.str (u6 s ts)) W.σ) (VW T)) e fun t hs=>by
  refine o5 e2 fun xs e3 e4=>I.listE (P:=fun vw=>b8 T A noX W (call (.builtin "str.join") [.str (tS s) t,vw]) (.ok (.str (u6 s ts)) W.σ) (VW T)) e3 rw' fun a l=>?_
  obtain ⟨vs,n,h1,h2,h3⟩:=l
  have k:=a8E h2 e4
  have c2:=of_decide_eq_true c2
  have len:∀ ts:List (List Nat),((ts.map tS).map (·.length)).sum = ts.flatten.length:=fun ts=>by
   induction ts with
   | nil=>rfl
   | cons x r ih=>rw [List.map_cons,List.map_cons,List.sum_cons,ih,List.flatten_cons,List.length_append,k9]
  refine b8.keep I fun Q E q=>PyProof.Rows.join_list ⟨_,h1,rfl,n,rfl⟩ k.are (by rw [len,List.length_map,k9];exact c2) fun t' k'=>?_
  rw [show Txt.join (tS s) (ts.map tS) = tS (u6 s ts) from (eq_of_beq (PyProof.Rows.join_plain_closes (tS s) (ts.map tS))).trans (a1Q s ts)]
  exact q _ _ (.str _ ⟨fun c hc=>(a4m hc).elim (hs.1 c) fun ⟨y,hy,hc⟩=>(k.ok y hy).1 c hc,Nat.le_trans (F0 s ts) c2⟩)
theorem b2j (I:Inv T W) (hu:A.units + 64 < cLine) {m:Bm} {x:AV} {as:List AV} {v:Value} {vals:List Value} (rx:W.V T x v) (r:W.Vs T as vals) (hn:bmA m x as W.σ≠.fail):b8 T A noX W (call (.builtin (b5q m)) (v :: vals)) (bmA m x as W.σ) (VW T):=by
 cases r with
 | nil=>exact absurd rfl hn
 | cons rw' r' =>
  cases r' with
  | nil =>
   cases m with
   | append=>exact a9Z I rx rw' hn
   | pop=>exact b1u I hu rx rw' hn
   | join=>exact a8c I rx rw' hn
   | _=>exact absurd rfl hn
  | cons ry r'' =>
   cases r'' with
   | cons _ _=>exact absurd rfl hn
   | nil =>
    cases m with
    | get=>exact b1o I hu rx rw' ry hn
    | setdefault=>exact a8t I hu rx rw' ry hn
    | _=>exact absurd rfl hn
noncomputable def a5C (T:Tp) (A:Around) (W:Wd) (t:Sem Unit) (r:Out AV):Prop:=∀ (Q:Unit→Shared→Prop) (E:Value→Shared→Prop),(∀ W',Inv T W'→Le0 noX W W'→r = .ok AV.none W'.σ→Q () W'.s)→wpAny T.M A t Q E W.s
theorem a3w (I:Inv T W) (hu:A.units + 64 < cLine) {x k v:AV} {vx vk vv:Value} (rx:W.V T x vx) (rk:W.V T k vk) (rv:W.V T v vv) (hn:D8 x k v W.σ≠.fail):a5C T A W (setItem vx vk vv) (D8 x k v W.σ) :=
 ofP (P:=a5C T A W (setItem vx vk vv)) hn fun l e1 hn=>ofP (P:=a5C T A W (setItem vx vk vv)) hn fun p e2 hn=>ifP (P:=a5C T A W (setItem vx vk vv)) hn fun hc _=>rx.asRef (P:=fun vx=>a5C T A W (setItem vx vk vv) _) e1 fun d hb Q E q=>by
  obtain ⟨arr,m,h1,h2,h3⟩:=I.di e2 hb
  have hc:=Bool.and_eq_true_iff.mp hc
  exact a8y (s:=W.s) ⟨h1,h2,rk,hc.1,h3⟩ hu (of_decide_eq_true hc.2) rv fun h' arr' n' tk P=>have g:=I.put (tk:=tk) hb P;q _ g.1 g.2 rfl
end
end Mine
namespace Mine
open PySem PySem.SeqAt PySem.Spec PySem.W PySem.Calls PyProof.Rows Builtin Builtin.ObjectAttr
theorem V3 {x nm:Str} {t:Tok}:(Value.str x t).isStr nm = (x == nm):=rfl
section
variable {T:Tp} {own:Addr→Ow} {bt:List Addr} {h:Heap}
theorem a1V {e:DictEntry} {r:List DictEntry} {nm:Str} {t:Tok} (h:e.key = .str nm t):fnd (e :: r) nm = some e.val:=by
 unfold fnd
 rw [List.find?_cons,h,V3,beq_self_eq_true];rfl
theorem N8 {e:DictEntry} {r:List DictEntry} {x nm:Str} {t:Tok} (h:e.key = .str x t) (q:x≠nm):fnd (e :: r) nm = fnd r nm:=by
 unfold fnd
 rw [List.find?_cons,h,V3,beq_eq_false_iff_ne.mpr q]
theorem b5u {nm:Str} {hsh:Int} {tk:Tok} {v:Value}:∀ {es:List DictEntry},(∀ e∈es,∃ x t,e.key = .str x t)→fnd (PySem.W.putL nm hsh (.str nm tk) v es) nm = some v∧∀ nm',nm≠nm'→fnd (PySem.W.putL nm hsh (.str nm tk) v es) nm' = fnd es nm':=by
 intro es
 induction es with
 | nil=>intro _;exact ⟨a1V rfl,fun nm' q=>N8 rfl q⟩
 | cons e r ih =>
  intro hk
  obtain ⟨x,t,hx⟩:=hk e (List.mem_cons_self ..)
  obtain ⟨i1,i2⟩:=ih fun e' h'=>hk e' (List.mem_cons_of_mem _ h')
  unfold PySem.W.putL
  rw [hx,V3]
  by_cases z:x = nm
  ·subst z
   rw [if_pos (beq_self_eq_true x)]
   exact ⟨a1V rfl,fun nm' q=>(N8 rfl q).trans (N8 hx q).symm⟩
  ·rw [if_neg (by simpa using z)]
   refine ⟨(N8 hx z).trans i1,fun nm' q=>?_⟩
   by_cases y:x = nm'
   ·subst y;rw [a1V hx,a1V hx]
   ·rw [N8 hx y,N8 hx y,i2 nm' q]
theorem b3u {nm:Str} {hsh:Int} {key v:Value}:∀ {es:List DictEntry} {e:DictEntry},e∈PySem.W.putL nm hsh key v es→e.key = key∨∃ e'∈es,e.key = e'.key:=by
 intro es
 induction es with
 | nil=>intro e h;rcases List.mem_singleton.mp h with rfl;exact .inl rfl
 | cons d r ih =>
  intro e h
  unfold PySem.W.putL at h
  split at h
  ·rcases List.mem_cons.mp h with rfl|h
   ·exact .inr ⟨d,List.mem_cons_self ..,rfl⟩
   ·exact .inr ⟨e,List.mem_cons_of_mem _ h,rfl⟩
  ·rcases List.mem_cons.mp h with rfl|h
   ·exact .inr ⟨_,List.mem_cons_self ..,rfl⟩
   ·exact (ih h).imp id fun ⟨e',q,z⟩=>⟨e',List.mem_cons_of_mem _ q,z⟩
theorem a1w {nm:Str} {hsh:Int} {key v:Value}:∀ {es:List DictEntry},(PySem.W.putL nm hsh key v es).length≤es.length + 1:=by
 intro es
 induction es with
 | nil=>exact Nat.le_refl _
 | cons d r ih=>unfold PySem.W.putL;split<;>simp only [List.length_cons] at *<;>lia
theorem a8M {es:List DictEntry} (hk:∀ e∈es,∃ x t,e.key = .str x t):es.any (·.refKey) = false:=by
 rw [List.any_eq_false]
 intro e he
 obtain ⟨x,t,q⟩:=hk e he
 simp [DictEntry.refKey,q]
theorem a8A {es:Array DictEntry} {n:Nat} {nm:Str} (hk:∀ e∈es.toList,∃ x t,e.key = .str x t):lookIn nm { cls:=.type "dict",data:=.dict es n } = some (fnd es.toList nm):=by
 show (match es.toList.find? (·.key.isStr nm) with|some e=>some (some e.val)|none=>if es.toList.any (·.refKey) then none else some none) = _
 unfold fnd
 cases es.toList.find? (·.key.isStr nm) with
 | some e=>rfl
 | none=>rw [a8M hk];rfl
end
section
variable {T:Tp} {A:Around} {W:Wd}
theorem b1d {av:AV} {v:Value} (r:W.V T av v):handedIn v = true:=by cases r<;>rfl
structure b6U (T:Tp) (C:Addr) (cl:Cl):Prop where
 keep:keepIn T.K (.ref C) = true
 makes:makesIn T.K C = true
 init:∀ f,cl.init = some f→findIn T.K (.ref C) "__init__" = some (some (.ref (T.fa f)))∧PySem.W.isFn T.K (.ref (T.fa f)) = true
 get:plainGet T.K C "" = true
 dict:hasDictIn T.K C = true
 set:findIn T.K (.ref C) "__setattr__" = some (some (.builtin "object.__setattr__"))
 over:plainOver T.K C = true
 attrs:∀ nm∈T.P.attrs,(∃ a,findIn T.K (.ref C) nm = some a∧noGet T.K a = true)∧takerIn T.K C nm = some none
 meths:∀ m f,cl.meths.lookup m = some f→∃ nm,T.P.methNames[m]? = some nm∧findIn T.K (.ref C) nm = some (some (.ref (T.fa f)))∧PySem.W.isFn T.K (.ref (T.fa f)) = true∧keepIn T.K (.ref (T.fa f)) = true∧nm∉T.P.attrs
theorem a6L {l:List (Nat×Nat)} {m f:Nat} (h:l.lookup m = some f):(m,f)∈l:=by
 obtain ⟨l1,l2,e,_⟩:=List.lookup_eq_some_iff.mp h
 rw [e];simp
theorem Tp.Ok.inst (O:T.Ok) {c:Nat} {cl:Cl} (e:T.P.cls[c]? = some cl):b6U T (T.ca c) cl:=by
 have h:=a6c O.cl c cl e
 rw [Nat.zero_add] at h
 simp only [b2V,Bool.and_eq_true,beq_iff_eq,List.all_eq_true] at h
 obtain ⟨⟨⟨⟨⟨⟨⟨⟨h0,h1⟩,h2⟩,h3⟩,h4⟩,h5⟩,h6⟩,h7⟩,h8⟩:=h
 refine ⟨h0,h1,fun f hf=>?_,h3,h4,h5,h6,fun nm hm=>?_,fun m f hf=>?_⟩
 ·rw [hf] at h2
  simpa using h2
 ·obtain ⟨q1,q2⟩:=h7 nm hm
  refine ⟨?_,q2⟩
  cases z:findIn T.K (.ref (T.ca c)) nm with
  | none=>rw [z] at q1;cases q1
  | some a=>rw [z] at q1;exact ⟨a,rfl,q1⟩
 ·have q:=h8 (m,f) (a6L hf)
  cases z:T.P.methNames[m]? with
  | none=>rw [z] at q;cases q
  | some nm =>
   rw [z] at q
   simp only [Bool.and_eq_true,beq_iff_eq,Bool.not_eq_true'] at q
   exact ⟨nm,rfl,q.1.1.1,q.1.1.2,q.1.2,fun hm=>by have:=q.2;rw [List.contains_iff_mem.mpr hm] at this;cases this⟩
theorem a4k {σ:Hp} {v:AV} {p:Nat×List (Option AV)} (h:a8k σ v = some p):∃ l,v = .ref l∧σ[l]? = some (.inst p.1 p.2):=o5 h fun l e1 e2=>⟨l,a6m e1,b2L e2⟩
inductive IAt (T:Tp) (W:Wd) (l c:Nat) (fs:List (Option AV)):Value→Prop
 | mk (cl:Cl) (a dx:Addr) (ents:Array DictEntry) (n:Nat):T.P.cls[c]? = some cl→W.bt[l]? = some a→W.h.get? a = some { cls:=.ref (T.ca c),dict:=some dx,data:=.plain }→W.own dx = .loc l→dx≠a→W.h.get? dx = some { cls:=.type "dict",data:=.dict ents n } →
   IR T W.own W.bt W.h fs ents.toList→IAt T W l c fs (.ref a)
theorem Inv.inst (I:Inv T W) {l c:Nat} {fs:List (Option AV)} {v:Value} (e:W.σ[l]? = some (.inst c fs)) (r:W.V T (.ref l) v):IAt T W l c fs v:=by
 cases r with
 | ref q =>
  cases I.obj _ _ _ e q with
  | inst cl dx ents n h0 h1 h2 h3 h4 h5=>exact .mk cl _ dx ents n h0 q h1 h2 h3 h4 h5
theorem a7z (O:T.Ok) (I:Inv T W) {x r:AV} {a:Nat} {nm:Str} {v:Value} (rx:W.V T x v) (hnm:T.P.attrs[a]? = some nm) (e:O6 W.σ x a = some r) {expr:Bool} :
  b8 T A noX W (getAttr v nm expr) (.ok r W.σ) (VW T):=by
 obtain ⟨p,hp,e1⟩:=Option.bind_eq_some_iff.mp e
 obtain ⟨z,hz,e2⟩:=Option.bind_eq_some_iff.mp e1
 have e3:z = some r:=e2
 subst e3
 obtain ⟨l,rfl,hσ⟩:=a4k hp
 obtain ⟨cl,b,dx,ents,n,hcl,hb,h1,h2,h3,h4,hk,_,h5⟩:=I.inst hσ rx
 obtain ⟨v,ev,rv⟩:=(h5 a nm hnm).1 r hz
 have ok:=O.inst hcl
 obtain ⟨⟨at',ha,hn⟩,_⟩:=ok.attrs nm (List.mem_of_getElem? hnm)
 have X:=O.X.keeps I.base
 exact b8.keep I fun Q E q=>get_value X (ox:={ cls:=.ref (T.ca p.1),dict:=some dx,data:=.plain }) (od:=some { cls:=.type "dict",data:=.dict ents n }) ⟨h1,rfl,rfl,h4⟩ (plainGet_of ok.get).1
  (findObj_own ok.dict ha hn ((a8A fun e he=>let ⟨x,t,q,_⟩:=hk e he;⟨x,t,q⟩).trans (by rw [ev]))) (b1d rv) (q v _ rv)
theorem a1v (O:T.Ok) (I:Inv T W) {x:AV} {m f:Nat} {nm:Str} {v:Value} (rx:W.V T x v) (hnm:T.P.methNames[m]? = some nm) (e:L6 T.P W.σ x m = some f) {pl:Sem Bool}
  {Q:Value×List Value→Shared→Prop} {E:Value→Shared→Prop} (q:T0 T (.ref (T.fa f))→Q (.ref (T.fa f),[v]) W.s):wpAny T.M A (getMethod v nm pl) Q E W.s:=by
 obtain ⟨p,hp,e1⟩:=Option.bind_eq_some_iff.mp e
 obtain ⟨cl',hcl',e2⟩:=Option.bind_eq_some_iff.mp e1
 obtain ⟨l,rfl,hσ⟩:=a4k hp
 obtain ⟨cl,b,dx,ents,n,hcl,hb,h1,h2,h3,h4,hk,_,h5⟩:=I.inst hσ rx
 rw [hcl] at hcl';cases hcl'
 have ok:=O.inst hcl
 obtain ⟨nm',hnm',hf,hfn,hkp,hno⟩:=ok.meths m f e2
 rw [hnm] at hnm';cases hnm'
 have X:=O.X.keeps I.base
 refine method_fn X (ox:={ cls:=.ref (T.ca p.1),dict:=some dx,data:=.plain }) (od:=some { cls:=.type "dict",data:=.dict ents n }) ⟨h1,rfl,rfl,h4⟩ (plainGet_of ok.get).1 (plainGet_of ok.get).2 hf (beq_iff_eq.mp hfn) ?_ (q fun h k=>let ⟨kp,hk,l⟩:=looks_keep (M:=T.M) hkp (O.X.keeps k);⟨kp,hk.imp id .inl,l⟩)
 show (lookIn nm _).map _ = _
 rw [a8A fun e he=>let ⟨x,t,q,_⟩:=hk e he;⟨x,t,q⟩]
 have:fnd ents.toList nm = none:=by
  unfold fnd
  rw [List.find?_eq_none.mpr fun e he=>?_]
  ·rfl
  ·obtain ⟨x,t,q,hm⟩:=hk e he
   rw [q,V3]
   intro z
   exact hno (eq_of_beq z▸hm)
 rw [this];rfl
end
end Mine
namespace Mine
open PySem PySem.SeqAt PySem.Spec PySem.W PySem.Calls PyProof.Rows Builtin Builtin.ObjectAttr
theorem b2K {nm:Str} {hsh:Int} {key v w:Value}:∀ {es:List DictEntry},fnd es nm = some w→(PySem.W.putL nm hsh key v es).length = es.length:=by
 intro es
 induction es with
 | nil=>intro e;cases e
 | cons d r ih =>
  intro e
  unfold PySem.W.putL
  split
  ·rfl
  ·rename_i q
   unfold fnd at e
   rw [List.find?_cons,Bool.eq_false_iff.mpr q] at e
   rw [List.length_cons,List.length_cons,ih e]
theorem a7Q:∀ {l:List Str} {i j:Nat} {x:Str},a2P l = true→l[i]? = some x→l[j]? = some x→i = j:=by
 intro l
 induction l with
 | nil=>intro i j x _ e;cases e
 | cons y r ih =>
  intro i j x h e1 e2
  rw [a2P,Bool.and_eq_true,Bool.not_eq_true'] at h
  have no:∀ k,r[k]?≠some y:=fun k q=>by
   have:=List.contains_iff_mem.mpr (List.mem_of_getElem? q)
   rw [this] at h;cases h.1
  cases i with
  | zero =>
   cases e1
   cases j with
   | zero=>rfl
   | succ j=>exact absurd e2 (no j)
  | succ i =>
   cases j with
   | zero=>cases e2;exact absurd e1 (no i)
   | succ j=>rw [ih h.2 e1 e2]
section
variable {T:Tp} {A:Around} {W:Wd}
theorem b0W {K:Frag} {prog:Program} {w:World} {C x dx:Addr} {s:Shared} {name:Str} {tk:Tok} {v:Value} {ents:Array DictEntry} {n:Nat} {Q:Fin→Shared→Prop} {E:Value→Shared→Prop} {b:Bool} (X:K.In s.heap) (hx:s.heap.get? x = some { cls:=.ref C,dict:=some dx,data:=.plain })
  (hd:s.heap.get? dx = some { cls:=.type "dict",data:=.dict ents n }) (hh:hasDictIn K C = true) (hk:∀ e∈ents.toList,∃ x t,e.key = .str x t) (hz:ents.size≤1000)
  (h:∀ h' hsh t,h'.get? dx = some { cls:=.type "dict",data:=.dict (PySem.W.putL name hsh (.str name t) v ents.toList).toArray (putN name ents.toList n) }→Heap.SameBut dx s.heap h'→Q (.done (.ret .none)) { s with heap:=h',toks:=s.toks + 1 }) :
  wpAny (model prog w) A (storeInOwnDict (.ref x) (.ref C) (.str name tk) name v b) Q E s:=by
 obtain ⟨cd,hc,hd'⟩:=any_some hh
 refine wpAny_bind (wpAny_pure (wpAny_bind (wpAny_bind (wpAny_loadPart hx (wpAny_bind ((looks_clsIn X hc).here ?_))))))
 rw [hd']
 refine wpAny_pure (a:=some dx) (wpAny_bind (wpAny_pure (wpAny_bind ?_)))
 unfold nsSet
 refine wpAny_bind (wpAny_bind (wpAny_askSetting (wpAny_pure (wpAny_bind (wpAny_mkText (wpAny_bind (wpAny_loadPart hd ?_)))))))
 dsimp only
 have c:(!ents.any (·.key.isStr name) && ents.any (·.refKey)) = false:=by
  rw [← Array.any_toList,← Array.any_toList,a8M hk,Bool.and_false]
 rw [aRefKeyMayBeTheName_at,c]
 have e:∀ hsh t,Obj.putName name hsh (.str name t) v { cls:=.type "dict",data:=.dict ents n } = { cls:=.type "dict",data:=.dict (PySem.W.putL name hsh (.str name t) v ents.toList).toArray (putN name ents.toList n) }:=fun hsh t=>by
  have:=putName_dict name hsh (.str name t) v ents.toList n
  simpa only [dictOf,Array.toArray_toList] using this
 refine wpAny_updatePart hd ?_
 have D':=Heap.get?_update_self (Obj.putName name (PyData.keyHash w.params name) (.str name s.toks) v) hd (by rw [e];rfl)
 rw [e] at D'
 have hz':(PySem.W.putL name (PyData.keyHash w.params name) (.str name s.toks) v ents.toList).toArray.size≤sizeLine:=by
  rw [List.size_toArray,sizeLine_eq]
  have:=a1w (nm:=name) (hsh:=PyData.keyHash w.params name) (key:=.str name s.toks) (v:=v) (es:=ents.toList)
  have e2:ents.toList.length = ents.size:=Array.length_toList
  lia
 refine wpAny_bind (wpAny_lookBehind D' (pastItsLine_dict (Nat.le_succ_of_le hz')) ?_)
 exact wpAny_pure (h _ _ _ D' (Heap.SameBut.update ..))
theorem IR.set {own:Addr→Ow} {bt:List Addr} {h h':Heap} (O:T.Ok) {fs:List (Option AV)} {ents:List DictEntry} {a:Nat} {nm:Str} {v:AV} {vv:Value} {hsh:Int} {t:Tok} (r:IR T own bt h fs ents) (x:Ext noX own bt h own bt h') (hl:a < fs.length) (hnm:T.P.attrs[a]? = some nm) (rv:VR T own bt h v vv) :
  IR T own bt h' (fs.set a (some v)) (PySem.W.putL nm hsh (.str nm t) vv ents):=by
 obtain ⟨hk,⟨hc1,hc2⟩,h5⟩:=r
 have hk':∀ e∈ents,∃ x t,e.key = .str x t:=fun e he=>let ⟨x,t,q,_⟩:=hk e he;⟨x,t,q⟩
 obtain ⟨f1,f2⟩:=b5u (nm:=nm) (hsh:=hsh) (tk:=t) (v:=vv) hk'
 refine ⟨fun e he=>?_,⟨?_,by rw [List.length_set];exact hc2⟩,fun i nm' hi=>?_⟩
 ·rcases b3u he with q|⟨e',he',q⟩
  ·exact ⟨nm,t,q,List.mem_of_getElem? hnm⟩
  ·obtain ⟨x,t,z,m⟩:=hk e' he'
   exact ⟨x,t,q.trans z,m⟩
 ·rw [List.countP_set hl]
  have h6:=h5 a nm hnm
  cases q:fs[a] with
  | none =>
   have:=a1w (nm:=nm) (hsh:=hsh) (key:=.str nm t) (v:=vv) (es:=ents)
   simp only [Option.isSome_none,Option.isSome_some,if_true,Bool.false_eq_true,if_false]
   lia
  | some w =>
   obtain ⟨w',ew,_⟩:=h6.1 w (by rw [List.getElem?_eq_getElem hl,q])
   rw [b2K ew]
   simp only [Option.isSome_some,if_true]
   have:0 < fs.countP (·.isSome):=List.countP_pos_iff.mpr ⟨_,List.getElem_mem hl,by rw [q];rfl⟩
   lia
 ·by_cases q:nm = nm'
  ·subst q
   obtain rfl:=a7Q O.at_ hnm hi
   rw [f1,List.getElem?_set_self hl]
   refine ⟨fun av z=>?_,fun z=>absurd rfl (z v)⟩
   cases z
   exact ⟨vv,rfl,rv.ext x .no⟩
  ·rw [f2 nm' q,List.getElem?_set_ne (fun z=>by rw [z,hi] at hnm;cases hnm;exact q rfl)]
   obtain ⟨k1,k2⟩:=h5 i nm' hi
   exact ⟨fun av z=>let ⟨u,e1,e2⟩:=k1 av z;⟨u,e1,e2.ext x .no⟩,k2⟩
theorem a3G (O:T.Ok) (I:Inv T W) {x v:AV} {a:Nat} {nm:Str} {vx vv:Value} (rx:W.V T x vx) (rv:W.V T v vv) (hnm:T.P.attrs[a]? = some nm) (hn:D7 x a v W.σ≠.fail):a5C T A W (setAttr vx nm vv) (D7 x a v W.σ) :=
 ofP (P:=a5C T A W (setAttr vx nm vv)) hn fun l e1 hn=>ofP (P:=a5C T A W (setAttr vx nm vv)) hn fun p e2 hn=>ifP (P:=a5C T A W (setAttr vx nm vv)) hn fun hl _=>by
  have hl:=of_decide_eq_true hl
  cases a6m e1
  obtain ⟨cl,b,dx,ents,n,hcl,hb,h1,h2,h3,h4,ir⟩:=I.inst (b2L e2) rx
  have hk':∀ e∈ents.toList,∃ x t,e.key = .str x t:=fun e he=>let ⟨x,t,q,_⟩:=ir.keys e he;⟨x,t,q⟩
  have ok:=O.inst hcl
  have X:=O.X.keeps I.base
  have hz:ents.size≤1000:=Nat.le_trans (by rw [← Array.length_toList];exact ir.few.1) (Nat.le_trans List.countP_le_length ir.few.2)
  have II:∀ s:Shared,s.heap = W.h→InstAt s.heap b { cls:=.ref (T.ca p.1),dict:=some dx,data:=.plain } (T.ca p.1) (some { cls:=.type "dict",data:=.dict ents n }):=fun s q=>by rw [q];exact ⟨h1,rfl,rfl,h4⟩
  intro Q E q
  refine set_plain X (II _ rfl) ok.set (osa_open (s:={ W.s with toks:=W.s.toks + 1 }) X (II _ rfl) ok.over (ok.attrs nm (List.mem_of_getElem? hnm)).2 fun bb=>b0W (A:=A.in1) (s:={ W.s with toks:=W.s.toks + 1 }) X h1 h4 ok.dict hk' hz fun h' hsh t hd' hs=>?_)
  have g:=I.upd (o:=.inst p.1 (p.2.set a (some v))) (s':={ W.s with heap:=h',toks:=W.s.toks + 1 + 1 }) hb (fun c q f e=>(Classical.em (c = dx)).elim (fun z=>⟨_,z▸hd'⟩) fun z=>⟨q,(hs.2 c z).trans e⟩) (fun c q=>hs.2 c fun z=>q (z▸h2)) rfl rfl
   fun x=>.inst cl dx _ _ hcl ((hs.2 b (Ne.symm h3)).trans h1) h2 h3 hd' (by rw [List.toList_toArray];exact ir.set O x hl hnm rv)
  exact q _ g.1 g.2 rfl
end
end Mine
namespace Mine
open PySem PySem.SeqAt PySem.Spec PySem.W PySem.Calls PyProof.Rows
section
variable {T:Tp} {A:Around} {W:Wd} {n:Nat} {C:Cx}
theorem a2y (O:T.Ok) {c:Nat} {cl:Cl} (e:T.P.cls[c]? = some cl):T0 T (.ref (T.ca c)):=fun h k=>by
 obtain ⟨kp,hk,l⟩:=looks_keep (M:=T.M) (O.inst e).keep (O.X.keeps k)
 exact ⟨kp,hk.imp id .inl,l⟩
theorem a0B {P:Pr} {c f:Nat} (h:S9 P c = some f):∃ cl,P.cls[c]? = some cl∧cl.init = some f∧P.attrs.length≤1000 :=
 o5 h fun cl e1 e=>ifE e fun q e=>⟨cl,e1,e,of_decide_eq_true q⟩
theorem a9J (args:Args):(Code.builtin "type.__call__" args).weight≤1:=by
 have e1:(Code.builtin "type.__call__" args).frames = 0:=by kernel_rfl
 have e2:(Code.builtin "type.__call__" args).isGuard = false:=by kernel_rfl
 have e3:(Code.builtin "type.__call__" args).isCaller = false:=by kernel_rfl
 unfold Code.weight
 rw [e1,e2,e3]
 split<;>decide
theorem b3C (args:Args):(Code.builtin "type.__call__" args).cUnits≤9:=by
 have e:(Code.builtin "type.__call__" args).cUnits = (Code.builtin "type.__call__" {}).cUnits:=by kernel_rfl
 rw [e];decide +kernel
theorem a6Y {args:Args} (a:AOk n C.P.hd A):a5L n C.P.hd (A.under (.builtin "type.__call__" args)):=by
 have w:=a9J args
 have u:=b3C args
 refine ⟨?_,?_,a.handled⟩
 ·unfold Around.under
  have:=a.depth
  dsimp only
  lia
 ·unfold Around.under
  have:=a.units
  dsimp only
  lia
theorem b4y (args:Args):(Code.builtin "type.__call__" args).envs = []:=by kernel_rfl
theorem Q1 {args:Args}:(A.under (.builtin "type.__call__" args)).frames = A.frames:=by
 unfold Around.under
 dsimp only
 rw [b4y];rfl
structure b9a (T:Tp) (W:Wd) (c:Nat) (W2:Wd) (D:Addr):Prop where
 σ:W2.σ = W.σ ++ [.inst c (List.replicate T.P.attrs.length none)]
 I:Inv T W2
 l:Le0 noX W W2
 v:W2.V T (.ref W.σ.length) (.ref D)
 tk:W.s.toks = W2.s.toks
theorem b5F (O:T.Ok) (I:Inv T W) {c f:Nat} {vals:List Value} (hf:S9 T.P c = some f) {R:Result→Shared→Prop}
  (k:∀ W2,b9a T W c W2 (W.h.objs.size + 1)→codeAny T.M (A.under (.builtin "type.__call__" ⟨.ref (T.ca c) :: vals,[]⟩)) (.call (.ref (T.fa f)) ⟨.ref (W.h.objs.size + 1) :: vals,[]⟩) (InitBack (W.h.objs.size + 1) R) W2.s):codeAny T.M A (.call (.ref (T.ca c)) ⟨vals,[]⟩) R W.s:=by
 obtain ⟨cl,hcl,hi,hl⟩:=a0B hf
 have ok:=O.inst hcl
 obtain ⟨h1,h2⟩:=ok.init f hi
 have X:=O.X.keeps I.base
 have hk:∀ b o,W.h.get? b = some o→((W.h.push emptyDict).push (instObj (T.ca c) W.h.objs.size)).get? b = some o:=fun b o e=>Heap.get?_push_of_some _ (Heap.get?_push_of_some _ e)
 have hx1:((W.h.push emptyDict).push (instObj (T.ca c) W.h.objs.size)).get? (W.h.objs.size + 1) = some (instObj (T.ca c) W.h.objs.size):=by
  have:=Heap.get?_push_size (W.h.push emptyDict) (o:=instObj (T.ca c) W.h.objs.size) rfl
  rwa [Heap.size_push] at this
 have hd1:((W.h.push emptyDict).push (instObj (T.ca c) W.h.objs.size)).get? W.h.objs.size = some emptyDict:=Heap.get?_push_of_some _ (Heap.get?_push_size _ rfl)
 have hN:∀ b,W.h.objs.size≤b→W.h.get? b = none:=fun b hb=>by
  cases q:W.h.get? b with
  | none=>rfl
  | some o=>exact absurd (Heap.lt_size q) (Nat.not_lt.mpr hb)
 have g:=I.grow (s':={ W.s with heap:=(W.h.push emptyDict).push (instObj (T.ca c) W.h.objs.size) }) hk rfl rfl
 have nx:=hN (W.h.objs.size + 1) (Nat.le_succ _)
 have nd:=hN W.h.objs.size (Nat.le_refl _)
 have fx:FrX (fun b=>b = W.h.objs.size + 1∨b = W.h.objs.size) W.own ((W.h.push emptyDict).push (instObj (T.ca c) W.h.objs.size)):=fun b q=>by
  rcases q with rfl|rfl
  ·exact ⟨r7 I nx,fun o e=>by rw [hx1] at e;cases e;exact .inr (.inr rfl)⟩
  ·exact ⟨r7 I nd,fun o e=>by rw [hd1] at e;cases e;exact .inl ⟨_,_,rfl⟩⟩
 obtain ⟨I2,l2,v2⟩:=g.1.take (D:=W.h.objs.size + 1) (D2:=W.h.objs.size) (o:=.inst c (List.replicate T.P.attrs.length none)) ⟨r7 I nx,a2A I nx,_,hx1⟩ ⟨r7 I nd,a2A I nd,_,hd1⟩ (Nat.lt_succ_of_lt I.high) fx
  fun x=>.inst cl W.h.objs.size #[] 0 hcl hx1 (if_pos (.inr rfl)) (Nat.ne_of_lt (Nat.lt_succ_self _)) hd1 ⟨fun e he=>(nomatch he),⟨Nat.zero_le _,by rw [List.length_replicate];exact hl⟩,fun i nm _=>⟨fun av q=>absurd (List.mem_replicate.mp (List.mem_of_getElem? q)).2 (fun z=>nomatch z),fun _=>rfl⟩⟩
 have l3:Le0 noX W (Wd.take { W with s:={ W.s with heap:=(W.h.push emptyDict).push (instObj (T.ca c) W.h.objs.size) } } (W.h.objs.size + 1) W.h.objs.size (.inst c (List.replicate T.P.attrs.length none))) :=
  g.2.lose l2 fun b o e _ q=>by
   rcases q with rfl|rfl
   ·rw [nx] at e;cases e
   ·rw [nd] at e;cases e
 exact make_core (h:=W.s.heap) (makes_of X ok.makes) (looks_findIn X h1) (fun self=>bind_fn X self (beq_iff_eq.mp h2)) (.inl rfl) (k _ ⟨rfl,I2,l3,v2,rfl⟩)
theorem b0I (O:T.Ok) (I:Inv T W) (hC:u3 T n C.P.hd C.call) (hP:C.P = { T.P with hd:=C.P.hd }) {c:Nat} {xs:List AV} {vals:List Value} (a:AOk n C.P.hd A) (S:St T A W) (r:W.Vs T xs vals) (tk:0 < W.s.toks) (hn:b1q C c xs W.σ≠.fail) :
  b8 T A noX W (call (.ref (T.ca c)) vals) (b1q C c xs W.σ) (VW T):=by
 refine b8.ofO hn fun f hf hn=>?_
 rw [hP] at hf hn ⊢
 refine wpAny_call (b5F O I hf fun W2 N2=>?_)
 have n1:C.call f (.ref W.σ.length :: xs) (W.σ ++ [.inst c (List.replicate T.P.attrs.length none)])≠.fail:=fun z=>by rw [z] at hn;exact hn rfl
 have key:=hC.code f (.ref W.σ.length :: xs) (.ref (W.h.objs.size + 1) :: vals) _ W2 (a6Y (args:=⟨.ref (T.ca c) :: vals,[]⟩) a) (let ⟨l,e,k⟩:=S.le N2.l;⟨l,Q1.trans e,k⟩) N2.I (.cons N2.v (r.le N2.l)) (N2.tk▸tk) (N2.σ▸n1)
 refine codeAny_mono key fun r s' z=>?_
 cases r with
 | error e=>exact z.elim
 | ok fl =>
  cases fl with
  | ret v =>
   obtain ⟨av,W',e1,e2,I',l',rv⟩:=z
   rw [N2.σ] at e2
   rw [e2] at hn ⊢
   cases av with
   | none=>cases rv;exact ⟨rfl,.ref W.σ.length,W',e1,rfl,I',N2.l.trans l',N2.v.le l'⟩
   | _=>exact absurd rfl hn
  | _=>exact z.elim
end
end Mine
namespace Mine
open PySem PySem.SeqAt PySem.Spec PySem.W PySem.Calls PyProof.Rows
section
variable {T:Tp} {G:Gl} {N:Nm} {n:Nat} {C:Cx} {sl:List (Nat×Str)} {A:Around} {W:Wd} {env:Env} {vs:Vs}
theorem b1j (I:Inv T W):Inv T (W.push W.h.objs.size (.dict (some 0) []) { W.s with heap:=W.h.push { cls:=.type "dict",data:=.dict #[] } })∧Le0 noX W (W.push W.h.objs.size (.dict (some 0) []) { W.s with heap:=W.h.push { cls:=.type "dict",data:=.dict #[] } })∧(W.push W.h.objs.size (.dict (some 0) []) { W.s with heap:=W.h.push { cls:=.type "dict",data:=.dict #[] } }).V T (.ref W.σ.length) (.ref W.h.objs.size) :=
 I.push (s':={ W.s with heap:=W.h.push { cls:=.type "dict",data:=.dict #[] } }) (y5 _) I.high (Heap.get?_push_size _ rfl) rfl (fun a q e=>Heap.get?_push_of_some _ e) rfl rfl
  fun fx x=>.dict #[] 0 (Heap.get?_push_size _ rfl) ⟨fun e he=>by cases he;rfl,.nil,⟨⟨true,fun _ h=>(nomatch h)⟩,.nil⟩,Nat.zero_le _⟩
theorem b4f {ms:List ME}:SE T G N n C (.dict ms):=fun {p sl A W env vs} H hm hn=>by
 obtain rfl:=List.isEmpty_iff.mp hm
 obtain ⟨I0,l0,v0⟩:=b1j H.I
 exact wpAny_Dict_empty ⟨.ref W.σ.length,_,rfl,rfl,I0,l0,v0⟩
end
end Mine
namespace Mine
open PySem PySem.SeqAt PySem.Spec PySem.W PySem.Calls PySem.Builtin PySem.Builtin.Str
noncomputable def u5 (c:Nat):List Nat→List (List Nat)
 | []=>[[]]
 | x :: r=>if x = c then [] :: u5 c r else (match u5 c r with
  | []=>[[x]]
  | p :: q=>(x :: p) :: q)
theorem a3K (c:Nat):∀ s,u5 c s≠[]
 | []=>fun z=>nomatch z
 | x :: r=>by
  unfold u5
  split
  ·exact fun z=>nomatch z
  ·split<;>exact fun z=>nomatch z
theorem a3W {c:Nat}:∀ {p:List Nat},c∉p→∀ s,u5 c (p ++ c :: s) = p :: u5 c s
 | [],_,s=>if_pos rfl
 | x :: r,h,s=>by
  have hx:x≠c:=fun e=>h (e▸List.mem_cons_self)
  show (if x = c then [] :: u5 c (r ++ c :: s) else _) = _
  have e:u5 c (r ++ c :: s) = _:=a3W (fun m=>h (List.mem_cons_of_mem _ m)) s
  rw [if_neg hx]
  show (match u5 c (r ++ c :: s) with|[]=>[[x]]|p :: q=>(x :: p) :: q) = _
  rw [e]
theorem a3M {c:Nat}:∀ {p:List Nat},c∉p→u5 c p = [p]
 | [],_=>rfl
 | x :: r,h=>by
  have hx:x≠c:=fun e=>h (e▸List.mem_cons_self)
  show (if x = c then [] :: u5 c r else _) = _
  rw [if_neg hx,a3M fun m=>h (List.mem_cons_of_mem _ m)]
theorem a2a {c:Nat}:∀ {ps:List (List Nat)},ps≠[]→(∀ p∈ps,c∉p)→u5 c (u6 [c] ps) = ps
 | [],h,_=>absurd rfl h
 | [p],_,h=>a3M (h p List.mem_cons_self)
 | p :: q :: r,_,h=>by
  show u5 c (p ++ ([c] ++ u6 [c] (q :: r))) = _
  rw [List.singleton_append,a3W (h p List.mem_cons_self),a2a (ps:=q :: r) (fun z=>nomatch z) fun x hx=>h x (List.mem_cons_of_mem _ hx)]
theorem O8 (c:Nat) (b:List Nat):∀ s,u6 b (u5 c s) = B8 c b s
 | []=>rfl
 | x :: r=>by
  have ih:=O8 c b r
  have ne:=a3K c r
  show u6 b (if x = c then _ else _) = (if x = c then b else [x]) ++ B8 c b r
  by_cases e:x = c
  ·rw [if_pos e,if_pos e,← ih]
   cases z:u5 c r with
   | nil=>exact absurd z ne
   | cons p q=>rfl
  ·rw [if_neg e,if_neg e,← ih]
   cases z:u5 c r with
   | nil=>exact absurd z ne
   | cons p q=>cases q<;>rfl
theorem a5T (s:List Nat) (c:Nat):(partsBetween (tS s) (occurrences (tS s) (tS [c]) 0 (tS s).length ((tS s).length + 1)) (tS [c]).length) = (u5 c s).map tS:=by
 obtain ⟨f,ch,nf⟩:=StrLaws.occ_tight (tS s) (tS [c]) (Nat.le_refl 1)
 have fr:=StrLaws.parts_free (tS s) c _ 0 f ch nf
 rw [← StrLaws.partsBetween_eq] at fr
 have gl:=StrLaws.glued_between_self (tS s) (tS [c]) ((tS s).length + 1)
 have ln:=PySem.length_partsBetween (tS s) (occurrences (tS s) (tS [c]) 0 (tS s).length ((tS s).length + 1)) (tS [c]).length
 have fr:∀ p∈partsBetween (tS s) (occurrences (tS s) (tS [c]) 0 (tS s).length ((tS s).length + 1)) (tS [c]).length,c∉p.cps.toList:=fr
 generalize partsBetween (tS s) (occurrences (tS s) (tS [c]) 0 (tS s).length ((tS s).length + 1)) (tS [c]).length = ps at fr gl ln
 have e:ps = (ps.map fun p=>p.cps.toList).map tS:=by rw [List.map_map];exact (List.map_id ps).symm
 rw [StrLaws.glued_eq_join,e,a1Q] at gl
 have gl:u6 [c] (ps.map fun p=>p.cps.toList) = s:=a5f gl
 have ne:(ps.map fun p=>p.cps.toList)≠[]:=fun z=>by rw [List.map_eq_nil_iff.mp z] at ln;cases ln
 have sj:=a2a ne fun p hp=>by
  obtain ⟨q,hq,rfl⟩:=List.mem_map.mp hp
  exact fr q hq
 rw [gl] at sj
 rw [sj,← e]
theorem a4F (c:Nat):∀ s,B8 c [c] s = s
 | []=>rfl
 | x :: r=>by
  show (if x = c then [c] else [x]) ++ B8 c [c] r = x :: r
  rw [a4F c r]
  by_cases e:x = c
  ·rw [if_pos e,e];rfl
  ·rw [if_neg e];rfl
theorem b4M (s:List Nat) (c:Nat) (b:List Nat):Txt.replace (tS s) (tS [c]) (tS b) = tS (B8 c b s):=by
 have ps:=a5T s c
 have y1:((tS [c]).length == 0 && (tS b).length == 0) = false:=rfl
 unfold Txt.replace
 rw [y1,Bool.or_false]
 split
 ·rename_i h
  have ln:=congrArg List.length ps
  rw [PySem.length_partsBetween,List.isEmpty_iff.mp h,List.length_map] at ln
  have e:[s] = u5 c s:=by
   have js:=O8 c [c] s
   rw [a4F] at js
   cases z:u5 c s with
   | nil=>exact absurd z (a3K c s)
   | cons p q =>
    rw [z] at ln js
    cases q with
    | nil=>rw [← js];rfl
    | cons _ _=>cases ln
  rw [← O8,← e];rfl
 ·rw [ps,StrLaws.glued_eq_join,a1Q,O8]
theorem b0J {c d:Nat} {b s:List Nat} (h:d∈B8 c b s):d∈s∨d∈b:=by
 obtain ⟨x,hx,hd⟩:=List.mem_flatMap.mp h
 by_cases e:x = c
 ·rw [if_pos e] at hd;exact .inr hd
 ·rw [if_neg e] at hd;exact .inl (List.mem_singleton.mp hd▸hx)
theorem a4b (c:Nat) (b:List Nat):∀ s,(B8 c b s).length≤s.length + (s.length + 1) * b.length
 | []=>Nat.zero_le _
 | x :: r=>by
  have ih:=a4b c b r
  show ((if x = c then b else [x]) ++ B8 c b r).length≤(r.length + 1) + (r.length + 1 + 1) * b.length
  have:(if x = c then b else [x]).length≤1 + b.length:=by
   split
   ·exact Nat.le_add_left _ _
   ·exact Nat.le_add_right _ _
  rw [List.length_append,Nat.succ_mul]
  lia
section
variable {T:Tp} {G:Gl} {N:Nm} {n:Nat} {C:Cx} {sl:List (Nat×Str)} {A:Around} {W:Wd} {env:Env} {vs:Vs}
theorem b5Y {i:Int}:SE T G N n C (.neg i):=fun {p sl A W env vs} H _ _ =>
 wpAny_UnaryOp (wpAny_Constant_int (P.neg_int ⟨.int (-i),{ W with s:={ W.s with toks:=W.s.toks + 1 + 1 } },rfl,rfl,(H.I.toks _).1,(H.I.toks _).2,.int _ _⟩))
theorem b5b {e:ME} {c:Nat} {b:List Nat} (i_e:SE T G N n C e):SE T G N n C (.repl e c b):=fun {p sl A W env vs} H hm hn=>by
 have h:=b3j hm
 refine wpAny_Call_method_late (R0 h.1.1.1.1 _ _ _) rfl (beq_self_eq_true _) rfl (b8.then (i_e H h.1.1.1.2) hn fun x W1 vx I1 l1 r1 n1 e1=>?_)
 have H1:=H.le I1 l1
 cases es:asStr x with
 | none=>unfold a5V at n1;rw [es] at n1;exact absurd rfl n1
 | some s =>
  unfold a5V at n1 e1
  rw [es] at n1 e1
  cases hl:decide (s.length + (s.length + 1) * b.length≤lim) with
  | false=>have n1:ifO _ _≠Out.fail:=n1;rw [hl] at n1;exact absurd rfl n1
  | true =>
   have e1:ev C (.repl e c b) W.σ vs = ifO (decide (s.length + (s.length + 1) * b.length≤lim)) (.ok (.str (B8 c b s)) W1.σ):=e1
   rw [hl] at e1
   have hl:=of_decide_eq_true hl
   have hb:=a7B h.1.2
   refine r1.asStr (P:=fun vx=>MethodOn T.prog T.w A "replace" _ vx _ _ _ W1.s) es fun t hs=>⟨"str","str.replace",F.plainAttrs_str,F.slot_str_replace,F.type_str_replace,typeIs_str _ _ _,fun b e=>(nomatch e),?_⟩
   refine callWith_of (P:=fun h=>T.base.StaysIn h) rfl (w6 _) (evalArgs_plain (spliced_cons (wpAny_Constant_str (k:=kAt (f6 N e (nx (nx p))).2) (pos:=g8 (f6 N e (nx (nx p))).2) (spliced_cons (wpAny_Constant_str (k:=kAt (nx (f6 N e (nx (nx p))).2)) (pos:=g8 (nx (f6 N e (nx (nx p))).2)) (spliced_nil ⟨I1.base,?_⟩))))))
   refine SC.replace (Nat.ne_of_gt H1.tk) (Nat.succ_ne_zero _) (Nat.ne_of_lt (Nat.lt_succ_self _)) (Bool.not_eq_true' _▸h.2) (by rw [k9,k9];exact hl) fun t' k=>?_
   rw [b4M]
   exact ⟨.str (B8 c b s),{ W1 with s:={ W1.s with toks:=k } },rfl,e1,(I1.toks k).1,l1.toLe0.trans (I1.toks k).2,.str _ ⟨fun d hd=>(b0J hd).elim (hs.1 d) (hb.1 d),Nat.le_trans (a4b c b s) hl⟩⟩
end
end Mine
namespace Mine
open PySem PySem.SeqAt PySem.Spec PySem.W PySem.Calls
section
variable {T:Tp} {G:Gl} {N:Nm} {n:Nat} {C:Cx} {sl:List (Nat×Str)} {A:Around} {W:Wd} {env:Env} {vs:Vs}
theorem b3N {m:ME} (h:a6X m = true):m = .none:=by
 unfold a6X at h
 split at h
 ·rfl
 ·cases h
theorem a4n {m:ME} (ih:SE T G N n C m) {b:Bool} {p:Nat} (H:E8 T n C.P.hd sl A W env vs) (hm:okE G N env.scope sl m = true) (hb:(b || a6X m) = true) (hn:ev C m W.σ vs≠.fail) :
  b8 T A noX W (evalPart (if b then some (f6 N m p).1 else none) env) (ev C m W.σ vs) (VW T):=by
 cases b with
 | true=>exact wpAny_evalPart_some (ih H hm hn)
 | false =>
  obtain rfl:=b3N hb
  exact b8.ok (wpAny_evalPart_none ⟨W,rfl,rfl,H.I,.refl _ _,.none⟩)
theorem a6q {pos:Pos} {es:List Expr} (h:C3 es = true) (hl:es.length < 30):((backTo pos (starEach es env)).all (fun x=>!x.1) && (backToKw pos (keywordEach [] env)).all (fun x=>x.1.isSome)
   && decide (es.length + ([]:List Keyword).length + (if ([]:List Keyword).isEmpty then 0 else 1) < 30)) = true:=by
 have h1:(backTo pos (starEach es env)).all (fun x=>!x.1) = true:=by
  have:=O7 (env:=env) (pos:=pos) h
  rw [List.any_eq_false] at this
  rw [List.all_eq_true]
  intro p hp
  have:=this p hp
  simpa using this
 rw [h1]
 exact decide_eq_true (show es.length + 0 + 0 < 30 from hl)
theorem a5G {pos:Pos} {f:Value} {first:List Value} {args:List ME} {p:Nat} {Q:Value→Shared→Prop} {E:Value→Shared→Prop} (H:E8 T n C.P.hd sl A W env vs) (ih:∀ m∈args,SE T G N n C m) (h:okEs G N env.scope sl args = true) (hk:T0 T f)
  (hn:evs C args W.σ vs≠.fail) (k:∀ xs vals W',Inv T W'→Le noX W W'→W'.Vs T xs vals→evs C args W.σ vs = .ok xs W'.σ→wpAny T.M A (call f (first ++ vals)) Q E W'.s) :
  wpAny T.M A (callWith pos f first (backTo pos (starEach (embEs N args p).1 env)) []) Q E W.s:=by
 cases args with
 | nil=>exact callWith_of (P:=fun h=>T.base.StaysIn h) rfl hk (PyProof.Rows.evalArgs_nil3 ⟨H.I.base,k [] [] W H.I (.same _) .nil rfl⟩)
 | cons m ms =>
  refine callWith_of (P:=fun h=>T.base.StaysIn h) (by rw [O7 (G9 (m :: ms) p)];rfl) hk ?_
  have hp:=p8 (N:=N) m p
  show wpAny T.M A (evalArgs f true (backTo pos (starEach ((f6 N m p).1 :: (embEs N ms (f6 N m p).2).1) env)) []) _ _ _
  have hs:=Z6 (pos:=pos) (p:=p) (m :: ms) ih H h hn
  have e:starEach (embEs N (m :: ms) p).1 env = _:=i8 hp
  rw [e] at hs
  rw [i8 hp]
  exact evalArgs_plain (hs.cps fun xs W' vals e I' l' r=>⟨I'.base,k xs vals W' I' l' r e⟩)
theorem N1 {pos:Pos} {f:Value} {first:List Value} {args:List ME} {p:Nat} {g:List AV→Hp→Out AV} (H:E8 T n C.P.hd sl A W env vs) (ih:∀ m∈args,SE T G N n C m) (h:okEs G N env.scope sl args = true) (hk:T0 T f)
  (hn:(evs C args W.σ vs).bind g≠.fail)
  (hc:∀ xs vals W',Inv T W'→Le noX W W'→W'.Vs T xs vals→g xs W'.σ≠.fail→b8 T A noX W' (call f (first ++ vals)) (g xs W'.σ) (VW T)) :
  b8 T A noX W (callWith pos f first (backTo pos (starEach (embEs N args p).1 env)) []) ((evs C args W.σ vs).bind g) (VW T) :=
 a5G H ih h hk (fun q=>hn (by rw [q];rfl)) fun xs vals W' I' l' r e=>(hc xs vals W' I' l' r (by rw [e] at hn;exact hn)).up l'.toLe0 (by rw [e];rfl)
theorem a9X {s:Shared} {o:Expr} {nm:Str} {pos:Pos} {Q:Value→Shared→Prop} {E:Value→Shared→Prop} (hb:attributeBase o nm env (eval o env) = eval o env) (h:wpAny T.M A (eval o env) (fun o s₁=>wpAny T.M A (getAttr o nm true) Q E s₁) E s) :
  wpAny T.M A (eval (.Attribute o nm pos) env) Q E s:=by
 rw [arm_eval_Attribute,hb]
 exact wpAny_bind (wpAny_mono h (fun o s₁ h₁=>wpAny_bind (wpAny_standAt (wpAny_bind (wpAny_holding (wpAny_mono h₁ (fun r s₂ h₂=>wpAny_bind (wpAny_letTemporaryGo (wpAny_pure h₂))) fun _ _ y=>y))))) fun _ _ y=>y)
theorem a4i {s:Shared} {o:Expr} {nm:Str} {apos pos:Pos} {args:List Expr} {Q:Value→Shared→Prop} {E:Value→Shared→Prop} (hb:attributeBase o nm env (eval o env) = eval o env) (hp:C3 args = true) (hl:args.length < 30) (hline:apos.endLine = pos.line)
  (h:wpAny T.M A (eval o env) (fun o' s₁=>∀ pl,wpAny T.M A (getMethod o' nm pl) (fun p s₂=>wpAny T.M A (callWith pos p.1 p.2 (backTo pos (starEach args env)) []) Q E s₂) E s₁) E s) :
  wpAny T.M A (eval (.Call (.Attribute o nm apos) args [] pos) env) Q E s:=by
 rw [arm_eval_Call,hb]
 refine wpAny_bind (wpAny_mono h (fun ov s₁ h₁=>wpAny_bind (wpAny_standAt ?_)) fun _ _ e=>e)
 have hform:methodCallForm (args.length + ([]:List Keyword).length) (backTo pos (starEach args env)) (backToKw pos (keywordEach [] env)) = true:=a6q hp hl
 have hpos:methodCallPos true o env apos pos = pure pos:=by unfold methodCallPos;simp [hline]
 unfold methodCall
 rw [hform]
 exact wpAny_bind (wpAny_holding (wpAny_mono (h₁ _) (fun p s₂ h₂=>wpAny_bind (wpAny_of_eq hpos h₂)) fun _ _ e=>e))
theorem b5d:SE T G N n C .none:=fun H _ _=>b0C H.I
theorem b5f {b:Bool}:SE T G N n C (.bool b):=fun H _ _=>a9N H.I
theorem b6O {i:Int}:SE T G N n C (.int i):=fun H _ _=>b2u H.I
theorem b6j {s:List Nat}:SE T G N n C (.str s):=fun H hm _=>b3g H.I (a7B hm)
theorem b6F {i:Nat}:SE T G N n C (.var i):=fun {_ sl A W env vs} H hm hn=>by
 have h:=Bool.and_eq_true_iff.mp hm
 refine b8.ofO hn fun v e _=>b2P H.F H.I (List.contains_iff_mem.mp h.1) ?_ (Bool.not_eq_true' _▸h.2)
 exact o5 (Q:=vs[i]? = some (some v)) e fun o e1 e2=>e1.trans (congrArg some e2)
theorem b8y {g:Nat} (hT:T.Ok) (hG:a1a T G) (hN:N.P = T.P) (hP:C.P = { T.P with hd:=C.P.hd }):SE T G N n C (.gl g):=fun {p _ A W env vs} H hm hn =>
 b8.ofO hn fun c q _=>by
  rw [hP] at q
  obtain ⟨v,hv,r⟩:=hG.con g c q
  have e:N.gl g = c.1:=by unfold Nm.gl;rw [hN,q];rfl
  have hm:C6 env.scope (N.gl g) = true:=hm
  rw [e] at hm
  show wpAny T.M A (eval (.Name (N.gl g) _) env) _ _ _
  rw [e]
  exact u0 hT H.I H.F hm hv ⟨c.2,W,rfl,rfl,H.I,.refl _ _,r _ _ _⟩
theorem b7F {op:BOp} {l r:ME} (i_l:SE T G N n C l) (i_r:SE T G N n C r):SE T G N n C (.bin op l r):=fun H hm hn =>
 have h:=Bool.and_eq_true_iff.mp hm
 wpAny_BinOp (b8.then (i_l H h.1) hn fun _ _ _ I1 l1 r1 n1 e1=>b8.then (i_r (H.le I1 l1) h.2) n1 fun _ _ _ I2 l2 r2 n2 e2=>(b0w I2 (r1.le l2.toLe0) r2 n2).up (l1.trans l2).toLe0 (e1.trans e2))
theorem b5h {es:List ME} (ihs:∀ m∈es,SE T G N n C m):SE T G N n C (.list es):=fun H hm hn=>a0x (Z6 es ihs H hm) hn
theorem b6C {es:List ME} (ihs:∀ m∈es,SE T G N n C m):SE T G N n C (.tup es):=fun H hm hn=>a0E (Z6 es ihs H hm) hn
theorem b7g {o i:ME} (i_o:SE T G N n C o) (i_i:SE T G N n C i):SE T G N n C (.idx o i):=fun H hm hn =>
 have h:=Bool.and_eq_true_iff.mp hm
 PyProof.Rows.Subscript_ (b8.then (i_o H h.1) hn fun _ _ _ I1 l1 r1 n1 e1=>b8.then (i_i (H.le I1 l1) h.2) n1 fun _ W2 _ I2 l2 r2 n2 e2 =>
  b8.up (W:=W2) (b8.ofO n2 fun _ q _=>b0g I2 (Nat.lt_of_succ_lt H.room) (b5s i _) (r1.le l2.toLe0) r2 q) (l1.trans l2).toLe0 (e1.trans e2))
theorem b2X {o lo hi:ME} {bl bh:Bool} (i_o:SE T G N n C o) (i_lo:SE T G N n C lo) (i_hi:SE T G N n C hi):SE T G N n C (.slice o lo hi bl bh):=fun H hm hn =>
 have h:=b3j hm
 PyProof.Rows.Subscript_ (b8.then (i_o H h.1.1.1.1) hn fun _ _ _ I1 l1 r1 n1 e1=>wpAny_Slice (b8.then (a4n i_lo (H.le I1 l1) h.1.1.1.2 h.1.2) n1 fun _ _ vy I2 l2 r2 n2 e2 =>
  b8.then (a4n i_hi (H.le I2 (l1.trans l2)) h.1.1.2 h.2) n2 fun _ W3 vz I3 l3 r3 n3 e3=>wpAny_evalPart_none (by
   have g:=I3.grow (s':={ W3.s with heap:=W3.h.push { cls:=.type "slice",data:=.fields #[vy,vz,.none] } }) (fun a q e=>Heap.get?_push_of_some _ e) rfl rfl
   exact (a6r g.1 ((r1.le (l2.trans l3).toLe0).le g.2) ((r2.le l3.toLe0).le g.2) (r3.le g.2) (Heap.get?_push_size _ rfl) n3).up (((l1.trans l2).trans l3).toLe0.trans g.2) (e1.trans (e2.trans e3)))))
theorem a9k (hN:N.P = T.P) {a:Nat} (h:a < N.P.attrs.length):T.P.attrs[a]? = some (N.at_ a):=by
 unfold Nm.at_
 rw [hN] at h ⊢
 rw [List.getElem?_eq_getElem h];rfl
theorem a8B (hN:N.P = T.P) {m:Nat} (h:m < N.P.methNames.length):T.P.methNames[m]? = some (N.me m):=by
 unfold Nm.me
 rw [hN] at h ⊢
 rw [List.getElem?_eq_getElem h];rfl
theorem b4m {o:ME} {i:Nat} (hT:T.Ok) (hN:N.P = T.P) (i_o:SE T G N n C o):SE T G N n C (.attr o i):=fun H hm hn =>
 have h:=a0w hm
 a9X (R0 h.1.1 _ _ _) (b8.then (i_o H h.1.2) hn fun _ W1 _ I1 l1 r1 n1 e1=>b8.up (W:=W1) (b8.ofO n1 fun _ q _=>a7z hT I1 r1 (a9k hN (of_decide_eq_true h.2)) q) l1.toLe0 e1)
theorem b4V {f:Nat} {args:List ME} (hT:T.Ok) (hG:a1a T G) (hC:u3 T n C.P.hd C.call) (ihs:∀ m∈args,SE T G N n C m):SE T G N n C (.call f args):=fun H hm hn=>by
 have h:=a0w hm
 have h4:=w9 h.1.2
 refine wpAny_Call_NameR (u0 hT H.I H.F h.1.1 (hG.sm _ _ h4) ?_)
 rw [hG.fa]
 exact N1 H ihs h.2 (hG.callee _ f h4) hn fun xs vals W' I' l' r n2=>hC.does f xs vals _ W' H.a.call (H.S.le l'.toLe0) I' r (Nat.lt_of_lt_of_le H.tk l'.tk) n2
theorem b7b {c:Nat} {args:List ME} (hT:T.Ok) (hG:a1a T G) (hP:C.P = { T.P with hd:=C.P.hd }) (hC:u3 T n C.P.hd C.call) (ihs:∀ m∈args,SE T G N n C m):SE T G N n C (.new c args):=fun H hm hn=>by
 have h:=a0w hm
 refine b8.ifO hn fun hc hn=>wpAny_Call_NameR (u0 hT H.I H.F h.1.1 (hG.sm _ _ (w9 h.1.2)) ?_)
 rw [hG.ca]
 obtain ⟨f,hf⟩:=Option.isSome_iff_exists.mp hc
 rw [hP] at hf
 obtain ⟨cl,hc1,_⟩:=a0B hf
 exact N1 H ihs h.2 (a2y hT hc1) hn fun xs vals W' I' l' r n2=>b0I hT I' hC hP H.a (H.S.le l'.toLe0) r (Nat.lt_of_lt_of_le H.tk l'.tk) n2
theorem b4W {o:ME} {m:Nat} {args:List ME} (hT:T.Ok) (hN:N.P = T.P) (hP:C.P = { T.P with hd:=C.P.hd }) (hC:u3 T n C.P.hd C.call) (i_o:SE T G N n C o) (ihs:∀ m∈args,SE T G N n C m):SE T G N n C (.meth o m args):=fun H hm hn =>
 have h:=b3j hm
 a4i (R0 h.1.1.1.1 _ _ _) (G9 args _) (by rw [L8];exact of_decide_eq_true h.1.2) rfl (b8.then (i_o H h.1.1.1.2) hn fun x W1 vx I1 l1 r1 n1 e1 pl=>by
  cases q:L6 C.P W1.σ x m with
  | none=>rw [q] at n1;exact absurd rfl n1
  | some f =>
   rw [q] at n1 e1
   rw [hP] at q
   exact a1v hT I1 r1 (a8B hN (of_decide_eq_true h.2)) q fun hcal=>(N1 (first:=[vx]) (H.le I1 l1) ihs h.1.1.2 hcal n1 fun xs vals W' I' l' r n4=>hC.does f (x :: xs) (vx :: vals) _ W' H.a.call ((H.S.le l1.toLe0).le l'.toLe0) I' (.cons (r1.le l'.toLe0) r) (Nat.lt_of_lt_of_le H.tk (Nat.le_trans l1.tk l'.tk)) n4).up l1.toLe0 e1)
theorem b8D {b:Bi} {args:List ME} (hT:T.Ok) (hG:a1a T G) (ihs:∀ m∈args,SE T G N n C m):SE T G N n C (.bi b args):=fun H hm hn =>
 have h:=Bool.and_eq_true_iff.mp hm
 b8.ifO hn fun hc hn=>wpAny_Call_NameR (B0 hT hG H.I H.F h.1 (N1 H ihs h.2 (a9M b) hn fun _ _ _ I' _ r n2=>b1L I' (H.a.handled (Bool.not_eq_true' _▸hc)) r n2))
theorem b8P {m:Bm} {o:ME} {args:List ME} (i_o:SE T G N n C o) (ihs:∀ m∈args,SE T G N n C m):SE T G N n C (.bm m o args):=fun H hm hn =>
 have h:=a6N hm
 wpAny_Call_method_late (R0 h.1.1.1 _ _ _) (a6q (G9 args _) (by rw [L8];exact of_decide_eq_true h.2)) (beq_self_eq_true _) rfl (b8.then (i_o H h.1.1.2) hn fun x W1 vx I1 l1 r1 n1 e1=>by
  cases q:a6D m x W1.σ with
  | false=>rw [q] at n1;exact absurd rfl n1
  | true =>
   rw [q] at n1 e1
   exact b7W I1 r1 q ((N1 (first:=[vx]) (H.le I1 l1) ihs h.1.2 (w6 (b5q m)) n1 fun xs vals W' I' l' r n4=>b2j I' (Nat.lt_of_succ_lt H.room) (r1.le l'.toLe0) r n4).up l1.toLe0 e1))
theorem b4e {e0:ME} {k:Kd} (hT:T.Ok) (hG:a1a T G) (i:SE T G N n C e0):SE T G N n C (.inst e0 k):=fun H hm hn=>by
 have h:=a0w hm
 refine wpAny_Call_NameR (B0 hT hG H.I H.F h.1.1 ?_)
 refine callWith_of (P:=fun h=>T.base.StaysIn h) (by rw [i8 (p8 e0 _)];rfl) (w6 _) ?_
 rw [i8 (p8 e0 _)]
 exact evalArgs_plain (spliced_cons (b8.then (i H h.2) hn fun x W1 v I1 l1 r1 n1 e1=>spliced_cons (B0 hT hG I1 (H.le I1 l1).F h.1.2 (spliced_nil ⟨I1.base,
  b8.up (W:=W1) (b8.ofO n1 fun b q _=>a7T I1 r1 q) l1.toLe0 e1⟩))))
theorem b1Q {e0:ME} {k:Option Nat} (hT:T.Ok) (hG:a1a T G) (hP:C.P = { T.P with hd:=C.P.hd }) (i:SE T G N n C e0):SE T G N n C (.instX e0 k):=fun {p sl A W env vs} H hm hn=>by
 have h:=a0w hm
 have nm:∀ {W':Wd} {Q:Value→Shared→Prop} {E:Value→Shared→Prop} {pos:Pos},Inv T W'→Fm T W' env sl vs→Q (orO k (fun c=>.ref (T.xa c)) (.type "ValueError")) W'.s→wpAny T.M A (eval (.Name (orO k N.xc "ValueError") pos) env) Q E W'.s:=fun I F q=>by
  cases k with
  | none=>exact B0 hT hG I F h.1.2 q
  | some c =>
   have z:=Bool.and_eq_true_iff.mp (show (C6 env.scope (N.xc c) && C7 (G.xa c) (G.gv (N.xc c))) = true from h.1.2)
   have e:=hG.sm _ _ (w9 z.2)
   rw [hG.xa] at e
   exact u0 hT I F z.1 e q
 refine wpAny_Call_NameR (B0 hT hG H.I H.F h.1.1 ?_)
 refine callWith_of (P:=fun h=>T.base.StaysIn h) (by rw [i8 (p8 e0 _)];rfl) (w6 _) ?_
 rw [i8 (p8 e0 _)]
 exact evalArgs_plain (spliced_cons (b8.then (i H h.2) hn fun x W1 v I1 l1 r1 n1 e1=>spliced_cons (nm I1 (H.le I1 l1).F (spliced_nil ⟨I1.base,
  b8.up (W:=W1) (b8.ofO n1 fun b q _=>a8g hT I1 r1 (by rw [hP] at q;exact q)) l1.toLe0 e1⟩))))
end
section
variable {T:Tp} {G:Gl} {N:Nm} {n:Nat} {C:Cx}
structure O2 (T:Tp) (G:Gl) (N:Nm) (n:Nat) (C:Cx):Prop where
 t:T.Ok
 g:a1a T G
 nm:N.P = T.P
 p:C.P = { T.P with hd:=C.P.hd }
 c:u3 T n C.P.hd C.call
mutual
theorem sb (H:O2 T G N n C):∀ m:ME,SB T G N n C m
 | .none=>p4 rfl b5d
 | .bool _=>p4 rfl b5f
 | .int _=>p4 rfl b6O
 | .str _=>p4 rfl b6j
 | .var _=>p4 rfl b6F
 | .gl _=>p4 rfl (b8y H.t H.g H.nm H.p)
 | .bin _ l r=>p4 rfl (b7F (sb H l).e (sb H r).e)
 | .not e=>b6X (sb H e)
 | .and es=>b6S (sbs H es)
 | .or es=>b7Z (sbs H es)
 | .cmp l _ r=>b7d (sb H l).e (sb H r).e
 | .chain l _ m _ r=>b2D (sb H l).e (sb H m).e (sb H r).e
 | .chain3 l _ m _ r _ q=>b0M (sb H l).e (sb H m).e (sb H r).e (sb H q).e
 | .isNone e=>b1C (sb H e).e
 | .isTrue e=>b0z (sb H e).e
 | .list es=>p4 rfl (b5h fun m h=>(sbs H es m h).e)
 | .tup es=>p4 rfl (b6C fun m h=>(sbs H es m h).e)
 | .dict _=>p4 rfl b4f
 | .idx o i=>p4 rfl (b7g (sb H o).e (sb H i).e)
 | .slice o lo hi _ _=>p4 rfl (b2X (sb H o).e (sb H lo).e (sb H hi).e)
 | .attr o _=>p4 rfl (b4m H.t H.nm (sb H o).e)
 | .call _ args=>p4 rfl (b4V H.t H.g H.c fun m h=>(sbs H args m h).e)
 | .new _ args=>p4 rfl (b7b H.t H.g H.p H.c fun m h=>(sbs H args m h).e)
 | .meth o _ args=>p4 rfl (b4W H.t H.nm H.p H.c (sb H o).e fun m h=>(sbs H args m h).e)
 | .bi _ args=>p4 rfl (b8D H.t H.g fun m h=>(sbs H args m h).e)
 | .bm _ o args=>p4 rfl (b8P (sb H o).e fun m h=>(sbs H args m h).e)
 | .inst e _=>p4 rfl (b4e H.t H.g (sb H e).e)
 | .comp elt _ src conds _=>p4 rfl (b4x (sb H elt).e (sb H src).e fun m h=>(sbs H conds m h).t)
 | .instX e _=>p4 rfl (b1Q H.t H.g H.p (sb H e).e)
 | .neg _=>p4 rfl b5Y
 | .repl e _ _=>p4 rfl (b5b (sb H e).e)
theorem sbs (H:O2 T G N n C):∀ (ms:List ME) (m:ME),m∈ms→SB T G N n C m
 | [],_,h=>nomatch h
 | e :: r,m,h=>(List.mem_cons.mp h).elim (fun q=>q▸sb H e) (sbs H r m)
end
end
end Mine
namespace Mine
open PySem PySem.SeqAt PySem.Spec PySem.W PySem.Calls
mutual
noncomputable def a5H (N:Nm):MS→Nat→Stmt×Nat
 | .set x e,n=>(.Assign [.Name (N.var x) (g8 (nx n))] (f6 N e (nx (nx n))).1 (g8 n),(f6 N e (nx (nx n))).2)
 | .setAttr o a e,n=>(.Assign [.Attribute (f6 N o (nx (nx n))).1 (N.at_ a) (g8 (nx n))] (f6 N e (f6 N o (nx (nx n))).2).1 (g8 n),(f6 N e (f6 N o (nx (nx n))).2).2)
 | .setItem o i e,n=>(.Assign [.Subscript (f6 N o (nx (nx n))).1 (f6 N i (f6 N o (nx (nx n))).2).1 (g8 (nx n))] (f6 N e (f6 N i (f6 N o (nx (nx n))).2).2).1 (g8 n),(f6 N e (f6 N i (f6 N o (nx (nx n))).2).2).2)
 | .expr e,n=>(.Expr (f6 N e (nx n)).1 (g8 n),(f6 N e (nx n)).2)
 | .ifs t a b,n=>(.If (f6 N t (nx n)).1 (embSs N a (f6 N t (nx n)).2).1 (embSs N b (embSs N a (f6 N t (nx n)).2).2).1 (g8 n),(embSs N b (embSs N a (f6 N t (nx n)).2).2).2)
 | .loop x src body,n=>(.For (.Name (N.var x) (g8 (nx n))) (f6 N src (nx (nx n))).1 (embSs N body (f6 N src (nx (nx n))).2).1 [] (g8 n),(embSs N body (f6 N src (nx (nx n))).2).2)
 | .ret e,n=>(.Return (some (f6 N e (nx n)).1) (g8 n),(f6 N e (nx n)).2)
 | .pass,n=>(.Pass (g8 n),nx n)
 | .raise c msg,n=>(.Raise (some (.Call (.Name (N.xc c) (g8 (nx (nx n)))) [.Constant (.str (tS msg)) (kAt (nx (nx (nx n)))) (g8 (nx (nx (nx n))))] [] (g8 (nx n)))) none (g8 n),nx (nx (nx (nx n))))
noncomputable def embSs (N:Nm):List MS→Nat→List Stmt×Nat
 | [],n=>([],n)
 | s :: r,n=>((a5H N s n).1 :: (embSs N r (a5H N s n).2).1,(embSs N r (a5H N s n).2).2)
end
noncomputable def M7:ME→Bool
 | .comp ..=>false
 | _=>true
mutual
noncomputable def okM (G:Gl) (N:Nm) (sc:Scope) (sl:List (Nat×Str)):MS→Bool
 | .set x e=>sl.contains (x,N.var x) && okE G N sc sl e
 | .setAttr o a e=>M7 e && okE G N sc sl e && okE G N sc sl o && decide (a < N.P.attrs.length)
 | .setItem o i e=>M7 e && okE G N sc sl e && okE G N sc sl o && okE G N sc sl i
 | .expr e=>M7 e && okE G N sc sl e
 | .ifs t a b=>okE G N sc sl t && okMs G N sc sl a && okMs G N sc sl b
 | .loop x src body=>sl.contains (x,N.var x) && okE G N sc sl src && okMs G N sc sl body
 | .ret e=>okE G N sc sl e
 | .pass=>true
 | .raise c _=>C6 sc (N.xc c) && C7 (G.xa c) (G.gv (N.xc c))
noncomputable def okMs (G:Gl) (N:Nm) (sc:Scope) (sl:List (Nat×Str)):List MS→Bool
 | []=>true
 | s :: r=>okM G N sc sl s && okMs G N sc sl r
end
noncomputable def a8V:Expr→Bool
 | .ListComp ..=>false
 | .SetComp ..=>false
 | .DictComp ..=>false
 | _=>true
theorem A3 {N:Nm} {m:ME} (h:M7 m = true) (n:Nat):a8V (f6 N m n).1 = true:=by
 cases m<;>first|rfl|cases h
section
variable {T:Tp} {G:Gl} {N:Nm} {n:Nat} {C:Cx} {sl:List (Nat×Str)} {A:Around} {W:Wd} {env:Env} {vs:Vs}
inductive T2 (T:Tp) (env:Env) (sl:List (Nat×Str)) (W:Wd) (r:i9) (f:Flow) (s':Shared):Prop
 | next (W':Wd) (vs':Vs):W'.s = s'→Inv T W'→Le0 (frX env) W W'→r = .next W'.σ vs'→f = .next→Fs T W' env sl vs'→T2 T env sl W r f s'
 | ret (W':Wd) (av:AV) (v:Value):W'.s = s'→Inv T W'→Le0 (frX env) W W'→r = .ret av W'.σ→f = .ret v→W'.V T av v→T2 T env sl W r f s'
noncomputable def a0v (T:Tp) (A:Around) (env:Env) (sl:List (Nat×Str)) (W:Wd) (t:Sem Flow) (r:i9):Prop:=wpAny T.M A t (T2 T env sl W r) (fun _ _=>False) W.s
theorem T2.up {W₀:Wd} {r r₀:i9} {f:Flow} {s':Shared} (h:T2 T env sl W r f s') (l:Le0 (frX env) W₀ W) (e:r₀ = r):T2 T env sl W₀ r₀ f s':=by
 cases h with
 | next W' vs' h1 h2 h3 h4 h5 h6=>exact .next W' vs' h1 h2 (l.trans h3) (e.trans h4) h5 h6
 | ret W' av v h1 h2 h3 h4 h5 h6=>exact .ret W' av v h1 h2 (l.trans h3) (e.trans h4) h5 h6
theorem a0v.up {W₀:Wd} {t:Sem Flow} {r r₀:i9} {E:Value→Shared→Prop} (h:a0v T A env sl W t r) (l:Le0 (frX env) W₀ W) (e:r₀ = r):wpAny T.M A t (T2 T env sl W₀ r₀) E W.s :=
 wpAny_mono h (fun _ _ p=>p.up l e) fun _ _ q=>q.elim
inductive Y7 (T:Tp) (A:Around) (W:Wd) (env:Env) (X:Addr→Prop):Prop
 | mk (outer:List Env):A.frames = some (env :: outer)→env.frame = some env.locals→Stk T W outer→(∀ e∈outer,∀ L,e.frame = some L→¬ X L)→Y7 T A W env X
theorem Y7.leX {X:Addr→Prop} {W':Wd} (t:Y7 T A W env X) (l:Le0 X W W'):Y7 T A W' env X:=by
 obtain ⟨outer,e1,e2,s,k⟩:=t
 exact ⟨outer,e1,e2,s.leX l k,k⟩
theorem Y7.sub {X Y:Addr→Prop} (t:Y7 T A W env X) (h:∀ a,Y a→X a):Y7 T A W env Y:=by
 obtain ⟨outer,e1,e2,s,k⟩:=t
 exact ⟨outer,e1,e2,s,fun e he L hL q=>k e he L hL (h L q)⟩
theorem Y7.new {X:Addr→Prop} {J:Addr} (t:Y7 T A W env X) (hJ:W.h.get? J = none):Y7 T A W env (fun b=>X b∨b = J):=by
 obtain ⟨outer,e1,e2,s,k⟩:=t
 refine ⟨outer,e1,e2,s,fun e he L hL q=>q.elim (k e he L hL) fun z=>?_⟩
 obtain ⟨_,L',e3,F⟩:=s e he
 rw [hL] at e3;cases e3
 obtain ⟨o,_,_,e4,_⟩:=F.obj
 rw [z,hJ] at e4;cases e4
theorem Y7.st {X:Addr→Prop} (t:Y7 T A W env X) (F:Fs T W env sl vs):St T A W:=by
 obtain ⟨outer,e1,e2,s,k⟩:=t
 refine ⟨env :: outer,e1,fun e he=>?_⟩
 rcases List.mem_cons.mp he with rfl|he
 ·obtain ⟨m,o,es,ep,ho,hd,_⟩:=F.ns
  exact ⟨by rw [F.fm.kind];exact fun z=>(nomatch z),e.locals,e2,F.ownL,F.baseL,o,es,ep,ho,hd⟩
 ·exact s e he
structure E7 (T:Tp) (n:Nat) (hd:Bool) (sl:List (Nat×Str)) (A:Around) (W:Wd) (env:Env) (vs:Vs):Prop where
 a:AOk n hd A
 F:Fs T W env sl vs
 I:Inv T W
 S:Y7 T A W env (frX env)
 tk:0 < W.s.toks
theorem E7.e (H:E7 T n C.P.hd sl A W env vs):E8 T n C.P.hd sl A W env vs:=⟨H.a,H.F.fm,H.I,H.S.st H.F,H.tk⟩
theorem E7.le {W':Wd} (H:E7 T n C.P.hd sl A W env vs) (I:Inv T W') (l:Le noX W W'):E7 T n C.P.hd sl A W' env vs:=⟨H.a,H.F.le l.toLe0,I,H.S.leX l.ofNo,Nat.lt_of_lt_of_le H.tk l.tk⟩
theorem E7.done {W':Wd} (H:E7 T n C.P.hd sl A W env vs) {r:i9} (I:Inv T W') (l:Le0 noX W W') (e:r = .next W'.σ vs):T2 T env sl W r .next W'.s:=.next W' vs rfl I l.ofNo e rfl (H.F.le l)
noncomputable def SS (T:Tp) (G:Gl) (N:Nm) (n:Nat) (C:Cx) (m:MS):Prop :=
 ∀ {p:Nat} {sl:List (Nat×Str)} {A:Around} {W:Wd} {env:Env} {vs:Vs},E7 T n C.P.hd sl A W env vs→okM G N env.scope sl m = true→ex C m W.σ vs≠.fail→a0v T A env sl W (exec (a5H N m p).1 env) (ex C m W.σ vs)
theorem b8.thenS {α β:Type} {X:Addr→Prop} {t:Sem β} {x:Out α} {f:α→Hp→i9} {R:Wd→α→β→Prop} {Q:β→Shared→Prop} {E:Value→Shared→Prop} (h:x≠.fail→b8 T A X W t x R) (hn:p5 x f≠.fail)
  (k:∀ a W' b,Inv T W'→Le X W W'→R W' a b→f a W'.σ≠.fail→p5 x f = f a W'.σ→Q b W'.s):wpAny T.M A t Q E W.s:=by
 cases x with
 | fail=>exact absurd rfl hn
 | ok a h'=>exact (h fun z=>nomatch z).cps fun a' W' b e I l r=>k a' W' b I l r (by cases e;exact hn) (by cases e;rfl)
theorem C2 {α β:Type} (x:Out α) (f:α→Hp→Out β) (g:β→Hp→i9):p5 (x.bind f) g = p5 x fun a h=>p5 (f a h) g:=by
 cases x<;>rfl
theorem H5.pickZ {t:Sem Bool} {x:Out AV} {g k:Hp→i9} {Q:Bool→Shared→Prop} {E:Value→Shared→Prop} (hn:(p5 x fun v h=>W6 (j8 v) (g h) (k h))≠.fail) (h:TOk x→H5 T A W t x)
  (kt:∀ W',Inv T W'→Le noX W W'→g W'.σ≠.fail→(p5 x fun v h=>W6 (j8 v) (g h) (k h)) = g W'.σ→Q true W'.s)
  (kf:∀ W',Inv T W'→Le noX W W'→k W'.σ≠.fail→(p5 x fun v h=>W6 (j8 v) (g h) (k h)) = k W'.σ→Q false W'.s):wpAny T.M A t Q E W.s:=by
 cases x with
 | fail=>exact absurd rfl hn
 | ok v h' =>
  have hn:W6 (j8 v) (g h') (k h')≠.fail:=hn
  cases z:j8 v with
  | none=>rw [z] at hn;exact absurd rfl hn
  | some b =>
   refine (h (.mk z)).cps fun v' W' b' e tv I l=>?_
   cases e
   rw [tv] at hn
   have e2:(p5 (.ok v W'.σ) fun v h=>W6 (j8 v) (g h) (k h)) = W6 (some b') (g W'.σ) (k W'.σ):=congrArg (fun o=>W6 o (g W'.σ) (k W'.σ)) tv
   cases b' with
   | true=>exact kt W' I l hn e2
   | false=>exact kf W' I l hn e2
theorem O1:∀ (ms:List MS),(∀ m∈ms,SS T G N n C m)→∀ {p:Nat} {W:Wd} {vs:Vs},E7 T n C.P.hd sl A W env vs→okMs G N env.scope sl ms = true→exs C ms W.σ vs≠.fail→a0v T A env sl W (execs (embSs N ms p).1 env) (exs C ms W.σ vs)
 | [],_,_,W,vs,H,_,_=>wpAny_execs_nil (.next W vs rfl H.I (.refl _ _) rfl rfl H.F)
 | m :: ms,ih,p,W,vs,H,h,hn=>by
  have h:=Bool.and_eq_true_iff.mp h
  have hn:a6j (ex C m W.σ vs) (fun h vs=>exs C ms h vs)≠.fail:=hn
  have n1:ex C m W.σ vs≠.fail:=fun q=>by rw [q] at hn;exact hn rfl
  show a0v T A env sl W _ (a6j (ex C m W.σ vs) fun h vs=>exs C ms h vs)
  refine wpAny_execs_cons (wpAny_mono (wpAny_toks (ih m List.mem_cons_self H h.1 n1)) (fun f _ ⟨tk,d⟩=>?_) fun _ _ q=>q.2)
  cases d with
  | next W' vs' e I' l' e1 ef F' =>
   subst e;subst ef
   rw [e1] at hn ⊢
   exact (O1 ms (fun m' hm=>ih m' (List.mem_cons_of_mem _ hm)) ⟨H.a,F',I',H.S.leX l',Nat.lt_of_lt_of_le H.tk tk⟩ h.2 hn).up l' rfl
  | ret W' av v e I' l' e1 ef r =>
   subst e;subst ef
   rw [e1]
   exact .ret W' av v rfl I' l' rfl rfl r
theorem N5 {v:Expr} (h:a8V v = true) (t:Option Expr) (k:Nat) (env:Env):swapsWith v t k env = pure false:=by
 cases v with
 | ListComp _ _ _ _=>cases h
 | SetComp _ _ _ _=>cases h
 | DictComp _ _ _ _ _=>cases h
 | _=>rfl
theorem Rd.leD {X:Addr→Prop} {W W':Wd} {env:Env} {x:Str} {v:Value} (r:Rd W env x v) (l:Le0 X W W') (hd:∀ a,frX env a→¬ X a):Rd W' env x v:=by
 rcases r with ⟨k,f,m,nn,e⟩|⟨k,c,e,f,nn⟩
 ·have hx:=hd _ (.inl rfl)
  exact .inl ⟨k,(let ⟨_,z⟩:=a1l nn;(l.ext.ow _ _ z hx).trans f),m,a3P nn fun o ho=>l.ext.kp _ o ho f hx,e⟩
 ·have hx:=hd c (.inr ⟨x,e⟩)
  exact .inr ⟨k,c,e,(let ⟨_,z⟩:=C8 nn;(l.ext.ow _ _ z hx).trans f),a1S nn fun o ho=>l.ext.kp _ o ho f hx⟩
theorem Fs.leD {X:Addr→Prop} {W W':Wd} {env:Env} {sl:List (Nat×Str)} {vs:Vs} (F:Fs T W env sl vs) (l:Le0 X W W') (fx:FrX X W.own W.h) (hd:∀ a,Mine.frX env a→¬ X a):Fs T W' env sl vs where
 fm:=⟨F.fm.kind,F.fm.glob,F.fm.bi,F.fm.cells,fun i x hi av e=>let ⟨v,r,d⟩:=F.fm.rd i x hi av e;⟨v,r.leX l fx,d.leD l hd⟩⟩
 ns:=let ⟨m,nn⟩:=F.ns;⟨m,a3P nn fun o ho=>l.ext.kp _ o ho F.ownL (hd _ (.inl rfl))⟩
 ownL:=let ⟨_,nn⟩:=F.ns;let ⟨_,z⟩:=a1l nn;(l.ext.ow _ _ z (hd _ (.inl rfl))).trans F.ownL
 baseL:=F.baseL
 kinds:=F.kinds
 cell:=fun x c e=>let ⟨h1,h2,h3,v,h4⟩:=F.cell x c e;let ⟨_,z⟩:=C8 h4;⟨(l.ext.ow _ _ z (hd _ (.inr ⟨x,e⟩))).trans h1,h2,h3,v,a1S h4 fun o ho=>l.ext.kp _ o ho h1 (hd _ (.inr ⟨x,e⟩))⟩
 cinj:=F.cinj
 inj:=F.inj
 inj2:=F.inj2
 len:=F.len
inductive b1K (T:Tp) (env:Env) (sl:List (Nat×Str)) (J:Addr) (W:Wd) (r:i9):Flow→Wd→Prop
 | next (W':Wd) (vs':Vs):Inv T W'→Le0 (fun b=>frX env b∨b = J) W W'→r = .next W'.σ vs'→Fs T W' env sl vs'→b1K T env sl J W r .next W'
 | ret (W':Wd) (av:AV) (v:Value):Inv T W'→Le0 (fun b=>frX env b∨b = J) W W'→r = .ret av W'.σ→W'.V T av v→b1K T env sl J W r (.ret v) W'
theorem b0X {W₁:Wd} {x:Nat} {nm:Str} {p:Pos} {b:Hp→Vs→i9} {body':List Stmt} {src:Src} {J:Addr} (a:AOk n C.P.hd A) (hh:A.handled = none) (hx:(x,nm)∈sl)
  (hb:∀ (W:Wd) (vs:Vs),E7 T n C.P.hd sl A W env vs→b W.σ vs≠.fail→a0v T A env sl W (execs body' env) (b W.σ vs)) {r0:i9} (hr:r0≠.fail) (hJ:¬ frX env J)
  {R:Result→Shared→Prop} (hR:∀ W' fl,b1K T env sl J W₁ r0 fl W'→R (.ok fl) W'.s)
  {m i:Nat} (TS:Y7 T A W₁ env (fun b=>frX env b∨b = J)) (I:Inv T W) (tk:0 < W.s.toks) (l:Le0 (fun b=>frX env b∨b = J) W₁ W) (F:Fs T W env sl vs) (it:Q9 T W J src i)
  (e:W0 (s8 (fun st=>A7 src st.1) i9.fail (fun v (st:Hp×Vs)=>Q3 (b st.1 (st.2.set x (some v)))) m i (W.σ,vs)) = r0) :
  codeAny T.M A (.forLoop (.Name nm p) (.ref J) body' [] env) R W.s:=by
 refine codeAny_forLoop (fun m s=>∃ W vs i,W.s = s∧Inv T W∧0 < W.s.toks∧Le0 (fun b=>frX env b∨b = J) W₁ W∧Fs T W env sl vs∧Q9 T W J src i ∧
  W0 (s8 (fun st=>A7 src st.1) i9.fail (fun v (st:Hp×Vs)=>Q3 (b st.1 (st.2.set x (some v)))) m i (W.σ,vs)) = r0) (fun m s ⟨W,vs,i,es,I,tk,l,F,it,e⟩=>?_) m ⟨W,vs,i,rfl,I,tk,l,F,it,e⟩
 subst es
 cases m with
 | zero=>exact absurd e.symm hr
 | succ m =>
  rw [s8] at e
  cases hg:A7 src W.σ with
  | none=>rw [hg] at e;exact absurd e.symm hr
  | some xs =>
   rw [hg] at e
   have e:W0 (orO xs[i]? (fun v=>(Q3 (b W.σ (vs.set x (some v)))).bind fun s=>s8 (fun st=>A7 src st.1) i9.fail (fun v (st:Hp×Vs)=>Q3 (b st.1 (st.2.set x (some v)))) m (i + 1) s) (.go (W.σ,vs))) = r0:=e
   refine wpAny_with_toks (n:=W.s.toks) (Nat.le_refl _) (a4a I hh it hg ⟨fun av v W' hi I' l' es it' r t1=>?_,fun W' hi I' l' es _=>?_⟩)
   ·rw [hi] at e
    have F':Fs T W' env sl vs:=F.leD l' it.frX fun b hb q=>hJ (q▸hb)
    refine wpAny_assign_Name (wpAny_with_toks (n:=W'.s.toks) (Nat.le_refl _) (P7 F' I' hx r fun W'' I'' l'' es' F'' t2=>?_))
    have tk2:0 < W''.s.toks:=Nat.lt_of_lt_of_le tk (Nat.le_trans t1 t2)
    have it'':Q9 T W'' J src (i + 1):=it'.leX l'' F'.frX hJ
    have hσ:W''.σ = W.σ:=es'.trans es
    have e:W0 ((Q3 (b W.σ (vs.set x (some av)))).bind fun s=>s8 (fun st=>A7 src st.1) i9.fail (fun v (st:Hp×Vs)=>Q3 (b st.1 (st.2.set x (some v)))) m (i + 1) s) = r0:=e
    rw [← hσ] at e
    have n1:b W''.σ (vs.set x (some av))≠.fail:=fun q=>by rw [q] at e;exact hr e.symm
    have l2:Le0 (fun b=>frX env b∨b = J) W W'':=(l'.mono fun _ q=>.inr q).trans (l''.mono fun _ q=>.inl q)
    refine wpAny_mono (wpAny_toks (hb W'' _ ⟨a,F'',I'',(TS.leX (l.trans l2)).sub fun _ q=>.inl q,tk2⟩ n1)) (fun fl _ ⟨t3,d⟩=>?_) fun _ _ q=>q.2.elim
    cases d with
    | next W3 vs' e3 I3 l3 e1 ef F3 =>
     subst e3;subst ef
     rw [e1] at e
     exact ⟨m,Nat.lt_succ_self _,W3,vs',i + 1,rfl,I3,Nat.lt_of_lt_of_le tk2 t3,(l.trans l2).trans (l3.mono fun _ q=>.inl q),F3,it''.leX l3 F''.frX hJ,e⟩
    | ret W3 av' v' e3 I3 l3 e1 ef r3 =>
     subst e3;subst ef
     rw [e1] at e
     exact hR W3 (.ret v') (.ret W3 av' v' I3 ((l.trans l2).trans (l3.mono fun _ q=>.inl q)) e.symm r3)
   ·rw [hi] at e
    exact wpAny_execs_nil (hR W' .next (.next W' vs I' (l.trans (l'.mono fun _ q=>.inr q)) (by rw [es];exact e.symm) (F.leD l' it.frX fun b hb q=>hJ (q▸hb))))
theorem b3e {J:Addr} (F:Fs T W env sl vs) (hJ:W.h.get? J = none):¬ frX env J:=fun q=>by
 rcases q with q|⟨y,q⟩
 ·obtain ⟨m',n'⟩:=F.ns
  obtain ⟨o,z⟩:=a1l n'
  rw [← q,hJ] at z;cases z
 ·obtain ⟨_,_,_,w,n'⟩:=F.cell y J q
  obtain ⟨o,z⟩:=C8 n'
  rw [hJ] at z;cases z
theorem Le0.forget {X:Addr→Prop} {W₀ W₁ W₂:Wd} {J:Addr} (l:Le0 noX W₀ W₁) (l':Le0 (fun b=>X b∨b = J) W₁ W₂) (h:W₀.h.get? J = none):Le0 X W₀ W₂ :=
 Le0.lose l.ofNo l' fun b o e nx q=>q.elim nx fun z=>by rw [z,h] at e;cases e
end
section
variable {T:Tp} {G:Gl} {N:Nm} {n:Nat} {C:Cx}
theorem set_plain {x:Nat} {e:ME} (E:SE T G N n C e) {p:Nat} {sl:List (Nat×Str)} {A:Around} {W:Wd} {env:Env} {vs:Vs} (H:E7 T n C.P.hd sl A W env vs) (hx:(x,N.var x)∈sl) (h3:okE G N env.scope sl e = true) (hn:ex C (.set x e) W.σ vs≠.fail)
  (hsw:swapsWith (f6 N e (nx (nx p))).1 (some (.Name (N.var x) (g8 (nx p)))) (g8 p).line env = pure false):a0v T A env sl W (exec (a5H N (.set x e) p).1 env) (ex C (.set x e) W.σ vs) :=
 wpAny_Assign_Name (b8.thenS (E H.e h3) hn fun av W' val I' l' r n1 e1=>P7 (H.F.le l'.toLe0) I' hx r fun W'' I'' l'' es F''=>.next W'' _ rfl I'' (l'.ofNo.trans l'') (e1.trans (by rw [es])) rfl F'') hsw
theorem b6A {x:Nat} {e:ME} (E:∀ e,SB T G N n C e):SS T G N n C (.set x e):=fun {p sl A W env vs} H hm hn=>by
 obtain ⟨hx,h3⟩:=Bool.and_eq_true_iff.mp hm
 have hx:=List.contains_iff_mem.mp hx
 by_cases hcv:M7 e = true
 ·exact set_plain (E e).e H hx h3 hn (N5 (A3 hcv _) _ _ _)
 ·cases e<;>first|exact absurd rfl hcv|skip
  rename_i elt y src conds sc
  have hsw:swapsWith (f6 N (.comp elt y src conds sc) (nx (nx p))).1 (some (.Name (N.var x) (g8 (nx p)))) (g8 p).line env = pure (env.blockKind == .function && env.kindOf (N.var x) == some .local && (g8 (nx p)).line == (g8 (nx (nx p))).line && !(sc.names.any fun (n,k)=>n == N.var x && (k == .local || k == .cell))):=rfl
  cases hb:(env.blockKind == .function && env.kindOf (N.var x) == some .local && (g8 (nx p)).line == (g8 (nx (nx p))).line && !(sc.names.any fun (n,k)=>n == N.var x && (k == .local || k == .cell))) with
  | false=>exact set_plain (E _).e H hx h3 hn (by rw [hsw,hb])
  | true =>
   rw [hb] at hsw
   have h3:=a6N h3
   have ok:=a9t h3.1.1.1
   have hcl:closureFor sc env = pure (L4 env.cells sc.names []):=a2T fun p hp q=>H.F.fm.cells _ (ok.free p hp q)
   have hne:(ev C (.comp elt y src conds sc) W.σ vs)≠.fail:=fun q=>by
    have hn:p5 (ev C (.comp elt y src conds sc) W.σ vs) (fun v h=>.next h (vs.set x (some v)))≠.fail:=hn
    rw [q] at hn;exact hn rfl
   have hhd:(!C.P.hd) = true:=by
    cases z:(!C.P.hd) with
    | true=>rfl
    | false=>rw [b6D,z] at hne;exact absurd rfl hne
   have hh:=H.a.handled (Bool.not_eq_true' _▸hhd)
   have eg:ex C (.set x (.comp elt y src conds sc)) W.σ vs = p5 ((ev C src W.σ vs).bind fun s h=>D1 (z5 h s) (p3 (fun h vs=>evConds C conds h vs) (fun h vs=>ev C elt h vs) y vs) h) (fun v h=>.next h (vs.set x (some v))):=by
    show p5 (ifO (!C.P.hd) _) _ = _
    rw [hhd];rfl
   rw [eg] at hn ⊢
   have hn:p5 ((ev C src W.σ vs).bind fun s h=>D1 (z5 h s) (p3 (fun h vs=>evConds C conds h vs) (fun h vs=>ev C elt h vs) y vs) h) (fun v h=>.next h (vs.set x (some v)))≠.fail:=hn
   show wpAny T.M A (exec (.Assign [.Name (N.var x) (g8 (nx p))] (f6 N (.comp elt y src conds sc) (nx (nx p))).1 (g8 p)) env) (T2 T env sl W (p5 ((ev C src W.σ vs).bind fun s h=>D1 (z5 h s) (p3 (fun h vs=>evConds C conds h vs) (fun h vs=>ev C elt h vs) y vs) h) fun v h=>.next h (vs.set x (some v)))) _ W.s
   rw [C2] at hn ⊢
   rw [exec_Assign_Name_used _ _ _ _ hsw]
   generalize nx p = p1
   generalize nx p1 = p2
   refine wpAny_bind (wpAny_standAt (wpAny_bind ?_))
   show wpAny _ A (do let _ ← comprehension (.ListComp (f6 N elt (embEs N conds (f6 N src (nx (nx p2))).2).2).1 [⟨.Name (N.var y) (g8 (nx p2)),(f6 N src (nx (nx p2))).1,(embEs N conds (f6 N src (nx (nx p2))).2).1,0⟩] sc (g8 p2)) sc env _ (PySem.newList []) false (eval (f6 N src (nx (nx p2))).1 env) (some (assign (.Name (N.var x) (g8 p1)) env))) _ _ W.s
   refine wpAny_bind (wpAny_mono (wpAny_comprehension_free (use:=some (assign (.Name (N.var x) (g8 p1)) env)) (Q:=fun _ s'=>T2 T env sl W _ .next s') rfl (X5 src _ _) hcl ok.kind ok.loc
    (b8.thenS ((E src).e H.e h3.1.1.2) hn fun av W1 v I1 l1 r1 n3 e1=>?_)) (fun _ s' hq=>wpAny_pure (wpAny_pure hq)) fun _ _ e=>e)
   cases hs:z5 W1.σ av with
   | none=>rw [hs] at n3;exact absurd rfl n3
   | some sr =>
    rw [hs] at n3 e1
    refine a0S I1 r1 hs fun J W2 I2 l2 es2 hJ _ it2=>?_
    have n4:K9 (iter sr Out.fail (p3 (fun h vs=>evConds C conds h vs) (fun h vs=>ev C elt h vs) y vs) (W1.σ,[]))≠.fail:=fun q=>n3 (show p5 (K9 _) _ = _ by rw [q];rfl)
    refine a2W (r0:=K9 (iter sr Out.fail (p3 (fun h vs=>evConds C conds h vs) (fun h vs=>ev C elt h vs) y vs) (W1.σ,[]))) (x:=y) (vs:=vs) (sl:=sl) (E elt).e (fun m _=>(E m).t) ok h3.2 h3.1.2 H.a hh (H.F.fm.le l1.toLe0) (H.e.S.le l1.toLe0) I2 l2 hJ it2 n4 (by rw [es2]) fun D Ca W' av' er I' lJ hfC oC bC hnC rv=>?_
    obtain ⟨m,hnC⟩:=hnC
    have hfC1:W.h.get? Ca = none:=by
     cases z:W.h.get? Ca with
     | none=>rfl
     | some o=>obtain ⟨o',e'⟩:=(l1.toLe0.trans l2).ext.df Ca o z id;rw [hfC] at e';cases e'
    have hfX:=b3e H.F hfC1
    have LW:Le0 noX W W':=l1.toLe0.trans (Le0.lose l2 lJ fun b o e _ q=>by rw [q,hJ] at e;cases e)
    show wpAny _ A (assign (.Name (N.var x) (g8 p1)) env (.ref D)) _ _ _
    refine wpAny_assign_Name (P7 (H.F.le LW) I' hx rv fun W3 I3 l3 es3 F3=>?_)
    obtain ⟨oc,hoc⟩:=a1l hnC
    have hn3:W3.h.Ns Ca m:=a3P hnC fun o ho=>l3.ext.kp _ o ho oC hfX
    refine ⟨m,hn3,fun h' hsb=>?_⟩
    obtain ⟨fx,I4,l4⟩:=a4d I3 ((l3.ext.ow _ _ hoc hfX).trans oC) bC hn3 hsb
    refine .next _ (vs.set x (some av')) rfl I4 (Le0.lose (LW.ofNo.trans l3) l4 (fun b o e _ q=>by rw [q,hfC1] at e;cases e)) (e1.trans ?_) rfl (F3.leD l4 fx fun b hb q=>hfX (q▸hb))
    show p5 (K9 _) _ = _
    rw [er,← es3];rfl
theorem a7M {o:ME} {i:Nat} {e:ME} (hT:T.Ok) (hN:N.P = T.P) (E:∀ e,SB T G N n C e):SS T G N n C (.setAttr o i e):=fun {p sl A W env vs} H hm hn=>by
 have h:=a6N hm
 have hn:p5 ((ev C e W.σ vs).bind fun v h=>(ev C o h vs).bind fun x h=>D7 x i v h) (fun _ h=>.next h vs)≠.fail:=hn
 show a0v T A env sl W _ (p5 ((ev C e W.σ vs).bind fun v h=>(ev C o h vs).bind fun x h=>D7 x i v h) fun _ h=>.next h vs)
 rw [C2] at hn ⊢
 refine plainObj_wpAny_Assign_Attribute (b8.thenS ((E e).e H.e h.1.1.2) hn fun av W1 val I1 l1 r1 n1 e1=>?_) (N5 (A3 h.1.1.1 _) _ _ _)
 rw [C2] at n1 e1
 refine b8.thenS ((E o).e (H.e.le I1 l1) h.1.2) n1 fun ax W2 vx I2 l2 r2 n2 e2=>?_
 refine a3G hT I2 r2 (r1.le l2.toLe0) (a9k hN (of_decide_eq_true h.2)) (fun q=>n2 (by rw [q];rfl)) _ _ fun W3 I3 l3 e3=>H.done I3 ((l1.trans l2).toLe0.trans l3) (e1.trans (e2.trans ?_))
 rw [e3];rfl
theorem a7Z {o i e:ME} (E:∀ e,SB T G N n C e):SS T G N n C (.setItem o i e):=fun {p sl A W env vs} H hm hn=>by
 have h:=a6N hm
 have hn:p5 ((ev C e W.σ vs).bind fun v h=>(ev C o h vs).bind fun x h=>(ev C i h vs).bind fun k h=>D8 x k v h) (fun _ h=>.next h vs)≠.fail:=hn
 show a0v T A env sl W _ (p5 ((ev C e W.σ vs).bind fun v h=>(ev C o h vs).bind fun x h=>(ev C i h vs).bind fun k h=>D8 x k v h) fun _ h=>.next h vs)
 rw [C2] at hn ⊢
 refine wpAny_Assign_Subscript (b8.thenS ((E e).e H.e h.1.1.2) hn fun av W1 val I1 l1 r1 n1 e1=>?_) (N5 (A3 h.1.1.1 _) _ _ _)
 rw [C2] at n1 e1
 refine b8.thenS ((E o).e (H.e.le I1 l1) h.1.2) n1 fun ax W2 vx I2 l2 r2 n2 e2=>?_
 rw [C2] at n2 e2
 refine b8.thenS ((E i).e (H.e.le I2 (l1.trans l2)) h.2) n2 fun ak W3 vk I3 l3 r3 n3 e3=>?_
 refine a3w I3 (Nat.lt_of_succ_lt H.e.room) (r2.le l3.toLe0) r3 ((VR.le (W:=W1) (W':=W2) r1 l2.toLe0).le l3.toLe0) (fun q=>n3 (by rw [q];rfl)) _ _ fun W4 I4 l4 e4=>H.done I4 (((l1.trans l2).trans l3).toLe0.trans l4) (e1.trans (e2.trans (e3.trans ?_)))
 rw [e4];rfl
theorem b4t {e:ME} (E:∀ e,SB T G N n C e):SS T G N n C (.expr e):=fun H hm hn =>
 have h:=Bool.and_eq_true_iff.mp hm
 wpAny_Expr_any (b8.thenS ((E e).e H.e h.2) hn fun _ _ _ I1 l1 _ _ e1=>H.done I1 l1.toLe0 e1) (by unfold interactive;rw [H.F.fm.kind];rfl) (N5 (A3 h.1 _) _ _ _)
theorem b6x {t:ME} {b c:List MS} (E:∀ e,SB T G N n C e) (ib:∀ m∈b,SS T G N n C m) (ic:∀ m∈c,SS T G N n C m):SS T G N n C (.ifs t b c):=fun {_ _ _ _ _ vs} H hm hn =>
 have h:=a0w hm
 wpAny_If (H5.pickZ (g:=fun h=>exs C b h vs) (k:=fun h=>exs C c h vs) hn ((E t).t H.e h.1.1) (fun W1 I1 l1 n1 e1=>(O1 b ib (H.le I1 l1) h.1.2 n1).up l1.ofNo e1) fun W1 I1 l1 n1 e1=>(O1 c ic (H.le I1 l1) h.2 n1).up l1.ofNo e1)
theorem b5c {x:Nat} {src:ME} {body:List MS} (E:∀ e,SB T G N n C e) (ib:∀ m∈body,SS T G N n C m):SS T G N n C (.loop x src body):=fun {p sl A W env vs} H hm hn=>by
 have h:=a0w hm
 have hhd:(!C.P.hd) = true:=by
  cases z:(!C.P.hd) with
  | true=>rfl
  | false=>rw [b5I,z] at hn;exact absurd rfl hn
 have hh:=H.a.handled (Bool.not_eq_true' _▸hhd)
 rw [b5I,hhd] at hn ⊢
 refine wpAny_For (b8.thenS ((E src).e H.e h.1.2) hn fun av W1 val I1 l1 r n1 e1=>?_) (X5 src _ _)
 cases hs:z5 W1.σ av with
 | none=>rw [hs] at n1;exact absurd rfl n1
 | some sr =>
  rw [hs] at n1 e1
  have e1:=e1.trans (show t5 (some sr) _ (W1.σ,vs) = _ from congrArg W0 (a5A sr _ _ _))
  have n1:W0 (iter sr i9.fail _ (W1.σ,vs))≠.fail:=n1
  rw [a5A] at n1
  refine wpAny_with_toks (n:=W1.s.toks) (Nat.le_refl _) (a0S I1 r hs fun J W2 I2 l2 es hJ _ it2 t2=>?_)
  refine b0X (src:=sr) (vs:=vs) (i:=0) (m:=b6n sr + 1) (b:=fun h vs=>exs C body h vs) H.a hh (List.contains_iff_mem.mp h.1.1) (fun W3 vs3 H3 n3=>O1 body ib H3 h.2 n3) n1 (b3e (H.F.le l1.toLe0) hJ) (fun W3 fl d=>?_) (((H.S.leX l1.ofNo).new hJ).leX l2.ofNo) I2 (Nat.lt_of_lt_of_le (Nat.lt_of_lt_of_le H.tk l1.tk) t2) (.refl _ W2) (H.F.le (l1.toLe0.trans l2)) it2 (by rw [es])
  cases d with
  | next _ vs' I3 l3 e3 F3=>exact .next W3 vs' rfl I3 (l1.ofNo.trans (Le0.forget l2 l3 hJ)) (e1.trans e3) rfl F3
  | ret _ av' v I3 l3 e3 r3=>exact .ret W3 av' v rfl I3 (l1.ofNo.trans (Le0.forget l2 l3 hJ)) (e1.trans e3) rfl r3
theorem b5P {e:ME} (E:∀ e,SB T G N n C e):SS T G N n C (.ret e):=fun H hm hn =>
 wpAny_Return_some (b8.thenS ((E e).e H.e hm) hn fun av W1 val I1 l1 r _ e1=>.ret W1 av val rfl I1 l1.ofNo e1 rfl r)
theorem b5v:SS T G N n C .pass:=fun H _ _=>wpAny_Pass (H.done H.I (.refl _ _) rfl)
mutual
theorem ss (H:O2 T G N n C):∀ m:MS,SS T G N n C m
 | .set _ _=>b6A (sb H)
 | .setAttr _ _ _=>a7M H.t H.nm (sb H)
 | .setItem _ _ _=>a7Z (sb H)
 | .expr _=>b4t (sb H)
 | .ifs _ b c=>b6x (sb H) (sss H b) (sss H c)
 | .loop _ _ body=>b5c (sb H) (sss H body)
 | .ret _=>b5P (sb H)
 | .pass=>b5v
 | .raise _ _=>fun _ _ hn=>absurd rfl hn
theorem sss (H:O2 T G N n C):∀ (ms:List MS) (m:MS),m∈ms→SS T G N n C m
 | [],_,h=>nomatch h
 | e :: r,m,h=>by
  have h:=List.mem_cons.mp h
  rcases h with q|q
  ·rw [q];exact ss H e
  ·exact sss H r m q
end
end
end Mine
namespace Mine
open PySem PySem.SeqAt PySem.Spec PySem.W PySem.Calls PyProof.Rows
section
variable {T:Tp} {A:Around} {W:Wd} {c:Nat} {e:Addr} {b:Bool} {s:Shared} {l outer:List Env} {env:Env} {Q:Unit→Shared→Prop} {E:Value→Shared→Prop}
structure FrO (T:Tp) (W:Wd) (h:Heap) (a:Addr) (o:Obj):Prop where
 own:W.own a = .free
 base:T.base.get? a = none
 dict:∃ es n,o.data = .dict es n
 at_:Std h a o
theorem Sm.dict {o o':Obj} {es:Array DictEntry} {n:Nat} (s:Sm o o') (d:o.data = .dict es n):o'.data = .dict es n:=by
 cases s with
 | refl=>exact d
 | slots _=>exact d
theorem FrO.up {h h':Heap} {a:Addr} {o:Obj} (f:FrO T W h a o) (k:h.UpToSlots h'):FrO T W h' a o:=by
 obtain ⟨f1,f2,⟨es,n,d⟩,o1,e1,s1⟩:=f
 obtain ⟨sl,e2⟩:=k a o1 e1 fun vs q=>(nomatch (s1.dict d).symm.trans q)
 exact ⟨f1,f2,⟨es,n,d⟩,_,e2,s1.trans (.slots (s1.dict d))⟩
inductive b6J (B:Heap) (cls:Value) (e:Addr) (h:Heap):Bool→Prop
 | first (o:Obj) (vs:Array Value) (a0:Value):h.get? e = some o→o.cls = cls→o.data = .fields vs→vs[0]? = some a0→vs[1]? = some .none→b6J B cls e h false
 | on (a0:Value) (b:Bool):h.TracedW B e cls a0→b6J B cls e h b
inductive Fly (T:Tp) (W:Wd) (l:List Env) (c:Nat) (e:Addr) (b:Bool) (s:Shared):Prop
 | mk (B:Heap):(∀ a o,W.h.get? a = some o→B.get? a = some o∨FrO T W s.heap a o)→B.StaysIn s.heap→B.get? e = none→W.h.get? e = none→s.heap.FunFrames B l→s.gens = W.s.gens→s.os = W.s.os→b6J B (.ref (T.xa c)) e s.heap b→Fly T W l c e b s
theorem Fly.next {B h':Heap} {a0:Value} (wh:∀ a o,W.h.get? a = some o→B.get? a = some o∨FrO T W s.heap a o) (be:B.get? e = none) (we:W.h.get? e = none) (g:s.gens = W.s.gens) (os:s.os = W.s.os) (k1:B.StaysIn h') (ff:h'.FunFrames B l) (tr:h'.TracedW B e (.ref (T.xa c)) a0) (up:s.heap.UpToSlots h'):Fly T W l c e b { s with heap:=h' } :=
 ⟨B,fun a o ha=>(wh a o ha).imp id (·.up up),k1,be,we,ff,g,os,.on a0 b tr⟩
theorem a5d (hfr:A.frames = some (env :: outer)) (f:Fly T W (env :: outer) c e b s) (h:∀ s',Fly T W outer c e false s'→Q () s'):wpAny T.M A (leaving env (.ref e)) Q E s:=by
 obtain ⟨B,wh,st,be,we,ff,g,os,fe⟩:=f
 obtain ⟨_,⟨L,_,hf,_⟩,_⟩:=id ff
 cases fe with
 | first o vs a0 h1 h2 h3 h4 h5 =>
  refine wpAny_leaving_firstW hfr ff hf h1 st be h3 h5 h4 fun h' k=>?_
  rw [h2] at k
  exact h _ (.next wh be we g os k.1 k.2.1.2.2 k.2.2.1 k.2.2.2)
 | on a0 _ tr=>exact wpAny_leaving_nextW hfr ff hf tr st be fun h' k=>h _ (.next wh be we g os k.1 k.2.1.2.2 k.2.2.1 k.2.2.2)
theorem b0d (hfr:A.frames = some (env :: outer)) (f:Fly T W (env :: outer) c e b s) (h:∀ s',Fly T W (env :: outer) c e true s'→Q () s'):wpAny T.M A (noteFrame (.ref e) env) (fun _ s₂=>wpAny T.M A (setFlight (.ref e) none) Q E s₂) E s:=by
 obtain ⟨B,wh,st,be,we,ff,g,os,fe⟩:=f
 obtain ⟨_,⟨L,_,hf,_⟩,_⟩:=id ff
 cases fe with
 | first o vs a0 h1 h2 h3 h4 h5 =>
  unfold noteFrame
  simp only [hf]
  refine wpAny_bind (wpAny_field h1 h3 h5 ?_)
  rw [if_neg (by decide)]
  refine wpAny_entryW hfr ff hf h1 st be h3 (Array.getElem?_eq_some_iff.mp h5).1 h4 fun h' k=>?_
  rw [h2] at k
  exact wpAny_landsW ⟨k.1,be,k.2.1,k.2.2.1⟩ fun h'' j j4=>h _ (Fly.next (s:=s) wh be we g os j.1 j.2.2.1 j.2.2.2 (Heap.UpToSlots.trans k.2.2.2 j4))
 | on a0 _ tr=>exact wpAny_looks_onW hfr hf ⟨st,be,ff,tr⟩ fun h' k k4=>wpAny_landsW k fun h'' j j4=>h _ (Fly.next (s:=s) wh be we g os j.1 j.2.2.1 j.2.2.2 (k4.trans j4))
theorem a8u (f:Fly T W l c e true s) (h:∀ s',Fly T W l c e true s'→Q () s'):wpAny T.M A (setFlight (.ref e) none) Q E s:=by
 obtain ⟨B,wh,st,be,we,ff,g,os,fe⟩:=f
 cases fe with
 | on a0 _ tr=>exact lands_againW ⟨st,be,ff,tr⟩ fun h' j j4=>h _ (.next wh be we g os j.1 j.2.2.1 j.2.2.2 j4)
structure b5O (T:Tp) (W:Wd) (c:Nat) (e:Addr) (s:Shared):Prop where
 I:Inv T { W with s:=s }
 le:Le0 noX W { W with s:=s }
 v:VR T W.own W.bt s.heap (.exc c) (.ref e)
 obj:∃ o,s.heap.get? e = some o∧o.cls = .ref (T.xa c)
theorem Fly.inv (I:Inv T W) (f:Fly T W l c e b s):b5O T W c e s:=by
 obtain ⟨B,wh,st,be,we,ff,g,os,fe⟩:=f
 have fr:∀ a o,W.h.get? a = some o→Std s.heap a o:=fun a o ha=>(wh a o ha).elim (fun q=>.of (st a o q)) (·.at_)
 have kept:∀ a o,W.h.get? a = some o→(W.own a = .free→T.base.get? a = none→False)→s.heap.get? a = some o:=fun a o ha q=>(wh a o ha).elim (st a o) fun z=>(q z.own z.base).elim
 have x:Ext noX W.own W.bt W.h W.own W.bt s.heap:=⟨fun a o e _ _=>fr a o e,fun a o e _=>let ⟨o',e',_⟩:=fr a o e;⟨o',e'⟩,fun _ _ _ _=>rfl,[],(List.append_nil _).symm⟩
 have v:∃ o vs,s.heap.get? e = some o∧o.cls = .ref (T.xa c)∧o.data = .fields vs:=by
  cases fe with
  | first o vs _ h1 h2 h3=>exact ⟨o,vs,h1,h2,h3⟩
  | on _ _ tr=>obtain ⟨o,vs,_,_,_,h1,h2,h3,_⟩:=tr;exact ⟨o,vs,h1,h2.1,h3⟩
 obtain ⟨o,vs,h1,h2,h3⟩:=v
 exact ⟨⟨I.len,I.ownb,fun a q=>⟨let ⟨o,e⟩:=(I.lt a q).1;let ⟨o',e',_⟩:=fr a o e;⟨o',e'⟩,(I.lt a q).2⟩,fun i o a eo ea=>(I.obj i o a eo ea).mono x .no (I.ownb i a ea) fun b q f e'=>kept b q e' fun z _=>(nomatch f.symm.trans z),
  fun b o eb=>kept b o (I.base b o eb) fun _ z=>(nomatch eb.symm.trans z),I.st,I.hi⟩,⟨x,g,os⟩,.exc h1 h2 h3 (r7 I we),o,h1,h2⟩
noncomputable def frs (l:List Env):List Addr:=l.filterMap (·.frame)
theorem Stk.fr (S:Stk T W l) {a:Addr} (h:a∈frs l):b3V T W a:=by
 obtain ⟨env,he,hf⟩:=List.mem_filterMap.mp h
 obtain ⟨_,L,h1,F⟩:=S env he
 rw [hf] at h1;cases h1;exact F
theorem Stk.fun {h':Heap} (k:∀ a o,W.h.get? a = some o→h'.get? a = some o) {l':List Env}:∀ {l:List Env},Stk T W l→(∀ e∈l,e∈l')→h'.FunFrames (hideAll W.h (frs l')) l
 | [],_,_=>trivial
 | env :: l,S,hs=>by
  obtain ⟨kd,L,h1,F⟩:=S env (List.mem_cons_self ..)
  obtain ⟨o,es,n,h4,h5⟩:=F.obj
  exact ⟨kd,⟨L,o,h1,hideAll_none _ (List.mem_filterMap.mpr ⟨env,hs env (List.mem_cons_self ..),h1⟩),k L o h4,fun vs q=>(nomatch h5.symm.trans q)⟩,Stk.fun k (fun e he=>S e (List.mem_cons_of_mem _ he)) fun e he=>hs e (List.mem_cons_of_mem _ he)⟩
theorem a8z (O:T.Ok) (I:Inv T W) (hh:A.handled = none) (S:Stk T W l) {us:List Nat} (hc:W9 T.P c = some us) {x:Str} {np cpos pos:Pos} {a1:Expr} (hs:U3 a1 = true)
  (hx:∀ Q E,Q (.ref (T.xa c)) W.s→wpAny T.M A (eval (.Name x np) env) Q E W.s) (ha:∀ Q E,(∀ v k,Q v { W.s with toks:=k })→wpAny T.M A (eval a1 env) Q E W.s) {Q:Flow→Shared→Prop} {E:Value→Shared→Prop}
  (h:∀ e s',Fly T W l c e false s'→E (.ref e) s'):wpAny T.M A (exec (.Raise (some (.Call (.Name x np) [a1] [] cpos)) none pos) env) Q E W.s:=by
 obtain ⟨_,_,ow⟩:=O.own c us hc
 obtain ⟨bm,N,nm,q,bs,hdct,sn,sub,ab,col,dd,k0,k1,k2,k3,k5,mN,hC,hN,hni,TL⟩:=(ow.keeps I.base).obj
 refine wpAny_Raise_call_subU (C:=T.xa c) (nm:=nm) (q:=q) (N:=N) (bs:=bs) (bm:=bm) (hdct:=hdct) (sn:=sn) (sub:=sub) (ab:=ab) (col:=col) (dd:=dd) (k0:=k0) (k1:=k1) (k2:=k2) (k3:=k3) (k5:=k5) (mN:=mN) F.excBase_ValueError (by decide) F.excBase_ValueError (TL.hasType (by decide)) hh ?_ hni (hx _ _ ⟨rfl,?_⟩)
 ·rw [i8 hs];rfl
 rw [i8 hs]
 refine evalArgs_plain (spliced_cons (ha _ _ fun v k=>spliced_nil ⟨rfl,by show (1:Nat)≤sizeLine;rw [sizeLine_eq];decide,hC,hN,TL,fun h' e hm=>?_⟩))
 obtain ⟨t,ht,htn,_⟩:=hm.there
 have hk:∀ a o,W.h.get? a = some o→h'.get? a = some o:=hm.keeps
 have hn:W.h.get? e = none:=hm.new
 refine h e _ ⟨hideAll W.h (frs l),fun a o ha=>?_,fun a o q=>hk a o (of_hideAll _ q),?_,hn,S.fun hk fun _ q=>q,rfl,rfl,.first _ _ _ ht rfl rfl rfl rfl⟩
 ·by_cases z:a∈frs l
  ·have F:=S.fr z
   obtain ⟨o',es,n,e1,d⟩:=F.obj
   rw [ha] at e1;cases e1
   exact .inr ⟨F.own,F.base,⟨es,n,d⟩,.of (hk a o ha)⟩
  ·exact .inl (hideAll_get _ ha z)
 ·cases z:(hideAll W.h (frs l)).get? e with
  | none=>rfl
  | some o=>rw [of_hideAll _ z] at hn;cases hn
theorem b4I {M:Model} {s:Shared} {e:Addr} {D spec:Value} {Q:Bool→Shared→Prop} {E:Value→Shared→Prop} (h1:Looks M s.heap (isInstance spec (.type "tuple")) false) (h2:Looks M s.heap (isExcClass spec) true) (h3:Looks M s.heap (typeOf (.ref e)) D) (h4:Looks M s.heap (isSubtype D spec) true)
  (q:Q true s):wpAny M A (excMatches (.ref e) spec) Q E s:=by
 obtain ⟨hh,g,d,t,os⟩:=s
 unfold excMatches
 refine wpAny_bind (h1.at ?_)
 simp only [Bool.false_eq_true,if_false]
 refine wpAny_bind (wpAny_pure ?_)
 simp only [List.forIn_cons,List.forIn_nil]
 refine wpAny_bind (wpAny_bind (wpAny_bind (h2.at ?_)))
 simp only [Bool.not_true,Bool.false_eq_true,if_false]
 refine wpAny_pure (wpAny_pure (wpAny_bind (h3.at (wpAny_bind (wpAny_bind (wpAny_bind (h4.at ?_)))))))
 simp only [if_true]
 exact wpAny_pure (wpAny_pure (wpAny_pure q))
theorem Tp.Ok.matches (O:T.Ok) (I:Inv T W) {d c:Nat} (h:instX T.P (.exc d) (some c) = some true) {e:Addr} {o:Obj} (ho:W.h.get? e = some o) (hc:o.cls = .ref (T.xa d)) {Q:Bool→Shared→Prop} {E:Value→Shared→Prop} (q:Q true W.s):wpAny T.M A (excMatches (.ref e) (.ref (T.xa c))) Q E W.s :=
 o5 h fun _ z h1=>o5 h1 fun us e2 h2=>by
  cases z
  obtain ⟨vs,e3,e4⟩:=Option.map_eq_some_iff.mp (show (W9 T.P c).map (fun _=>us.contains c) = some true from h2)
  have X:=O.X.keeps I.base
  have hp:=(O.exc e2).pair c vs e3
  have hb:=(O.exc e3).b
  unfold b0c at hb
  unfold a3Z at hp
  rw [e4,if_pos rfl] at hp
  simp only [Bool.and_eq_true,beq_iff_eq] at hb hp
  refine b4I (looks_instIn X hb.1.1.1.1.1.1.1) ?_ (hc▸(Looks.ld ho).andThen .now) (looks_subIn X hp.2) q
  have his:Looks T.M W.h (isType (.ref (T.xa c))) true:=by
   obtain ⟨cdD,hcD⟩:=Option.isSome_iff_exists.mp hb.1.2
   unfold clsIn at hcD
   split at hcD
   ·rename_i c' d' cd' sl' ho
    intro A' Q' E' s' k q
    unfold isType loadHead
    exact wpAny_bind (wpAny_loadPart (k _ _ (X _ _ ho)) (wpAny_pure q))
   ·cases hcD
  exact his.andThen (looks_subIn X hb.1.1.1.1.1.1.2)
end
end Mine
namespace Mine
open PySem PySem.SeqAt PySem.Spec PySem.W PySem.Calls
inductive a0y (T:Tp) (A:Around) (W:Wd) (q:Nat×Hp):Value→Shared→Prop
 | mk (l:List Env) (W':Wd) (e:Addr) (s':Shared):A.frames = some l→Inv T W'→Le0 noX W W'→q.2 = W'.σ→Fly T W' l q.1 e false s'→a0y T A W q (.ref e) s'
inductive X2 (T:Tp) (A:Around) (env:Env) (sl:List (Nat×Str)) (W:Wd) (q:Fl):Value→Shared→Prop
 | mk (l:List Env) (W':Wd) (e:Addr) (s':Shared):A.frames = some l→Inv T W'→Le0 (frX env) W W'→q.h = W'.σ→Fs T W' env sl q.vs→Fly T W' l q.c e false s'→X2 T A env sl W q (.ref e) s'
structure v9 (T:Tp) (n:Nat) (hd:Bool) (cx:Nat→List AV→Hp→Option (Nat×Hp)):Prop where
 code:∀ f as vals A W q,a5L n hd A→St T A W→Inv T W→W.Vs T as vals→0 < W.s.toks→cx f as W.σ = some q →
  codeAny T.M A (.call (.ref (T.fa f)) ⟨vals,[]⟩) (fun r s'=>match r with|.error v=>a0y T A W q v s'|_=>False) W.s
section
variable {T:Tp} {G:Gl} {N:Nm} {n:Nat} {C:Cx} {cx:Nat→List AV→Hp→Option (Nat×Hp)} {sl:List (Nat×Str)} {A:Around} {W W₀:Wd} {env:Env} {vs:Vs}
theorem a0y.up {q:Nat×Hp} {v:Value} {s':Shared} (h:a0y T A W q v s') (l:Le0 noX W₀ W):a0y T A W₀ q v s':=by
 obtain ⟨l',W',e,s',h1,h2,h3,h4,h5⟩:=h
 exact ⟨l',W',e,s',h1,h2,l.trans h3,h4,h5⟩
theorem X2.up {q:Fl} {v:Value} {s':Shared} (h:X2 T A env sl W q v s') (l:Le0 (frX env) W₀ W):X2 T A env sl W₀ q v s':=by
 obtain ⟨l',W',e,s',h1,h2,h3,h4,h5,h6⟩:=h
 exact ⟨l',W',e,s',h1,h2,l.trans h3,h4,h5,h6⟩
theorem a0y.f {q:Nat×Hp} {v:Value} {s':Shared} (h:a0y T A W q v s') (F:Fs T W env sl vs):X2 T A env sl W ⟨q.1,q.2,vs⟩ v s':=by
 obtain ⟨l',W',e,s',h1,h2,h3,h4,h5⟩:=h
 exact ⟨l',W',e,s',h1,h2,h3.ofNo,h4,F.le h3,h5⟩
theorem v9.raises {hd:Bool} (h:v9 T n hd cx) {f:Nat} {as:List AV} {vals:List Value} {q:Nat×Hp} (a:a5L n hd A) (S:St T A W) (I:Inv T W) (r:W.Vs T as vals) (tk:0 < W.s.toks) (e:cx f as W.σ = some q) {Q:Value→Shared→Prop}:wpAny T.M A (PySem.call (.ref (T.fa f)) vals) Q (a0y T A W q) W.s :=
 wpAny_call (codeAny_mono (h.code f as vals A W q a S I r tk e) fun r s' z=>by
  cases r with
  | ok fl=>cases fl<;>exact z.elim
  | error v=>exact z)
theorem b8.thenX {α β:Type} {X:Addr→Prop} {t:Sem β} {x:Out α} {f:α→Hp→Option (Nat×Hp)} {R:Wd→α→β→Prop} {Q:β→Shared→Prop} {E:Value→Shared→Prop} {q:Nat×Hp} (h:x≠.fail→b8 T A X W t x R) (e:okX x f = some q)
  (k:∀ a W' b,Inv T W'→Le X W W'→R W' a b→f a W'.σ = some q→Q b W'.s):wpAny T.M A t Q E W.s:=by
 cases x with
 | fail=>cases e
 | ok a h'=>exact (h fun z=>nomatch z).cps fun a' W' b e' I l r=>k a' W' b I l r (by cases e';exact e)
noncomputable def SX (T:Tp) (G:Gl) (N:Nm) (n:Nat) (C:Cx) (r:Hp→Vs→Option (Nat×Hp)) (m:ME):Prop :=
 ∀ {p:Nat} {sl:List (Nat×Str)} {A:Around} {W:Wd} {env:Env} {vs:Vs} {q:Nat×Hp} {Q:Value→Shared→Prop},E8 T n C.P.hd sl A W env vs→okE G N env.scope sl m = true→r W.σ vs = some q→wpAny T.M A (eval (f6 N m p).1 env) Q (a0y T A W q) W.s
theorem b0N {e:ME} {z:ME×Nat×List ME} (h:a7G e = some z):e = .meth z.1 z.2.1 z.2.2:=by
 unfold a7G at h
 split at h
 ·cases h;rfl
 ·cases h
theorem b3k {e:ME} {z:ME×ME} (h:a2e e = some z):e = .tup [z.1,z.2]:=by
 unfold a2e at h
 split at h
 ·split at h
  ·cases h
  ·split at h
   ·cases h
   ·split at h
    ·cases h;rfl
    ·cases h
 ·cases h
theorem b5r (H0:O2 T G N n C) (hX:v9 T n C.P.hd cx) (e:ME):SX T G N n C (b5y C cx e) e:=fun {p sl A W env vs q Q} H hm hq=>o5 hq fun z e1 hq=>by
 cases b0N e1
 have h:=b3j hm
 exact a4i (R0 h.1.1.1.1 _ _ _) (G9 z.2.2 _) (by rw [L8];exact of_decide_eq_true h.1.2) rfl (b8.thenX ((sb H0 z.1).e H h.1.1.1.2) hq fun x W1 vx I1 l1 r1 hq pl=>o5 hq fun f hf hq=>by
  rw [H0.p] at hf
  refine a1v H0.t I1 r1 (a8B H0.nm (of_decide_eq_true h.2)) hf fun hcal=>a5G (first:=[vx]) (H.le I1 l1) (fun m _=>(sb H0 m).e) h.1.1.2 hcal (fun z=>by rw [z] at hq;cases hq) fun xs vals W' I' l' r e=>?_
  rw [e] at hq
  exact wpAny_mono (hX.raises (vals:=vx :: vals) H.a.call ((H.S.le l1.toLe0).le l'.toLe0) I' (.cons (r1.le l'.toLe0) r) (Nat.lt_of_lt_of_le H.tk (Nat.le_trans l1.tk l'.tk)) hq) (fun _ _ z=>z) fun _ _ z=>z.up (l1.trans l').toLe0)
theorem a9Q {e:ME} {z:Nat×List ME} (h:a7S e = some z):e = .call z.1 z.2:=by
 unfold a7S at h
 split at h
 ·cases h;rfl
 ·cases h
theorem b3h {e:ME} {z:Nat×List ME} (h:b1Z e = some z):e = .new z.1 z.2:=by
 unfold b1Z at h
 split at h
 ·cases h;rfl
 ·cases h
theorem b6V (H0:O2 T G N n C) (hX:v9 T n C.P.hd cx) (e:ME):SX T G N n C (b8m C cx e) e:=fun {p sl A W env vs q Q} H hm hq=>o5 hq fun z e1 hq2=>by
 cases a9Q e1
 have h:=a0w hm
 have h4:=w9 h.1.2
 refine wpAny_Call_NameR (u0 H0.t H.I H.F h.1.1 (H0.g.sm _ _ h4) ?_)
 rw [H0.g.fa]
 refine a5G (first:=[]) H (fun m _=>(sb H0 m).e) h.2 (H0.g.callee _ z.1 h4) (fun z=>by rw [z] at hq2;cases hq2) fun xs vals W' I' l' r e=>?_
 rw [e] at hq2
 exact wpAny_mono (hX.raises (vals:=vals) H.a.call (H.S.le l'.toLe0) I' r (Nat.lt_of_lt_of_le H.tk l'.tk) hq2) (fun _ _ z=>z) fun _ _ z=>z.up l'.toLe0
theorem b7p (H0:O2 T G N n C) (hX:v9 T n C.P.hd cx) (e:ME):SX T G N n C (b7T C cx e) e:=fun {p sl A W env vs q Q} H hm hq=>o5 hq fun z e1 hq1=>o5 hq1 fun f hf hq2=>by
 cases b3h e1
 have h:=a0w hm
 rw [H0.p] at hf hq2
 obtain ⟨cl,hc1,_⟩:=a0B hf
 refine wpAny_Call_NameR (u0 H0.t H.I H.F h.1.1 (H0.g.sm _ _ (w9 h.1.2)) ?_)
 rw [H0.g.ca]
 refine a5G (first:=[]) H (fun m _=>(sb H0 m).e) h.2 (a2y H0.t hc1) (fun z=>by rw [z] at hq2;cases hq2) fun xs vals W' I' l' r e=>?_
 rw [e] at hq2
 refine wpAny_call (b5F H0.t I' hf fun W2 N2=>?_)
 have key:=hX.code f (.ref W'.σ.length :: xs) (.ref (W'.h.objs.size + 1) :: vals) _ W2 q (a6Y (args:=⟨.ref (T.ca z.1) :: vals,[]⟩) H.a) (let ⟨l,e,k⟩:=(H.S.le l'.toLe0).le N2.l;⟨l,Q1.trans e,k⟩) N2.I (.cons N2.v (r.le N2.l)) (N2.tk▸Nat.lt_of_lt_of_le H.tk l'.tk) (N2.σ▸hq2)
 refine codeAny_mono key fun r s' z=>?_
 cases r with
 | ok fl=>cases fl<;>exact z.elim
 | error v =>
  obtain ⟨fl,W3,e3,s3,g1,g2,g3,g4,g5⟩:=z
  exact ⟨fl,W3,e3,_,Q1.symm.trans g1,g2,(l'.toLe0.trans N2.l).trans g3,g4,g5⟩
theorem b3O (H0:O2 T G N n C) (hX:v9 T n C.P.hd cx) (e:ME):SX T G N n C (b5i C cx e) e:=fun {p sl A W env vs q Q} H hm hq =>
 orE hq (fun z e1 hq=>by cases hq;exact b5r H0 hX e H hm e1) fun _ hq=>orE hq (fun z e1 hq=>by cases hq;exact b6V H0 hX e H hm e1) fun _ hq=>b7p H0 hX e H hm hq
theorem a8s (H0:O2 T G N n C) (hX:v9 T n C.P.hd cx) (e:ME):SX T G N n C (evX C cx e) e:=fun {p sl A W env vs q Q} H hm hq =>
 orE hq (fun z e1 hq=>by
  cases b3k e1
  have h:=j7 hm
  have h2:=j7 h.2
  refine wpAny_Tuple_spliced ?_
  show wpAny T.M A (spliced (backTo _ (starEach ((f6 N z.1 _).1 :: (f6 N z.2 _).1 :: []) env))) _ _ _
  rw [i8 (p8 z.1 _),i8 (p8 z.2 _)]
  exact spliced_cons (b8.thenX ((sb H0 z.1).e H h.1) hq fun x W1 v I1 l1 r1 hq=>spliced_cons (wpAny_mono (b3O H0 hX z.2 (H.le I1 l1) h2.1 hq) (fun _ _ z=>z) fun _ _ z=>z.up l1.toLe0)))
  fun _ hq=>b3O H0 hX e H hm hq
noncomputable def XS (T:Tp) (G:Gl) (N:Nm) (n:Nat) (C:Cx) (cx:Nat→List AV→Hp→Option (Nat×Hp)) (m:MS):Prop :=
 ∀ {p:Nat} {sl:List (Nat×Str)} {A:Around} {W:Wd} {env:Env} {vs:Vs} {q:Fl} {Q:Flow→Shared→Prop},E7 T n C.P.hd sl A W env vs→okM G N env.scope sl m = true→exX C cx m W.σ vs = some q→wpAny T.M A (exec (a5H N m p).1 env) Q (X2 T A env sl W q) W.s
noncomputable def XSs (T:Tp) (G:Gl) (N:Nm) (n:Nat) (C:Cx) (cx:Nat→List AV→Hp→Option (Nat×Hp)) (ms:List MS):Prop :=
 ∀ {p:Nat} {sl:List (Nat×Str)} {A:Around} {W:Wd} {env:Env} {vs:Vs} {q:Fl} {Q:Flow→Shared→Prop},E7 T n C.P.hd sl A W env vs→okMs G N env.scope sl ms = true→exsX C cx ms W.σ vs = some q→wpAny T.M A (execs (embSs N ms p).1 env) Q (X2 T A env sl W q) W.s
theorem b3J {c:Nat} {msg:List Nat} (H0:O2 T G N n C):XS T G N n C cx (.raise c msg):=fun {p sl A W env vs q Q} H hm hq=>ifE hq fun hc hq=>by
 cases hq
 have hc:=Bool.and_eq_true_iff.mp hc
 have h:=Bool.and_eq_true_iff.mp hm
 obtain ⟨us,hu⟩:=Option.isSome_iff_exists.mp hc.2
 rw [H0.p] at hu
 obtain ⟨l,hl,S⟩:=H.e.S
 have e:=H0.g.sm _ _ (w9 h.2)
 rw [H0.g.xa] at e
 exact a8z H0.t H.I (H.a.handled (Bool.not_eq_true' _▸hc.1)) S hu (a1:=.Constant (.str (tS msg)) _ _) rfl (fun Q E=>u0 H0.t H.I H.F.fm h.1 e) (fun Q E k=>wpAny_Constant_str (k _ _)) fun e s' f=>⟨l,W,e,s',hl,H.I,.refl _ _,rfl,H.F,f⟩
theorem b5g {e:ME} (H0:O2 T G N n C) (hX:v9 T n C.P.hd cx):XS T G N n C cx (.expr e):=fun {p sl A W env vs q Q} H hm hq=>E0 (P:=fun q=>wpAny T.M A (exec (a5H N (.expr e) p).1 env) Q (X2 T A env sl W q) W.s) hq fun z hz =>
 have h:=Bool.and_eq_true_iff.mp hm
 wpAny_Expr_any (wpAny_mono (a8s H0 hX e H.e h.2 hz) (fun _ _ z=>z) fun _ _ z=>z.f H.F) (by unfold interactive;rw [H.F.fm.kind];rfl) (N5 (A3 h.1 _) _ _ _)
theorem b7j {e:ME} (H0:O2 T G N n C) (hX:v9 T n C.P.hd cx):XS T G N n C cx (.ret e):=fun {p sl A W env vs q Q} H hm hq=>E0 (P:=fun q=>wpAny T.M A (exec (a5H N (.ret e) p).1 env) Q (X2 T A env sl W q) W.s) hq fun z hz =>
 wpAny_Return_some (wpAny_mono (a8s H0 hX e H.e hm hz) (fun _ _ z=>z) fun _ _ z=>z.f H.F)
theorem b7t {x:Nat} {e:ME} (H0:O2 T G N n C) (hX:v9 T n C.P.hd cx):XS T G N n C cx (.set x e):=fun {p sl A W env vs q Q} H hm hq=>E0 (P:=fun q=>wpAny T.M A (exec (a5H N (.set x e) p).1 env) Q (X2 T A env sl W q) W.s) hq fun z hz=>by
 have h:=Bool.and_eq_true_iff.mp hm
 have k:M7 e = true:=by cases e<;>first|rfl|exact nomatch hz
 exact wpAny_Assign_Name (wpAny_mono (a8s H0 hX e H.e h.2 hz) (fun _ _ z=>z) fun _ _ z=>z.f H.F) (N5 (A3 k _) _ _ _)
theorem b7C {t:ME} {a b:List MS} (H0:O2 T G N n C) (ia:XSs T G N n C cx a) (ib:XSs T G N n C cx b):XS T G N n C cx (.ifs t a b):=fun {p sl A W env vs q Q} H hm hq=>by
 have h:=a0w hm
 have hq:okF (ev C t W.σ vs) (fun z h=>(match z with|true=>exsX C cx a h vs|false=>exsX C cx b h vs)) = some q:=hq
 have ht:=(sb H0 t).t (p:=nx p) H.e h.1.1
 cases ex:ev C t W.σ vs with
 | fail=>rw [ex] at hq;cases hq
 | ok v h' =>
  rw [ex] at hq ht
  refine wpAny_If (o5 hq fun z tv hq=>(ht (.mk tv)).cps fun v' W' b' e tv' I l=>?_)
  cases e
  rw [tv] at tv'
  cases tv'
  have H':=H.le I l
  cases z with
  | true=>exact wpAny_mono (ia H' h.1.2 hq) (fun _ _ z=>z) fun _ _ z=>z.up l.ofNo
  | false=>exact wpAny_mono (ib H' h.2 hq) (fun _ _ z=>z) fun _ _ z=>z.up l.ofNo
theorem b4h {m:MS} {ms:List MS} (H0:O2 T G N n C) (im:XS T G N n C cx m) (ims:XSs T G N n C cx ms):XSs T G N n C cx (m :: ms):=fun {p sl A W env vs q Q} H hm hq=>by
 have h:=Bool.and_eq_true_iff.mp hm
 have hq:a7f (ex C m W.σ vs) (fun h vs=>exsX C cx ms h vs) (exX C cx m W.σ vs) = some q:=hq
 refine wpAny_execs_cons ?_
 ·cases y:ex C m W.σ vs with
  | fail=>rw [y] at hq;exact im H h.1 hq
  | ret v h'=>rw [y] at hq;cases hq
  | next h' vs' =>
   have d:=ss H0 m (p:=p) H h.1 (by rw [y];exact fun z=>nomatch z)
   rw [y] at hq d
   refine wpAny_mono (wpAny_toks d) (fun f s' ⟨tk,z⟩=>?_) fun _ _ z=>z.2.elim
   cases z with
   | next W' vs'' e I' l' e1 ef F' =>
    subst e;subst ef
    cases e1
    exact wpAny_mono (ims ⟨H.a,F',I',H.S.leX l',Nat.lt_of_lt_of_le H.tk tk⟩ h.2 hq) (fun _ _ z=>z) fun _ _ z=>z.up l'
   | ret W' av v e I' l' e1=>cases e1
mutual
theorem xs (H0:O2 T G N n C) (hX:v9 T n C.P.hd cx):∀ m:MS,XS T G N n C cx m
 | .raise _ _=>b3J H0
 | .expr _=>b5g H0 hX
 | .ret _=>b7j H0 hX
 | .ifs _ a b=>b7C H0 (xss H0 hX a) (xss H0 hX b)
 | .set _ _=>b7t H0 hX
 | .setAttr _ _ _=>fun _ _ e=>nomatch e
 | .setItem _ _ _=>fun _ _ e=>nomatch e
 | .loop _ _ _=>fun _ _ e=>nomatch e
 | .pass=>fun _ _ e=>nomatch e
theorem xss (H0:O2 T G N n C) (hX:v9 T n C.P.hd cx):∀ ms:List MS,XSs T G N n C cx ms
 | []=>fun _ _ e=>nomatch e
 | m :: ms=>b4h H0 (xs H0 hX m) (xss H0 hX ms)
end
end
end Mine
namespace Mine
open PySem
theorem a2R:∀ {names:List Str} {vals:List Value},names.Nodup→vals.length = names.length→(names.filterMap fun n=>((names.zip vals).lookup n).map (n,·)) = names.zip vals
 | [],[],_,_=>rfl
 | n :: ns,v :: vs,hd,hl=>by
  have hd':=List.nodup_cons.mp hd
  have ih:=a2R hd'.2 (by simpa using hl:vs.length = ns.length)
  simp only [List.zip_cons_cons,List.filterMap_cons,List.lookup_cons,BEq.rfl,Option.map_some]
  congr 1
  refine Eq.trans ?_ ih
  have key:∀ l:List Str,(∀ x∈l,x≠n)→(l.filterMap fun x=>(match x == n with|true=>some v|false=>List.lookup x (ns.zip vs)).map (x,·)) = l.filterMap fun x=>(List.lookup x (ns.zip vs)).map (x,·):=by
   intro l
   induction l with
   | nil=>intro _;rfl
   | cons y l ihl =>
    intro hy
    have h1:(y == n) = false:=by simpa using hy y (by simp)
    rw [List.filterMap_cons,List.filterMap_cons,ihl fun x hx=>hy x (by simp [hx])]
    simp only [h1]
  exact key ns fun x hx e=>hd'.1 (e▸hx)
 | [],_ :: _,_,h=>by simp at h
 | _ :: _,[],_,h=>by simp at h
theorem b0B {names:List Str} {vals:List Value} (hl:vals.length = names.length):names.filter (fun n=>((names.zip vals).lookup n).isNone) = []:=by
 rw [List.filter_eq_nil_iff]
 intro n hn
 simp only [Option.isNone_iff_eq_none]
 intro h
 rw [List.lookup_eq_none_iff] at h
 obtain ⟨i,hi,rfl⟩:=List.getElem_of_mem hn
 have hv:i < vals.length:=by exact Nat.lt_of_lt_of_eq hi (Eq.symm hl)
 have:(names[i],vals[i])∈names.zip vals:=by
  rw [List.mem_iff_getElem]
  exact ⟨i,by simp;lia,by simp⟩
 have:=h _ this
 simp at this
noncomputable abbrev ags (as:List Arg):List Str:=as.map (·.arg)
theorem b2r {α β γ:Type} {L:List α} {i:β} {f:α→β→Sem (ForInStep β)} {k:β→Sem γ} (h:L = []):(forIn L i f >>= k) = k i:=by
 subst h;rfl
theorem b3S {nm qn:Str} {as:List Arg} {ds:List Expr} {kd:List (Option Expr)} {b:FuncBody} {sc:Scope} {g bi:Addr} {cl:List (Str×Addr)} {v1 v2 v3 v4 v5:Value} {an:Option Addr} {vals:List Value}
  (h1:¬ (decide (vals.length > (ags as).length) && true) = true) (h2:¬ (!(((ags as).take ((ags as).length - (List.drop (0 - (ags as).length) ([]:List Value)).length)).filter fun n=>(((ags as).zip vals).lookup n).isNone).isEmpty) = true):bindArgs ⟨nm,qn,⟨[],as,none,[],kd,none,ds⟩,b,sc,g,cl,.none,v1,v2,v3,an,v4,v5,bi⟩ ⟨vals,[]⟩ = pure (((ags as) ++ []).filterMap fun n=>(((ags as).zip vals).lookup n).map (n,·)) :=
 (if_neg (c:=(decide (vals.length > (ags as).length) && true) = true) h1).trans ((if_neg (c:=(!(((ags as).take ((ags as).length - (List.drop (0 - (ags as).length) ([]:List Value)).length)).filter fun n=>(((ags as).zip vals).lookup n).isNone).isEmpty) = true) h2).trans
  (b2r (L:=List.zip (List.drop ((ags as).length - (List.drop (0 - (ags as).length) ([]:List Value)).length) (ags as)) (List.drop (0 - (ags as).length) ([]:List Value))) (by rw [List.drop_nil,List.zip_nil_right])))
theorem a6b {fd:FuncData} {as:List Arg} {ds:List Expr} {kd:List (Option Expr)} {vals:List Value} (hp:fd.params = ⟨[],as,none,[],kd,none,ds⟩) (hd:fd.defaults = .none) (hn:(as.map (·.arg)).Nodup) (hl:vals.length = as.length):bindArgs fd ⟨vals,[]⟩ = pure ((as.map (·.arg)).zip vals):=by
 have hn:(ags as).Nodup:=hn
 show _ = pure ((ags as).zip vals)
 have hl':vals.length = (ags as).length:=hl.trans (List.length_map ..).symm
 cases fd
 cases hp
 cases hd
 refine (b3S ?_ ?_).trans ?_
 ·rw [hl',decide_eq_false (Nat.lt_irrefl _)];exact Bool.false_ne_true
 ·rw [List.drop_nil,List.length_nil,Nat.sub_zero,List.take_length,b0B hl'];exact Bool.false_ne_true
 ·rw [List.append_nil,a2R hn hl']
end Mine
namespace Mine
open PySem PySem.SeqAt PySem.Spec PySem.W PySem.Calls
noncomputable def slots (fn:Fn):List (Nat×Str):=(fn.names.take fn.nl).zipIdx.map fun p=>(p.2,p.1)
theorem C5 {fn:Fn} {i:Nat} {x:Str}:(i,x)∈slots fn↔(fn.names.take fn.nl)[i]? = some x:=by
 unfold slots
 simp only [List.mem_map,Prod.mk.injEq,Prod.exists]
 constructor
 ·rintro ⟨a,b,h,rfl,rfl⟩
  exact List.mem_zipIdx_iff_getElem?.mp h
 ·intro h
  exact ⟨x,i,List.mem_zipIdx_iff_getElem?.mpr h,rfl,rfl⟩
noncomputable def b8Y (N:Nm) (z:Nat×Nat×ME) (n:Nat):ExceptHandler:=.ExceptHandler (some (.Name (N.xc z.1) (g8 (nx n)))) (some (N.var z.2.1)) [.Return (some (f6 N z.2.2 (nx (nx (nx n)))).1) (g8 (nx (nx n)))] (g8 n)
noncomputable def b8T (N:Nm) (fn:Fn) (z:Nat×Nat×ME) (n:Nat):List Stmt:=match fn.aft with
 | true=>(embSs N [.ret (.bool false)] (f6 N z.2.2 (nx (nx (nx n)))).2).1
 | false=>[]
noncomputable def a3b (N:Nm) (fn:Fn):List Stmt:=orO fn.hdl (fun z=>.Try (embSs N fn.body (nx fn.ps)).1 [b8Y N z (embSs N fn.body (nx fn.ps)).2] [] [] (g8 fn.ps) :: b8T N fn z (embSs N fn.body (nx fn.ps)).2) (embSs N fn.body fn.ps).1
noncomputable def b2H (G:Gl) (N:Nm) (sc:Scope) (sl:List (Nat×Str)) (fn:Fn):Bool:=okMs G N sc sl fn.body && orO fn.hdl (fun z=>C6 sc (N.xc z.1) && C7 (G.xa z.1) (G.gv (N.xc z.1)) && sl.contains (z.2.1,N.var z.2.1) && (sc.names.lookup (N.var z.2.1) == some .local) && okE G N sc sl z.2.2) true
inductive b4A (T:Tp) (G:Gl) (f:Nat) (fn:Fn):Prop
 | mk (o:Obj) (fd:FuncData) (as:List Arg) (kd:List (Option Expr)) (ds:List Expr):T.base.get? (T.fa f) = some o→o.data = .func fd→T.base.CodeRec fd.code fd.qualname→fd.body = .stmts (a3b ⟨T.P,fn.names⟩ fn)→fd.params = ⟨[],as,none,[],kd,none,ds⟩→fd.defaults = .none→fd.closure = [] →
   fd.globals = mainGlobals→fd.builtins = builtinsNs→fd.scope.kind = .function→fd.scope.isCoroutine = false→fd.scope.isGenerator = false→as.map (·.arg) = fn.names.take fn.np→b2H G ⟨T.P,fn.names⟩ fd.scope (slots fn) fn = true →
   (∀ x∈fn.names.take fn.nl,fd.scope.names.lookup x = some .local∨fd.scope.names.lookup x = some .cell)→fn.np≤fn.nl→fn.nl≤fn.names.length→(fn.names.take fn.nl).Nodup→b4A T G f fn
theorem Le0.forgetAll {Y:Addr→Prop} {W₀ W₁ W₂:Wd} (l:Le0 noX W₀ W₁) (l':Le0 Y W₁ W₂) (h:∀ b,Y b→W₀.h.get? b = none):Le0 noX W₀ W₂ :=
 Le0.lose l l' fun b o e _ q=>by rw [h b q] at e;cases e
theorem a2C {k:Str→Option NameKind} {x:Str}:∀ {binds:List (Str×Value)} {m:Str→Option Value},(∀ p∈binds,p.1≠x)→bindL k binds m x = m x
 | [],_,_=>rfl
 | (y,v) :: r,m,h=>by
  rw [bindL,a2C fun p hp=>h p (by simp [hp])]
  have:x≠y:=fun e=>h (y,v) (by simp) e.symm
  split
  ·simp [this]
  ·rfl
theorem a3e {k:Str→Option NameKind} {x:Str}:∀ {binds:List (Str×Value)} {m:Str→Option Value},(∀ p∈binds,p.1≠x)→bindC k binds m x = m x
 | [],_,_=>rfl
 | (y,v) :: r,m,h=>by
  rw [bindC,a3e fun p hp=>h p (by simp [hp])]
  have:x≠y:=fun e=>h (y,v) (by simp) e.symm
  split
  ·rfl
  ·simp [this]
theorem a6v {k:Str→Option NameKind} {x:Str} {v:Value} (hk:k x = some .local):∀ {names:List Str} {vals:List Value} {m:Str→Option Value} {i:Nat},names.Nodup→names[i]? = some x→vals[i]? = some v→bindL k (names.zip vals) m x = some v
 | n :: ns,w :: vs,m,0,hd,e1,e2=>by
  simp at e1 e2;subst e1 e2
  rw [List.zip_cons_cons,bindL,a2C]
  ·rw [if_pos hk];simp
  ·intro p hp e
   exact (List.nodup_cons.mp hd).1 (e▸(List.of_mem_zip hp).1)
 | n :: ns,w :: vs,m,i + 1,hd,e1,e2=>by
  rw [List.zip_cons_cons,bindL]
  exact a6v hk (List.nodup_cons.mp hd).2 (by simpa using e1) (by simpa using e2)
 | [],_,_,_,_,e1,_=>by simp at e1
 | _ :: _,[],_,_,_,_,e2=>by simp at e2
theorem a7d {k:Str→Option NameKind} {x:Str} {v:Value} (hk:k x≠some .local):∀ {names:List Str} {vals:List Value} {m:Str→Option Value} {i:Nat},names.Nodup→names[i]? = some x→vals[i]? = some v→bindC k (names.zip vals) m x = some v
 | n :: ns,w :: vs,m,0,hd,e1,e2=>by
  simp at e1 e2;subst e1 e2
  rw [List.zip_cons_cons,bindC,a3e]
  ·rw [if_neg hk];simp
  ·intro p hp e
   exact (List.nodup_cons.mp hd).1 (e▸(List.of_mem_zip hp).1)
 | n :: ns,w :: vs,m,i + 1,hd,e1,e2=>by
  rw [List.zip_cons_cons,bindC]
  exact a7d hk (List.nodup_cons.mp hd).2 (by simpa using e1) (by simpa using e2)
 | [],_,_,_,_,e1,_=>by simp at e1
 | _ :: _,[],_,_,_,_,e2=>by simp at e2
theorem a5r {l:List (Str×Addr)} (h:l.Pairwise fun x y=>x.2≠y.2) {x y:Str} {c:Addr} (h1:l.lookup x = some c) (h2:l.lookup y = some c):x = y:=by
 have m1:(x,c)∈l:=by
  obtain ⟨l1,l2,e,_⟩:=List.lookup_eq_some_iff.mp h1
  rw [e];simp
 have m2:(y,c)∈l:=by
  obtain ⟨l1,l2,e,_⟩:=List.lookup_eq_some_iff.mp h2
  rw [e];simp
 obtain ⟨i,hi,e1⟩:=List.getElem_of_mem m1
 obtain ⟨j,hj,e2⟩:=List.getElem_of_mem m2
 rw [List.pairwise_iff_getElem] at h
 rcases Nat.lt_trichotomy i j with q|q|q
 ·exact absurd (by rw [e1,e2]) (h i j hi hj q)
 ·subst q;rw [e1] at e2;cases e2;rfl
 ·exact absurd (by rw [e1,e2]) (h j i hj hi q)
section
variable {T:Tp} {G:Gl}
theorem b0D {M:Model} {A:Around} {E:Value→Shared→Prop} {s:Shared} {scope:Scope} {globals:Addr} {x:Str} {v:Value} {qual:Str} {func:Option Addr} {code:Value} {builtins:Addr} {Q:Env→Shared→Prop} (hk:scope.kind = .function) (hl:scope.names.lookup x = some .local)
  (hQ:∀ env,env = newEnv scope s.heap.objs.size globals (cellsFrom (s.heap.objs.size + 1) scope.names []) qual func code none builtins →
   ∀ s',InCallC s env.locals (bindL env.kindOf [(x,v)] fun _=>none) env.cells (bindC env.kindOf [(x,v)] fun _=>none) s'→0 < s'.toks→Q env s') :
  wpAny M A (newFunctionEnv scope globals [] [(x,v)] qual func code none builtins) Q E s:=by
 simp only [newFunctionEnv,Option.isSome_none,Bool.false_eq_true,if_false]
 refine wpAny_bind (wpAny_alloc ?_)
 refine wpAny_bind (wpAny_layCells _ (fun name kind cells=>by cases hkc:kind == NameKind.cell<;>simp [hkc]) _ _ _ _ ?_)
 have ok:=cellsFrom_ok scope.names (s.heap.push { cls:=.type "frame",data:=.dict #[] }) (s.heap.objs.size + 1) [] ⟨fun _ _ hm=>(nomatch hm),List.Pairwise.nil⟩ (by rw [Heap.size_push];exact Nat.le_refl _)
 rw [Heap.size_push] at ok
 rw [show ({ s with heap:=s.heap.push { cls:=.type "frame",data:=.dict #[] } }:Shared).heap.objs.size = s.heap.objs.size + 1 from Heap.size_push ..]
 have x0:InCallC s s.heap.objs.size (fun _=>none) (cellsFrom (s.heap.objs.size + 1) scope.names []) (fun _=>none) { s with heap:=pushCells (s.heap.push { cls:=.type "frame",data:=.dict #[] }) scope.names } :=
  ⟨⟨⟨_,_,rfl⟩,(Heap.Ns.new s.heap (.type "frame")).keeps (pushCells_keeps _ _),fun b o e=>pushCells_keeps _ _ b o (Heap.get?_push_of_some _ e),Nat.le_refl _⟩,
   fun n c hc=>(ok.empty n c (mem_of_lookup hc)).1,ok.apart,fun n c hm=>(ok.empty n c hm).2⟩
 rw [List.forIn_cons]
 refine wpAny_bind (wpAny_bind (wpAny_bind (wpAny_storeName_local hl x0.toInCall.ns (fun h' hn' hs'=>wpAny_pure ?_) (by show (scope.kind == .class || _) = _;rw [hk];rfl))))
 have e1:∀ m:Str→Option Value,bindL (newEnv scope s.heap.objs.size globals (cellsFrom (s.heap.objs.size + 1) scope.names []) qual func code none builtins).kindOf [(x,v)] m = fun y=>if y = x then some v else m y:=fun m=>if_pos (c:=scope.names.lookup x = some .local) hl
 have e2:∀ m:Str→Option Value,bindC (newEnv scope s.heap.objs.size globals (cellsFrom (s.heap.objs.size + 1) scope.names []) qual func code none builtins).kindOf [(x,v)] m = m:=fun m=>if_pos (c:=scope.names.lookup x = some .local) hl
 show wpAny M A (forIn [] _ _) _ E _
 rw [List.forIn_nil]
 refine wpAny_pure (wpAny_pure (hQ _ rfl _ ?_ (Nat.succ_pos _)))
 rw [e1,e2]
 exact ⟨⟨⟨h',_,rfl⟩,hn',fun b o e=>hs'.extBut b o (Nat.ne_of_lt (Nat.lt_of_lt_of_le (Heap.lt_size e) x0.toInCall.fresh)) (x0.toInCall.keep b o e),x0.toInCall.fresh⟩,fun k c hc=>(x0.cell k c hc).sameBut hs' (Nat.ne_of_gt (x0.above k c (mem_of_lookup hc))),x0.apart,x0.above⟩
theorem b4L {prog:Program} {w:World} {A:Around} {s:Shared} {R:Result→Shared→Prop} {a:Addr} {o:Obj} {fd:FuncData} {body:List Stmt} {vals:List Value} {binds:List (Str×Value)} (hroom:A.depth < recursionLimit) (ho:s.heap.get? a = some o) (hdata:o.data = .func fd) (hlim:s.heap.NoLimit) (hcd:s.heap.CodeRec fd.code fd.qualname)
  (hbody:fd.body = .stmts body) (hbind:bindArgs fd ⟨vals,[]⟩ = pure binds) (hclo:fd.closure = []) (hkind:∀ x∈binds,fd.scope.names.lookup x.1 = some .local∨(fd.scope.names.lookup x.1 = some .cell∧((cellsFrom (s.heap.objs.size + 1) fd.scope.names []).lookup x.1).isSome = true))
  (h:∀ s₁,InCallC s (callEnvC fd s.heap.objs.size a).locals (bindL (callEnvC fd s.heap.objs.size a).kindOf binds fun _=>none) (callEnvC fd s.heap.objs.size a).cells (bindC (callEnvC fd s.heap.objs.size a).kindOf binds fun _=>none) s₁→s.toks≤s₁.toks→(∀ x v,binds = [(x,v)]→fd.scope.names.lookup x = some .local→0 < s₁.toks) →
   wpAny (model prog w) (A.deeper (callEnvC fd s.heap.objs.size a)) (execs body (callEnvC fd s.heap.objs.size a)) (fun f s'=>R (.ok (.ret (match f with|.ret v=>v|_=>.none))) s')
    (fun e s'=>wpAny (model prog w) (A.deeper (callEnvC fd s.heap.objs.size a)) (leaving (callEnvC fd s.heap.objs.size a) e) (fun _ s''=>R (.error e) s'') (fun e' s''=>R (.error e') s'') s') s₁)
  (hco:fd.scope.isCoroutine = false) (hgen:fd.scope.isGenerator = false) (hk:fd.scope.kind = .function):codeAny (model prog w) A (.call (.ref a) ⟨vals,[]⟩) R s:=by
 refine codeAny_call_function hroom ho hdata hco hgen hbody hcd ?_
 rw [hbind,hclo]
 by_cases hb:∃ x v,binds = [(x,v)]∧fd.scope.names.lookup x = some .local
 ·obtain ⟨y,v,rfl,hl⟩:=hb
  refine wpAny_pure (wpAny_with_toks (Nat.le_refl _) (b0D hk hl fun env he s' x t0 tk=>?_))
  subst he
  exact ⟨hlim.keeps x.toInCall.keep,codeAny_func (h s' x tk fun _ _ _ _=>t0)⟩
 ·refine wpAny_pure (wpAny_with_toks (Nat.le_refl _) (wpAny_newFunctionEnv_cells hk hkind fun env he s' x tk=>?_))
  subst he
  exact ⟨hlim.keeps x.toInCall.keep,codeAny_func (h s' x tk fun y v e hl=>absurd ⟨y,v,e,hl⟩ hb)⟩
noncomputable def b1Y (T:Tp) (f:Nat) (fn:Fn):Prop:=fn.np = 1∧∀ o fd,T.base.get? (T.fa f) = some o→o.data = .func fd→∀ x∈fn.names.take 1,fd.scope.names.lookup x = some .local
theorem b3H (hT:T.Ok) {n:Nat} {hd:Bool} {f:Nat} {fn:Fn} {as:List AV} {vals:List Value} {A:Around} {W:Wd} (ok:b4A T G f fn) (hnp:as.length = fn.np) (a:a5L (n + 1) hd A) (S:St T A W) (I:Inv T W) (r:W.Vs T as vals) (tk:0 < W.s.toks∨b1Y T f fn) {R:Result→Shared→Prop}
  (h:∀ env W1,E7 T n hd (slots fn) (A.deeper env) W1 env (k8 fn as)→b2H G ⟨T.P,fn.names⟩ env.scope (slots fn) fn = true→Le0 noX W W1→W1.σ = W.σ→(∀ b,frX env b→W.h.get? b = none) →
   wpAny T.M (A.deeper env) (execs (a3b ⟨T.P,fn.names⟩ fn) env) (fun f s'=>R (.ok (.ret (match f with|.ret v=>v|_=>.none))) s') (fun e s'=>wpAny T.M (A.deeper env) (leaving env e) (fun _ s''=>R (.error e) s'') (fun e' s''=>R (.error e') s'') s') W1.s) :
  codeAny T.M A (.call (.ref (T.fa f)) ⟨vals,[]⟩) R W.s:=by
 obtain ⟨o,fd,ps,kd,ds,h1,h2,h3,h4,h5,h6,h7,h8,h9,h10,h11,h12,h13,h14,h15,npl,nll,ndl⟩:=ok
 have hlv:vals.length = ps.length:=by
  have e1:=r.length
  have e2:(ps.map (·.arg)).length = (fn.names.take fn.np).length:=by rw [h13]
  rw [List.length_map,List.length_take_of_le (Nat.le_trans npl nll)] at e2
  exact e1.trans (hnp.trans e2.symm)
 have ht:fn.names.take fn.np = (fn.names.take fn.nl).take fn.np:=by rw [List.take_take,Nat.min_eq_left npl]
 have hnd:(fn.names.take fn.np).Nodup:=by rw [ht];exact ndl.sublist (List.take_sublist _ _)
 have hbind:=a6b (fd:=fd) (vals:=vals) h5 h6 (by rw [h13];exact hnd) hlv
 rw [h13] at hbind
 refine b4L (binds:=(fn.names.take fn.np).zip vals) (by have:=a.depth;exact Nat.lt_of_add_right_lt this) (I.base _ _ h1) h2 (hT.nolimit.keeps I.base) ?_ h4 hbind h7 (fun p hp=>?_) (fun s₁ x t1 t0=>?_) h11 h12 h10
 ·obtain ⟨c,o',vs',t,e1,e2,e3⟩:=h3
  exact ⟨c,o',vs',t,e1,I.base _ _ e2,e3⟩
 ·have hm:=(List.of_mem_zip hp).1
  rw [ht] at hm
  rcases h15 p.1 (List.mem_of_mem_take hm) with q|q
  ·exact .inl q
  ·exact .inr ⟨q,cellsFrom_some _ _ _ (.inl q)⟩
 ·have tk':0 < s₁.toks:=tk.elim (fun tk=>Nat.lt_of_lt_of_le tk t1) fun ⟨z1,z2⟩=>by
   rw [z1] at t0
   obtain ⟨v,rfl⟩:=List.length_eq_one_iff.mp (r.length.trans (hnp.trans z1))
   match hq:fn.names.take 1,z2 _ _ h1 h2 with
   | [y],z=>exact t0 y v (by rw [hq];rfl) (z y List.mem_cons_self)
   | [],_=>have:=congrArg List.length hq;rw [List.length_take_of_le (z1▸Nat.le_trans npl nll)] at this;cases this
   | _ :: _ :: _,_=>have:=congrArg List.length hq;rw [List.length_take_of_le (z1▸Nat.le_trans npl nll)] at this;cases this
  obtain ⟨h',_,es⟩:=x.toInCall.same
  have g:=I.grow (s':=s₁) x.toInCall.keep (by rw [es]) (by rw [es])
  have hnone:∀ b,W.s.heap.objs.size≤b→W.s.heap.get? b = none:=fun b hb'=>by
   cases q:W.s.heap.get? b with
   | none=>rfl
   | some o'=>exact absurd (Heap.lt_size q) (Nat.not_lt.mpr hb')
  have hbase:∀ b,W.s.heap.objs.size≤b→T.base.get? b = none:=fun b hb'=>by
   cases q:T.base.get? b with
   | none=>rfl
   | some o'=>have:=I.base b o' q;rw [hnone b hb'] at this;cases this
  have habove:∀ y c,(callEnvC fd W.s.heap.objs.size (T.fa f)).cells.lookup y = some c→W.s.heap.objs.size < c:=fun y c e=>by
   have m1:(y,c)∈(callEnvC fd W.s.heap.objs.size (T.fa f)).cells:=by
    obtain ⟨l1,l2,e',_⟩:=List.lookup_eq_some_iff.mp e
    rw [e'];simp
   exact x.above y c m1
  have hle:Le0 noX W { W with s:=s₁ }:=g.2
  have hfg:∀ b,frX (callEnvC fd W.s.heap.objs.size (T.fa f)) b→W.h.get? b = none:=fun b q=>by
   rcases q with rfl|⟨y,q⟩
   ·exact hnone _ (Nat.le_refl _)
   ·exact hnone _ (Nat.le_of_lt (habove y b q))
  have F:Fs T { W with s:=s₁ } (callEnvC fd W.s.heap.objs.size (T.fa f)) (slots fn) (k8 fn as):={
   fm:=⟨h10,h8,h9,fun y q=>by
     have:=cellsFrom_some (x:=y) fd.scope.names (W.s.heap.objs.size + 1) [] (.inl q)
     obtain ⟨c,e⟩:=Option.isSome_iff_exists.mp this
     exact ⟨c,e⟩,fun i y hy av e=>by
     unfold k8 at e
     have hy':=C5.mp hy
     have hi:i < as.length:=by
      rcases Nat.lt_or_ge i as.length with q|q
      ·exact q
      ·rw [List.getElem?_append_right (by simpa using q)] at e
       have:=List.mem_of_getElem? e
       simp at this
     rw [List.getElem?_append_left (by simpa using hi),List.getElem?_map] at e
     obtain ⟨av',e1,e2⟩:=Option.map_eq_some_iff.mp e
     cases e2
     obtain ⟨v,ev,rv⟩:=r.get e1
     have hyn:(fn.names.take fn.np)[i]? = some y:=by
      rw [List.getElem?_take] at hy' ⊢
      split at hy'
      ·rw [if_pos (by exact Nat.lt_of_lt_of_eq hi hnp)];exact hy'
      ·cases hy'
     refine ⟨v,rv.le hle,?_⟩
     rcases h15 y (List.mem_of_getElem? hy') with q|q
     ·exact .inl ⟨q,r7 I (hnone _ (Nat.le_refl _)),_,x.toInCall.ns,a6v q hnd hyn ev⟩
     ·have:=cellsFrom_some (x:=y) fd.scope.names (W.s.heap.objs.size + 1) [] (.inl q)
      obtain ⟨c,ec⟩:=Option.isSome_iff_exists.mp this
      have hc:=x.cell y c ec
      rw [a7d (by show fd.scope.names.lookup y≠_;rw [q];simp) hnd hyn ev] at hc
      exact .inr ⟨q,c,ec,r7 I (hnone _ (Nat.le_of_lt (habove y c ec))),hc⟩⟩
   ns:=⟨_,x.toInCall.ns⟩
   ownL:=r7 I (hnone _ (Nat.le_refl _))
   baseL:=hbase _ (Nat.le_refl _)
   kinds:=fun i y hy=>h15 y (List.mem_of_getElem? (C5.mp hy))
   cell:=fun y c e=>⟨r7 I (hnone _ (Nat.le_of_lt (habove y c e))),hbase _ (Nat.le_of_lt (habove y c e)),Nat.ne_of_gt (habove y c e),_,x.cell y c e⟩
   cinj:=fun y z c e1 e2=>a5r x.apart e1 e2
   inj:=fun i j y hi hj=>by
    have h1:=C5.mp hi;have h2:=C5.mp hj
    exact (List.getElem?_inj (List.getElem?_eq_some_iff.mp h1).1 ndl).mp (h1.trans h2.symm)
   inj2:=fun i y z hi hj=>by
    have h1:=C5.mp hi;have h2:=C5.mp hj
    rw [h1] at h2;cases h2;rfl
   len:=fun i y hi=>by
    have h1:=(List.getElem?_eq_some_iff.mp (C5.mp hi)).1
    simp only [List.length_take] at h1
    unfold k8
    rw [List.length_append,List.length_map,List.length_replicate,hnp,Nat.add_sub_cancel' (Nat.le_trans npl nll)]
    exact Nat.lt_of_lt_of_le (Nat.lt_of_lt_of_le h1 (Nat.min_le_left _ _)) nll }
  obtain ⟨l0,el0,S0⟩:=S
  have TS:Y7 T (A.deeper (callEnvC fd W.s.heap.objs.size (T.fa f))) { W with s:=s₁ } (callEnvC fd W.s.heap.objs.size (T.fa f)) (frX (callEnvC fd W.s.heap.objs.size (T.fa f))):=⟨l0,by show A.frames.map _ = _;rw [el0];rfl,rfl,S0.leX hle fun _ _ _ _=>id,fun e he L hL q=>by
   obtain ⟨_,L',e1,F'⟩:=S0 e he
   rw [hL] at e1;cases e1
   obtain ⟨o',_,_,e2,_⟩:=F'.obj
   rw [hfg L q] at e2;cases e2⟩
  exact h _ { W with s:=s₁ } ⟨⟨by show A.depth + 1 + 2 * n + 1 < _;rw [Nat.add_right_comm A.depth];exact a.depth,by show A.units + 3 + 20 * n + 200 < _;rw [Nat.add_right_comm A.units];exact Nat.lt_of_le_of_lt (Nat.add_le_add_left (show 203≤210 by decide) (A.units + 20 * n)) a.units,a.handled⟩,F,g.1,TS,tk'⟩ h14 hle rfl hfg
section
variable {N:Nm} {n:Nat} {C:Cx} {cx:Nat→List AV→Hp→Option (Nat×Hp)} {sl:List (Nat×Str)} {A:Around} {W:Wd} {env:Env} {vs:Vs} {fn:Fn}
theorem a8K (H0:O2 T G N n C) (H:E7 T n C.P.hd sl A W env vs) (h:b2H G N env.scope sl fn = true) (ha:fn.aft = false) (hn:exs C fn.body W.σ vs≠.fail) {E:Value→Shared→Prop}:wpAny T.M A (execs (a3b N fn) env) (T2 T env sl W (exs C fn.body W.σ vs)) E W.s:=by
 have h:=(Bool.and_eq_true_iff.mp h).1
 unfold a3b b8T
 rw [ha]
 cases fn.hdl with
 | none=>exact (O1 fn.body (fun m _=>ss H0 m) H h hn).up (.refl _ _) rfl
 | some z =>
  refine wpAny_execs_cons (wpAny_Try_except (wpAny_mono (O1 fn.body (fun m _=>ss H0 m) H h hn) (fun f s' d=>?_) fun _ _ q=>q.elim))
  have d':=d
  cases d with
  | next W' vs' e I' l' e1 ef F'=>subst ef;exact wpAny_execs_nil (wpAny_execs_nil d')
  | ret W' av v e I' l' e1 ef r'=>subst ef;exact d'
theorem b0S {hd:Bool} {call ch:Nat→List AV→Hp→Out AV} (H0:O2 T G N n ⟨{ T.P with hd:=hd },call⟩) (hX:v9 T n hd cx) (hC:u3 T n true ch) (H:E7 T n hd sl A W env vs) {q:Fl} (h:b2H G N env.scope sl fn = true) (hq:exsX ⟨{ T.P with hd:=hd },call⟩ cx fn.body W.σ vs = some q)
  {r:Out AV} (er:E2 { T.P with hd:=hd } ch fn q = r) (hn:r≠.fail) {E:Value→Shared→Prop}:wpAny T.M A (execs (a3b N fn) env) (fun fl s'=>∃ v,fl = .ret v∧a4o T (frX env) W r (VW T) v s') E W.s:=by
 have h:=Bool.and_eq_true_iff.mp h
 unfold E2 at er
 unfold a3b
 cases hz:fn.hdl with
 | none=>rw [hz] at er;exact absurd er.symm hn
 | some z =>
  rw [hz] at er h
  have h2:=b3j (show (C6 env.scope (N.xc z.1) && C7 (G.xa z.1) (G.gv (N.xc z.1)) && sl.contains (z.2.1,N.var z.2.1) && (env.scope.names.lookup (N.var z.2.1) == some .local) && okE G N env.scope sl z.2.2) = true from h.2)
  have er:ifO (!hd && (instX T.P (.exc q.c) (some z.1) == some true)) (ev ⟨{ T.P with hd:=true },ch⟩ z.2.2 q.h (q.vs.set z.2.1 (some (.exc q.c)))) = r:=er
  cases hc:(!hd && (instX T.P (.exc q.c) (some z.1) == some true)) with
  | false=>rw [hc] at er;exact absurd er.symm hn
  | true =>
   rw [hc] at er
   have hc:=Bool.and_eq_true_iff.mp hc
   refine wpAny_execs_cons (wpAny_Try_except (wpAny_mono (wpAny_toks (xss (Q:=fun _ _=>False) H0 hX fn.body H h.1 hq)) (fun _ _ z=>z.2.elim) fun v s' ⟨t1,d⟩=>?_))
   obtain ⟨l,W1,e,s',hl,I1,l1,e1,F1,f1⟩:=d
   obtain ⟨outer,hfr,_⟩:=H.S
   rw [hfr] at hl;cases hl
   have eg:=H0.g.sm _ _ (w9 h2.1.1.1.2)
   rw [H0.g.xa] at eg
   refine wpAny_mono (wpAny_toks_of (n:=W.s.toks) t1 (b0d (E:=fun e s'=>W.s.toks≤s'.toks→E e s') (Q:=fun _ s'=>W.s.toks≤s'.toks→_) hfr f1 fun s2 f2 t2=>?_)) (fun _ s₂ z=>wpAny_with_toks z.1 z.2) fun _ _ z=>z.2 z.1
   have L2:=f2.inv I1
   refine wpAny_handleBy_cons (codeAny_handlers_test (u0 (W:={ W1 with s:=s2 }) (A:=A.mark _) H0.t L2.I (F1.le L2.le).fm h2.1.1.1.1 eg ?_)) (by intro z;cases z)
   obtain ⟨o,ho,hco⟩:=L2.obj
   refine H0.t.matches (W:={ W1 with s:=s2 }) L2.I (eq_of_beq hc.2) ho hco (codeAny_handlers_suite_as (wpAny_with_toks (n:=W.s.toks) t2 (a8u f2 fun s3 f3 t3=>?_)))
   have L3:=f3.inv I1
   refine wpAny_with_toks (n:=W.s.toks) t3 (P7 (W:={ W1 with s:=s3 }) (F1.le L3.le) L3.I (List.contains_iff_mem.mp h2.1.1.2) L3.v fun W4 I4 l4 es4 F4 t4=>?_)
   have l14:Le0 (frX env) W W4:=(l1.trans L3.le.ofNo).trans l4
   have H4:E8 T n true sl (A.mark (some (.ref e))) W4 env (q.vs.set z.2.1 (some (.exc q.c))):=⟨⟨H.a.depth,H.a.units,fun z=>nomatch z⟩,F4.fm,I4,(H.S.leX l14).st F4,Nat.lt_of_lt_of_le H.tk t4⟩
   have e1:q.h = W4.σ:=e1.trans es4.symm
   rw [e1] at er
   have hE:=(sb (C:=⟨{ T.P with hd:=true },ch⟩) (N:=N) ⟨H0.t,H0.g,H0.nm,rfl,hC⟩ z.2.2).e (p:=nx (nx (nx (embSs N fn.body (nx fn.ps)).2))) H4 h2.2 (fun q=>hn (er.symm.trans q))
   refine wpAny_execs_cons (wpAny_Return_some (hE.cps fun av W5 v e5 I5 l5t r5=>?_))
   have l5:=l5t.toLe0
   have F5:=F4.le l5
   obtain ⟨m5,hn5⟩:=F5.ns
   have fx:FrX (fun b=>b = env.locals) W5.own W5.h:=fun b q=>by
    subst q
    obtain ⟨o,es,ep,h1,h2,_⟩:=hn5
    exact ⟨F5.ownL,fun o' e=>by rw [h1] at e;cases e;exact .inl ⟨_,_,h2⟩⟩
   show wpAny T.M A (do bindName env (N.var z.2.1) .none;unbindBehindTheSuite env (N.var z.2.1) _) _ _ _
   refine wpAny_nameGoes (eq_of_beq h2.1.2) hn5 (by rw [F5.fm.kind];rfl) fun h' m' hn6 hs6=>?_
   obtain ⟨I6,l6⟩:=I5.touch (X:=fun b=>b = env.locals) (s':={ W5.s with heap:=h',toks:=W5.s.toks + 1 }) F5.ownL F5.baseL rfl fx (fun b o q e=>(hs6.2 b q).trans e) rfl rfl
   exact ⟨v,rfl,av,{ W5 with s:={ W5.s with heap:=h',toks:=W5.s.toks + 1 } },rfl,er.symm.trans e5,I6,(l14.trans l5.ofNo).trans (l6.mono fun b q=>.inl q),r5.leX l6 fx⟩
end
noncomputable def a3m (T:Tp) (G:Gl):Prop:=∀ f fn,T.P.fns[f]? = some fn→fn.body≠[]→b4A T G f fn
theorem a9g {fn:Fn} {c:Bool} (h:(c && !fn.body.isEmpty) = true):fn.body≠[]:=fun q=>by rw [q,Bool.and_comm] at h;cases h
theorem a7e (hT:T.Ok) (hG:a1a T G) (hF:a3m T G) {n:Nat} {hd:Bool} (hC:u3 T n hd (a9 { T.P with hd:=hd } n)) (hC':u3 T n true (a9 { T.P with hd:=true } n)) (hX:v9 T n hd (callX { T.P with hd:=hd } n)):∀ f as vals A W,a5L (n + 1) hd A→St T A W→Inv T W→W.Vs T as vals→(0 < W.s.toks∨∃ fn,T.P.fns[f]? = some fn∧b1Y T f fn)→a9 { T.P with hd:=hd } (n + 1) f as W.σ≠.fail →
  codeAny T.M A (.call (.ref (T.fa f)) ⟨vals,[]⟩) (fun r s'=>match r with|.ok (.ret v)=>a4o T noX W (a9 { T.P with hd:=hd } (n + 1) f as W.σ) (VW T) v s'|_=>False) W.s:=fun f as vals A W a S I r tk hn=>by
 rw [a0u] at hn ⊢
 cases hf:T.P.fns[f]? with
 | none=>rw [show ({ T.P with hd:=hd }:Pr).fns[f]? = none from hf] at hn;exact absurd rfl hn
 | some fn =>
  rw [show ({ T.P with hd:=hd }:Pr).fns[f]? = some fn from hf] at hn
  cases hc:(decide (as.length = fn.np) && !fn.body.isEmpty) with
  | false=>rw [show ofO (some fn) _ = ifO (decide (as.length = fn.np) && !fn.body.isEmpty) _ from rfl,hc] at hn;exact absurd rfl hn
  | true =>
   have eR:(ofO (some fn) fun fn=>ifO (decide (as.length = fn.np) && !fn.body.isEmpty) (orF (ifO (!fn.aft) (fin (exs ⟨{ T.P with hd:=hd },a9 { T.P with hd:=hd } n⟩ fn.body W.σ (k8 fn as)))) (ofO (exsX ⟨{ T.P with hd:=hd },a9 { T.P with hd:=hd } n⟩ (callX { T.P with hd:=hd } n) fn.body W.σ (k8 fn as)) (E2 { T.P with hd:=hd } (a9 { T.P with hd:=true } n) fn)))) =
     orF (ifO (!fn.aft) (fin (exs ⟨{ T.P with hd:=hd },a9 { T.P with hd:=hd } n⟩ fn.body W.σ (k8 fn as)))) (ofO (exsX ⟨{ T.P with hd:=hd },a9 { T.P with hd:=hd } n⟩ (callX { T.P with hd:=hd } n) fn.body W.σ (k8 fn as)) (E2 { T.P with hd:=hd } (a9 { T.P with hd:=true } n) fn)):=by
    show ifO (decide (as.length = fn.np) && !fn.body.isEmpty) _ = _
    rw [hc];rfl
   generalize (ofO (some fn) fun fn=>ifO (decide (as.length = fn.np) && !fn.body.isEmpty) (orF (ifO (!fn.aft) (fin (exs ⟨{ T.P with hd:=hd },a9 { T.P with hd:=hd } n⟩ fn.body W.σ (k8 fn as)))) (ofO (exsX ⟨{ T.P with hd:=hd },a9 { T.P with hd:=hd } n⟩ (callX { T.P with hd:=hd } n) fn.body W.σ (k8 fn as)) (E2 { T.P with hd:=hd } (a9 { T.P with hd:=true } n) fn)))) = res at eR hn ⊢
   have H0:O2 T G ⟨T.P,fn.names⟩ n ⟨{ T.P with hd:=hd },a9 { T.P with hd:=hd } n⟩:=⟨hT,hG,rfl,rfl,hC⟩
   refine b3H hT (hF f fn hf (a9g hc)) (of_decide_eq_true (Bool.and_eq_true_iff.mp hc).1) a S I r (tk.imp id fun ⟨_,e,z⟩=>by cases hf.symm.trans e;exact z) fun env W1 H ok hle es hfg=>?_
   rw [← es] at eR
   have way:(fn.aft = false∧exs ⟨{ T.P with hd:=hd },a9 { T.P with hd:=hd } n⟩ fn.body W1.σ (k8 fn as)≠.fail)∨res = ofO (exsX ⟨{ T.P with hd:=hd },a9 { T.P with hd:=hd } n⟩ (callX { T.P with hd:=hd } n) fn.body W1.σ (k8 fn as)) (E2 { T.P with hd:=hd } (a9 { T.P with hd:=true } n) fn):=by
    cases ha:fn.aft with
    | true=>rw [ha] at eR;exact .inr eR
    | false =>
     rw [ha] at eR
     cases hb:exs ⟨{ T.P with hd:=hd },a9 { T.P with hd:=hd } n⟩ fn.body W1.σ (k8 fn as) with
     | fail=>rw [hb] at eR;exact .inr eR
     | next _ _=>exact .inl ⟨rfl,fun z=>nomatch z⟩
     | ret _ _=>exact .inl ⟨rfl,fun z=>nomatch z⟩
   rcases way with ⟨ha,nb⟩|eR
   ·rw [ha] at eR
    cases hb:exs ⟨{ T.P with hd:=hd },a9 { T.P with hd:=hd } n⟩ fn.body W1.σ (k8 fn as) with
    | fail=>exact absurd hb nb
    | next h' vs' =>
     refine wpAny_mono (a8K H0 H ok ha (by rw [hb];exact fun z=>nomatch z)) (fun fl s' d=>?_) fun _ _ z=>z
     rw [hb] at eR d
     cases d with
     | next W' vs'' e I' l' e1 ef F'=>subst ef;cases e1;exact ⟨.none,W',e,eR,I',Le0.forgetAll hle l' hfg,.none⟩
     | ret W' av v e I' l' e1=>cases e1
    | ret v h' =>
     refine wpAny_mono (a8K H0 H ok ha (by rw [hb];exact fun z=>nomatch z)) (fun fl s' d=>?_) fun _ _ z=>z
     rw [hb] at eR d
     cases d with
     | next W' vs'' e I' l' e1=>cases e1
     | ret W' av v e I' l' e1 ef rv=>subst ef;cases e1;exact ⟨_,W',e,eR,I',Le0.forgetAll hle l' hfg,rv⟩
   ·cases hq:exsX ⟨{ T.P with hd:=hd },a9 { T.P with hd:=hd } n⟩ (callX { T.P with hd:=hd } n) fn.body W1.σ (k8 fn as) with
    | none=>rw [hq] at eR;exact absurd eR hn
    | some q =>
     rw [hq] at eR
     refine wpAny_mono (b0S H0 hX hC' H ok hq eR.symm hn) (fun fl s' ⟨v,ef,p⟩=>?_) fun _ _ z=>z
     subst ef
     obtain ⟨av,W',e,q,I',l',rv⟩:=p
     exact ⟨av,W',e,q,I',Le0.forgetAll hle l' hfg,rv⟩
theorem b4o (hT:T.Ok) (hG:a1a T G) (hF:a3m T G) {n:Nat} {hd:Bool} (hC:u3 T n hd (a9 { T.P with hd:=hd } n)) (hC':u3 T n true (a9 { T.P with hd:=true } n)) (hX:v9 T n hd (callX { T.P with hd:=hd } n)):u3 T (n + 1) hd (a9 { T.P with hd:=hd } (n + 1)):=⟨fun f as vals A W a S I r tk hn=>a7e hT hG hF hC hC' hX f as vals A W a S I r (.inl tk) hn⟩
theorem b6s (hT:T.Ok) (hG:a1a T G) (hF:a3m T G) {n:Nat} {hd:Bool} (hC:u3 T n hd (a9 { T.P with hd:=hd } n)) (hX:v9 T n hd (callX { T.P with hd:=hd } n)):v9 T (n + 1) hd (callX { T.P with hd:=hd } (n + 1)):=⟨fun f as vals A W q a S I r tk e=>by
 rw [a3k] at e
 refine o5 e fun fn hf e=>ifE e fun hc e=>?_
 obtain ⟨z,hz,rfl⟩:=Option.map_eq_some_iff.mp e
 have hc:=a0w hc
 refine b3H hT (hF f fn hf (a9g (c:=true) hc.1.2)) (of_decide_eq_true hc.1.1) a S I r (.inl tk) fun env W1 H ok hle es hfg=>?_
 rw [← es] at hz
 have ef:a3b ⟨T.P,fn.names⟩ fn = (embSs ⟨T.P,fn.names⟩ fn.body fn.ps).1:=by
  unfold a3b
  rw [Option.isNone_iff_eq_none.mp hc.2];rfl
 rw [ef]
 refine wpAny_mono (xss (C:=⟨{ T.P with hd:=hd },a9 { T.P with hd:=hd } n⟩) ⟨hT,hG,rfl,rfl,hC⟩ hX fn.body H (Bool.and_eq_true_iff.mp ok).1 hz) (fun _ _ z=>z) fun v s' d=>?_
 obtain ⟨l,W',e,s',hl,I',l',e1,F',f'⟩:=d
 obtain ⟨l0,el0,_⟩:=S
 have hl0:(A.deeper env).frames = some (env :: l0):=by show A.frames.map _ = _;rw [el0];rfl
 rw [hl0] at hl;cases hl
 exact a5d hl0 f' fun s'' f''=>⟨l0,W',e,s'',el0,I',Le0.forgetAll hle l' hfg,e1,f''⟩⟩
structure b7Q (T:Tp) (n:Nat):Prop where
 c:∀ hd,u3 T n hd (a9 { T.P with hd:=hd } n)
 x:∀ hd,v9 T n hd (callX { T.P with hd:=hd } n)
theorem a7h (hT:T.Ok) (hG:a1a T G) (hF:a3m T G):∀ n,b7Q T n
 | 0=>⟨fun _=>⟨fun f as vals A W _ _ _ _ _ hn=>absurd rfl hn⟩,fun _=>⟨fun f as vals A W q _ _ _ _ _ e=>nomatch e⟩⟩
 | n + 1=>have k:=a7h hT hG hF n;⟨fun hd=>b4o hT hG hF (k.c hd) (k.c true) (k.x hd),fun hd=>b6s hT hG hF (k.c hd) (k.x hd)⟩
end
end Mine
namespace Mine
open PySem PySem.SeqAt PySem.Spec PySem.W PySem.Calls PyProof.Rows
noncomputable def b4B (K:Frag) (x:Str):Option (Option Value):=match nsIn K mainGlobals x with
 | some (some (.ref a))=>if keepIn K (.ref a) then some (some (.ref a)) else none
 | some (some _)=>none
 | some none=>some none
 | none=>none
noncomputable def a8U:Option (Option Value)→Addr
 | some (some (.ref a))=>a
 | _=>0
noncomputable def b1T (K:Frag) (P:Pr) (c:Nat):Addr:=match P.cls[c]? with
 | some cl=>a8U (nsIn K mainGlobals cl.name)
 | none=>0
noncomputable def a9q (f:Nat):Nat→List Cl→Option Nat
 | _,[]=>none
 | c,cl :: r=>if cl.init == some f || cl.meths.any (fun p=>p.2 == f) then some c else a9q f (c + 1) r
noncomputable def Z9 (K:Frag) (P:Pr) (f:Nat):Addr:=match P.fns[f]? with
 | some fn=>(match a9q f 0 P.cls with
  | some c=>a8U (findIn K (.ref (b1T K P c)) fn.name)
  | none=>a8U (nsIn K mainGlobals fn.name))
 | none=>0
noncomputable def b2Z (K:Frag) (P:Pr) (c:Nat):Addr:=match P.excs[c]? with
 | some p=>a8U (nsIn K mainGlobals p.1)
 | none=>0
noncomputable abbrev b6R (K:Frag) (P:Pr):Gl:=⟨b4B K,Z9 K P,b1T K P,b2Z K P⟩
noncomputable def vIs (av:AV) (v:Value):Bool:=match av with
 | .int i=>(match v with
  | .int j _=>i == j
  | _=>false)
 | .str s=>(match v with
  | .str x _=>x == tS s && a8h s
  | _=>false)
 | _=>false
theorem b6L {T:Tp} {av:AV} {v:Value} (h:vIs av v = true) (own:Addr→Ow) (bt:List Addr) (hp:Heap):VR T own bt hp av v:=by
 cases av with
 | int i =>
  cases v with
  | int j t=>rw [eq_of_beq (show (i == j) = true from h)];exact .int _ _
  | _=>cases h
 | str s =>
  cases v with
  | str x t =>
   obtain ⟨h1,h2⟩:=Bool.and_eq_true_iff.mp (show (x == tS s && a8h s) = true from h)
   rw [eq_of_beq h1];exact .str _ (a7B h2)
  | _=>cases h
 | _=>cases h
noncomputable def a4V (K:Frag):List (Str×AV)→Bool
 | []=>true
 | p :: r=>(match nsIn K mainGlobals p.1 with|some (some v)=>vIs p.2 v|_=>false) && a4V K r
theorem a2F {K:Frag}:∀ {l:List (Str×AV)},a4V K l = true→∀ p∈l,∃ v,nsIn K mainGlobals p.1 = some (some v)∧vIs p.2 v = true
 | q :: r,h,p,hp=>by
  obtain ⟨h1,h2⟩:=Bool.and_eq_true_iff.mp h
  rcases List.mem_cons.mp hp with rfl|hp
  ·split at h1
   ·rename_i v e;exact ⟨v,e,h1⟩
   ·cases h1
  ·exact a2F h2 p hp
noncomputable def a9Y (K:Frag) (P:Pr):Bool:=a9R K P (b1T K P) (Z9 K P) 0 P.cls && a4V K P.consts && a2P P.attrs && (K.lookup cStatics).isSome && a8H K P (b2Z K P) 0 P.excs && gsB K && P.excs.zipIdx.all fun q=>C7 (b2Z K P q.2) (nsIn K mainGlobals q.1.1)
noncomputable def a9z (names:List Str) (p:Arguments):Bool:=p.posonlyargs.isEmpty && p.vararg.isNone && p.kwonlyargs.isEmpty && p.kwarg.isNone && p.args.map (·.arg) == names
noncomputable def b5e:Value→Bool
 | .none=>true
 | _=>false
noncomputable def a5P:List Str→Bool
 | []=>true
 | x :: r=>!r.contains x && a5P r
theorem a4w:∀ {l:List Str},a5P l = true→l.Nodup
 | [],_=>.nil
 | x :: r,h=>by
  simp only [a5P,Bool.and_eq_true,Bool.not_eq_true'] at h
  refine List.nodup_cons.mpr ⟨fun q=>?_,a4w h.2⟩
  have h1:=h.1
  rw [List.contains_iff_mem.mpr q] at h1
  exact Bool.noConfusion h1
noncomputable def b7m:ScopeKind→Bool
 | .function=>true
 | _=>false
noncomputable def b9o:Option NameKind→Bool
 | some .local=>true
 | some .cell=>true
 | _=>false
noncomputable def b7R (K:Frag) (P:Pr) (fn:Fn) (fd:FuncData):Bool :=
 codeIn K fd.code fd.qualname && b2H (b6R K P) ⟨P,fn.names⟩ fd.scope (slots fn) fn && a9z (fn.names.take fn.np) fd.params && b5e fd.defaults && fd.closure.isEmpty && (fd.globals == mainGlobals) && (fd.builtins == builtinsNs) &&
  b7m fd.scope.kind && !fd.scope.isCoroutine && !fd.scope.isGenerator && (fn.names.take fn.nl).all (fun x=>b9o (fd.scope.names.lookup x)) && decide (fn.np≤fn.nl) && decide (fn.nl≤fn.names.length) && a5P (fn.names.take fn.nl)
noncomputable def b3z (K:Frag) (P:Pr) (f:Nat) (fn:Fn):Bool:=match K.lookup (Z9 K P f) with
 | some ⟨_,_,.func fd,_⟩=>b7R K P fn fd
 | _=>false
noncomputable def t7 (K:Frag) (P:Pr):Nat→List Fn→Bool
 | _,[]=>true
 | i,fn :: r=>(fn.body.isEmpty || b3z K P i fn) && t7 K P (i + 1) r
noncomputable def a5E (K:Frag) (a:Addr):Option FuncBody:=match K.lookup a with
 | some ⟨_,_,.func fd,_⟩=>some fd.body
 | _=>none
noncomputable def Z1 (K:Frag) (P:Pr):Nat→List Fn→List (Option FuncBody)
 | _,[]=>[]
 | i,fn :: r=>(if fn.body.isEmpty then none else a5E K (Z9 K P i)) :: Z1 K P (i + 1) r
noncomputable def a8r (P:Pr):List Fn→List (Option FuncBody)
 | []=>[]
 | fn :: r=>(if fn.body.isEmpty then none else some (.stmts (a3b ⟨P,fn.names⟩ fn))) :: a8r P r
theorem a2h {K:Frag} {P:Pr}:∀ {l:List Fn} {i:Nat},Z1 K P i l = a8r P l→∀ (j:Nat) (fn:Fn),l[j]? = some fn→fn.body≠[]→a5E K (Z9 K P (i + j)) = some (.stmts (a3b ⟨P,fn.names⟩ fn))
 | fn :: r,i,h,0,f,e,hb=>by
  cases e
  have h1:=(List.cons.inj h).1
  rw [if_neg (fun q=>hb (List.isEmpty_iff.mp q)),if_neg (fun q=>hb (List.isEmpty_iff.mp q))] at h1
  exact h1
 | fn :: r,i,h,j + 1,f,e,hb=>by
  have:=a2h (List.cons.inj h).2 j f (by simpa using e) hb
  rw [show i + (j + 1) = i + 1 + j by exact Eq.symm (Nat.succ_add_eq_add_succ i j)];exact this
theorem a4C {K:Frag} {P:Pr}:∀ {l:List Fn} {i:Nat},t7 K P i l = true→∀ j fn,l[j]? = some fn→fn.body≠[]→b3z K P (i + j) fn = true
 | fn :: r,i,h,0,f,e,hb=>by
  cases e
  simp only [t7,Bool.and_eq_true,Bool.or_eq_true,List.isEmpty_iff] at h
  rcases h.1 with q|q
  ·exact absurd q hb
  ·exact q
 | fn :: r,i,h,j + 1,f,e,hb=>by
  simp only [t7,Bool.and_eq_true] at h
  have:=a4C h.2 j f (by simpa using e) hb
  rw [show i + (j + 1) = i + 1 + j by exact Eq.symm (Nat.succ_add_eq_add_succ i j)];exact this
theorem b7L {T:Tp} {K:Frag} (X:K.In T.base) (hfa:T.fa = Z9 K T.P) {f:Nat} {fn:Fn} (h:b3z K T.P f fn = true) (hb:a5E K (Z9 K T.P f) = some (.stmts (a3b ⟨T.P,fn.names⟩ fn))):b4A T (b6R K T.P) f fn:=by
 unfold b3z at h
 unfold a5E at hb
 split at h
 ·rename_i c d fd sl ho
  rw [ho] at hb
  simp only [Option.some.injEq] at hb
  simp only [b7R,Bool.and_eq_true,decide_eq_true_eq,Bool.not_eq_true',beq_iff_eq,List.isEmpty_iff,List.all_eq_true] at h
  obtain ⟨⟨⟨⟨⟨⟨⟨⟨⟨⟨⟨⟨⟨h1,h2⟩,h3⟩,h4⟩,h5⟩,h6⟩,h7⟩,h8⟩,h9⟩,h10⟩,h11⟩,h12⟩,h13⟩,h14⟩:=h
  have hp:∃ as kd ds,fd.params = ⟨[],as,none,[],kd,none,ds⟩∧as.map (·.arg) = fn.names.take fn.np:=by
   cases q:fd.params with
   | mk po as va ko kd kw ds =>
    rw [q] at h3
    simp only [a9z,Bool.and_eq_true,List.isEmpty_iff,Option.isNone_iff_eq_none,beq_iff_eq] at h3
    obtain ⟨⟨⟨⟨rfl,rfl⟩,rfl⟩,rfl⟩,e⟩:=h3
    exact ⟨as,kd,ds,rfl,e⟩
  obtain ⟨as,kd,ds,hp1,hp2⟩:=hp
  have hdn:fd.defaults = .none:=by
   cases q:fd.defaults<;>rw [q] at h4<;>first|rfl|cases h4
  have hk:fd.scope.kind = .function:=by
   cases q:fd.scope.kind<;>rw [q] at h8<;>first|rfl|cases h8
  refine ⟨⟨c,d,.func fd,sl⟩,fd,as,kd,ds,?_,rfl,codeRec_of X h1,hb,hp1,hdn,h5,h6,h7,hk,h9,h10,hp2,h2,fun x hx=>?_,h12,h13,a4w h14⟩
  ·rw [hfa];exact X _ _ ho
  ·have:=h11 x hx
   cases q:fd.scope.names.lookup x with
   | none=>rw [q] at this;cases this
   | some k=>rw [q] at this;cases k<;>first|exact .inl rfl|exact .inr rfl|cases this
 ·cases h
theorem b8E {T:Tp} {K:Frag} (X:K.In T.base) (hT:T.Ok) (hc:a4V K T.P.consts = true) (hfa:T.fa = Z9 K T.P) (hca:T.ca = b1T K T.P) (hxa:T.xa = b2Z K T.P):a1a T (b6R K T.P) where
 sm:=fun x v e=>by
  simp only [b4B] at e
  split at e
  ·rename_i a q
   split at e
   ·cases e;exact mg_of X hT.g q
   ·cases e
  ·cases e
  ·cases e
  ·cases e
 nn:=fun x e=>by
  simp only [b4B] at e
  split at e
  ·split at e<;>cases e
  ·cases e
  ·rename_i q;exact ns_none_of X hT.g q
  ·cases e
 fa:=hfa.symm
 ca:=hca.symm
 xa:=hxa.symm
 con:=fun g p e=>let ⟨v,e1,e2⟩:=a2F hc p (List.mem_of_getElem? e);⟨v,mg_of X hT.g e1,b6L e2⟩
 callee:=fun x f e=>by
  simp only [b4B] at e
  split at e
  ·rename_i a q
   split at e
   ·rename_i hi
    injection e with e;injection e with e;injection e with e
    rw [hfa,← e]
    intro h k
    obtain ⟨kp,hk,l⟩:=looks_keep (M:=T.M) hi (X.keeps k)
    exact ⟨kp,hk.imp id .inl,l⟩
   ·cases e
  ·cases e
  ·cases e
  ·cases e
noncomputable def M8 (K:Frag) (P:Pr) (lw:Nat):Bool:=match K.lookup (Z9 K P lw) with
 | some ⟨_,_,.func fd,_⟩=>match P.fns[lw]? with
  | some fn=>decide (fn.np = 1) && (fn.names.take 1).all fun x=>decide (fd.scope.names.lookup x = some .local)
  | none=>false
 | _=>false
theorem law_call {prog:Program} {w:World} {P:Pr} {s₁:Shared} {mg mb:Str→Option Value} {K:Frag} {loose:List Str} {pv:Program} {fa l:Addr} {lw n:Nat} {x:Str} {ns:List Int} {vs:List Value} {Q:Value→Shared→Prop} {E:Value→Shared→Prop}
  (X:K.In s₁.heap) (TR:TopRead pv loose mg mb s₁.heap) (hf:t7 K P 0 P.fns = true) (hbd:Z1 K P 0 P.fns = a8r P P.fns) (hB:a9Y K P = true) (h1:M8 K P lw = true) (hx:mg x = some (.ref fa)) (hl:nsIn K mainGlobals x = some (some (.ref (Z9 K P lw))))
  (hL:s₁.heap.IsList l vs.toArray) (hI:IntsAre vs ns) (hn:ns.length≤lim) (hA:n + 1≤20) (hd0:P.hd = false) (hc:∃ hp,a9 P (n + 1) lw [.scr ns] [] = .ok (.bool true) hp)
  (hR:∀ s',(∀ b o,s₁.heap.get? b = some o→s'.heap.get? b = some o)→s'.os = s₁.os→s'.gens = s₁.gens→Q (.bool true) s') :
  wpAny (model prog w) callerA (PySem.call (.ref fa) [.ref l]) Q E s₁:=by
 obtain ⟨hp,hc⟩:=hc
 simp only [a9Y,Bool.and_eq_true] at hB
 obtain ⟨⟨⟨⟨⟨⟨b1,b2⟩,b3⟩,b4⟩,b5⟩,b6⟩,b7⟩:=hB
 let T:Tp:={ prog,w,P,base:=s₁.heap,mg,mb,fa:=Z9 K P,ca:=b1T K P,xa:=b2Z K P,K:=K }
 have hT:T.Ok:=by
  refine ⟨TR.g,TR.b,TR.nolimit,TR.builtins,X,b1,b5,b6,fun c us e=>?_,b3⟩
  obtain ⟨p,e1,_⟩:=Option.map_eq_some_iff.mp e
  have h:=a0D b5 c p e1
  rw [Nat.zero_add] at h
  have hb:=(Bool.and_eq_true_iff.mp h).1
  unfold b0c at hb
  simp only [Bool.and_eq_true,beq_iff_eq] at hb
  exact ⟨p.1,mg,own_of_in X TR (w9 (List.all_eq_true.mp b7 (p,c) (List.mem_zipIdx_iff_getElem?.mpr e1))) hb.1.1.1.1.1.2⟩
 have hG:=b8E (T:=T) X hT b2 rfl rfl rfl
 obtain ⟨oS,hoS⟩:=Option.isSome_iff_exists.mp b4
 have hfa:fa = Z9 K P lw:=by
  have:=mg_of X TR.g hl
  rw [hx] at this
  injection this with this;injection this
 let W:Wd:={ own:=fun _=>.free,bt:=[],σ:=[],s:=s₁ }
 have I:Inv T W:=⟨rfl,fun l a e=>by simp [W] at e,fun a e=>absurd rfl e,fun l o a e=>by simp [W] at e,fun _ _ e=>e,⟨oS,X _ _ hoS⟩,fun l a e=>by simp [W] at e⟩
 have hF:a3m T _:=fun f fn e hb=>b7L (T:=T) X rfl (by simpa using a4C hf f fn e hb) (by simpa using a2h hbd f fn e hb)
 have k:=a7h hT hG hF n
 have hF1:∃ fn,T.P.fns[lw]? = some fn∧b1Y T lw fn:=by
  unfold M8 at h1
  split at h1
  ·rename_i fd _ hl
   split at h1
   ·rename_i fn hfn
    have h1:=Bool.and_eq_true_iff.mp h1
    refine ⟨fn,hfn,of_decide_eq_true h1.1,fun o fd' e ed x hx=>?_⟩
    cases (X _ _ hl).symm.trans e
    cases ed
    exact of_decide_eq_true (List.all_eq_true.mp h1.2 x hx)
   ·cases h1
  ·cases h1
 obtain ⟨ob,ho,hcl,n',hda⟩:=hL
 have rv:W.Vs T [.scr ns] [.ref l]:=.cons (.scr ho hcl hda hn (fun i x e=>by
   obtain ⟨t,e'⟩:=hI.get i x e
   exact ⟨t,by simpa using e'⟩) (by simpa using hI.length)) .nil
 have a:a5L (n + 1) false callerA:=by
  have e1:callerA.depth = 301:=by decide
  have e2:callerA.units = 4:=rfl
  have e3:recursionLimit = 1000:=rfl
  have e4:1000≤cLine:=by decide
  exact ⟨by lia,by lia,fun _=>rfl⟩
 have S:St T callerA W:=⟨[],rfl,fun _ h=>nomatch h⟩
 have eP:({ T.P with hd:=false }:Pr) = P:=by rw [← hd0]
 have D:=a7e hT hG hF (k.c false) (k.c true) (k.x false) lw [.scr ns] [.ref l] callerA W a S I rv (.inr hF1) (by rw [eP];show a9 P (n + 1) lw [.scr ns] []≠_;rw [hc];simp)
 rw [eP] at D
 rw [hfa]
 refine wpAny_call (codeAny_mono D fun r s' q=>?_)
 match r,q with
 | .ok (.ret v),⟨av,W',e,z,I',l',r⟩ =>
 subst e
 have q':a9 P (n + 1) lw [.scr ns] [] = .ok av W'.σ:=z
 rw [hc] at q'
 cases q'
 cases r
 exact hR W'.s I'.base l'.os l'.gens
end Mine
namespace Mine
open PySem PySem.W PySem.Calls
noncomputable def a1W (tb:String→Option Builtin) (p:Program) (w:World) (n₀:Nat) (ann:Option Value):Nat→SharedT→Thread→Option SharedT
 | 0,_,_=>none
 | n + 1,s,t=>match through t with
  | true=>some s
  | false=>match stepOk n₀ ann t with
   | false=>none
   | true=>match stepT (denote tb) p w s t with
    | some (s',t')=>a1W tb p w n₀ ann n s' t'
    | none=>none
theorem a3I {tb:String→Option Builtin} {p:Program} {w:World} {n₀:Nat} {ann:Option Value}:∀ {n:Nat} {s s':SharedT} {t:Thread},a1W tb p w n₀ ann n s t = some s'→topRun tb p w n₀ ann n s.abs t = some s'.abs
 | 0,_,_,_,h=>nomatch h
 | n + 1,s,s',t,h=>by
  unfold a1W at h
  unfold topRun
  cases he:through t with
  | true=>rw [he] at h;cases h;rfl
  | false =>
   rw [he] at h
   cases hk:stepOk n₀ ann t with
   | false=>rw [hk] at h;cases h
   | true =>
    rw [hk] at h
    cases hs:stepT (denote tb) p w s t with
    | none=>rw [hs] at h;cases h
    | some r=>obtain ⟨s₂,t₂⟩:=r;rw [hs] at h;rw [stepT_spec hs];exact a3I h
noncomputable def b6M:Nat→List Obj→BT→BT
 | _,[],t=>t
 | n,o :: r,t=>b6M (n + 1) r (t.ins n o)
noncomputable abbrev b5H (w:World) (os:OsState):SharedT:=⟨b6M 0 (boot_heap w.params).objs.toList .nil,(boot_heap w.params).objs.size,(boot_heap w.params).life,#[],boot_drawn,boot_toks,os⟩
theorem b3f (w:World) (os:OsState):(b5H w os).abs = ⟨boot_heap w.params,#[],boot_drawn,boot_toks,os⟩:=by
 show Shared.mk (absHeap _ _ _) _ _ _ _ = _
 have:absHeap (b6M 0 (boot_heap w.params).objs.toList .nil) (boot_heap w.params).objs.size (boot_heap w.params).life = boot_heap w.params:=by kernel_rfl
 rw [this]
theorem b1k (w:World):((boot_heap w.params).isNs mainGlobals && (#[]:Array GenState).size == 0,(boot_heap w.params).objs.size,(boot_heap w.params).nsMap mainGlobals "__annotations__") = (true,11,some (.ref 6)):=by kernel_rfl
noncomputable abbrev a1I (p:Program) (N:Nat) (w:World) (os:OsState):Option SharedT:=a1W treeTable p w 11 (some (.ref 6)) N (b5H w os) (topStub p)
theorem a4O {p q:Program} {loose:List Str} {Xt:Shared→Bool} {α:Type} {Yf:Shared→α} {Ya:World→α} {N:Nat} (e:opening p = plainProg p.main.scope.names) (hN:Nat.ble 600 N = true) (f:∀ s,fenceModules? p s = some s)
  (run:∀ w:World,(fun os=>(a1I p N w os).map fun s =>
   ((staticsOk (importedModules p.main.body) (boot_heap w.params) s.abs.heap && namesBound p s.abs.heap && gensDone s.abs && laidKept (boot_heap w.params) s.abs.heap),openSeen q loose (importedModules p.main.body) Xt true s.abs)) = fun _=>some (true,openGood q loose))
  (see:∀ (w:World) (os:OsState) (s:SharedT),a1I p N w os = some s→Yf s.abs = Ya w):LeftO p q loose Xt Yf Ya N:=fun w=>by
 obtain ⟨⟨h,gs,d,k,os⟩,e1,e2⟩:=Option.map_eq_some_iff.mp (boot_open (N:=N) e hN f w)
 obtain ⟨rfl,rfl,rfl,rfl⟩:h = boot_heap w.params∧gs = Array.mk []∧d = boot_drawn∧k = boot_toks:=by simpa using e2
 obtain ⟨s',r,l⟩:=Option.map_eq_some_iff.mp (congrFun (run w) os)
 obtain ⟨l1,l2⟩:_∧_:=by simpa only [Prod.mk.injEq] using l
 have l3:=see w os s' r
 obtain ⟨z1,z2,z3⟩:_∧_∧_:=by simpa only [Prod.mk.injEq] using b1k w
 have r:=a3I r
 rw [b3f] at r
 have t:topFrom treeTable p w N ⟨boot_heap w.params,#[],boot_drawn,boot_toks,os⟩ = some s'.abs:=by
  unfold topFrom
  dsimp only
  rw [z1,z2,z3,r]
  show (match staticsOk (importedModules p.main.body) (boot_heap w.params) s'.abs.heap && namesBound p s'.abs.heap && gensDone s'.abs && laidKept (boot_heap w.params) s'.abs.heap with|true=>_|false=>_) = _
  rw [l1]
 unfold openEnds
 rw [e1]
 show (topFrom treeTable p w N _).map _ = _
 rw [t]
 exact congrArg some (Prod.ext l2 l3)
theorem a5q {α:Type} {f:SharedT→α} {a:α} {r:OsState→Option SharedT} (h:(fun os=>(r os).map f) = fun _=>some a) {os:OsState} {s:SharedT} (e:r os = some s):f s = a:=by
 have:=congrFun h os
 rw [e] at this
 exact Option.some.inj this
end Mine
namespace Mine
noncomputable def sc0:PySem.Scope:={ kind:=.function,names:=[(".0",.local),("at",.local),("weight",.globalImplicit),("text",.free),("width",.free)],isGenerator:=false,isCoroutine:=false,more:=[] }
noncomputable def sc1:PySem.Scope:={ kind:=.function,names:=[(".0",.local),("k",.local),("ends",.free),("text",.free)],isGenerator:=false,isCoroutine:=false,more:=[] }
noncomputable def sc2:PySem.Scope:={ kind:=.function,names:=[(".0",.local),("sign",.local),("is_sign",.globalImplicit)],isGenerator:=false,isCoroutine:=false,more:=[] }
noncomputable def sc3:PySem.Scope:={ kind:=.function,names:=[(".0",.local),("sign",.local),("LETTERS",.globalImplicit)],isGenerator:=false,isCoroutine:=false,more:=[] }
noncomputable def sc4:PySem.Scope:={ kind:=.function,names:=[(".0",.local),("name",.local),("len",.globalImplicit),("self",.free)],isGenerator:=false,isCoroutine:=false,more:=[] }
noncomputable def sc5:PySem.Scope:={ kind:=.function,names:=[(".0",.local),("number",.local),("old",.free)],isGenerator:=false,isCoroutine:=false,more:=[] }
noncomputable def sc6:PySem.Scope:={ kind:=.function,names:=[(".0",.local),("one",.local),("len",.globalImplicit),("self",.free)],isGenerator:=false,isCoroutine:=false,more:=[] }
noncomputable def sc7:PySem.Scope:={ kind:=.function,names:=[(".0",.local),("one",.local),("self",.free)],isGenerator:=false,isCoroutine:=false,more:=[] }
noncomputable def sc8:PySem.Scope:={ kind:=.function,names:=[(".0",.local),("_law_k",.local),("_law_cell",.free),("_law_word_here",.free)],isGenerator:=false,isCoroutine:=false,more:=[] }
noncomputable def sc9:PySem.Scope:={ kind:=.function,names:=[(".0",.local),("_law_k",.local),("_law_cell",.free),("_law_ends",.free),("_law_letters",.free)],isGenerator:=false,isCoroutine:=false,more:=[] }
noncomputable def b9e:PySem.Scope:={ kind:=.function,names:=[(".0",.local),("one",.local),("str",.globalImplicit)],isGenerator:=false,isCoroutine:=false,more:=[] }
noncomputable def b9b:PySem.Scope:={ kind:=.function,names:=[(".0",.local),("row",.local)],isGenerator:=false,isCoroutine:=false,more:=[] }
noncomputable def b1z:Fn:={ name:="weight",ps:=1056977382987945877403730191032301030723246443638071350270020065647858049981437711815795621914943655472860760716526333450351348691194701420792330747563877506255614121598708846067225035262432656621371403785396915251448655467513650357127499486187393220218292627377416048643,np:=1,nl:=3,names:=["signs","found","sign"],body:=[.set 1 (.int 7),
  .loop 2 (.var 0) [.set 1 (.bin .mod (.bin .add (.bin .mul (.var 1) (.int 131)) (.bi .ord [.var 2])) (.int 65521))],
  .ret (.var 1)] }
noncomputable def a9r:Fn:={ name:="cuts",ps:=12353372909623807590383576132584304457684934960022602637480436727621854133135608598436733196619178790100028399478978847180832424722967212433612550490244135973242959971611054516234647111534788360154734812218992664133001078680061392767763673155143957362456288016128462744541511428375671526358818430998621274320528076662426699434423085544461358346561950038036152294204444643813885166522345645235574118265523889958963581319082383226814497236303211000475623419932866607828867978295237296911087241409937086085567745734661449062716457154180349857618996153971148490569789985288407317996120757928261637924415557578393841662009951755462640352605106223855252472701236713428343697321232799421382448180050387212532203405028281582021624206945637505457879597907330400874194858713829708376587799432847464440130855230538538342436399012313750782407616566954722180237373618568848919410979365834408101369969746151826185815765472990348771106959256940997182661889425210601338130860115379088300342939242995393903726630109061686821022430519564853321031887084456292942897939829784284325924681832010613994856211367858024126167585394696,np:=3,nl:=7,names:=["text","width","reach","weights","found","place","at","at"],body:=[.set 3 (.comp (.call 0 [.slice (.var 0) (.var 7) (.bin .add (.var 7) (.var 1)) true true]) 7 (.bi .range [.bin .add (.bin .sub (.bi .len [.var 0]) (.var 1)) (.int 1)]) [] sc0),
  .set 4 (.list []),
  .loop 5 (.bi .range [.bin .add (.var 1) (.var 2),.bin .add (.bin .sub (.bi .len [.var 0]) (.var 2)) (.int 1)]) [.set 6 (.bin .sub (.var 5) (.var 1)),
  .ifs (.cmp (.idx (.var 3) (.var 6)) .lt (.bi .min [.bin .add (.slice (.var 3) (.bin .sub (.var 6) (.var 2)) (.var 6) true true) (.slice (.var 3) (.bin .add (.var 6) (.int 1)) (.bin .add (.bin .add (.var 6) (.var 2)) (.int 1)) true true)])) [.expr (.bm .append (.var 4) [.var 5])] []],
  .ret (.var 4)] }
noncomputable def b1e:Fn:={ name:="pieces",ps:=502574400469988163181220161043826412317645613206543180990941865067355296631287590359441602500947783391437668536797458755506936452919649844279349356937545148806957653395660950439952419937169529517371531414607370126267824582931876950300175402454168774676027085550782632005994649662094289514997325479208168898433057170597333153745665787600211293187443142182937722243705115418535470801309708057049094811646079798013595016056039308743975517034803217146782329760987573006679165223418609557663381648197165975445268311605975025886538049815355610556598759717343980101456008657889166937034251271043919608055074832,np:=3,nl:=4,names:=["text","width","reach","ends","k"],body:=[.ifs (.cmp (.var 0) .eq (.str [])) [.ret (.list [])] [],
  .set 3 (.bin .add (.bin .add (.list [.int 0]) (.call 1 [.var 0,.var 1,.var 2])) (.list [.bi .len [.var 0]])),
  .ret (.comp (.slice (.var 0) (.idx (.var 3) (.var 4)) (.idx (.var 3) (.bin .add (.var 4) (.int 1))) true true) 4 (.bi .range [.bin .sub (.bi .len [.var 3]) (.int 1)]) [] sc1)] }
noncomputable def a0a:Fn:={ name:="pieces_cutting",ps:=502574400469988163181220161043826412317645613206543180990941865067355296631287590359441602500947783391437668536797458755506936452919649844279349356937545148806957653395660950439952419937169529517371531414607370126267824582931876950300175402454168774676027085550782632005994649662094289514997325479208168898433057170597333153745665787600211293187443142182937722243705115418535470801309708057049094811646079798013595016056039308743975517034803217146782329760987573006679165223418609557663381648197165975445268311605975025886538049815355610556598759717343980101456008657889166937034251271043919608055074832,np:=3,nl:=4,names:=["text","width","reach","ends","k"],body:=[.ifs (.cmp (.var 0) .eq (.str [])) [.ret (.list [])] [],
  .set 3 (.bin .add (.bin .add (.list [.int 0]) (.call 1 [.var 0,.var 1,.var 2])) (.list [.bi .len [.var 0]])),
  .ret (.comp (.slice (.var 0) (.idx (.var 3) (.var 4)) (.idx (.var 3) (.bin .add (.var 4) (.int 1))) true true) 4 (.bi .range [.bin .sub (.bi .len [.var 3]) (.int 1)]) [] sc1)] }
noncomputable def a4P:Fn:={ name:="is_number",ps:=98959680929542620382330368353403191380499132422323888735888669745065834434947366858214230915465242678347805148353842028131588713530810719227366774157086767,np:=1,nl:=1,names:=["thing"],body:=[.ret (.and [.inst (.var 0) .int,.not (.inst (.var 0) .bool)])] }
noncomputable def a7V:Fn:={ name:="is_sign",ps:=747443994636621834506445459997785280914530337947960360704438553423849745609909516719690993425251814063828653053458872297804249190455585847104733118735959783545787194237965368682719989753919933442682259965947154481,np:=1,nl:=1,names:=["sign"],body:=[.ret (.or [.cmp (.var 0) .eq (.str [10]),.and [.chain (.str [32]) .le (.var 0) .le (.str [126]),.cmp (.bi .ord [.var 0]) .ne (.gl 1)]])] }
noncomputable def a8b:Fn:={ name:="is_text",ps:=2057518359693203215614534600101995531988947201143857511509365119580508817525282602744348647257603104682311867495942143260333412242390839128971439620577794723661573135127206966201641236167794567417907,np:=1,nl:=1,names:=["thing","sign"],body:=[.ret (.and [.inst (.var 0) .str,.bi .all [.comp (.call 5 [.var 1]) 1 (.var 0) [] sc2]])] }
noncomputable def a8m:Fn:={ name:="is_name",ps:=1019856402941284024948737146094504935601187343515900451885506328888012880585555316307915032028414464409794706042439712009589329384297978945636033132788606729540897604845719360593104685727202285549768291995210055739320708771088990637781487660457537542687391712419086374871960120460310304531434395782269097331735794368150532825762453607286255837460676217933877,np:=1,nl:=1,names:=["thing","sign"],body:=[.ifs (.or [.not (.inst (.var 0) .str),.not (.chain (.int 1) .le (.bi .len [.var 0]) .le (.gl 2))]) [.ret (.bool false)] [],
  .ret (.bi .all [.comp (.cmp (.var 1) .isin (.gl 0)) 1 (.var 0) [] sc3])] }
noncomputable def a5p:Fn:={ name:="are_sizes",ps:=94335896787234065512003960738874841046970545857233432547194603470362764002348273802914436584640334069402826387082590954765526552912562954524124741450905819679792608887760466758291715142749155661817474577841684801940782730566114172285605211229477936016430525023446173461498194746334452669878012509711866823841943609,np:=2,nl:=2,names:=["width","reach"],body:=[.ifs (.or [.not (.call 4 [.var 0]),.not (.call 4 [.var 1])]) [.ret (.bool false)] [],
  .ret (.and [.chain (.int 1) .le (.var 0) .le (.gl 3),.chain (.int 1) .le (.var 1) .le (.gl 4)])] }
noncomputable def a3t:Fn:={ name:="__init__",ps:=74223717391058596692087979027068258489584583498920699916346650305748700360979035376182650486986269244212305919028332617408432849820848246908115634487418156452325782517673536798838183173809144337020320201144832654306352079839296,np:=1,nl:=1,names:=["self"],body:=[.setAttr (.var 0) 0 (.dict []),
  .setAttr (.var 0) 1 (.dict []),
  .setAttr (.var 0) 2 (.dict []),
  .setAttr (.var 0) 3 (.int 0)] }
noncomputable def y6:Fn:={ name:="need",ps:=944216228085688592499079430696335145860611999916977204629441780293244575790344312968664731121645343318108425481869119940441648362388780606968924549175573900256639983242091394456869476762116997534339495819246846098783266100167021081937456065462508609964151407012694437641067100249104868214222157091816132508523474286957915305213920196041511633231185950157880771266559521648247874809980080735647694116682185646230265593372998252899102641176838503047205086358112259218334609779331033224640150869690749141311201713236111446955283846303462722478854034316870060718807695624999528095056702621525712152190271167608199049387946328089736256072287444421480960973795783569603420949951413770388662286770011392419107967797575136319512383722838419192001711841350,np:=2,nl:=3,names:=["self","text","number"],body:=[.ifs (.cmp (.var 1) .notin (.attr (.var 0) 2)) [.setAttr (.var 0) 3 (.bin .add (.attr (.var 0) 3) (.int 1)),
  .setItem (.attr (.var 0) 2) (.var 1) (.attr (.var 0) 3),
  .setItem (.attr (.var 0) 0) (.attr (.var 0) 3) (.var 1),
  .setItem (.attr (.var 0) 1) (.attr (.var 0) 3) (.int 0)] [],
  .set 2 (.idx (.attr (.var 0) 2) (.var 1)),
  .setItem (.attr (.var 0) 1) (.var 2) (.bin .add (.idx (.attr (.var 0) 1) (.var 2)) (.int 1)),
  .ret (.var 2)] }
noncomputable def a5Q:Fn:={ name:="has",ps:=1080497880479580265238372575090940392531043531677039154260011697433980958439788650535671775731045234383680854005727648444063824,np:=2,nl:=2,names:=["self","number"],body:=[.ret (.and [.call 4 [.var 1],.cmp (.var 1) .isin (.attr (.var 0) 0)])] }
noncomputable def a2j:Fn:={ name:="count",ps:=4128515001220877388086919860018156004610019267963990067500230172971650770897646442034425802722665660427126831596109575814624002132711383685145656926510059830778573940888376843803566172,np:=2,nl:=2,names:=["self","number"],body:=[.ifs (.not (.meth (.var 0) 0 [.var 1])) [.ret (.int 0)] [],
  .ret (.idx (.attr (.var 0) 1) (.var 1))] }
noncomputable def a2w:Fn:={ name:="piece",ps:=327146026071947128564027631961688193649602576733480395711110897251808478369478810585167306468547052204866248317619543172669354409096858121982906815416679867841494743134702386994524686335079139479937552566543458401,np:=2,nl:=2,names:=["self","number"],body:=[.ifs (.not (.meth (.var 0) 0 [.var 1])) [.raise 3 [110,111,32,115,117,99,104,32,112,105,101,99,101]] [],
  .ret (.idx (.attr (.var 0) 0) (.var 1))] }
noncomputable def a0V:Fn:={ name:="numbers",ps:=8303559106620394234214345729351669398229417759387081576095213805784097100388353568325297121534054,np:=1,nl:=1,names:=["self"],body:=[.ret (.bi .sorted [.bi .list [.attr (.var 0) 0]])] }
noncomputable def X0:Fn:={ name:="__init__",ps:=361270610968437490213255628732086400231368715409443175987291015790524940008830871009361108548134687350161280363486492638358685921413828487852331704943369097067656155321445888225824628179705360395065654219375094010703621299349188833618780731022390999050232336526975849803636256402359152754840780738536809217641950876340396589900348134364026781750196884795222095611468460183395163017045748816417781308063403136546042804518164095347899469364994164,np:=3,nl:=3,names:=["self","width","reach"],body:=[.ifs (.not (.call 8 [.var 1,.var 2])) [.raise 1 [110,111,32,119,105,100,116,104,32,111,114,32,110,111,32,114,101,97,99,104]] [],
  .setAttr (.var 0) 4 (.var 1),
  .setAttr (.var 0) 5 (.var 2),
  .setAttr (.var 0) 6 (.new 0 []),
  .setAttr (.var 0) 7 (.dict []),
  .setAttr (.var 0) 8 (.dict [])] }
noncomputable def Y8:Fn:={ name:="need_name",ps:=721832815576915300893117050673718184019590844231254438289952170117150968883439194118237035092104148782674202031709658717102205,np:=2,nl:=2,names:=["self","name"],body:=[.ifs (.not (.call 7 [.var 1])) [.raise 2 [110,111,32,110,97,109,101]] []] }
noncomputable def Q7:Fn:={ name:="need_version",ps:=10352632238528638362896415767972691195285819974261963393400204752308768596296459850826519605833606442894941177627224992199943640010517419733337097230051124219016052630923539540359023629040002361761904947088168714793236138871126280901218337416625983121793153,np:=3,nl:=3,names:=["self","name","number"],body:=[.ifs (.or [.not (.call 4 [.var 2]),.cmp (.var 2) .notin (.bm .get (.attr (.var 0) 7) [.var 1,.dict []])]) [.raise 3 [110,111,32,115,117,99,104,32,118,101,114,115,105,111,110]] []] }
noncomputable def a3B:Fn:={ name:="look",ps:=721998079884328913201147628764790179383990636173549303696149373960102299651452338384143341186743325182648569188154627717079173,np:=2,nl:=2,names:=["self","told"],body:=[.ifs (.not (.call 6 [.var 1])) [.raise 5 [110,111,32,116,101,120,116]] []] }
noncomputable def P5:Fn:={ name:="many_versions",ps:=5063584690228095150082062108802930108775534790526256697472953355355739415382220338479866871446565331421273123371850882433273892436500378243215979804772966949701301500432430428181766281,np:=1,nl:=1,names:=["self","name"],body:=[.ret (.bi .sum [.comp (.bi .len [.idx (.attr (.var 0) 7) (.var 1)]) 1 (.attr (.var 0) 7) [] sc4])] }
noncomputable def p9:Fn:={ name:="put",ps:=1135874465983206845454451236162324831605654465902048910860229767778552140245441752114032513090733041875863239039180341693742059775369215061669759193057409175872528982773198786151393241317964277766392229242605005576404664512176899574622061463221864670078409997698686797668986800883299955144003164202034758394672447133527266033725099814350374101888396124370051805092497241294505101976490804840443156857878519442730353582797350699424395501941069216439104972046234003204880127333894347854135888150810729982407561202467360513738715148569896007275363133577717941593455515188077887689800299941107993627183154983083014305825722641320306533024783786083211417187973624108516411889457138386430594152573139155360725230873575853097119965453588896807431110160254817407630555859316478736947382362963075759910611664692986558328261255554821524039080209221648890861384442700311827853503359078046536465775514616819815852631647891702198330964790820289025673824840642383481035483709342557308783038154857006392886456819037398794937996919998288879130465889670353730380539906004738378821996595490270799745349529241191665566269373523010770780500983768158233343931453211180680038125082621632142856204230113517182666036205040773054402994283331716540144626899516939869466915118077268923745916844086898784722914486042183082124,np:=3,nl:=7,names:=["self","name","told","row","known","part","number"],body:=[.ifs (.cmp (.bi .len [.var 2]) .gt (.gl 5)) [.raise 6 [116,111,111,32,109,97,110,121,32,115,105,103,110,115]] [],
  .ifs (.cmp (.meth (.var 0) 1 []) .ge (.gl 6)) [.raise 7 [116,111,111,32,109,97,110,121,32,118,101,114,115,105,111,110,115]] [],
  .set 3 (.list []),
  .set 4 (.dict []),
  .loop 5 (.call 3 [.var 2,.attr (.var 0) 4,.attr (.var 0) 5]) [.ifs (.cmp (.var 5) .notin (.var 4)) [.setItem (.var 4) (.var 5) (.meth (.attr (.var 0) 6) 2 [.var 5])] [],
  .expr (.bm .append (.var 3) [.idx (.var 4) (.var 5)])],
  .set 6 (.bin .add (.bm .get (.attr (.var 0) 8) [.var 1,.int 0]) (.int 1)),
  .setItem (.attr (.var 0) 8) (.var 1) (.var 6),
  .expr (.bm .setdefault (.attr (.var 0) 7) [.var 1,.dict []]),
  .setItem (.idx (.attr (.var 0) 7) (.var 1)) (.var 6) (.bi .tuple [.var 3]),
  .ret (.var 6)] }
noncomputable def a3E:Fn:={ name:="keep",ps:=101140535840586113250613909688195577633130617188200327030831756539174797508094439095227421546476260176138242318104311511628269822403230100029424870060575293047858817588437281463905023524813744936143402709421125970042719335620765,np:=3,nl:=3,names:=["self","name","text"],body:=[.expr (.meth (.var 0) 3 [.var 1]),
  .expr (.meth (.var 0) 4 [.var 2]),
  .ret (.meth (.var 0) 5 [.var 1,.var 2])] }
noncomputable def a0e:Fn:={ name:="versions",ps:=145659743621885238309424708950568271725265782007556222383285683296014935501809109346814812494824993129168622965264961297405967198315767899448288832306152826535943228973879791960840530942169386089703025430470739097297612534456513,np:=2,nl:=2,names:=["self","name"],body:=[.expr (.meth (.var 0) 3 [.var 1]),
  .ret (.bi .sorted [.bi .list [.bm .get (.attr (.var 0) 7) [.var 1,.dict []]]])] }
noncomputable def a0H:Fn:={ name:="altered",ps:=419267356016824196828441732679604454218444116205273473440697508519415987429110559584996392416703387081685710248979693308374319416024105353112372704819039139427991832661188381145634300017628247925113463095075070253182252244103647795410013027332812915301049726042001398336850881448240519890554621206881658273266960632939284935449269812542433889866649480862670741823530152918198342348941785427899659405023189044415937378842998940335442203135550203665070846846280803139528835304805269674741125059439983689405283884583619747455180808235322381871400279692529813404078060271126231796763555565766850731774058711,np:=4,nl:=5,names:=["self","name","one","other","old","number"],body:=[.expr (.meth (.var 0) 3 [.var 1]),
  .expr (.meth (.var 0) 7 [.var 1,.var 2]),
  .expr (.meth (.var 0) 7 [.var 1,.var 3]),
  .set 4 (.idx (.idx (.attr (.var 0) 7) (.var 1)) (.var 2)),
  .ret (.bi .sorted [.comp (.var 5) 5 (.call 36 [.idx (.idx (.attr (.var 0) 7) (.var 1)) (.var 3)]) [.cmp (.var 5) .notin (.var 4)] sc5])] }
noncomputable def a3h:Fn:={ name:="signs",ps:=130905795754454066401114972967075207871884885032034938482397399124193602000139002099063765214893926356749077735682994842828923600805941650339451525466317745407444399026795060512436395447182239228796946820815839317189178825908436,np:=1,nl:=1,names:=["self","one"],body:=[.ret (.bi .sum [.comp (.bi .len [.meth (.attr (.var 0) 6) 6 [.var 1]]) 1 (.meth (.attr (.var 0) 6) 9 []) [] sc6])] }
noncomputable def a2n:Fn:={ name:="names",ps:=80522031719782252286882622972325127914608365523968258239716996179912116562520428166948516166322130138720125558849313435609201752807679811950973448558109959664329627677279607007748932738840422233458988524253102387807521163714757,np:=1,nl:=1,names:=["self","name"],body:=[.ret (.bi .sorted [.comp (.var 1) 1 (.attr (.var 0) 7) [.cmp (.bi .len [.idx (.attr (.var 0) 7) (.var 1)]) .gt (.int 0)] sc4])] }
noncomputable def a1F:Fn:={ name:="pieces",ps:=4305298715003827690742750447164756755553988320376391435310840135095343754840353924989156682885371475222106448959886345676716448581724978831140211613422391527881575731127890753177245123917751281101481903760346653900595486247336447476430457446919056578321562175422316159176,np:=1,nl:=1,names:=["self","one"],body:=[.ret (.comp (.tup [.var 1,.meth (.attr (.var 0) 6) 6 [.var 1],.meth (.attr (.var 0) 6) 10 [.var 1]]) 1 (.meth (.attr (.var 0) 6) 9 []) [] sc7)] }
noncomputable def a5I:Fn:={ name:="_law_cell_at",ps:=5771058361492702915999943788263230674168296305528907684683226009565468710765160875246619376406957273772556539646260673588294436475550399696943090622794243949551101677805,np:=2,nl:=2,names:=["_law_script","_law_k"],body:=[.ifs (.cmp (.var 1) .lt (.bi .len [.var 0])) [.ret (.idx (.var 0) (.var 1))] [],
  .ret (.int 0)] }
noncomputable def a3y:Fn:={ name:="is_stretch",ps:=10503868815721152494235800610669560091696509994381438648556136569213096315637073342653209700467948066490124156584881208548537858409668800886861179172729573762323335144515342085981212779,np:=3,nl:=3,names:=["start","end","length"],body:=[.ret (.and [.call 4 [.var 0],.call 4 [.var 1],.chain3 (.int 0) .le (.var 0) .le (.var 1) .le (.var 2)])] }
noncomputable def a5K:Fn:={ name:="_law_sign_by",ps:=1317087727059865946119224723967492148650001232253237891043658545842510439191837369538251076857187959987141304640045972245454564868589097408206077548011852246946971046698482059839851980338556248264947,np:=1,nl:=2,names:=["_law_cell","_law_some"],body:=[.set 1 (.str [32,33,34,35,36,38,39,40,41,42,43,44,45,46,47,48,49,50,51,52,53,54,55,56,57,58,59,60,61,62,63,64,65,66,67,68,69,70,71,72,73,74,75,76,77,78,79,80,81,82,83,84,85,86,87,88,89,90,91,92,93,94,95,96]),
  .set 1 (.bin .add (.var 1) (.str [97,98,99,100,101,102,103,104,105,106,107,108,109,110,111,112,113,114,115,116,117,118,119,120,121,122,123,124,125,126,10])),
  .ret (.idx (.var 1) (.bin .mod (.var 0) (.int 95)))] }
noncomputable def x4:Fn:={ name:="_law_text_by",ps:=24650166317267607894805946347601573940525886466092731119555394334669753858498498632253922725553880352055053253304580917623532045459823059868399748038713965039848643976995805380627417548609955454005810105594004367943215035422191210755045081479250991224981148789496049636295076099633270387090057268610818485273623481584922470213682226822345144692614266948730242274777413900121745162193405049915243662517326223340558846654129832842611526747432715993337126979361553225134728636378958508803381128297850439308202248285917128487965190961165873136201746993004717962646366417960547348607212969755453469771825666064293804542098966544685144925050114136300710115894158817115399738389381823554738456061737307686856216258816292208143569572363234436882691606280359059007712966402892309738984730990727380364372920733112612604271188029778754629611557250013858318375166685864491019076101200019620451857122004696151672334960611674455654023729906612873611265623873117180124610481811692579351431364928305789287758175104159158295160288311663840732426655151332858030100572743496788245846604794596520422099381550055786727464045810754859444662329160565887088492198116104017497173394139599180438527452312854486038466793719,np:=2,nl:=7,names:=["_law_cell","_law_size","_law_signs","_law_block","_law_got","_law_number","_law_k"],body:=[.set 2 (.idx (.list [.int 2,.int 95,.int 95,.int 1]) (.bin .mod (.var 0) (.int 4))),
  .set 3 (.var 1),
  .ifs (.cmp (.bin .mod (.var 0) (.int 4)) .eq (.int 2)) [.set 3 (.bi .min [.var 1,.bin .add (.int 1) (.bin .mod (.bin .div (.var 0) (.int 4)) (.int 50))])] [],
  .ifs (.cmp (.var 3) .eq (.int 0)) [.ret (.str [])] [],
  .set 4 (.str []),
  .set 5 (.var 0),
  .loop 6 (.bi .range [.var 3]) [.set 5 (.bin .mod (.bin .add (.bin .mul (.var 5) (.int 48271)) (.int 11)) (.int 2147483647)),
  .set 4 (.bin .add (.var 4) (.call 29 [.bin .add (.int 65) (.bin .mod (.bin .div (.var 5) (.int 7)) (.var 2))]))],
  .ret (.slice (.bin .mul (.var 4) (.bin .add (.bin .div (.var 1) (.var 3)) (.int 1))) .none (.var 1) false true)] }
noncomputable def a7U:Fn:={ name:="_law_whole",ps:=109333065961596296154133763601551004063090820201147771774607004619123791480209786896987199279019462017921430623604649147867814192297404792054562391251751153,np:=1,nl:=1,names:=["_law_got"],body:=[.ret (.and [.inst (.var 0) .int,.not (.inst (.var 0) .bool)])] }
noncomputable def a1C:Fn:={ name:="change",ps:=3559395763321203874093527755384181687177108743121174206944088352061717043164711274941015090521713152189071260428219994308883897327421977901533248120076298288210415860725257384961153534419773311095484847091487856721890095386837354036594556114687043241760756577663680091091239455422813145440700984559921333020009235064006729707007576756644133733390544444386330972499554298309676177033732795739200248839947687229162311626566866002100476242667759721195368653030487181183477718337440010689924999984645495373679579544593593705603227477332275853432437671882689060106113096198279484283223969150950582941297315718942149177170649173286598313558248160537535673119437508103121455094362643925019491156678977519381364397532750057978192366221731083265838576087851319905077162953892684399545819945698091921720880455144165001645779296883711930723572290867061805967268508306611529394181515456036174766511532438432435311112498970351584058445642682651216173970681714497820265431466244658439620403369,np:=6,nl:=9,names:=["self","name","number","start","end","text","old","before","found"],body:=[.expr (.meth (.var 0) 3 [.var 1]),
  .expr (.meth (.var 0) 7 [.var 1,.var 2]),
  .set 6 (.meth (.var 0) 8 [.var 1,.var 2]),
  .ifs (.not (.call 28 [.var 3,.var 4,.bi .len [.var 6]])) [.raise 4 [110,111,32,115,116,114,101,116,99,104]] [],
  .expr (.meth (.var 0) 4 [.var 5]),
  .set 7 (.attr (.attr (.var 0) 6) 3),
  .set 8 (.meth (.var 0) 5 [.var 1,.bin .add (.bin .add (.slice (.var 6) .none (.var 3) false true) (.var 5)) (.slice (.var 6) (.var 4) .none true false)]),
  .ret (.tup [.var 8,.bin .sub (.attr (.attr (.var 0) 6) 3) (.var 7)])] }
noncomputable def a1E:Fn:={ name:="joined",ps:=36820658830215833444115276155850437648010567835199906298633142893138430448383318185475060173921830035151220165389784944056445592423128371499794923283065699946309275387704083895818914976502177947273343725502370063741747929698464704727923826868,np:=3,nl:=3,names:=["self","name","number","one"],body:=[.ret (.bm .join (.str []) [.comp (.meth (.attr (.var 0) 6) 6 [.var 3]) 3 (.idx (.idx (.attr (.var 0) 7) (.var 1)) (.var 2)) [] sc7])] }
noncomputable def a3A:Fn:={ name:="text",ps:=32657206932228192525397979092470310377982767278552254896413949435758858447312040243218573042199655938903340600333686513851925195331661627582768495309793225147820552471387642694597368891675463297138083806177490940975755966198723911075155681463,np:=3,nl:=3,names:=["self","name","number"],body:=[.expr (.meth (.var 0) 3 [.var 1]),
  .expr (.meth (.var 0) 7 [.var 1,.var 2]),
  .ret (.meth (.var 0) 8 [.var 1,.var 2])] }
noncomputable def a5D:Fn:={ name:="row",ps:=8724111422259675255400899362116960993064844626229574698524137905089475668118264404981715186284285935146230748017857374316199869225739350645218440546187710041444466482797592039171010727014479076703589610733787118156621171760715496665682219847645153871274172,np:=3,nl:=3,names:=["self","name","number"],body:=[.expr (.meth (.var 0) 3 [.var 1]),
  .expr (.meth (.var 0) 7 [.var 1,.var 2]),
  .ret (.idx (.idx (.attr (.var 0) 7) (.var 1)) (.var 2))] }
noncomputable def a0f:Fn:={ name:="each_once",ps:=222076685841412329144355754613458682277247509451559635283177464566451841099971176430726900438376968755912647576517660307814698737042379580807501633684214028079604428202772417151163242391801595795490686660128542829,np:=1,nl:=3,names:=["row","found","number"],body:=[.set 1 (.dict []),
  .loop 2 (.var 0) [.setItem (.var 1) (.var 2) (.bool true)],
  .ret (.bi .list [.var 1])] }
noncomputable def a3x:Fn:={ name:="_law_width_by",ps:=525630222705475875157887809249917695199550520389715953551697887119144032613729980349238771120563447781529695712938292141163964834780191729314307539489323640941164237492062138317710845776115642665417806363698468847933125654316302657290817187112032205306240714709464319950956770598326555,np:=1,nl:=1,names:=["_law_cell"],body:=[.ifs (.cmp (.bin .mod (.bin .div (.var 0) (.int 8)) (.int 3)) .eq (.int 0)) [.ret (.bin .add (.int 1) (.bin .mod (.var 0) (.int 8)))] [],
  .ret (.bin .add (.int 1) (.bin .mod (.var 0) (.int 2)))] }
noncomputable def a3v:Fn:={ name:="_law_reach_by",ps:=49013834460795895021719099781450730680350212973643079287110034847299902858015048881040487613020175629540165444108448762796268608044745158479985339431459294328623691956546355790570275675425239603067753659592354298915810950527298631275001307483915551669082029217857748933086523688231951347524120459392037989954621727,np:=1,nl:=1,names:=["_law_cell"],body:=[.ifs (.cmp (.bin .mod (.var 0) (.int 9)) .eq (.int 8)) [.ret (.bin .add (.int 1) (.bin .mod (.bin .div (.var 0) (.int 9)) (.int 40)))] [],
  .ret (.bin .add (.int 1) (.bin .mod (.bin .div (.var 0) (.int 9)) (.int 5)))] }
noncomputable def M6:Fn:={ name:="_law_names_by",ps:=6688568387586833204170805320975134803698541890507881012687079340555010177980186225703282507795228744245787119358827070825023715844199050288859286826971496688555183498986332235175273347648899394458379220798938504330024706725650672188820581267454777797036925263257547722261672202395717758363247288901301901589105369340351064112474484190418223511818210371017137843115644787672413617533039693477029625785299945254046011456704048600086338431949730459530792614046536133481590582997168725378218937012085880402460177351385146206730311408878929594162855367519966688375743253307659241972513705651022208947267695757169098023743178746797164496354868487702741218038818437232865203865403335841321700161095057607527660377878802344635677701806804546072337953426074313490619122936382130046776525991608895819829135067101615994069722466447260438594615430478299701090005100836748461500790664427131214922735484982896709587885667565817049679344772095666520936815389476244625965781441253885580479987123323909261153150160093377537831945620600111541250400502109360844502907052992006240078722199217677917741440540342437216000075513170037563842174420786453755425419333794227798460312504188576302256757571769171062153608696705814895046058688054048515787653483687545813701560432725096624792011499103557839101960959073934639170649019621887195882357630973687569749942244087412691501452517826461352411335786726337764375080010389640161232596887573995812464907854017072955687039670344495500764793193857142487926252905174161540416890865161482277862431357036660858840365223089381995229697020558503666025275046651402019027244130005800207782631924561764017494888774920594493831424019343176882356544362494096278150791759925539,np:=1,nl:=8,names:=["_law_cell","_law_letters","_law_size","_law_word_here","_law_number","_law_k","_law_spot","_law_ends","_law_k","_law_k"],body:=[.set 1 (.str [97,98,99,100,101,102,103,104,105,106,107,108,109,110,111,112,113,114,115,116,117,118,119,120,121,122]),
  .set 2 (.bin .add (.int 1) (.bin .mod (.var 0) (.int 12))),
  .set 3 (.str []),
  .set 4 (.var 0),
  .loop 5 (.bi .range [.var 2]) [.set 4 (.bin .mod (.bin .add (.bin .mul (.var 4) (.int 48271)) (.int 11)) (.int 2147483647)),
  .set 3 (.bin .add (.var 3) (.idx (.var 1) (.bin .mod (.bin .div (.var 4) (.int 7)) (.int 26))))],
  .ifs (.cmp (.bin .mod (.bin .div (.var 0) (.int 12)) (.int 3)) .eq (.int 2)) [.ret (.comp (.bin .mul (.slice (.var 3) .none (.int 1) false true) (.bin .add (.int 1) (.bin .mod (.bin .add (.var 8) (.bin .div (.var 0) (.int 36))) (.int 12)))) 8 (.bi .range [.int 7]) [] sc8)] [],
  .set 6 (.bin .mod (.bin .div (.var 0) (.int 36)) (.var 2)),
  .set 7 (.list [.slice (.var 3) .none (.var 6) false true,.slice (.var 3) (.bin .add (.var 6) (.int 1)) .none true false]),
  .ret (.comp (.bin .add (.bin .add (.idx (.var 7) (.int 0)) (.idx (.var 1) (.bin .mod (.bin .add (.bin .div (.var 0) (.int 500)) (.bin .mul (.int 7) (.var 9))) (.int 26)))) (.idx (.var 7) (.int 1))) 9 (.bi .range [.int 7]) [] sc9)] }
noncomputable def b0s:Fn:={ name:="_law_call",ps:=317861674250819934317339551702951125436463554620168244582728262785995854040941697793734624376157401752370701031921789047765497341561666235433212909609883993002277654574604814496160006082616478473139399287911373469340585512817826068246005002842135927873281646314303903616595351444889438447300601449030433122000976219137291887914373316902530701894509295018717067396436815652707666712010949023384044540757817195895640359956362610624238405086387529995813741160357058955611225963103123900815443936134628014770636903206412939480783368098436960730043180762153148005517573473359262832045195078685574383024996669304085010564741745665439206249171988947628211661393462871767302560416924343851671643430488357434809512455351858890868836928216760179427344507729905539361451965960734351932718565379996153113083508967363390583924479159481050575110439498844651676441602223769680203139752341894034474832578992304994165227354880898553913783994161285580630002889431096749710477332769754394641934830731309899784521233541226459720480394937636761707211663675195390667977426940089289621587876539109804949073188485689241243753063268462964927693630795784734394605641593110434174940150496799447180134450432176971772228531029424823578241258174479264684347939233035646937622322835915891848996985563856471962740397064942532925605473608767921489008524754335782696071172411565504975170899147007250844594679969757601972968503855796957264629976356465449905110076090267740268163598914489711629625096938088190685006973862154614470075905817371429892250980345730265770766345279845620681417912502141413083574806366098495091960112345770728361720277888125050694938678092695070663485531368500811768834044184303785661810338251200221347021123177056068795503045605336287257238247022019978766474011275129924837574723287079260512203306127991846648966508458030282618462285958556065791265870248867347346972954910090328467337051267717033006657997945538960553384406468349280429990472165265912035011987951838143290089882637392441422820772937660650255322614489301622658536087693389223379952998405893441006425489336352463563797362582052820863302473680902810795909459236542890196007580536969424443070937380396742339923742610091575031694875052761970455907264155131691903990601112293919565233440065777523058935065899004435485635664116963292172499196750900621258993740009691034699864589239351632111183630655971588381474543915282391926155608489306100507751635693758505207628164657946290078007201501308488720715598997106395565703019218515166135749290770351396715054735389962523839215685483445394611430347735604226936731038626106367223781726865399805879246753475682813308408604529091360287775021186007560772982576572827352276242232400773486978096838026731542311290514374128022483403981383259706641879363,np:=4,nl:=7,names:=["_law_shelf","_law_way","_law_name","_law_size","_law_odd","_law_sizes","_law_bad"],body:=[.ifs (.cmp (.var 1) .lt (.int 6)) [.set 4 (.idx (.list [.bool true,.str [49],.none]) (.bin .mod (.bin .div (.var 3) (.int 2)) (.int 3))),
  .set 5 (.list [.tup [.int 0,.int 1],.tup [.int 9,.int 1],.tup [.int 1,.int 0],.tup [.int 1,.int 41],.tup [.var 4,.int 1],.tup [.int 1,.var 4]]),
  .ret (.new 1 [.idx (.idx (.var 5) (.var 1)) (.int 0),.idx (.idx (.var 5) (.var 1)) (.int 1)])] [],
  .ifs (.cmp (.var 1) .lt (.int 14)) [.set 6 (.list [.str [],.str [65],.bin .mul (.str [97]) (.int 13),.str [97,32,98],.str [97,49],.int 5,.none,.str [97,10]]),
  .ret (.meth (.var 0) 11 [.idx (.var 6) (.bin .sub (.var 1) (.int 6)),.idx (.list [.int 5,.str [103,111,111,100]]) (.bin .mod (.var 1) (.int 2))])] [],
  .ifs (.cmp (.var 1) .eq (.int 14)) [.ret (.meth (.var 0) 11 [.var 2,.str [97,9,98]])] [],
  .ifs (.cmp (.var 1) .eq (.int 15)) [.ret (.meth (.var 0) 11 [.var 2,.idx (.list [.int 5,.none,.bool true,.list [.str [97]]]) (.bin .mod (.var 3) (.int 4))])] [],
  .ifs (.cmp (.var 1) .eq (.int 16)) [.ret (.meth (.var 0) 11 [.var 2,.bin .mul (.str [97]) (.int 3001)])] [],
  .ifs (.cmp (.var 1) .eq (.int 17)) [.ret (.meth (.var 0) 11 [.var 2,.bin .mul (.str [9]) (.int 3001)])] [],
  .ifs (.cmp (.var 1) .eq (.int 18)) [.ret (.meth (.var 0) 20 [.var 2,.int 1,.var 3,.var 3,.bin .mul (.str [97]) (.bin .sub (.int 3001) (.var 3))])] [],
  .ifs (.cmp (.var 1) .eq (.int 19)) [.ret (.meth (.var 0) 20 [.var 2,.int 1,.bin .add (.var 3) (.int 1),.var 3,.str [97,9,98]])] [],
  .ifs (.cmp (.var 1) .eq (.int 20)) [.ret (.meth (.var 0) 20 [.var 2,.int 1,.int 0,.bin .add (.var 3) (.int 1),.str [97]])] [],
  .ret (.call 49 [.var 0,.var 1,.var 2,.var 3])] }
noncomputable def a7o:Fn:={ name:="_law_answer",ps:=101863473496872639920437954968270100692014239205841786292648711217792717281032104514463947370866420152169305848113203343646351280629077677625257852120807289976646532408819026008564490178538361197568367872921167831747798577451414,np:=4,nl:=5,names:=["_law_shelf","_law_way","_law_name","_law_size","_law_e"],body:=[.ret (.tup [.str [116,111,108,100],.call 40 [.var 0,.var 1,.var 2,.var 3]])],hdl:=some (0,4,(.call 44 [.var 4])) }
noncomputable def a3C:Fn:={ name:="free",ps:=64462702493697933565151272397019090912855980325528151912731963222522695188008354571330523797861806625994075146709800071784244921182174253044366747234460917176143829957216895267877980996956955690293938441190691847139837582553984664231727315914319557306142045916075507737508072829846560133560751994307500064441349476525203797320966692287060489357872584378394725295002287167748795221956963746823157204931063800818306077237243251915994928979396906590438786387363282753697402095437787601258982422346624841298867431368966738928487672966133961288093634553797692510928749351407779564955871609170544754404631567167329305541729312723271746455413076240556408469882111433673523576615305277148129620157608748868706387,np:=2,nl:=2,names:=["self","number"],body:=[.ifs (.not (.meth (.var 0) 0 [.var 1])) [.raise 3 [110,111,32,115,117,99,104,32,112,105,101,99,101]] [],
  .setItem (.attr (.var 0) 1) (.var 1) (.bin .sub (.idx (.attr (.var 0) 1) (.var 1)) (.int 1)),
  .ifs (.cmp (.idx (.attr (.var 0) 1) (.var 1)) .eq (.int 0)) [.expr (.bm .pop (.attr (.var 0) 2) [.idx (.attr (.var 0) 0) (.var 1)]),
  .expr (.bm .pop (.attr (.var 0) 0) [.var 1]),
  .expr (.bm .pop (.attr (.var 0) 1) [.var 1])] []] }
noncomputable def L9:Fn:={ name:="drop",ps:=508968877145376367329049447042909821115095563187953507239854787355358402889844503017730611088237869270098073845825804489902858927837543653339878670415466922793700086240832890489209981468194293772446902879263876810656325901924469452394858468550887640221922360189882162875091343688027363140282499734198231273866742053869594668943769765796683971042434125893389551418002694821963546637526504678254558506893314506216395211493376826076546244702904482,np:=3,nl:=5,names:=["self","name","number","row","one"],body:=[.expr (.meth (.var 0) 3 [.var 1]),
  .expr (.meth (.var 0) 7 [.var 1,.var 2]),
  .set 3 (.bm .pop (.idx (.attr (.var 0) 7) (.var 1)) [.var 2]),
  .loop 4 (.call 36 [.var 3]) [.expr (.meth (.attr (.var 0) 6) 16 [.var 4])]] }
noncomputable def a4X:Fn:={ name:="_law_word_of",ps:=60258148482176808749401034381423235367922887900254066248619820737499976559055269230956376534401137417460562049818794168134116471615156749552482513794276006135910619911956800492215049948619619783316471930178722251719867010278947793641502065826698099870374087028907488613544344664187484235147818164413528841343924737260871021141703047210655611417638541390528231140486061805497159426142408171938927882066237546324203614722650464101258788146516488065044593363610360291374606447397771147991329046597887827262511711151530667430897234673548111708931006734190418977746989373813893365320181031845673496605287481132876577444594676005290730648959466646584491580990424437156594510437399821130886128293238269681512970976431180346290306944173185734660608114168971450743120364741500227773970438196174381837366640197357871984006029072265720036304755601599875972309102006455730819532746364808463578965997327467744139131907941489406273539205291927205662374082014238031922386548692474143118451263406083023195781986469699138201476841349495220898473152541904411719241206314210333345036210861097291189952191677652330626542805895075446599159657426554149247028296227191553181269084684841347409614828524849827824589764560268051174666662295161141635575908516154248463727204892452452718168268599878441214183649446817055336338303063130774340739993663919518937063100720,np:=1,nl:=2,names:=["_law_e","_law_words"],body:=[.set 1 (.list []),
  .ifs (.instX (.var 0) (some 1)) [.expr (.bm .append (.var 1) [.str [110,111,32,115,105,122,101]])] [],
  .ifs (.instX (.var 0) (some 2)) [.expr (.bm .append (.var 1) [.str [110,111,32,110,97,109,101]])] [],
  .ifs (.instX (.var 0) (some 3)) [.expr (.bm .append (.var 1) [.str [110,111,116,32,116,104,101,114,101]])] [],
  .ifs (.instX (.var 0) (some 4)) [.expr (.bm .append (.var 1) [.str [110,111,32,112,108,97,99,101]])] [],
  .ifs (.instX (.var 0) (some 5)) [.expr (.bm .append (.var 1) [.str [110,111,32,116,101,120,116]])] [],
  .ifs (.instX (.var 0) (some 6)) [.expr (.bm .append (.var 1) [.str [116,111,111,32,108,111,110,103]])] [],
  .ifs (.instX (.var 0) (some 7)) [.expr (.bm .append (.var 1) [.str [116,111,111,32,109,97,110,121]])] [],
  .ifs (.instX (.var 0) (some 8)) [.expr (.bm .append (.var 1) [.str [110,111,32,110,111,116,101]])] [],
  .ret (.tup [.bm .join (.str []) [.var 1],.instX (.var 0) none])] }
noncomputable def Y0:Fn:={ name:="_law_alike",ps:=2560137908755571988895842637276599006205807580638936344925504528988637102958508430205193618477414466942462130915552652075922614657956571920971848567202196419003356054361399253568463539175666492291454987398444819704381166096380985886806425836498925869551588525812706794654399474853797506727687595086060458592759414791563150589479821063051291438143091583703585319560781302937117974263129987417465098370740362962334041619358832603636106086960461672942525633152366821743461080293457067712504830847109657818615221886528753570522096307512986852262838118763693815145042194944058291480675550157756256687827291861840794502504401339508384124110507617405438293164343867276731831722774901467527894143059745380531250161494115802155249750758064133514029314873971268435389393033163751562021723110099448292225843870884905346472671958941005093450127503565236583521667196152636440233300212218187365351727359849001893656250629937692924161243312289379971439343879063827227299795431947701346015861245836950924150462267265050586992031495139351852254539864616439439443769513524048327827966006232346149593251056145567908751183462392518055011811896794164844232149672090125598888465231679091630612288193698172813920424026586774762103049209859809555931135563858513599128964063865316995470808792289427842495294749281666620361022777777972418674249769765517790175870773214730442232684941386969474050630371976596695499638092789059791619687472028333265122697195800066789636,np:=2,nl:=3,names:=["_law_got","_law_due","_law_k"],body:=[.ifs (.isNone (.var 1)) [.ret (.isNone (.var 0))] [],
  .ifs (.isTrue (.var 1)) [.ret (.isTrue (.var 0))] [],
  .ifs (.inst (.var 1) .str) [.ret (.and [.inst (.var 0) .str,.cmp (.var 0) .eq (.var 1)])] [],
  .ifs (.inst (.var 1) .int) [.ret (.and [.call 31 [.var 0],.cmp (.var 0) .eq (.var 1)])] [],
  .ifs (.and [.inst (.var 1) .tup,.not (.inst (.var 0) .tup)]) [.ret (.bool false)] [],
  .ifs (.and [.inst (.var 1) .list,.not (.inst (.var 0) .list)]) [.ret (.bool false)] [],
  .ifs (.cmp (.bi .len [.var 0]) .ne (.bi .len [.var 1])) [.ret (.bool false)] [],
  .loop 2 (.bi .range [.bi .len [.var 1]]) [.ifs (.not (.call 45 [.idx (.var 0) (.var 2),.idx (.var 1) (.var 2)])) [.ret (.bool false)] []],
  .ret (.bool true)] }
noncomputable def b1w:Fn:={ name:="hidden",ps:=340684439870432102575651809092571551682496709488813268778030819991054460176775188874279559698311922235284776869724146577621595213740244996318,np:=1,nl:=1,names:=["told"],body:=[.ret (.repl (.repl (.var 0) 92 [92,92]) 10 [92,110])] }
noncomputable def u2:Fn:={ name:="written",ps:=175461911137927723422356848130114572596448490267308533025896658661210352387924576252867116553064647486800583053146911678100200881333567165145644463751051526694051733121752479630592021159704012986493086803253848214742035757365649477747422899331407010797569720277454677823287575042275983107584494668759687694407545156422571256066089353804773808473547351266365754958641144320236907077769916632126880956061453295527502114384851911638457895869222537230075022545950906292535476535677393335431518214644050529127379172156160921349111004357898601547689207448628210737603185237279792801721038322452049441943527810155979308210869559304374578509814447149313975837755973758467677265967279788702864073883297820434380408367649373965385797031649967301368925565417414770125055650467313381234630519103316377472331974074390791605777990552741184585642286694383147306183181560002005770277482764342911635523432426366221044166658020683981281034645869792210292652302356962475835796302680816196844147718290232139758405704728435141267090505407293753461317394213059346357633781279494451917570290279750642261874065371272856290117702736828869154328553527340940967723514142523250290760637364668269750645388897864393444612576969059998551501862882655927082938322134360673631877189223982400553939819995895740360501656537765265902091534158295895541491778339326904506136616069155770018270871811454352637826378283446094962716215293781071479791801309167056509193089554449439427040784277556771922497233001355795574351016592512748562520759480594948292907333711913294531336839547799234178132166862393061097222236761316297424714069026842760757016971817621751635884756181055578645056017785153504996447432821655836408012042687942703267862553874410970934153440,np:=1,nl:=6,names:=["shelf","stock","rows","number","name","told","one","row"],body:=[.set 1 (.attr (.var 0) 6),
  .set 2 (.list [.bm .join (.str [32]) [.list [.str [115,104,101,108,102],.bi .str [.attr (.var 0) 4],.bi .str [.attr (.var 0) 5],.bi .str [.attr (.var 1) 3]]]]),
  .loop 3 (.meth (.var 1) 9 []) [.expr (.bm .append (.var 2) [.bin .add (.bin .add (.bin .add (.str [112,105,101,99,101,32]) (.bi .str [.var 3])) (.str [32])) (.call 46 [.meth (.var 1) 6 [.var 3]])])],
  .loop 4 (.bi .sorted [.bi .list [.attr (.var 0) 8]]) [.expr (.bm .append (.var 2) [.bin .add (.bin .add (.bin .add (.str [119,111,114,107,32]) (.var 4)) (.str [32])) (.bi .str [.idx (.attr (.var 0) 8) (.var 4)])])],
  .loop 4 (.meth (.var 0) 14 []) [.loop 3 (.meth (.var 0) 17 [.var 4]) [.set 5 (.comp (.bi .str [.var 6]) 6 (.meth (.var 0) 13 [.var 4,.var 3]) [] b9e),
  .expr (.bm .append (.var 2) [.bm .join (.str [32]) [.bin .add (.list [.str [118,101,114,115,105,111,110],.var 4,.bi .str [.var 3]]) (.var 5)]])]],
  .ret (.bm .join (.str []) [.comp (.bin .add (.var 7) (.str [10])) 7 (.var 2) [] b9b])] }
noncomputable def a2K:Fn:={ name:="_law_last_call",ps:=2502632956169617397440925287004012506504987597411417363737951715025378518931439786334077350705640689384649146712574584191398350405915897364246111919472485612374115038970427864170834772557634578548326804570872916601327325408332067134216229399151122169008798722602689659983840391217161415129918338548522839499606224698905027715461529858226418654909388036256268520133517384837279320920710095426895047333372324088389403085699130472072054426782943255591020315824353271409438073296736921063716433376645189168597076481874778703856445072372583501338360975168557264126900462465972507156889936010826433885527166532949226734751149424179597199049755129911798623340831266933379625697582024141311419587693681865734142613462225623830411797467076950401291276806265511213456820264379871659236727350701426262042104620755578309316650047882118960753748223474126682607110436626220755423889782047555908665973615504571482330158838590835422291724084726382799380452099427808412090435428944810519976783540183276461554556964620311222539150241122163683833360335737630538569724686542640801928381164632639866560079611855444638916393346808285687397398423718600874622460659421458408941601902607165505244864678518943482612735662222550060567183864011593339436617147328640123041762616496155423605392870587386039297515874525363198170207374345322858149859715890161901093819267666351299116141182844886708210300670710706302868647495156904942087562137729383890735926420801741158514732432248611279932326540900144191425139399179639142805956561581103274138546515898462203997471642459643224896933078259547095816635740702942191685246575250103294790181080535386,np:=4,nl:=5,names:=["_law_shelf","_law_way","_law_name","_law_size","_law_bad"],body:=[.ifs (.cmp (.var 1) .isin (.list [.int 34,.int 35,.int 36,.int 37])) [.set 4 (.idx (.list [.str [65],.int 5,.str [],.str [97,32,98],.bin .mul (.str [97]) (.int 13)]) (.bin .mod (.var 3) (.int 5))),
  .ifs (.cmp (.var 1) .eq (.int 34)) [.ret (.meth (.var 0) 12 [.var 4,.int 1])] [],
  .ifs (.cmp (.var 1) .eq (.int 35)) [.ret (.meth (.var 0) 13 [.var 4,.int 1])] [],
  .ifs (.cmp (.var 1) .eq (.int 36)) [.ret (.meth (.var 0) 21 [.var 4,.int 1])] [],
  .ret (.meth (.var 0) 18 [.var 4,.int 1,.int 1])] [],
  .ifs (.cmp (.var 1) .eq (.int 38)) [.ret (.meth (.var 0) 13 [.var 2,.bool true])] [],
  .ifs (.cmp (.var 1) .eq (.int 39)) [.ret (.meth (.var 0) 21 [.var 2,.bool true])] [],
  .ifs (.cmp (.var 1) .eq (.int 40)) [.ret (.meth (.var 0) 20 [.var 2,.bool true,.int 0,.int 0,.str [97]])] [],
  .ifs (.cmp (.var 1) .eq (.int 41)) [.ret (.meth (.var 0) 18 [.var 2,.bool true,.int 1])] [],
  .ret (.meth (.var 0) 20 [.var 2,.var 3,.int 0,.int 0,.str [97]])] }
noncomputable def a3F:Fn:={ name:="_law_far_call",ps:=324702231562874929752082946627466534053035308660247203899200928500839608334684639712766996611123753314435742853420813735501381361859166900781443473667176263912136028053142658131922287032438794822962674040436126207858992194922292242749956284160042289355035477786986732364381891264739569314199645106547345180699242803570737726225588594957580519762078239552865486141123638674726999579788354812977549429602935468679787825589779469734114419601182309279764765756310135977022442801967665138870600845132225709370656830973270891617865694999220646694002175065837714727748189715326089641755687032521953950660617720077442897290660100744845620275697539689854381611830214316745914745657875378798236419852145763876891786447913824291010738742472590282035944445533602378503813037670284565700449260732669484986036602521723564022897691012775518960907005334426695111442518995832415918615227369012352201846718264623643326860298498220616829538460694804681689192841384185793452148329999394426243024132225940656672306942199720950835398151517431439880050559225813487484768639767857432538154454055151194549028248765611355246847845243038713356377917893405135399890269648274978779590583761301952858128757897650158082440538986703208931173863472543468157631468801578535589133945119071625113594084106282789866173811670874998281253463558600958466901849786571763195959596015610709337936726463450564562704170349864431647949992513473994734020214828176085965123164157143844452159804654577650213785475794591763704585457299637550205964602307667725262708089660331425884975107519903858749639223221984364897351260413321104508802329132866516136359577579713475574096721772887104593016564210395735256058331258605150971871498641991996795381185912236475555152346502213966187207666664168627950785600851067352933060887042323944289777362893618607496438588346843598179417868243913359598098960428411292616478468692396970619977759870423552179104332914735069053026006995726027296102277671736204100880577063532659824694595865145611507286724636035636581143984285502436031344268895439534119051341033541301328504417260452793411994398075377450716307885539745433607016890744574459550553405033073655225454898698437844223702757604941749977198806782441388610028845082670461758678040619956786313491397704147398184919750889844246120543747447592208488959682161445719102651714232461739926399807988491917888362562029273037500659860324857823167704624388847989932680586118760859282547765108694758698798265374255488006327365135213973405552642664333257912473075140157358464158879609985983070717701227631283190511809263228121001519449469381028670955243202503943457077891568709995270134325736575759343169667275830576126487529749850040549622190194691315666836779402576180779987611263713224095369188692298666160201917321313762659560170295260947908666780816558795768452162969946176188382038690261041060038369570671166013461523842108051616524167877749274163194770628880679323195128739620748007311473209199875676004019078404429262930886655501304050892764906582949377992575165672206934570695202386126423618006053255700774118757580376881502798923284289023369336837855341830252989269848407415333993882483963884630663848119897841723686817723806364892660829426055262107487694842894062491201548413618346971946067579320217610684355813774897872017237168210220840911243194667373,np:=4,nl:=5,names:=["_law_shelf","_law_way","_law_name","_law_size","_law_start"],body:=[.ifs (.cmp (.var 1) .gt (.int 33)) [.ret (.call 48 [.var 0,.var 1,.var 2,.var 3])] [],
  .ifs (.cmp (.var 1) .eq (.int 21)) [.ret (.meth (.var 0) 20 [.var 2,.int 1,.neg 1,.int 0,.str [97]])] [],
  .ifs (.cmp (.var 1) .eq (.int 22)) [.set 4 (.idx (.list [.bool true,.str [48],.none,.int 0]) (.bin .mod (.var 3) (.int 4))),
  .ret (.meth (.var 0) 20 [.var 2,.int 1,.var 4,.idx (.list [.var 3,.var 3,.var 3,.bool true]) (.bin .mod (.var 3) (.int 4)),.str [97]])] [],
  .ifs (.cmp (.var 1) .eq (.int 23)) [.ret (.meth (.var 0) 20 [.var 2,.int 1,.int 0,.int 0,.bin .add (.str [97,9]) (.bin .mul (.str [98]) (.int 3000))])] [],
  .ifs (.cmp (.var 1) .eq (.int 24)) [.ret (.meth (.var 0) 20 [.var 2,.int 999,.int 5,.int 4,.str [97]])] [],
  .ifs (.cmp (.var 1) .eq (.int 25)) [.ret (.meth (.var 0) 20 [.str [65],.int 999,.int 0,.int 0,.str [97]])] [],
  .ifs (.cmp (.var 1) .eq (.int 26)) [.ret (.meth (.var 0) 12 [.var 2,.idx (.list [.int 0,.int 999,.bool true,.str [49],.none]) (.bin .mod (.var 3) (.int 5))])] [],
  .ifs (.cmp (.var 1) .eq (.int 27)) [.ret (.meth (.var 0) 13 [.var 2,.int 999])] [],
  .ifs (.cmp (.var 1) .eq (.int 28)) [.ret (.meth (.var 0) 21 [.var 2,.idx (.list [.int 0,.int 999,.neg 1]) (.bin .mod (.var 3) (.int 3))])] [],
  .ifs (.cmp (.var 1) .eq (.int 33)) [.ret (.meth (.var 0) 12 [.var 2,.var 3])] [],
  .ifs (.cmp (.var 1) .eq (.int 31)) [.ret (.meth (.var 0) 20 [.var 2,.int 1,.bi .max [.int 1,.var 3],.int 0,.str [97]])] [],
  .ifs (.cmp (.var 1) .eq (.int 32)) [.ret (.meth (.var 0) 20 [.var 2,.int 1,.int 0,.int 0,.idx (.list [.int 5,.none,.bool true]) (.bin .mod (.var 3) (.int 3))])] [],
  .ifs (.cmp (.var 1) .eq (.int 29)) [.ret (.meth (.var 0) 18 [.var 2,.idx (.list [.int 1,.int 999]) (.bin .mod (.var 3) (.int 2)),.idx (.list [.int 999,.int 1]) (.bin .mod (.var 3) (.int 2))])] [],
  .ret (.meth (.var 0) 17 [.idx (.list [.str [],.str [65],.int 7]) (.bin .mod (.var 3) (.int 3))])] }
noncomputable def b1v:Fn:={ name:="_law_word",ps:=79491600520772040403344996763141328019335809117299444705351537202868792368039935987761782288948670577259483044872684220831609374014790536723772059344967481920025802914176180077658640233955190538528322470913064187102847705535292018661313695720384117659685168484826613504950753464628992613589830837880273937594236519231154027922607649920671546743387959407909904995539589199357595855702583592365240889516441540475396800849381219457408490448180613055499825850009087309011179310100410601325653545001804232100918555353400600256288106146415408430216061105286604905534103652056100339993937359484019000387556286939660927811420907114015076603042279144044890001055051863647817071326162957281085730522598192793838295180660278069106158684516008883020869255069108409416507479731128472441226,np:=1,nl:=1,names:=["_law_way"],body:=[.ifs (.cmp (.var 0) .lt (.int 6)) [.ret (.str [110,111,32,115,105,122,101])] [],
  .ifs (.or [.cmp (.var 0) .lt (.int 14),.cmp (.var 0) .isin (.list [.int 25,.int 30,.int 34,.int 35,.int 36,.int 37])]) [.ret (.str [110,111,32,110,97,109,101])] [],
  .ifs (.cmp (.var 0) .isin (.list [.int 14,.int 15,.int 17,.int 23,.int 32])) [.ret (.str [110,111,32,116,101,120,116])] [],
  .ifs (.cmp (.var 0) .isin (.list [.int 16,.int 18])) [.ret (.str [116,111,111,32,108,111,110,103])] [],
  .ifs (.cmp (.var 0) .isin (.list [.int 19,.int 20,.int 21,.int 22,.int 31])) [.ret (.str [110,111,32,112,108,97,99,101])] [],
  .ret (.str [110,111,116,32,116,104,101,114,101])] }
noncomputable def b1D:Fn:={ name:="_law_many",ps:=361943124275112948001623477766523820166003806453679990881720417445363234741134478858627283732993668975320665354621712113973090043870333030291460516823902780035723747870448802056821059959711988243277828048450228635,np:=3,nl:=4,names:=["_law_shelf","_law_name","_law_due","_law_e"],body:=[.ret (.tup [.str [116,111,108,100],.meth (.var 0) 11 [.var 1,.var 2]])],hdl:=some (0,3,(.call 44 [.var 3])) }
noncomputable def b0m:Fn:={ name:="_law_held",ps:=1087863730412540040717371324229775066876540527485318898615414126770969883202333873428918997574744676829175766799148479530259573330604740688535508748557484581043897737512625488193800593075159280553419501275013190048,np:=2,nl:=2,names:=["_law_shelf","_law_name"],body:=[.ret (.tup [.meth (.var 0) 15 [],.meth (.var 0) 14 [],.meth (.var 0) 17 [.var 1],.call 47 [.var 0]])] }
noncomputable def q9:Fn:={ name:="law",ps:=85112732110163187682239904100361361675262369869100114922233185605739633250694124705935188299265147036293653623722688156948885667091097561036421480202873449557346900196296553414790080469266555487448743937498406068300910374883025113748447518734584387074290840579267652838338879603412564141545609935090917984987860949771818835748102991287145983421184218561497973175218520389132302651812221016787818107848306371259380633080182411344242557579442389779090260365324190983651401687483482386161823566041131632924844576499354617509835429118465370571867514132277764892136985297670387650529927064153017441595495944704675126904580528258541927506949279126474609525724776754973718423832791805829692112706794715473750750114150504056815411887191645751442208144804725661451767682431497539924611802600478136865052013560116742395889286338280010144115123906694667278703397837370119505661567207727265878655495020512456121593570445000680414581811735087918522422967367030575224838411986036334018110399977735559846483871223311383454503658802333749780805017317761150150621312004045072017987951685929873379687558384922446889819030325598224325763659319981877268590370687898641666111856482165318446483745623228569807124371234931189495258055699659475364197510716741856585947402682595566370779812941850102238595109972363134839331264582863978134566751151607345887781963327766106574455387442187241486454132127446831226070409292275887116301074959990015888894173070779597268429419144276439080523609036296974594700979917319765725803353806068682274166987636862865633084563953829213304882634733270214767176398640410279894878373939739244366287211807610936898773931798634090035883845622877251599570387063959656764593041787093520432846633113174081011288498826726689120168557373103903601627399161688190726328790414148009751775297829312473454037589800414483104405803385581820603310835383747383373868076174832983966416763789966352662320588533075225106960350890289472347220536571216744520531001218992400237534342131607200079842300944813283305777256475415355433980040235721641451722392145134569036560518087535452548972270479496499550513342529767734336948576959370193100934777241379541978058869905684360060159550761074152611893906997571869341133342945749530518315420245670734912045398314729083179774313928353826720603393418539652141961700362619320466512894615767726952245863150057374197181115490663610915046931610919247595635652914119454683101024498065796950584352821236682359064898961880315433791686045459933713598151756630881980190391083712585208324849986913239289906455512193930230017919533922815843537705527190137319091687239388068894283131509529137365384512637546279864899313363878244680628082167741289760345242484118374381904951117050299774283750962373853333732351429120726869845442217004676459922832083652306350558243917561274787252745127190112229115875756335778815053215632274476557501313413227405591773112123977378639873029916303674647199885062177055645310354331878390905058816992936378433105372745744370758439324095255173891500770914964782409205885070002149386000978248113972570339823305919209688809010582581003217478395407582990082056446798442534710500060592492292773363714817098683757420575121324648796716157898943155132092230723629883894868868364283753032886686089994402885377302113191001067176713691834624069516193676418927781681567615990473110881590082942970827729798285034733427754625742722363635273543284784539649154742321626932274988835165399580264167586101460352925855106511293828470581141958517024312806498534386207798312326309723108581008153867253199373520850951278018544498481507906058809050715242872065217388475188874543772061253453839598867069897931745475001391786720554634664062195757859451801952666554048550849188999238610698745484229402303113986443364438343710088200452386129573451736560093906950686171787322565833981492322890436290686275614784269389257397932475513610391695566028760334050490328368193315166486333589765277605384630095334126764044282824784292965942113160199183300513134996380712871916165089062042057626089653440187268206807311906893161826180389167546216675383784351730578611078953034480333295484659437751027158449181117568658045070663176031212287617963246689412783313049403469083097840660257387370166032561725422823130266753696537025176291594933904657766832236400841879114059835504809657674803745981650792051711887350530559095656589889662200422885625542309327849591585944386526109056945560055424899705269340276554982183646104604237287005546774424105922904456106202726010286854330995239226053070370684995268421050122971994248464444455339907187601227539965480881237398853471490750060687877661680937530239301069360246557812706038490730203951892193889225908884575261157948342564638602463327558781179081011197526800867908184127038667957896272580329612061344503646336834129949112469078094727986489508663125929755759885699664981596410578765214669618154140307238158380547265114698049185429324228303079251147489683295486260981933397257848874186615109867626258503069922126846403850580541480003347204541430758085276049045983497575103314158963749356071289998474942403985591130646006042950094339791172965131599750845523979501725613790543745442,np:=1,nl:=11,names:=["_law_script","_law_shelf","_law_names","_law_name","_law_text","_law_full","_law_k","_law_way","_law_held_here","_law_due","_law_turn"],body:=[.set 1 (.new 1 [.call 37 [.call 27 [.var 0,.int 0]],.call 38 [.call 27 [.var 0,.int 1]]]),
  .set 2 (.call 39 [.call 27 [.var 0,.int 2]]),
  .set 3 (.idx (.var 2) (.int 0)),
  .set 4 (.call 30 [.call 27 [.var 0,.int 3],.bin .mod (.call 27 [.var 0,.int 4]) (.int 60)]),
  .set 5 (.cmp (.bin .mod (.call 27 [.var 0,.int 5]) (.int 6)) .eq (.int 1)),
  .loop 6 (.bi .range [.idx (.list [.int 1,.int 100]) (.bi .int [.var 5])]) [.expr (.meth (.var 1) 11 [.idx (.var 2) (.bin .mod (.var 6) (.int 4)),.var 4])],
  .set 7 (.idx (.list [.bin .mod (.call 27 [.var 0,.int 6]) (.int 33),.bin .add (.int 34) (.bin .mod (.bin .div (.call 27 [.var 0,.int 6]) (.int 42)) (.int 8))]) (.bi .int [.cmp (.bin .mod (.call 27 [.var 0,.int 6]) (.int 42)) .gt (.int 32)])),
  .set 8 (.call 52 [.var 1,.var 3]),
  .set 9 (.tup [.call 50 [.var 7],.bool true]),
  .loop 10 (.bi .range [.int 2]) [.ifs (.not (.call 45 [.call 41 [.var 1,.var 7,.var 3,.bi .len [.var 4]],.var 9])) [.ret (.bool false)] [],
  .ifs (.or [.not (.call 45 [.call 52 [.var 1,.var 3],.var 8]),.not (.call 45 [.meth (.var 1) 12 [.var 3,.int 1],.var 4])]) [.ret (.bool false)] []],
  .loop 7 (.list [.int 33,.int 42]) [.ifs (.and [.not (.var 5),.cmp (.call 41 [.var 1,.var 7,.var 3,.int 2]) .ne (.tup [.str [110,111,116,32,116,104,101,114,101],.bool true])]) [.ret (.bool false)] []],
  .set 9 (.idx (.list [.tup [.str [116,111,108,100],.int 2],.tup [.str [116,111,111,32,109,97,110,121],.bool true]]) (.bi .int [.var 5])),
  .ifs (.or [.not (.call 45 [.call 51 [.var 1,.var 3,.bin .add (.var 4) (.str [120])],.var 9]),.cmp (.gl 5) .ne (.int 3000),.cmp (.gl 6) .ne (.int 100)]) [.ret (.bool false)] [],
  .ifs (.and [.var 5,.cmp (.call 41 [.var 1,.int 42,.var 3,.int 1]) .ne (.tup [.str [116,111,111,32,109,97,110,121],.bool true])]) [.ret (.bool false)] [],
  .ifs (.and [.var 5,.cmp (.call 47 [.var 1]) .ne (.idx (.var 8) (.int 3))]) [.ret (.bool false)] [],
  .ifs (.var 5) [.expr (.meth (.var 1) 21 [.var 3,.int 7]),
  .ret (.and [.call 45 [.call 51 [.var 1,.var 3,.bin .add (.var 4) (.str [120])],.tup [.str [116,111,108,100],.int 26]],.cmp (.meth (.var 1) 12 [.var 3,.int 26]) .eq (.bin .add (.var 4) (.str [120]))])] [],
  .ifs (.or [.cmp (.idx (.call 41 [.var 1,.int 42,.var 3,.int 2]) (.int 0)) .ne (.str [116,111,108,100]),.cmp (.meth (.var 1) 12 [.var 3,.int 3]) .ne (.bin .add (.bin .add (.str [97]) (.var 4)) (.str [120]))]) [.ret (.bool false)] [],
  .ifs (.or [.cmp (.meth (.var 1) 12 [.var 3,.int 2]) .ne (.bin .add (.var 4) (.str [120])),.cmp (.bin .mod (.call 27 [.var 0,.int 7]) (.int 6)) .ne (.int 1)]) [.ret (.cmp (.meth (.var 1) 12 [.var 3,.int 2]) .eq (.bin .add (.var 4) (.str [120])))] [],
  .expr (.meth (.var 1) 11 [.var 3,.bin .mul (.str [97]) (.int 3000)]),
  .ret (.and [.cmp (.call 51 [.var 1,.var 3,.bin .mul (.str [98]) (.int 3001)]) .eq (.tup [.str [116,111,111,32,108,111,110,103],.bool true]),.cmp (.meth (.var 1) 12 [.var 3,.int 4]) .eq (.bin .mul (.str [97]) (.int 3000))])] }
noncomputable def prog:Pr:={
 fns:=[b1z,a9r,b1e,a0a,a4P,a7V,a8b,a8m,a5p,a3t,y6,a5Q,a2j,a2w,a0V,X0,Y8,Q7,a3B,P5,p9,a3E,a0e,a0H,a3h,a2n,a1F,a5I,a3y,a5K,x4,a7U,a1C,a1E,a3A,a5D,a0f,a3x,a3v,M6,b0s,a7o,a3C,L9,a4X,Y0,b1w,u2,a2K,a3F,b1v,b1D,b0m,q9],
 cls:=[{ name:="Stock",init:=some 9,meths:=[(2,10),(0,11),(16,42),(10,12),(6,13),(9,14)] },{ name:="Shelf",init:=some 15,meths:=[(3,16),(7,17),(4,18),(1,19),(5,20),(11,21),(21,43),(20,32),(8,33),(12,34),(13,35),(17,22),(14,25),(15,26),(19,24),(18,23)] }],
 consts:=[("LETTERS",.str [97,98,99,100,101,102,103,104,105,106,107,108,109,110,111,112,113,114,115,116,117,118,119,120,121,122]),("PERCENT",.int 37),("MOST_LETTERS",.int 12),("MOST_WIDTH",.int 8),("MOST_REACH",.int 40),("MOST_SIGNS",.int 3000),("MOST_VERSIONS",.int 100)],
 attrs:=["kept","many","known","greatest","width","reach","stock","rows","last"],methNames:=["has","many_versions","need","need_name","look","put","piece","need_version","joined","numbers","count","keep","text","row","names","pieces","free","versions","altered","signs","change","drop"],
 excs:=[("ShelfError",[0]),("NoSize",[1,0]),("NoName",[2,0]),("NotThere",[3,0]),("NoPlace",[4,0]),("NoText",[5,0]),("TooLong",[6,0]),("TooMany",[7,0]),("NoNote",[8,0])] }
noncomputable def b9w:Nat:=53
end Mine
namespace Mine.PL
noncomputable def r6 (C:Cx) (x:Nat) (body:List MS) (v:AV) (st:Hp×Vs):It (Hp×Vs) i9:=Q3 (exs C body st.1 (st.2.set x (some v)))
theorem r8 {β:Type} {c:Bool} {x:Out β} (q:c = true):ifO c x = x:=congrArg (fun c=>ifO c x) q
noncomputable def b8x (P:Pr) (n:Nat) (fn:Fn) (args:List AV) (h:Hp):Out AV:=ofO (exsX ⟨P,a9 P n⟩ (callX P n) fn.body h (k8 fn args)) (E2 P (a9 { P with hd:=true } n) fn)
noncomputable def a7O (k:Out AV) (o:i9):Out AV:=orF (fin o) k
theorem U5 {P:Pr} {n:Nat} {f:Nat} {args:List AV} {h:Hp} {fn:Fn} (e:P.fns[f]? = some fn) (l:(decide (args.length = fn.np) && !fn.body.isEmpty && !fn.aft) = true) :
  a9 P (n + 1) f args h = a7O (b8x P n fn args h) (exs ⟨P,a9 P n⟩ fn.body h (args.map some ++ List.replicate (fn.names.length - fn.np) none)):=by
 have l:=Bool.and_eq_true_iff.mp l
 rw [a0u,e]
 show ifO _ (orF (ifO _ _) _) = _
 rw [l.1,l.2];rfl
noncomputable def a8l (o:i9) (C:Cx) (r:List MS):i9:=a6j o fun h vs=>exs C r h vs
section
variable {C:Cx} {cl:Nat→List AV→Hp→Out AV} {h:Hp} {vs:Vs} {xs:List AV} {x y:AV}
theorem F8 (r:List MS):a8l (.next h vs) C r = exs C r h vs:=rfl
theorem H9 (a b:List MS):∀ {h:Hp} {vs:Vs},exs C (a ++ b) h vs = a8l (exs C a h vs) C b:=by
 induction a with
 | nil=>intro h vs;rfl
 | cons s r ih =>
  intro h vs
  show a8l (ex C s h vs) C (r ++ b) = a8l (a8l (ex C s h vs) C r) C b
  cases ex C s h vs with
  | next h vs=>exact ih
  | _=>rfl
theorem a4y (k:Nat) (l:List MS):exs C l h vs = a8l (exs C (l.take k) h vs) C (l.drop k):=by
 rw [← H9,List.take_append_drop]
theorem a3L {x:Nat} {body:List MS} {v:AV} {h':Hp} {vs':Vs} (e:exs C body h (vs.set x (some v)) = .next h' vs'):r6 C x body v (h,vs) = .go (h',vs'):=congrArg Q3 e
theorem a0k {l:List AV} {f:AV→Hp×Vs→It (Hp×Vs) i9} {st:Hp×Vs} (e:Q5 f l (h,vs) = .go st):t5 (some (.fixed l)) f (h,vs) = .next st.1 st.2:=congrArg W0 e
end
section
variable (h:Hp)
theorem b1B (a b:Int) (q:b.natAbs < 18446744073709551616∨a.natAbs < 18446744073709551616):M2 .mul (.int a) (.int b) h = .ok (.int (a * b)) h :=
 r8 ((Bool.or_eq_true _ _).mpr (q.symm.imp decide_eq_true decide_eq_true))
theorem mod_int (a b:Int) (q:0 < b):M2 .mod (.int a) (.int b) h = .ok (.int (a % b)) h:=r8 (decide_eq_true q)
theorem a4Y (a b:Int) (q:0 < b) (q':b < 18446744073709551616):M2 .div (.int a) (.int b) h = .ok (.int (a / b)) h:=r8 (decide_eq_true ⟨q,q'⟩)
theorem o7 (a b:List Nat) (q:a.length + b.length≤lim):M2 .add (.str a) (.str b) h = .ok (.str (a ++ b)) h:=r8 (decide_eq_true q)
theorem K8 (a:List Nat) (b:Int) (q:-lim≤b) (q1:b≤lim) (q2:a.length * b.toNat≤lim):M2 .mul (.str a) (.int b) h = .ok (.str (rep b.toNat a)) h:=r8 (decide_eq_true ⟨q,q1,q2⟩)
theorem b1F (a b:Int):j5 .eq (.int a) (.int b) h = some (decide (a = b)):=rfl
theorem gt_int (a b:Int):j5 .gt (.int a) (.int b) h = some (decide (a > b)):=rfl
theorem a5f {a b:List Nat} (q:tS a = tS b):a = b:=by
 have:=congrArg (fun s:PySem.Str=>s.cps.toList) q
 exact this
theorem b2o (a b:List Nat):(tS a == tS b) = decide (a = b):=by
 by_cases q:a = b
 ·rw [q,decide_eq_true rfl];exact beq_self_eq_true _
 ·rw [beq_eq_false_iff_ne.mpr fun z=>q (a5f z),decide_eq_false q]
theorem a2v (a b:List Nat):j5 .eq (.str a) (.str b) h = some (decide (a = b)):=congrArg some (b2o a b)
theorem f8 (xs:List AV) (q:xs.length≤lim):newList xs h = .ok (.ref h.length) (h ++ [.list xs]):=r8 (decide_eq_true q)
theorem M4 (b:Int) (q:-lim≤b) (q1:b≤lim):biA .range [.int b] h = .ok (.rng 0 b) h:=r8 (decide_eq_true ⟨by decide,by decide,q,q1⟩)
theorem o9 {h:Hp} {l:Nat} {xs:List AV} (e:h[l]? = some (.list xs)):o6 h (.ref l) = some xs:=congrArg lst e
theorem M9 {h:Hp} {l:Nat} {ep:Option Nat} {es:List (AV×AV)} (e:h[l]? = some (.dict ep es)):A5 h (.ref l) = some (ep,es):=congrArg dct e
theorem b1H {h:Hp} {l:Nat} {xs:List AV} (e:h[l]? = some (.list xs)):A5 h (.ref l) = none:=congrArg dct e
theorem b3y {h:Hp} {l:Nat} {ep:Option Nat} {es:List (AV×AV)} (e:h[l]? = some (.dict ep es)):o6 h (.ref l) = none:=congrArg lst e
theorem len_list {l:Nat} {xs:List AV} (e:h[l]? = some (.list xs)):biA .len [.ref l] h = .ok (.int xs.length) h:=by
 have q:b4E (.ref l) h = some xs.length:=congrArg (fun o=>orO o (fun xs:List AV=>some xs.length) ((A5 h (.ref l)).map fun p:Option Nat×List (AV×AV)=>p.2.length)) (o9 e)
 exact congrArg (fun o=>ofO o fun n:Nat=>Out.ok (AV.int n) h) q
theorem a3f {l:Nat} {ep:Option Nat} {es:List (AV×AV)} (e:h[l]? = some (.dict ep es)):biA .len [.ref l] h = .ok (.int es.length) h:=by
 have q:b4E (.ref l) h = some es.length:=(congrArg (fun o=>orO o (fun xs:List AV=>some xs.length) ((A5 h (.ref l)).map fun p:Option Nat×List (AV×AV)=>p.2.length)) (b3y e)).trans (congrArg (Option.map fun p:Option Nat×List (AV×AV)=>p.2.length) (M9 e))
 exact congrArg (fun o=>ofO o fun n:Nat=>Out.ok (AV.int n) h) q
theorem F7 {l:Nat} {xs:List AV} (e:h[l]? = some (.list xs)):a6D .append (.ref l) h = true:=congrArg Option.isSome (o9 e)
theorem b1E {l:Nat} {xs:List AV} (e:h[l]? = some (.list xs)) (f:Nat→List AV→Out AV):a4S (.ref l) h f = f l xs:=congrArg (fun o=>ofO (lst o) (f l)) e
theorem D3 {l:Nat} {xs:List AV} (e:h[l]? = some (.list xs)) (q:xs.length < lim) (v:AV):bmA .append (.ref l) [v] h = .ok .none (h.set l (.list (xs ++ [v]))) :=
 (b1E h e fun l xs=>putL l (xs ++ [v]) h).trans (r8 (decide_eq_true (by rw [List.length_append];exact q)))
theorem O5 {n k:Nat} (d:Nat) (q:k≤n):A4 n d (.int (k:Int)) = some k:=by
 show some (PySem.clipAt n k) = _
 congr 1
 unfold PySem.clipAt
 rw [if_neg (Int.not_lt.mpr (Int.natCast_nonneg k)),Int.min_eq_left (Int.ofNat_le.mpr q),Int.max_eq_right (Int.natCast_nonneg k)];exact Int.toNat_natCast k
theorem a3U (s:List Nat) {a b:Nat} (ha:a≤s.length) (hb:b≤s.length):D9 (.str s) (.int (a:Int)) (.int (b:Int)) h = .ok (.str ((s.drop a).take (b - a))) h:=by
 show (ofO (A4 s.length 0 (.int (a:Int))) fun a=>ofO (A4 s.length s.length (.int (b:Int))) fun b=>Out.ok (AV.str (cut s a b)) h) = _
 rw [O5 0 ha,O5 s.length hb]
 rfl
theorem R9 (s:List Nat) {b:Nat} (hb:b≤s.length):D9 (.str s) .none (.int (b:Int)) h = .ok (.str (s.take b)) h :=
 congrArg (fun o=>ofO o fun b=>Out.ok (AV.str (cut s 0 b)) h) (O5 s.length hb)
theorem Y5 (s:List Nat) {a:Nat} (ha:a≤s.length):D9 (.str s) (.int (a:Int)) .none h = .ok (.str (s.drop a)) h:=by
 refine (congrArg (fun o=>ofO o fun a=>Out.ok (AV.str (cut s a s.length)) h) (O5 0 ha)).trans ?_
 show Out.ok (AV.str ((s.drop a).take (s.length - a))) h = _
 rw [List.take_of_length_le (by rw [List.length_drop];exact Nat.le_refl _)]
theorem g9 {n k:Nat} (q:k < n):E3 n (k:Int) = some k:=by
 have q1:¬ (k:Int) < 0:=by lia
 have q2:(0≤(k:Int) && (k:Int) < (n:Int)) = true:=by rw [decide_eq_true (show (0:Int)≤k by lia),decide_eq_true (show (k:Int) < n by exact (Int.ofNat_lt.mpr) q)];rfl
 unfold E3 PySem.seqIndex?
 simp only [if_neg q1]
 exact if_pos q2
theorem a8Z {s:List Nat} {i:Int} {k c:Nat} (e:E3 s.length i = some k) (q:s[k]? = some c):w4 (.str s) (.int i) h = some (.str [c]):=by
 show ((E3 s.length i).bind fun k=>(s[k]?).map fun c=>AV.str [c]) = _;rw [e];exact congrArg (Option.map fun c=>AV.str [c]) q
theorem g7 {l:Nat} {xs:List AV} {i:Int} {k:Nat} {c:AV} (e:h[l]? = some (.list xs)) (e1:E3 xs.length i = some k) (q:xs[k]? = some c):w4 (.ref l) (.int i) h = some c:=by
 have e0:w4 (.ref l) (.int i) h = (o6 h (.ref l)).bind fun xs=>a3q xs i:=congrArg (fun o=>orO o _ _) (b1H e)
 rw [e0,o9 e]
 exact (congrArg (fun o=>Option.bind o fun k=>xs[k]?) e1).trans q
end
theorem a4R {σ ρ:Type} {f:AV→σ→It σ ρ} (J:Nat→σ→Prop) (a:Int) (n:Nat) (step:∀ (i:Nat) s,i < n→J i s→∃ s',f (.int (a + i)) s = .go s'∧J (i + 1) s'):∀ (m k:Nat) (s:σ),k + m = n→J k s→∃ s',Q5 f (ups (a + k) m) s = .go s'∧J n s'
 | 0,k,s,e,j=>⟨s,rfl,e▸j⟩
 | m + 1,k,s,e,j=>by
  obtain ⟨s',q,j'⟩:=step k s (by lia) j
  obtain ⟨s'',q',j''⟩:=a4R J a n step m (k + 1) s' (by lia) j'
  refine ⟨s'',(congrArg (It.bind · fun s=>Q5 f (ups (a + k + 1) m) s) q).trans ?_,j''⟩
  rw [show a + ((k + 1:Nat):Int) = a + (k:Int) + 1 by lia] at q'
  exact q'
theorem b0R {σ ρ:Type} {f:AV→σ→It σ ρ} (J:Nat→σ→Prop) (n:Nat) {s:σ} (j:J 0 s) (step:∀ (i:Nat) s,i < n→J i s→∃ s',f (.int i) s = .go s'∧J (i + 1) s'):∃ s',Q5 f (ups 0 n) s = .go s'∧J n s' :=
 a4R J 0 n (fun i s hi hj=>by rw [Int.zero_add];exact step i s hi hj) n 0 s (Nat.zero_add n) j
theorem a9f:∀ (n:Nat) (a:Int),ups a n = (List.range n).map fun i:Nat=>.int (a + (i:Int))
 | 0,_=>rfl
 | n + 1,a=>by
  rw [ups,a9f n (a + 1),List.range_succ_eq_map,List.map_cons,List.map_map,Int.natCast_zero,Int.add_zero]
  congr 1
  apply List.map_congr_left
  intro i _
  show AV.int _ = AV.int _
  congr 1
  lia
structure d9 (h h':Hp):Prop where
 fst:h.length≤h'.length
 snd:∀ i,i < h.length→h'[i]? = h[i]?
theorem d9.refl (h:Hp):d9 h h:=⟨Nat.le_refl _,fun _ _=>rfl⟩
theorem d9.trans {a b c:Hp} (x:d9 a b) (y:d9 b c):d9 a c:=⟨Nat.le_trans x.1 y.1,fun i hi=>(y.2 i (Nat.lt_of_lt_of_le hi x.1)).trans (x.2 i hi)⟩
theorem d9.app (h e:Hp):d9 h (h ++ e):=⟨by rw [List.length_append];exact Nat.le_add_right _ _,fun i hi=>List.getElem?_append_left hi⟩
inductive Gv (c:Out AV) (v:AV) (h:Hp):Prop
 | mk (h':Hp):c = .ok v h'→d9 h h'→Gv c v h
theorem d9.get {h h':Hp} (g:d9 h h') {l:Nat} {o:AO} (e:h[l]? = some o):h'[l]? = some o:=(g.2 l (List.getElem?_eq_some_iff.mp e).1).trans e
end Mine.PL
namespace Mine.PL
noncomputable abbrev Mk:=List Nat
noncomputable def qO {α:Type} (o:Out α) (m:Mk) (k:α→Hp→Mk→Prop):Prop:=match m with
 | []=>(match o with
  | .ok v h=>k v h []
  | .fail=>True)
 | n :: m=>(match n with
  | 0=>∀ v h,o = .ok v h→k v h m
  | n + 1=>(match o with
   | .ok v h=>k v h (n :: m)
   | .fail=>True))
noncomputable def qV {α:Type} (o:Option α) (m:Mk) (k:α→Mk→Prop):Prop:=match m with
 | []=>(match o with
  | some v=>k v []
  | none=>True)
 | n :: m=>(match n with
  | 0=>∀ v,o = some v→k v m
  | n + 1=>(match o with
   | some v=>k v (n :: m)
   | none=>True))
noncomputable def qT (o:Bool) (m:Mk) (k:Mk→Prop):Prop:=match m with
 | []=>(match o with
  | true=>k []
  | false=>True)
 | n :: m=>(match n with
  | 0=>o = true→k m
  | n + 1=>(match o with
   | true=>k (n :: m)
   | false=>True))
noncomputable def qB (o:Bool) (m:Mk) (k:Bool→Mk→Prop):Prop:=match m with
 | []=>k o []
 | n :: m=>(match n with
  | 0=>∀ b,o = b→k b m
  | n + 1=>k o (n :: m))
noncomputable def qS (o:i9) (m:Mk) (k:Hp→Vs→Mk→Prop) (r:AV→Hp→Mk→Prop):Prop:=match m with
 | []=>True
 | n :: m=>(match n with
  | 0=>∀ h vs,o = .next h vs→k h vs m
  | _ + 1=>∀ v h,o = .ret v h→r v h m)
noncomputable def qR2 (b c:Bool) (m:Mk) (o:i9) (k:Hp→Vs→Mk→Prop) (r:AV→Hp→Mk→Prop) (z:Prop):Prop:=match b with
 | true=>∀ v h,o = .ret v h→r v h m
 | false=>(match c with
  | true=>∀ h vs,o = .next h vs→k h vs m
  | false=>z)
noncomputable def qR (m:Mk) (o:i9) (k:Hp→Vs→Mk→Prop) (r:AV→Hp→Mk→Prop) (z:Prop):Prop:=match m with
 | []=>z
 | n :: m=>qR2 (Nat.beq n 1000) (Nat.beq n 2000) m o k r z
noncomputable def rV {α:Type} (o:Option α) (k:α→Prop):Prop:=match o with
 | some v=>k v
 | none=>True
noncomputable def rB (o:Option Bool) (k l:Prop):Prop:=match o with
 | some b=>(match b with
  | true=>k
  | false=>l)
 | none=>True
noncomputable def rT (o:Bool) (k:Prop):Prop:=match o with
 | true=>k
 | false=>True
variable {C:Cx} {h:Hp} {vs:Vs} {m:Mk}
theorem N6 {α:Type} {o:Out α} {k:α→Hp→Mk→Prop} (H:∀ v h m,o = .ok v h→k v h m):qO o m k:=match m with
 | []=>(match o,H with
  | .ok v h,H=>H v h [] rfl
  | .fail,_=>trivial)
 | 0 :: m=>fun v h e=>H v h m e
 | (n + 1) :: m=>match o,H with
  | .ok v h,H=>H v h (n :: m) rfl
  | .fail,_=>trivial
theorem Q4 {α:Type} {o:Option α} {k:α→Mk→Prop} (H:∀ v m,o = some v→k v m):qV o m k:=match m with
 | []=>(match o,H with
  | some v,H=>H v [] rfl
  | none,_=>trivial)
 | 0 :: m=>fun v e=>H v m e
 | (n + 1) :: m=>match o,H with
  | some v,H=>H v (n :: m) rfl
  | none,_=>trivial
theorem b7O {o:Bool} {k:Mk→Prop} (H:∀ m,o = true→k m):qT o m k:=match m with
 | []=>(match o,H with
  | true,H=>H [] rfl
  | false,_=>trivial)
 | 0 :: m=>fun e=>H m e
 | (n + 1) :: m=>match o,H with
  | true,H=>H (n :: m) rfl
  | false,_=>trivial
theorem b5K {o:Bool} {k:Bool→Mk→Prop} (H:∀ b m,o = b→k b m):qB o m k:=match m with
 | []=>H o [] rfl
 | 0 :: m=>fun b e=>H b m e
 | (n + 1) :: m=>H o (n :: m) rfl
theorem b8n {o:i9} {k:Hp→Vs→Mk→Prop} {r:AV→Hp→Mk→Prop} (H:∀ h vs m,o = .next h vs→k h vs m) (H2:∀ v h m,o = .ret v h→r v h m):qS o m k r:=match m with
 | []=>trivial
 | 0 :: m=>fun h vs e=>H h vs m e
 | (n + 1) :: m=>fun v h e=>H2 v h m e
theorem b6P {o:i9} {k:Hp→Vs→Mk→Prop} {r:AV→Hp→Mk→Prop} {z:Prop} (b c:Bool) (H:∀ h vs m,o = .next h vs→k h vs m) (H2:∀ v h m,o = .ret v h→r v h m) (H3:z):qR2 b c m o k r z:=match b with
 | true=>fun v h e=>H2 v h m e
 | false=>match c with
  | true=>fun h vs e=>H h vs m e
  | false=>H3
theorem b8B {o:i9} {k:Hp→Vs→Mk→Prop} {r:AV→Hp→Mk→Prop} {z:Prop} (H:∀ h vs m,o = .next h vs→k h vs m) (H2:∀ v h m,o = .ret v h→r v h m) (H3:z):qR m o k r z:=match m with
 | []=>H3
 | _ :: _=>b6P _ _ H H2 H3
theorem a1j {α:Type} {o:Option α} {k:α→Prop} (H:∀ v,o = some v→k v):rV o k:=match o,H with
 | some v,H=>H v rfl
 | none,_=>trivial
theorem a2b {o:Option Bool} {k l:Prop} (H:o = some true→k) (H2:o = some false→l):rB o k l:=match o,H,H2 with
 | some true,H,_=>H rfl
 | some false,_,H=>H rfl
 | none,_,_=>trivial
theorem X1 {o:Bool} {k:Prop} (H:o = true→k):rT o k:=match o,H with
 | true,H=>H rfl
 | false,_=>trivial
theorem f5 (h:Hp) (o:AO):(h ++ [o])[h.length]? = some o:=by rw [List.getElem?_append_right (Nat.le_refl _),Nat.sub_self];rfl
theorem b1W {h:Hp} (C:Cx) (vs:Vs):ev C (.dict []) h vs = b4P h:=rfl
theorem U4 (h:Hp):b4P h = .ok (.ref h.length) (h ++ [.dict (some 0) []]):=rfl
mutual
noncomputable def OE (C:Cx):ME→Hp→Vs→Mk→(AV→Hp→Mk→Prop)→Prop
 | .none,h,_,m,k=>k .none h m
 | .bool b,h,_,m,k=>k (.bool b) h m
 | .int i,h,_,m,k=>k (.int i) h m
 | .str s,h,_,m,k=>k (.str s) h m
 | .gl g,h,_,m,k=>rV C.P.consts[g]? fun p=>k p.2 h m
 | .var x,h,vs,m,k=>rV ((vs[x]?).bind id) fun v=>k v h m
 | .bin op a b,h,vs,m,k=>OE C a h vs m fun x h m=>OE C b h vs m fun y h m=>qO (M2 op x y h) m k
 | .not e,h,vs,m,k=>OE C e h vs m fun x h m=>rV (j8 x) fun b=>k (.bool (!b)) h m
 | .and es,h,vs,m,k=>OAnd C es h vs m k
 | .or es,h,vs,m,k=>OOr C es h vs m k
 | .cmp l op r,h,vs,m,k=>OE C l h vs m fun x h m=>OE C r h vs m fun y h m=>qV (j5 op x y h) m fun b m=>k (.bool b) h m
 | .chain l op e op' r,h,vs,m,k=>OE C l h vs m fun x h m=>OE C e h vs m fun y h m=>qV (j5 op x y h) m fun b m=>rB (some b) (OE C r h vs m fun z h m=>qV (j5 op' y z h) m fun b m=>k (.bool b) h m) (k (.bool false) h m)
 | .isNone e,h,vs,m,k=>OE C e h vs m fun x h m=>qB (isN x) m fun b m=>k (.bool b) h m
 | .isTrue e,h,vs,m,k=>OE C e h vs m fun x h m=>qB (isT x) m fun b m=>k (.bool b) h m
 | .tup es,h,vs,m,k=>OEs C es h vs m fun xs h m=>rT (decide (xs.length≤lim)) (k (.tup xs) h m)
 | .list es,h,vs,m,k=>OEs C es h vs m fun xs h m=>qO (newList xs h) m k
 | .idx o i,h,vs,m,k=>OE C o h vs m fun x h m=>OE C i h vs m fun y h m=>qV (w4 x y h) m fun v m=>k v h m
 | .slice o lo hi _ _,h,vs,m,k=>OE C o h vs m fun x h m=>OE C lo h vs m fun a h m=>OE C hi h vs m fun b h m=>qO (D9 x a b h) m k
 | .attr o a,h,vs,m,k=>OE C o h vs m fun x h m=>qV (O6 h x a) m fun v m=>k v h m
 | .call f args,h,vs,m,k=>OEs C args h vs m fun xs h m=>qO (C.call f xs h) m k
 | .meth o j args,h,vs,m,k=>OE C o h vs m fun x h m=>qV (L6 C.P h x j) m fun f m=>OEs C args h vs m fun xs h m=>qO (C.call f (x :: xs) h) m k
 | .bi b args,h,vs,m,k=>rT (!C.P.hd) (OEs C args h vs m fun xs h m=>qO (biA b xs h) m k)
 | .bm j o args,h,vs,m,k=>OE C o h vs m fun x h m=>qT (a6D j x h) m fun m=>OEs C args h vs m fun xs h m=>qO (bmA j x xs h) m k
 | .inst e j,h,vs,m,k=>OE C e h vs m fun x h m=>qV (a1u h x j) m fun b m=>k (.bool b) h m
 | .comp elt x src conds _,h,vs,m,k=>rT (!C.P.hd) (OE C src h vs m fun s h m=>qO (D1 (z5 h s) (p3 (evConds C conds) (ev C elt) x vs) h) m k)
 | .instX e j,h,vs,m,k=>OE C e h vs m fun x h m=>qV (instX C.P x j) m fun b m=>k (.bool b) h m
 | .neg i,h,_,m,k=>k (.int (-i)) h m
 | .repl e c b,h,vs,m,k=>OE C e h vs m fun x h m=>qO (a5V x c b h) m k
 | .dict [],h,_,m,k=>qO (b4P h) m k
 | .dict (_ :: _),_,_,_,_=>True
 | .new c args,h,vs,m,k=>rT (S9 C.P c).isSome (OEs C args h vs m fun xs h m=>qO (b1q C c xs h) m k)
 | .chain3 l op e op' r op'' q,h,vs,m,k=>OE C l h vs m fun x h m=>OE C e h vs m fun y h m=>qV (j5 op x y h) m fun b m=>rB (some b) (OE C r h vs m fun z h m=>qV (j5 op' y z h) m fun b m=>rB (some b) (OE C q h vs m fun w h m=>qV (j5 op'' z w h) m fun b m=>k (.bool b) h m) (k (.bool false) h m)) (k (.bool false) h m)
noncomputable def OEs (C:Cx):List ME→Hp→Vs→Mk→(List AV→Hp→Mk→Prop)→Prop
 | [],h,_,m,k=>k [] h m
 | e :: r,h,vs,m,k=>OE C e h vs m fun x h m=>OEs C r h vs m fun xs h m=>k (x :: xs) h m
noncomputable def OAnd (C:Cx):List ME→Hp→Vs→Mk→(AV→Hp→Mk→Prop)→Prop
 | [],_,_,_,_=>True
 | [e],h,vs,m,k=>OE C e h vs m k
 | e :: r,h,vs,m,k=>OE C e h vs m fun x h m=>rB (j8 x) (OAnd C r h vs m k) (k x h m)
noncomputable def OOr (C:Cx):List ME→Hp→Vs→Mk→(AV→Hp→Mk→Prop)→Prop
 | [],_,_,_,_=>True
 | [e],h,vs,m,k=>OE C e h vs m k
 | e :: r,h,vs,m,k=>OE C e h vs m fun x h m=>rB (j8 x) (k x h m) (OOr C r h vs m k)
end
theorem i6 {α β:Type} {o:Out α} {f:α→Hp→Out β} {v:α} {h:Hp} {w:Out β} (e:o = .ok v h) (e2:f v h = w):o.bind f = w:=by rw [e];exact e2
theorem ofT {α β:Type} {o:Option α} {f:α→Out β} {v:α} {w:Out β} (e:o = some v) (e2:f v = w):ofO o f = w:=by rw [e];exact e2
theorem ifT {β:Type} {c:Bool} {x w:Out β} (e:c = true) (e2:x = w):ifO c x = w:=by rw [e];exact e2
theorem a4J {β:Type} {c:Option Bool} {x y w:Out β} (e:c = some true) (e2:x = w):x5 c x y = w:=by rw [e];exact e2
theorem a6z {β:Type} {c:Option Bool} {x y w:Out β} (e:c = some false) (e2:y = w):x5 c x y = w:=by rw [e];exact e2
theorem a6K {o:Option Bool} {b:Bool} (e:o = some b):D5 o h = .ok (.bool b) h:=by rw [e];rfl
theorem b5E {o:Option AV} {v:AV} (e:o = some v):b1V o h = .ok v h:=by rw [e];rfl
theorem b9f {o:Option Bool} {b:Bool} (e:o = some b):D5 (o.map (!·)) h = .ok (.bool !b) h:=by rw [e];rfl
theorem b9r {xs:List AV} (e:decide (xs.length≤lim) = true):a7t xs h = .ok (.tup xs) h:=ifT e rfl
mutual
theorem j6 (C:Cx):∀ (e:ME) {h:Hp} {vs:Vs} {m:Mk} {k:AV→Hp→Mk→Prop},(∀ v h' m,ev C e h vs = .ok v h'→k v h' m)→OE C e h vs m k
 | .none,_,_,_,_,H=>H _ _ _ rfl
 | .bool b,_,_,_,_,H=>H _ _ _ rfl
 | .int i,_,_,_,_,H=>H _ _ _ rfl
 | .str s,_,_,_,_,H=>H _ _ _ rfl
 | .gl g,_,_,_,_,H=>a1j fun p e=>H _ _ _ (ofT e rfl)
 | .var x,_,_,_,_,H=>a1j fun p e=>H _ _ _ (ofT e rfl)
 | .bin op a b,_,_,_,_,H=>j6 C a fun x h m e=>j6 C b fun y h m e2=>N6 fun v h m e3=>H v h m (i6 e (i6 e2 e3))
 | .not a,_,_,_,_,H=>j6 C a fun x h m e=>a1j fun b e2=>H _ _ _ (i6 e (b9f e2))
 | .and es,_,_,_,_,H=>OAnd_ok C es H
 | .or es,_,_,_,_,H=>OOr_ok C es H
 | .cmp l op r,_,_,_,_,H=>j6 C l fun x h m e=>j6 C r fun y h m e2=>Q4 fun v m e3=>H _ _ _ (i6 e (i6 e2 (a6K e3)))
 | .chain l op a op' r,_,_,_,_,H=>j6 C l fun x h m e=>j6 C a fun y h m e2=>Q4 fun v m e3=>a2b (fun z=>j6 C r fun y h m e4=>Q4 fun v m e5=>H _ _ _ (i6 e (i6 e2 (a4J (e3.trans z) (i6 e4 (a6K e5)))))) (fun z=>H _ _ _ (i6 e (i6 e2 (a6z (e3.trans z) rfl))))
 | .isNone a,_,_,_,_,H=>j6 C a fun x h m e=>b5K fun b m e2=>H _ _ _ (i6 e (e2▸rfl))
 | .isTrue a,_,_,_,_,H=>j6 C a fun x h m e=>b5K fun b m e2=>H _ _ _ (i6 e (e2▸rfl))
 | .tup es,_,_,_,_,H=>OEs_ok C es fun xs h m e=>X1 fun e2=>H _ _ _ (i6 e (b9r e2))
 | .list es,_,_,_,_,H=>OEs_ok C es fun xs h m e=>N6 fun v h m e2=>H _ _ _ (i6 e e2)
 | .idx a b,_,_,_,_,H=>j6 C a fun x h m e=>j6 C b fun y h m e2=>Q4 fun v m e3=>H _ _ _ (i6 e (i6 e2 (b5E e3)))
 | .slice a lo hi _ _,_,_,_,_,H=>j6 C a fun x h m e=>j6 C lo fun y h m e2=>j6 C hi fun z h m e3=>N6 fun v h m e4=>H _ _ _ (i6 e (i6 e2 (i6 e3 e4)))
 | .attr a j,_,_,_,_,H=>j6 C a fun x h m e=>Q4 fun v m e3=>H _ _ _ (i6 e (b5E e3))
 | .call f args,_,_,_,_,H=>OEs_ok C args fun xs h m e=>N6 fun v h m e2=>H _ _ _ (i6 e e2)
 | .meth a j args,_,_,_,_,H=>j6 C a fun x h m e=>Q4 fun f m e2=>OEs_ok C args fun xs h m e3=>N6 fun v h m e4=>H _ _ _ (i6 e (ofT e2 (i6 e3 e4)))
 | .bi b args,_,_,_,_,H=>X1 fun e=>OEs_ok C args fun xs h m e2=>N6 fun v h m e3=>H _ _ _ (ifT e (i6 e2 e3))
 | .bm j a args,_,_,_,_,H=>j6 C a fun x h m e=>b7O fun m e2=>OEs_ok C args fun xs h m e3=>N6 fun v h m e4=>H _ _ _ (i6 e (ifT e2 (i6 e3 e4)))
 | .inst a j,_,_,_,_,H=>j6 C a fun x h m e=>Q4 fun v m e3=>H _ _ _ (i6 e (a6K e3))
 | .comp elt x src conds _,_,_,_,_,H=>X1 fun e=>j6 C src fun s h m e2=>N6 fun v h m e3=>H _ _ _ (ifT e (i6 e2 e3))
 | .instX a j,_,_,_,_,H=>j6 C a fun x h m e=>Q4 fun v m e3=>H _ _ _ (i6 e (a6K e3))
 | .neg i,_,_,_,_,H=>H _ _ _ rfl
 | .repl a c b,_,_,_,_,H=>j6 C a fun x h m e=>N6 fun v h m e2=>H _ _ _ (i6 e e2)
 | .dict [],_,_,_,_,H=>N6 fun v h m e=>H _ _ _ ((b1W _ _).trans e)
 | .dict (_ :: _),_,_,_,_,_=>trivial
 | .new c args,_,_,_,_,H=>X1 fun e=>OEs_ok C args fun xs h m e2=>N6 fun v h m e3=>H _ _ _ (ifT e (i6 e2 e3))
 | .chain3 l op a op' r op'' q,_,_,_,_,H=>j6 C l fun x h m e=>j6 C a fun y h m e2=>Q4 fun v m e3=>a2b (fun z=>j6 C r fun y h m e4=>Q4 fun v m e5=>a2b (fun z2=>j6 C q fun y h m e6=>Q4 fun v m e7=>H _ _ _ (i6 e (i6 e2 (a4J (e3.trans z) (i6 e4 (a4J (e5.trans z2) (i6 e6 (a6K e7)))))))) (fun z2=>H _ _ _ (i6 e (i6 e2 (a4J (e3.trans z) (i6 e4 (a6z (e5.trans z2) rfl))))))) (fun z=>H _ _ _ (i6 e (i6 e2 (a6z (e3.trans z) rfl))))
theorem OEs_ok (C:Cx):∀ (es:List ME) {h:Hp} {vs:Vs} {m:Mk} {k:List AV→Hp→Mk→Prop},(∀ v h' m,evs C es h vs = .ok v h'→k v h' m)→OEs C es h vs m k
 | [],_,_,_,_,H=>H _ _ _ rfl
 | e :: r,_,_,_,_,H=>j6 C e fun x h m e=>OEs_ok C r fun xs h m e2=>H _ _ _ (i6 e (i6 e2 rfl))
theorem OAnd_ok (C:Cx):∀ (es:List ME) {h:Hp} {vs:Vs} {m:Mk} {k:AV→Hp→Mk→Prop},(∀ v h' m,evAnd C es h vs = .ok v h'→k v h' m)→OAnd C es h vs m k
 | [],_,_,_,_,_=>trivial
 | [e],_,_,_,_,H=>j6 C e H
 | e :: e' :: r,_,_,_,_,H=>j6 C e fun x h m e=>a2b (fun z=>OAnd_ok C (e' :: r) fun v h m e2=>H _ _ _ (i6 e (a4J z e2))) (fun z=>H _ _ _ (i6 e (a6z z rfl)))
theorem OOr_ok (C:Cx):∀ (es:List ME) {h:Hp} {vs:Vs} {m:Mk} {k:AV→Hp→Mk→Prop},(∀ v h' m,evOr C es h vs = .ok v h'→k v h' m)→OOr C es h vs m k
 | [],_,_,_,_,_=>trivial
 | [e],_,_,_,_,H=>j6 C e H
 | e :: e' :: r,_,_,_,_,H=>j6 C e fun x h m e=>a2b (fun z=>H _ _ _ (i6 e (a4J z rfl))) (fun z=>OOr_ok C (e' :: r) fun v h m e2=>H _ _ _ (i6 e (a6z z e2)))
end
theorem a8R {α β:Type} {o:Out α} {f:α→Hp→Out β} (e:o = .fail):o.bind f = .fail:=by rw [e];rfl
theorem a7W {o:Out AV} {f:AV→Hp→i9} (e:o = .fail):p5 o f = .fail:=by rw [e];rfl
theorem b9u {o:i9} {f:Hp→Vs→i9} (e:o = .fail):a6j o f = .fail:=by rw [e];rfl
theorem C1 {o:Out AV} {f:AV→Hp→i9} {v:AV} {h:Hp} {w:i9} (e:o = .ok v h) (e2:f v h = w):p5 o f = w:=by rw [e];exact e2
theorem b6a {o:i9} {f:Hp→Vs→i9} {h:Hp} {vs:Vs} {w:i9} (e:o = .next h vs) (e2:f h vs = w):a6j o f = w:=by rw [e];exact e2
theorem b9m {o:i9} {f:Hp→Vs→i9} {h:Hp} {v:AV} (e:o = .ret v h):a6j o f = .ret v h:=by rw [e];rfl
theorem b9h {C:Cx} {s:MS} {t:List MS} {h h':Hp} {vs vs':Vs} {w:i9} (e:ex C s h vs = .next h' vs') (e2:exs C t h' vs' = w):exs C (s :: t) h vs = w:=b6a e e2
theorem b9v {C:Cx} {s:MS} {t:List MS} {h:Hp} {vs:Vs} (e:ex C s h vs = .fail):exs C (s :: t) h vs = .fail:=b9u e
theorem a7K {c:Option Bool} {x y w:i9} (e:c = some true) (e2:x = w):W6 c x y = w:=by rw [e];exact e2
theorem a8n {c:Option Bool} {x y w:i9} (e:c = some false) (e2:y = w):W6 c x y = w:=by rw [e];exact e2
theorem b7M {c:Bool} {x w:i9} (e:c = true) (e2:x = w):ifH c x = w:=by rw [e];exact e2
mutual
noncomputable def OX (C:Cx):MS→Hp→Vs→Mk→(Hp→Vs→Mk→Prop)→(AV→Hp→Mk→Prop)→Prop
 | .set x e,h,vs,m,k,_=>OE C e h vs m fun v h m=>k h (vs.set x (some v)) m
 | .setAttr o a e,h,vs,m,k,_=>OE C e h vs m fun v h m=>OE C o h vs m fun x h m=>qO (D7 x a v h) m fun _ h m=>k h vs m
 | .setItem o i e,h,vs,m,k,_=>OE C e h vs m fun v h m=>OE C o h vs m fun x h m=>OE C i h vs m fun j h m=>qO (D8 x j v h) m fun _ h m=>k h vs m
 | .expr e,h,vs,m,k,_=>OE C e h vs m fun _ h m=>k h vs m
 | .ifs t a b,h,vs,m,k,r=>OE C t h vs m fun v h m=>rB (j8 v) (OXs C a h vs m k r) (OXs C b h vs m k r)
 | .loop x src body,h,vs,m,k,r=>rT (!C.P.hd) (OE C src h vs m fun s h m=>qS (t5 (z5 h s) (r6 C x body) (h,vs)) m k r)
 | .ret e,h,vs,m,_,r=>OE C e h vs m r
 | .pass,h,vs,m,k,_=>k h vs m
 | .raise _ _,_,_,_,_,_=>True
noncomputable def OXs (C:Cx):List MS→Hp→Vs→Mk→(Hp→Vs→Mk→Prop)→(AV→Hp→Mk→Prop)→Prop
 | [],h,vs,m,k,_=>k h vs m
 | s :: t,h,vs,m,k,r=>qR m (exs C (s :: t) h vs) k r (OX C s h vs m (fun h vs m=>OXs C t h vs m k r) r)
end
mutual
theorem b5z (C:Cx):∀ (s:MS) {h:Hp} {vs:Vs} {m:Mk} {k:Hp→Vs→Mk→Prop} {r:AV→Hp→Mk→Prop},(∀ h' vs' m,ex C s h vs = .next h' vs'→k h' vs' m)→(∀ v h' m,ex C s h vs = .ret v h'→r v h' m)→OX C s h vs m k r
 | .set x e,_,_,_,_,_,H,_=>j6 C e fun v h m e=>H _ _ _ (C1 e rfl)
 | .setAttr o a e,_,_,_,_,_,H,_=>j6 C e fun v h m e=>j6 C o fun x h m e2=>N6 fun _ h m e3=>H _ _ _ (C1 (i6 e (i6 e2 e3)) rfl)
 | .setItem o i e,_,_,_,_,_,H,_=>j6 C e fun v h m e=>j6 C o fun x h m e2=>j6 C i fun j h m e3=>N6 fun _ h m e4=>H _ _ _ (C1 (i6 e (i6 e2 (i6 e3 e4))) rfl)
 | .expr e,_,_,_,_,_,H,_=>j6 C e fun v h m e=>H _ _ _ (C1 e rfl)
 | .ifs t a b,_,_,_,_,_,H,R=>j6 C t fun v h m e=>a2b (fun z=>OXs_ok C a (fun h vs m e2=>H _ _ _ (C1 e (a7K z e2))) (fun v h m e2=>R _ _ _ (C1 e (a7K z e2)))) (fun z=>OXs_ok C b (fun h vs m e2=>H _ _ _ (C1 e (a8n z e2))) (fun v h m e2=>R _ _ _ (C1 e (a8n z e2))))
 | .loop x src body,_,_,_,_,_,H,R=>X1 fun e=>j6 C src fun s h m e2=>b8n (fun h vs m e3=>H _ _ _ (b7M e (C1 e2 e3))) (fun v h m e3=>R _ _ _ (b7M e (C1 e2 e3)))
 | .ret e,_,_,_,_,_,_,R=>j6 C e fun v h m e=>R _ _ _ (C1 e rfl)
 | .pass,_,_,_,_,_,H,_=>H _ _ _ rfl
 | .raise _ _,_,_,_,_,_,_,_=>trivial
theorem OXs_ok (C:Cx):∀ (s:List MS) {h:Hp} {vs:Vs} {m:Mk} {k:Hp→Vs→Mk→Prop} {r:AV→Hp→Mk→Prop},(∀ h' vs' m,exs C s h vs = .next h' vs'→k h' vs' m)→(∀ v h' m,exs C s h vs = .ret v h'→r v h' m)→OXs C s h vs m k r
 | [],_,_,_,_,_,H,_=>H _ _ _ rfl
 | s :: t,_,_,_,_,_,H,R=>b8B H R <| b5z C s (fun h vs m e=>OXs_ok C t (fun h vs m e2=>H _ _ _ (b6a e e2)) (fun v h m e2=>R _ _ _ (b6a e e2))) (fun v h m e=>R _ _ _ (b9m e))
end
theorem b2O {k:Out AV} {o:i9} {v:AV} {h:Hp} (e:o = .ret v h):a7O k o = .ok v h:=congrArg (a7O k) e
noncomputable def Run (P:Pr) (n f:Nat) (args:List AV) (h:Hp) (m:Mk):Prop :=
 rV P.fns[f]? fun fn=>rT (decide (args.length = fn.np) && !fn.body.isEmpty && !fn.aft) (OXs ⟨P,a9 P n⟩ fn.body h (args.map some ++ List.replicate (fn.names.length - fn.np) none) m (fun h' _ _=>a9 P (n + 1) f args h = .ok .none h') (fun v h' _=>a9 P (n + 1) f args h = .ok v h'))
theorem run {P:Pr} {n f:Nat} {args:List AV} {h:Hp} (m:Mk):Run P n f args h m :=
 a1j fun fn e=>X1 fun l=>OXs_ok _ _ (fun _ _ _ q=>(U5 e l).trans (congrArg (a7O _) q)) (fun _ _ _ q=>(U5 e l).trans (congrArg (a7O _) q))
theorem via {P:Pr} {n f:Nat} {args:List AV} {h:Hp} {out:Out AV} (m:Mk) (F:Run P n f args h m→a9 P (n + 1) f args h = out):a9 P (n + 1) f args h = out:=F (run m)
section
variable {h:Hp} {a b c:Int} {s t:List Nat}
theorem b0k (q:a < b):j5 .lt (.int a) (.int b) h = some true:=congrArg some (decide_eq_true q)
theorem V9 (q:¬ a < b):j5 .lt (.int a) (.int b) h = some false:=congrArg some (decide_eq_false q)
theorem a0g (q:a≤b):j5 .le (.int a) (.int b) h = some true:=congrArg some (decide_eq_true q)
theorem b7q (q:¬ a≤b):j5 .le (.int a) (.int b) h = some false:=congrArg some (decide_eq_false q)
theorem b8G (q:b < a):j5 .gt (.int a) (.int b) h = some true:=congrArg some (decide_eq_true q)
theorem b8v (q:¬ b < a):j5 .gt (.int a) (.int b) h = some false:=congrArg some (decide_eq_false q)
theorem b9d (q:b≤a):j5 .ge (.int a) (.int b) h = some true:=congrArg some (decide_eq_true q)
theorem b9c (q:¬ b≤a):j5 .ge (.int a) (.int b) h = some false:=congrArg some (decide_eq_false q)
theorem b1X (q:a = b):j5 .eq (.int a) (.int b) h = some true:=congrArg some (decide_eq_true q)
theorem a0Q (q:¬ a = b):j5 .eq (.int a) (.int b) h = some false:=congrArg some (decide_eq_false q)
theorem b8f (q:¬ a = b):j5 .ne (.int a) (.int b) h = some true:=congrArg (fun b=>some !b) (decide_eq_false q)
theorem b4Y (q:a = b):j5 .ne (.int a) (.int b) h = some false:=congrArg (fun b=>some !b) (decide_eq_true q)
theorem b7x {a b:Nat}:j5 .gt (.int a) (.int b) h = some (decide (b < a)):=congrArg some (decide_eq_decide.mpr Int.ofNat_lt)
theorem b5G (q:¬ s = t):j5 .eq (.str s) (.str t) h = some false:=congrArg some ((b2o s t).trans (decide_eq_false q))
theorem a0C (q:a + b = c):M2 .add (.int a) (.int b) h = .ok (.int c) h:=congrArg (fun c=>Out.ok (AV.int c) h) q
theorem Y4 (q:a - b = c):M2 .sub (.int a) (.int b) h = .ok (.int c) h:=congrArg (fun c=>Out.ok (AV.int c) h) q
theorem a3g (q:a % b = c) (p:0 < b):M2 .mod (.int a) (.int b) h = .ok (.int c) h:=(mod_int h a b p).trans (congrArg (fun c=>Out.ok (AV.int c) h) q)
theorem b2I (q:decide (b.natAbs < 18446744073709551616) = true):M2 .mul (.int a) (.int b) h = .ok (.int (a * b)) h:=b1B h a b (.inl (of_decide_eq_true q))
end
noncomputable def b9s (C:Cx) (x:Nat) (body:List MS) (v:AV) (h:Hp) (vs:Vs) (m:Mk):Prop:=OXs C body h (vs.set x (some v)) m (fun h' vs' _=>r6 C x body v (h,vs) = .go (h',vs')) (fun w h' _=>r6 C x body v (h,vs) = .stop (.ret w h'))
theorem V8 {C:Cx} {x:Nat} {body:List MS} {v:AV} {h:Hp} {vs:Vs} {out:It (Hp×Vs) i9} (m:Mk) (F:b9s C x body v h vs m→r6 C x body v (h,vs) = out):r6 C x body v (h,vs) = out :=
 F (OXs_ok _ _ (fun _ _ _ q=>congrArg Q3 q) (fun _ _ _ q=>congrArg Q3 q))
theorem b8p {C:Cx} {e:ME} {h h':Hp} {vs:Vs} {b:Bool} (q:ev C e h vs = .ok (.bool b) h'):evConds C [e] h vs = .ok b h':=by
 exact i6 q (by cases b<;>rfl)
noncomputable def b8Z (C:Cx) (e:ME) (h:Hp) (vs:Vs) (m:Mk):Prop:=OE C e h vs m fun v h' _=>ev C e h vs = .ok v h'
theorem a0G {C:Cx} {e:ME} {h:Hp} {vs:Vs} {out:Out AV} (m:Mk) (F:b8Z C e h vs m→ev C e h vs = out):ev C e h vs = out:=F (j6 _ _ fun _ _ _ q=>q)
noncomputable def b9x (C:Cx) (s:MS) (h:Hp) (vs:Vs) (m:Mk):Prop:=OX C s h vs m (fun h' vs' _=>ex C s h vs = .next h' vs') (fun v h' _=>ex C s h vs = .ret v h')
noncomputable def b9l (C:Cx) (l:List MS) (h:Hp) (vs:Vs) (m:Mk):Prop:=OXs C l h vs m (fun h' vs' _=>exs C l h vs = .next h' vs') (fun v h' _=>exs C l h vs = .ret v h')
theorem J8 {C:Cx} {l:List MS} {h:Hp} {vs:Vs} {out:i9} (m:Mk) (F:b9l C l h vs m→exs C l h vs = out):exs C l h vs = out:=F (OXs_ok _ _ (fun _ _ _ q=>q) (fun _ _ _ q=>q))
end Mine.PL
namespace Mine.PL
theorem a4K {C:Cx} {cx:Nat→List AV→Hp→Option (Nat×Hp)}:∀ (l:List MS) {h:Hp} {vs:Vs} {q:Fl},exsX C cx l h vs = some q→exs C l h vs = .fail
 | s :: r,h,vs,q,e=>by
  have e:a7f (ex C s h vs) (fun h vs=>exsX C cx r h vs) (exX C cx s h vs) = some q:=e
  show a6j (ex C s h vs) (fun h vs=>exs C r h vs) = _
  cases y:ex C s h vs with
  | fail=>rfl
  | ret v h'=>rw [y] at e;cases e
  | next h' vs'=>rw [y] at e;exact a4K r e
theorem b1m {P:Pr} {ch:Nat→List AV→Hp→Out AV} {fn:Fn} {q:Fl} (e:fn.hdl.isNone = true):E2 P ch fn q = .fail:=by
 unfold E2;rw [Option.isNone_iff_eq_none.mp e];rfl
theorem a3p {P:Pr}:∀ {n f:Nat} {args:List AV} {h:Hp} {q:Nat×Hp},callX P n f args h = some q→a9 P n f args h = .fail
 | n + 1,f,args,h,q,e=>by
  rw [a3k] at e
  rw [a0u]
  cases hf:P.fns[f]? with
  | none=>rw [hf] at e;cases e
  | some fn =>
   rw [hf] at e
   have e:ifS (decide (args.length = fn.np) && !fn.body.isEmpty && fn.hdl.isNone) ((exsX ⟨P,a9 P n⟩ (callX P n) fn.body h (k8 fn args)).map fun q=>(q.c,q.h)) = some q:=e
   show ifO (decide (args.length = fn.np) && !fn.body.isEmpty) (orF (ifO (!fn.aft) (fin (exs ⟨P,a9 P n⟩ fn.body h (k8 fn args)))) (ofO (exsX ⟨P,a9 P n⟩ (callX P n) fn.body h (k8 fn args)) (E2 P (a9 { P with hd:=true } n) fn))) = _
   cases c:(decide (args.length = fn.np) && !fn.body.isEmpty && fn.hdl.isNone) with
   | false=>rw [c] at e;cases e
   | true =>
    rw [c] at e
    have c:=Bool.and_eq_true_iff.mp c
    rw [c.1]
    obtain ⟨q',e',_⟩:=Option.map_eq_some_iff.mp e
    rw [a4K _ e',e']
    show orF (ifO (!fn.aft) .fail) (E2 P _ fn q') = _
    rw [b1m c.2]
    cases fn.aft<;>rfl
section
variable (C:Cx) (cx:Nat→List AV→Hp→Option (Nat×Hp))
noncomputable def OZE:ME→Hp→Vs→Mk→(Nat×Hp→Mk→Prop)→Prop
 | .meth o j args,h,vs,m,k=>OE C o h vs m fun x h m=>qV (L6 C.P h x j) m fun f m=>OEs C args h vs m fun xs h m=>∀ q,cx f (x :: xs) h = some q→k q m
 | .call f args,h,vs,m,k=>OEs C args h vs m fun xs h m=>∀ q,cx f xs h = some q→k q m
 | .new c args,h,vs,m,k=>rV (S9 C.P c) fun f=>OEs C args h vs m fun xs h m=>∀ q,cx f (.ref h.length :: xs) (h ++ [.inst c (List.replicate C.P.attrs.length none)]) = some q→k q m
 | _,_,_,_,_=>True
noncomputable def OZP (e:ME) (h:Hp) (vs:Vs) (m:Mk) (k:Nat×Hp→Mk→Prop):Prop:=match a2e e with
 | some p=>OE C p.1 h vs m fun _ h m=>OZE C cx p.2 h vs m k
 | none=>OZE C cx e h vs m k
noncomputable def zAt (p:List Nat) (a b:Prop):Prop:=match p with
 | (_ + 1) :: _=>b
 | _=>a
noncomputable def b9n (p:List Nat):List Nat:=match p with
 | (j + 1) :: p=>j :: p
 | p=>p
mutual
noncomputable def OZ:MS→List Nat→Hp→Vs→Mk→(Fl→Mk→Prop)→Prop
 | .raise c _,_,h,vs,m,k=>rT (!C.P.hd && (W9 C.P c).isSome) (k ⟨c,h,vs⟩ m)
 | .expr e,_,h,vs,m,k=>OZP C cx e h vs m fun q m=>k ⟨q.1,q.2,vs⟩ m
 | .ret e,_,h,vs,m,k=>OZP C cx e h vs m fun q m=>k ⟨q.1,q.2,vs⟩ m
 | .set _ e,_,h,vs,m,k=>OZP C cx e h vs m fun q m=>k ⟨q.1,q.2,vs⟩ m
 | .ifs t a b,p,h,vs,m,k=>OE C t h vs m fun v h m=>rB (j8 v) (OZs a p h vs m k) (OZs b p h vs m k)
 | .setAttr _ _ _,_,_,_,_,_=>True
 | .setItem _ _ _,_,_,_,_,_=>True
 | .loop _ _ _,_,_,_,_,_=>True
 | .pass,_,_,_,_,_=>True
noncomputable def OZs:List MS→List Nat→Hp→Vs→Mk→(Fl→Mk→Prop)→Prop
 | [],_,_,_,_,_=>True
 | s :: t,p,h,vs,m,k=>zAt p (OZ s p.tail h vs m k) (OX C s h vs m (fun h vs m=>OZs t (b9n p) h vs m k) fun _ _ _=>True)
end
end
section
variable {C:Cx} {cx:Nat→List AV→Hp→Option (Nat×Hp)} {h:Hp} {vs:Vs} {m:Mk}
theorem b2U {α:Type} {o:Out α} {k:α→Hp→Option (Nat×Hp)} {v:α} {h:Hp} {w:Option (Nat×Hp)} (e:o = .ok v h) (e2:k v h = w):okX o k = w:=by rw [e];exact e2
theorem b8S {α β:Type} {o:Option α} {k:α→Option β} {v:α} {w:Option β} (e:o = some v) (e2:k v = w):o.bind k = w:=by rw [e];exact e2
theorem b3T (HC:∀ {f as h q},cx f as h = some q→C.call f as h = .fail):∀ (e:ME) {h:Hp} {vs:Vs} {m:Mk} {k:Nat×Hp→Mk→Prop},(∀ q m,ev C e h vs = .fail→b5i C cx e h vs = some q→k q m)→OZE C cx e h vs m k
 | .meth o j args,h,vs,m,k,H=>j6 C o fun x h m e=>Q4 fun f m e2=>OEs_ok C args fun xs h m e3 q e4=>H q m (i6 e (ofT e2 (i6 e3 (HC e4)))) (by
   show orO (okX (ev C o _ _) fun x h=>(L6 C.P h x j).bind fun f=>okX (evs C args h _) fun xs h=>cx f (x :: xs) h) some _ = _
   rw [b2U e (b8S e2 (b2U e3 e4))];rfl)
 | .call f args,h,vs,m,k,H=>OEs_ok C args fun xs h m e q e2=>H q m (i6 e (HC e2)) (by
   show orO (okX (evs C args _ _) fun xs h=>cx f xs h) some _ = _
   rw [b2U e e2];rfl)
 | .new c args,h,vs,m,k,H=>a1j fun f e=>OEs_ok C args fun xs h m e2 q e3=>H q m (ifT (by rw [e];rfl) (i6 e2 (ofT e (a8R (HC e3))))) (by
   show (S9 C.P c).bind (fun f=>okX (evs C args _ _) fun xs h=>cx f (.ref h.length :: xs) _) = _
   exact b8S e (b2U e2 e3))
 | .none,_,_,_,_,_=>trivial
 | .bool _,_,_,_,_,_=>trivial
 | .int _,_,_,_,_,_=>trivial
 | .str _,_,_,_,_,_=>trivial
 | .var _,_,_,_,_,_=>trivial
 | .gl _,_,_,_,_,_=>trivial
 | .bin _ _ _,_,_,_,_,_=>trivial
 | .not _,_,_,_,_,_=>trivial
 | .and _,_,_,_,_,_=>trivial
 | .or _,_,_,_,_,_=>trivial
 | .cmp _ _ _,_,_,_,_,_=>trivial
 | .chain _ _ _ _ _,_,_,_,_,_=>trivial
 | .isNone _,_,_,_,_,_=>trivial
 | .isTrue _,_,_,_,_,_=>trivial
 | .tup _,_,_,_,_,_=>trivial
 | .list _,_,_,_,_,_=>trivial
 | .dict _,_,_,_,_,_=>trivial
 | .idx _ _,_,_,_,_,_=>trivial
 | .slice _ _ _ _ _,_,_,_,_,_=>trivial
 | .attr _ _,_,_,_,_,_=>trivial
 | .bi _ _,_,_,_,_,_=>trivial
 | .bm _ _ _,_,_,_,_,_=>trivial
 | .inst _ _,_,_,_,_,_=>trivial
 | .comp _ _ _ _ _,_,_,_,_,_=>trivial
 | .instX _ _,_,_,_,_,_=>trivial
 | .neg _,_,_,_,_,_=>trivial
 | .repl _ _ _,_,_,_,_,_=>trivial
 | .chain3 _ _ _ _ _ _ _,_,_,_,_,_=>trivial
theorem b2p {e:ME} {p:ME×ME} (q:a2e e = some p):e = .tup [p.1,p.2]:=by
 unfold a2e at q
 split at q
 ·split at q
  ·cases q
  ·split at q
   ·cases q
   ·split at q
    ·cases q;rfl
    ·cases q
 ·cases q
theorem a7N (HC:∀ {f as h q},cx f as h = some q→C.call f as h = .fail) (e:ME) {k:Nat×Hp→Mk→Prop} (H:∀ q m,ev C e h vs = .fail→evX C cx e h vs = some q→k q m):OZP C cx e h vs m k:=by
 unfold OZP
 cases y:a2e e with
 | some p =>
  have ee:=b2p y
  refine j6 C p.1 fun v h m e1=>b3T HC p.2 fun q m e2 e3=>H q m ?_ ?_
  ·rw [ee]
   exact a8R (i6 e1 (a8R (a8R e2)))
  ·unfold evX;rw [y];exact b2U e1 e3
 | none=>exact b3T HC e fun q m e2 e3=>H q m e2 (by unfold evX;rw [y];exact e3)
theorem b7i {p:List Nat} {a b:Prop} (x:a) (y:b):zAt p a b:=by
 unfold zAt;split
 ·exact y
 ·exact x
theorem b8h {o:Out AV} {k:Bool→Hp→Option Fl} {v:AV} {h:Hp} {z:Bool} {w:Option Fl} (e:o = .ok v h) (e2:j8 v = some z) (e3:k z h = w):okF o k = w:=by
 rw [e];show (j8 v).bind _ = _;rw [e2];exact e3
theorem b7Y {o:i9} {k:Hp→Vs→Option Fl} {x w:Option Fl} {h:Hp} {vs:Vs} (e:o = .next h vs) (e2:k h vs = w):a7f o k x = w:=by rw [e];exact e2
theorem b8R {o:i9} {k:Hp→Vs→Option Fl} {x w:Option Fl} (e:o = .fail) (e2:x = w):a7f o k x = w:=by rw [e];exact e2
mutual
theorem b7N (HC:∀ {f as h q},cx f as h = some q→C.call f as h = .fail):∀ (s:MS) {p:List Nat} {h:Hp} {vs:Vs} {m:Mk} {k:Fl→Mk→Prop},(∀ q m,ex C s h vs = .fail→exX C cx s h vs = some q→k q m)→OZ C cx s p h vs m k
 | .raise c _,p,h,vs,m,k,H=>X1 fun e=>H _ m rfl (by show ifS _ _ = _;rw [e];rfl)
 | .expr e,p,h,vs,m,k,H=>a7N HC e fun q m e1 e2=>H _ m (a7W e1) (by show flO (evX C cx e h vs) vs = _;rw [e2];rfl)
 | .ret e,p,h,vs,m,k,H=>a7N HC e fun q m e1 e2=>H _ m (a7W e1) (by show flO (evX C cx e h vs) vs = _;rw [e2];rfl)
 | .set _ e,p,h,vs,m,k,H=>a7N HC e fun q m e1 e2=>H _ m (a7W e1) (by show flO (evX C cx e h vs) vs = _;rw [e2];rfl)
 | .ifs t a b,p,h,vs,m,k,H=>j6 C t fun v h m e=>a2b (fun z=>OZs_ok HC a fun q m e1 e2=>H q m (C1 e (a7K z e1)) (b8h e z e2)) (fun z=>OZs_ok HC b fun q m e1 e2=>H q m (C1 e (a8n z e1)) (b8h e z e2))
 | .setAttr _ _ _,_,_,_,_,_,_=>trivial
 | .setItem _ _ _,_,_,_,_,_,_=>trivial
 | .loop _ _ _,_,_,_,_,_,_=>trivial
 | .pass,_,_,_,_,_,_=>trivial
theorem OZs_ok (HC:∀ {f as h q},cx f as h = some q→C.call f as h = .fail):∀ (s:List MS) {p:List Nat} {h:Hp} {vs:Vs} {m:Mk} {k:Fl→Mk→Prop},(∀ q m,exs C s h vs = .fail→exsX C cx s h vs = some q→k q m)→OZs C cx s p h vs m k
 | [],_,_,_,_,_,_=>trivial
 | s :: t,p,h,vs,m,k,H=>b7i (b7N HC s fun q m e1 e2=>H q m (b9v e1) (b8R e1 e2)) (b5z C s (fun h vs m e=>OZs_ok HC t fun q m e1 e2=>H q m (b9h e e1) (b7Y e e2)) fun _ _ _ _=>trivial)
end
noncomputable def b8o (P:Pr) (n f:Nat) (args:List AV) (h:Hp) (p:List Nat) (m:Mk):Prop :=
 rV P.fns[f]? fun fn=>rT (decide (args.length = fn.np) && !fn.body.isEmpty && fn.hdl.isNone) (OZs ⟨P,a9 P n⟩ (callX P n) fn.body p h (args.map some ++ List.replicate (fn.names.length - fn.np) none) m fun q _=>callX P (n + 1) f args h = some (q.c,q.h))
theorem b9i {P:Pr} {n f:Nat} {args:List AV} {h:Hp} (p:List Nat) (m:Mk):b8o P n f args h p m :=
 a1j fun fn e=>X1 fun l=>OZs_ok (fun z=>a3p z) _ fun q _ _ e2=>by
  rw [a3k,e]
  show ifS (decide (args.length = fn.np) && !fn.body.isEmpty && fn.hdl.isNone) _ = _
  rw [l]
  show (exsX ⟨P,a9 P n⟩ (callX P n) fn.body h (k8 fn args)).map _ = _
  rw [show exsX ⟨P,a9 P n⟩ (callX P n) fn.body h (k8 fn args) = some q from e2];rfl
theorem n9 {P:Pr} {n f:Nat} {args:List AV} {h:Hp} {out:Option (Nat×Hp)} (p:List Nat) (m:Mk) (F:b8o P n f args h p m→callX P (n + 1) f args h = out):callX P (n + 1) f args h = out:=F (b9i p m)
noncomputable def b8d (P:Pr) (n f:Nat) (args:List AV) (h:Hp) (p:List Nat) (m:Mk):Prop :=
 rV P.fns[f]? fun fn=>rT (decide (args.length = fn.np) && !fn.body.isEmpty) (OZs ⟨P,a9 P n⟩ (callX P n) fn.body p h (args.map some ++ List.replicate (fn.names.length - fn.np) none) m fun q m =>
  rV fn.hdl fun z=>rT (!P.hd && (instX P (.exc q.c) (some z.1) == some true)) (OE ⟨{ P with hd:=true },a9 { P with hd:=true } n⟩ z.2.2 q.h (q.vs.set z.2.1 (some (.exc q.c))) m fun v h' _=>a9 P (n + 1) f args h = .ok v h'))
theorem b9g {P:Pr} {n f:Nat} {args:List AV} {h:Hp} (p:List Nat) (m:Mk):b8d P n f args h p m :=
 a1j fun fn e=>X1 fun l=>OZs_ok (fun z=>a3p z) _ fun q m e1 e2=>a1j fun z ez=>X1 fun l2=>j6 _ _ fun v h' _ e3=>by
  rw [a0u,e]
  show ifO (decide (args.length = fn.np) && !fn.body.isEmpty) _ = _
  rw [l]
  show orF (ifO (!fn.aft) (fin (exs ⟨P,a9 P n⟩ fn.body h (k8 fn args)))) (ofO (exsX ⟨P,a9 P n⟩ (callX P n) fn.body h (k8 fn args)) _) = _
  rw [show exs ⟨P,a9 P n⟩ fn.body h (k8 fn args) = _ from e1,show exsX ⟨P,a9 P n⟩ (callX P n) fn.body h (k8 fn args) = some q from e2]
  have e4:E2 P (a9 { P with hd:=true } n) fn q = .ok v h':=by
   unfold E2;rw [ez]
   show ifO (!P.hd && (instX P (.exc q.c) (some z.1) == some true)) _ = _
   rw [l2];exact e3
  show orF (ifO (!fn.aft) .fail) (E2 P (a9 { P with hd:=true } n) fn q) = _
  rw [e4]
  cases fn.aft<;>rfl
theorem a5a {P:Pr} {n f:Nat} {args:List AV} {h:Hp} {out:Out AV} (p:List Nat) (m:Mk) (F:b8d P n f args h p m→a9 P (n + 1) f args h = out):a9 P (n + 1) f args h = out:=F (b9g p m)
end
end Mine.PL
namespace Mine.PL
noncomputable def Z2:List Nat:=[32,33,34,35,36,38,39,40,41,42,43,44,45,46,47,48,49,50,51,52,53,54,55,56,57,58,59,60,61,62,63,64,65,66,67,68,69,70,71,72,73,74,75,76,77,78,79,80,81,82,83,84,85,86,87,88,89,90,91,92,93,94,95,96,97,98,99,100,101,102,103,104,105,106,107,108,109,110,111,112,113,114,115,116,117,118,119,120,121,122,123,124,125,126,10]
noncomputable def a2B (c:Int):Nat:=(Z2[(c % 95).toNat]?).getD 0
theorem b5a {n:Nat} {h:Hp} (c:Int):a9 prog (n + 1) 29 [.int c] h = .ok (.str [a2B c]) h:=by
 have h1:0≤c % 95:=by lia
 have h2:c % 95 < 95:=by lia
 have h3:(c % 95).toNat < Z2.length:=by exact ((Int.toNat_lt h1).mpr) h2
 have h4:Z2[(c % 95).toNat]? = some (a2B c):=by
  unfold a2B;rw [List.getElem?_eq_getElem h3];rfl
 have h5:E3 Z2.length (c % 95) = some (c % 95).toNat:=by
  have:=g9 h3
  rw [Int.toNat_of_nonneg h1] at this
  exact this
 have key:=a8Z h h5 h4
 have hl':([32,33,34,35,36,38,39,40,41,42,43,44,45,46,47,48,49,50,51,52,53,54,55,56,57,58,59,60,61,62,63,64,65,66,67,68,69,70,71,72,73,74,75,76,77,78,79,80,81,82,83,84,85,86,87,88,89,90,91,92,93,94,95,96]:List Nat).length + ([97,98,99,100,101,102,103,104,105,106,107,108,109,110,111,112,113,114,115,116,117,118,119,120,121,122,123,124,125,126,10]:List Nat).length≤lim:=by decide
 have hd:M2 .add (.str [32,33,34,35,36,38,39,40,41,42,43,44,45,46,47,48,49,50,51,52,53,54,55,56,57,58,59,60,61,62,63,64,65,66,67,68,69,70,71,72,73,74,75,76,77,78,79,80,81,82,83,84,85,86,87,88,89,90,91,92,93,94,95,96]) (.str [97,98,99,100,101,102,103,104,105,106,107,108,109,110,111,112,113,114,115,116,117,118,119,120,121,122,123,124,125,126,10]) h = .ok (.str Z2) h:=o7 h _ _ hl'
 exact via [0,1] fun R=>R _ _ hd _ key
noncomputable def good (x:Nat):Prop:=x = 10∨(32≤x∧x≤126∧x≠37)
theorem a7l (c:Int):good (a2B c):=by
 have:∀ k < 95,(Z2[k]?).getD 0 = 10∨(32≤(Z2[k]?).getD 0∧(Z2[k]?).getD 0≤126∧(Z2[k]?).getD 0≠37):=by decide
 exact this _ (by lia)
theorem z8 (n:Nat) (s:List Nat):(rep n s).length = n * s.length:=by
 induction n with
 | zero=>simp [rep]
 | succ n ih=>simp [rep,ih,Nat.succ_mul];lia
theorem L5 {n:Nat} {s:List Nat} {c:Nat} (h:c∈rep n s):c∈s:=by
 induction n with
 | zero=>simp [rep] at h
 | succ n ih=>simp only [rep,List.mem_append] at h;exact h.elim id ih
theorem b1s {n:Nat} {h:Hp} (c z g b:Int) (z1:z < 300) (b0:0 < b) (b1:b≤z) (g0:0 < g) (g1:g≤95) :
  ∃ s,exs ⟨prog,a9 prog (n + 1)⟩ (x4.body.drop 4) h [some (.int c),some (.int z),some (.int g),some (.int b),none,none,none] = .ret (.str s) h∧(∀ x∈s,good x)∧s.length = z.toNat:=by
 obtain ⟨k,rfl⟩:∃ k:Nat,b = k:=Int.eq_ofNat_of_zero_le (Int.le_of_lt b0)
 have k300:k≤300:=Int.ofNat_le.mp (Int.le_trans b1 (Int.le_of_lt z1))
 have z0:0≤z:=Int.le_trans (Int.le_of_lt b0) b1
 obtain ⟨st,q,got,num,y,rfl,j1,j2⟩:=b0R (f:=r6 ⟨prog,a9 prog (n + 1)⟩ 6 [.set 5 (.bin .mod (.bin .add (.bin .mul (.var 5) (.int 48271)) (.int 11)) (.int 2147483647)),
   .set 4 (.bin .add (.var 4) (.call 29 [.bin .add (.int 65) (.bin .mod (.bin .div (.var 5) (.int 7)) (.var 2))]))])
  (fun i st=>∃ (got:List Nat) (num:Int) (y:Option AV),st = (h,[some (.int c),some (.int z),some (.int g),some (.int (k:Int)),some (.str got),some (.int num),y])∧(∀ x∈got,good x)∧got.length = i) k
  (s:=(h,[some (.int c),some (.int z),some (.int g),some (.int (k:Int)),some (.str []),some (.int c),none]))
  ⟨[],c,none,rfl,by simp,rfl⟩ (by
   rintro i _ hi ⟨got,num,y,rfl,j1,j2⟩
   refine ⟨(h,[some (.int c),some (.int z),some (.int g),some (.int (k:Int)),some (.str (got ++ [a2B (65 + (num * 48271 + 11) % 2147483647 / 7 % g)])),some (.int ((num * 48271 + 11) % 2147483647)),some (.int i)]),?_,_,_,_,rfl,?_,?_⟩
   ·have hq:got.length + 1≤lim:=Nat.le_trans (Nat.succ_le_succ (Nat.le_trans (Nat.le_of_eq j2) (Nat.le_of_lt hi))) (Nat.le_trans (Nat.succ_le_succ k300) (by decide))
    exact V8 [0,3,1,0] fun R=>R _ _ (b2I rfl) _ _ (mod_int _ _ _ g0) _ _ (b5a _) _ _ (o7 _ _ _ hq)
   ·intro x hx
    rcases List.mem_append.mp hx with q|q
    ·exact j1 x q
    ·rw [List.mem_singleton.mp q];exact a7l _
   ·simp [j2])
 have d0:0≤z / (k:Int):=Int.ediv_nonneg z0 (Int.le_of_lt b0)
 have d1:z / (k:Int)≤z:=Int.ediv_le_self _ z0
 have d2:z < (k:Int) * (z / (k:Int) + 1):=by
  have:=Int.lt_mul_ediv_self_add (x:=z) (k:=(k:Int)) b0
  rw [Int.mul_add,Int.mul_one];exact this
 have d4:got.length * (z / (k:Int) + 1).toNat≤lim:=by
  exact Nat.le_trans (Nat.mul_le_mul (Nat.le_trans (Nat.le_of_eq j2) k300) (Int.toNat_le.mpr (Int.le_trans (Int.add_le_add_right d1 1) z1))) (by decide)
 have d5:z.toNat≤(rep (z / (k:Int) + 1).toNat got).length:=by
  rw [z8,j2]
  have:(((z / (k:Int) + 1).toNat * k:Nat):Int) = (k:Int) * (z / (k:Int) + 1):=by
   rw [Int.natCast_mul,Int.toNat_of_nonneg (Int.le_trans d0 (Int.le_of_lt (Int.lt_succ _))),Int.mul_comm]
  exact Int.toNat_le.mpr (Int.le_of_lt (this▸d2))
 have hm:=K8 h got (z / (k:Int) + 1) (Int.le_trans (by decide) (Int.le_trans d0 (Int.le_of_lt (Int.lt_succ _)))) (Int.le_trans (Int.add_le_add_right d1 1) (Int.le_trans z1 (by decide))) d4
 refine ⟨(rep (z / (k:Int) + 1).toNat got).take z.toNat,?_,fun x hx=>j1 x (L5 (List.mem_of_mem_take hx)),by rw [List.length_take];exact Nat.min_eq_left d5⟩
 have hsl:D9 (.str (rep (z / (k:Int) + 1).toNat got)) .none (.int z) h = .ok (.str ((rep (z / (k:Int) + 1).toNat got).take z.toNat)) h:=by
  have:=R9 h (rep (z / (k:Int) + 1).toNat got) d5
  rw [Int.toNat_of_nonneg z0] at this
  exact this
 have r1:-(lim:Int)≤(k:Int):=by exact Int.neg_natCast_le_natCast lim k
 have r2:(k:Int)≤lim:=Int.ofNat_le.mpr (Nat.le_trans k300 (by decide))
 have r3:0 < (k:Int):=b0
 have r4:(k:Int) < 18446744073709551616:=Int.lt_of_le_of_lt (Int.ofNat_le.mpr k300) (by decide)
 have hdv:=a4Y h z k r3 r4
 exact J8 [0,0,0,1,0] fun R=>R _ _ (M4 _ _ r1 r2) _ _ (a0k q) _ _ hdv _ _ hm _ _ hsl
theorem b4k {n:Nat} {h:Hp} (c z:Int) (z0:0≤z) (z1:z < 300) :
  ∃ s,a9 prog (n + 2) 30 [.int c,.int z] h = .ok (.str s) (h ++ [.list [.int 2,.int 95,.int 95,.int 1]])∧(∀ x∈s,good x)∧s.length = z.toNat:=by
 obtain ⟨g,hg0,hg1,hg⟩:∃ g:Int,0 < g∧g≤95∧w4 (.ref h.length) (.int (c % 4)) (h ++ [.list [.int 2,.int 95,.int 95,.int 1]]) = some (.int g):=by
  have q:c % 4 = ((c % 4).toNat:Int):=by lia
  have q1:(c % 4).toNat < 4:=by lia
  rw [q]
  generalize (c % 4).toNat = k at q1
  have:∀ j:Nat,j < 4→∃ g:Int,0 < g∧g≤95∧([.int 2,.int 95,.int 95,.int 1]:List AV)[j]? = some (.int g):=by
   intro j hj
   match j,hj with
   | 0,_=>exact ⟨2,by decide,by decide,rfl⟩
   | 1,_=>exact ⟨95,by decide,by decide,rfl⟩
   | 2,_=>exact ⟨95,by decide,by decide,rfl⟩
   | 3,_=>exact ⟨1,by decide,by decide,rfl⟩
  obtain ⟨g,g0,g1,e⟩:=this k q1
  exact ⟨g,g0,g1,g7 (xs:=[.int 2,.int 95,.int 95,.int 1]) _ (by simp) (g9 (n:=4) q1) e⟩
 rw [U5 (fn:=x4) rfl rfl,a4y 3]
 obtain ⟨b,b0,b1,b2,hb⟩:∃ b:Int,0≤b∧b≤z∧(b = 0→z = 0)∧exs ⟨prog,a9 prog (n + 1)⟩ (x4.body.take 3) h ([AV.int c,AV.int z].map some ++ List.replicate (x4.names.length - x4.np) none) =
   .next (h ++ [.list [.int 2,.int 95,.int 95,.int 1]]) [some (.int c),some (.int z),some (.int g),some (.int b),none,none,none]:=by
  by_cases q:c % 4 = 2
  ·refine ⟨if 1 + c / 4 % 50 < z then 1 + c / 4 % 50 else z,by split<;>lia ,by split<;>lia ,by split<;>lia ,?_⟩
   exact J8 [2,1] fun R=>R _ hg _ (b1X q)
  ·refine ⟨z,z0,by lia ,fun e=>e,?_⟩
   exact J8 [2,1] fun R=>R _ hg _ (a0Q q)
 rw [hb,F8]
 by_cases q:b = 0
 ·refine ⟨[],b2O ?_,by simp,by rw [b2 q];rfl⟩
  exact J8 [0] fun R=>R _ (b1X q)
 ·obtain ⟨s,e,h1,h2⟩:=b1s (n:=n) (h:=h ++ [.list [.int 2,.int 95,.int 95,.int 1]]) c z g b z1 (by exact Std.lt_of_le_of_ne b0 fun a=>q (Eq.symm a)) b1 hg0 hg1
  refine ⟨s,b2O ?_,h1,h2⟩
  exact J8 [0,1000] fun R=>R _ (a0Q q) _ _ e
end Mine.PL
namespace Mine.PL
section
variable {C:Cx} {h:Hp} {vs:Vs}
theorem a2q {cs:Hp→Vs→Out Bool} {el:Hp→Vs→Out AV} {x:Nat} {v w:AV} {b:Bool} (hc:cs h (vs.set x (some v)) = .ok b h) (he:b = true→el h (vs.set x (some v)) = .ok w h) (acc:List AV) (hl:acc.length < lim):p3 cs el x vs v (h,acc) = .go (h,if b then acc ++ [w] else acc):=by
 refine (congrArg (fun o=>b3K o acc fun h=>el h (vs.set x (some v))) hc).trans ?_
 cases b with
 | false=>rfl
 | true=>exact (congrArg (b2Y acc) (he rfl)).trans (if_pos hl)
theorem a1s {α:Type} (p:α→Bool) (g:α→AV) (a:α) (r:List α) (acc:List AV):(if p a then acc ++ [g a] else acc) ++ (r.filter p).map g = acc ++ ((a :: r).filter p).map g:=by
 cases hp:p a with
 | false=>rw [List.filter_cons_of_neg (by rw [hp];exact Bool.false_ne_true)];rfl
 | true=>rw [List.filter_cons_of_pos hp];exact List.append_assoc ..
theorem b3E {b:Bool} {acc:List AV} {w:AV} {k:Nat} (hl:acc.length + (k + 1)≤lim):(if b then acc ++ [w] else acc).length + k≤lim:=by
 cases b with
 | false=>exact Nat.le_trans (Nat.add_le_add_left (Nat.le_succ k) _) hl
 | true=>show (acc ++ [w]).length + k≤lim;rw [List.length_append];show acc.length + 1 + k≤lim;rw [Nat.add_right_comm];exact hl
theorem J6 {α:Type} {cs:Hp→Vs→Out Bool} {el:Hp→Vs→Out AV} {x:Nat} (l:List α) (κ:α→AV) (p:α→Bool) (g:α→AV) (hl:l.length≤lim) (hc:∀ a∈l,cs h (vs.set x (some (κ a))) = .ok (p a) h)
  (he:∀ a∈l,p a = true→el h (vs.set x (some (κ a))) = .ok (g a) h):D1 (some (.fixed (l.map κ))) (p3 cs el x vs) h = .ok (.ref h.length) (h ++ [.list ((l.filter p).map g)]):=by
 have key:∀ (l:List α) (acc:List AV),(∀ a∈l,cs h (vs.set x (some (κ a))) = .ok (p a) h)→(∀ a∈l,p a = true→el h (vs.set x (some (κ a))) = .ok (g a) h)→acc.length + l.length≤lim →
   Q5 (p3 cs el x vs) (l.map κ) (h,acc) = .go (h,acc ++ (l.filter p).map g):=by
  intro l
  induction l with
  | nil=>intro acc _ _ _;exact congrArg (fun l=>It.go (h,l)) (List.append_nil acc).symm
  | cons a r ih =>
   intro acc hc he hl
   refine (congrArg (It.bind · fun s=>Q5 (p3 cs el x vs) (r.map κ) s) (a2q (hc a List.mem_cons_self) (he a List.mem_cons_self) acc (by rw [List.length_cons] at hl;exact Nat.lt_of_add_right_lt hl))).trans ?_
   refine (ih _ (fun a ha=>hc a (List.mem_cons_of_mem _ ha)) (fun a ha=>he a (List.mem_cons_of_mem _ ha)) (b3E hl)).trans ?_
   rw [a1s]
 refine (congrArg K9 (key l [] hc he (by rw [List.length_nil,Nat.zero_add];exact hl))).trans (r8 (decide_eq_true ?_))
 rw [List.nil_append,List.length_map]
 exact Nat.le_trans (List.length_filter_le _ _) hl
theorem t9 {α:Type} (l:List α):l.filter (fun _=>true) = l:=List.filter_eq_self.mpr fun _ _=>rfl
theorem b2v {cs:Hp→Vs→Out Bool} {el:Hp→Vs→Out AV} {x n:Nat} {a:Int} (p:Nat→Bool) (g:Nat→AV) (hl:n≤lim) (hc:∀ i,i < n→cs h (vs.set x (some (.int (a + i)))) = .ok (p i) h) (he:∀ i,i < n→p i = true→el h (vs.set x (some (.int (a + i)))) = .ok (g i) h) :
  D1 (some (.fixed (ups a n))) (p3 cs el x vs) h = .ok (.ref h.length) (h ++ [.list (((List.range n).filter p).map g)]):=by
 rw [a9f];exact J6 (List.range n) (fun i:Nat=>.int (a + i)) p g (by rw [List.length_range];exact hl) (fun i hi=>hc i (List.mem_range.mp hi)) (fun i hi=>he i (List.mem_range.mp hi))
theorem a0h {C:Cx} {el:Hp→Vs→Out AV} {x n:Nat} (g:Nat→AV) (hl:n≤lim) (he:∀ i,i < n→el h (vs.set x (some (.int i))) = .ok (g i) h) :
  D1 (some (.fixed (ups 0 n))) (p3 (evConds C []) el x vs) h = .ok (.ref h.length) (h ++ [.list ((List.range n).map g)]):=by
 rw [b2v (fun _=>true) g hl (fun _ _=>rfl) (fun i hi _=>by rw [Int.zero_add];exact he i hi),t9]
noncomputable def u8 (l:List MS) (k:Nat):List MS:=match l[k]? with
 | some (.loop _ _ b)=>b
 | _=>[]
inductive Tn {Y:Type} (V:Y→Vs) (J:Hp→Y→Prop) (o:It (Hp×Vs) i9):Prop
 | mk (h:Hp) (y:Y):o = .go (h,V y)→J h y→Tn V J o
inductive Nx {Y:Type} (V:Y→Vs) (J:Hp→Y→Prop) (o:i9):Prop
 | mk (h:Hp) (y:Y):o = .next h (V y)→J h y→Nx V J o
theorem a7b {Y:Type} {C:Cx} {x:Nat} {b:List MS} {V:Y→Vs} {J:Nat→Hp→Y→Prop} {a:Int} {n:Nat} (step:∀ i h y,i < n→J i h y→Tn V (J (i + 1)) (r6 C x b (.int (a + i)) (h,V y))) {h:Hp} {y:Y} (j:J 0 h y):Nx V (J n) (t5 (some (.fixed (ups a n))) (r6 C x b) (h,V y)):=by
 obtain ⟨s',e,h',y',rfl,j'⟩:=a4R (f:=r6 C x b) (fun i st=>∃ h y,st = (h,V y)∧J i h y) a n (by
  rintro i _ hi ⟨h,y,rfl,j⟩
  obtain ⟨h',y',e,j'⟩:=step i h y hi j
  exact ⟨_,e,h',y',rfl,j'⟩) n 0 (h,V y) (Nat.zero_add n) ⟨h,y,rfl,j⟩
 rw [Int.natCast_zero,Int.add_zero] at e
 exact ⟨h',y',a0k e,j'⟩
theorem R2 {Y:Type} {C:Cx} {x:Nat} {b:List MS} {V:Y→Vs} {J:Nat→Hp→Y→Prop} {n:Nat} (step:∀ i h y,i < n→J i h y→Tn V (J (i + 1)) (r6 C x b (.int i) (h,V y))) {h:Hp} {y:Y} (j:J 0 h y):Nx V (J n) (t5 (some (.fixed (ups 0 n))) (r6 C x b) (h,V y)) :=
 a7b (fun i h y hi j=>by rw [Int.zero_add];exact step i h y hi j) j
end
section
variable (h:Hp)
@[simp] theorem b7s (a b:Int) (q1:-lim≤a) (q2:a≤lim) (q3:-lim≤b) (q4:b≤lim):biA .range [.int a,.int b] h = .ok (.rng a b) h:=r8 (decide_eq_true ⟨q1,q2,q3,q4⟩)
theorem a0Y (s:List Nat) {a b:Nat} (hb:a + b≤s.length):D9 (.str s) (.int a) (.int (a + b)) h = .ok (.str ((s.drop a).take b)) h:=by
 have e:=a3U h s (a:=a) (b:=a + b) (by exact Nat.le_of_add_right_le hb) hb
 rw [Int.natCast_add,Nat.add_sub_cancel_left] at e
 exact e
theorem O9 {l:Nat} {xs:List AV} (e:h[l]? = some (.list xs)) {a b:Nat} (ha:a≤xs.length) (hb:b≤xs.length) (hl:xs.length≤lim):D9 (.ref l) (.int a) (.int b) h = .ok (.ref h.length) (h ++ [.list ((xs.drop a).take (b - a))]):=by
 refine (congrArg (fun o=>ofO o fun xs:List AV=>ofO (A4 xs.length 0 (.int a)) fun a=>ofO (A4 xs.length xs.length (.int b)) fun b=>newList (cut xs a b) h) (o9 e)).trans ?_
 show (ofO (A4 xs.length 0 (.int a)) fun a=>ofO (A4 xs.length xs.length (.int b)) fun b=>newList (cut xs a b) h) = _
 rw [O5 0 ha,O5 xs.length hb]
 exact f8 h _ (Nat.le_trans (List.length_take_le' _ _) (Nat.le_trans (by rw [List.length_drop];exact Nat.sub_le _ _) hl))
theorem add_list {a b:Nat} {xs ys:List AV} (e1:h[a]? = some (.list xs)) (e2:h[b]? = some (.list ys)) (hl:xs.length + ys.length≤lim):M2 .add (.ref a) (.ref b) h = .ok (.ref h.length) (h ++ [.list (xs ++ ys)]):=by
 show (ofO (o6 h (.ref a)) fun xs=>ofO (o6 h (.ref b)) fun ys=>newList (xs ++ ys) h) = _
 rw [o9 e1,o9 e2]
 exact f8 h _ (by rw [List.length_append];exact hl)
theorem a4I {l:Nat} {xs:List AV} {ns:List Int} (e:h[l]? = some (.list xs)) (q:p0 asInt xs = some ns):a2o h (.ref l) = some ns:=by
 show (o6 h (.ref l)).bind (p0 asInt) = _
 rw [o9 e];exact q
theorem b3M {l:Nat} {xs:List AV} {a:Int} {r:List Int} (e:h[l]? = some (.list xs)) (q:p0 asInt xs = some (a :: r)):biA .min [.ref l] h = .ok (.int (a0J a r)) h :=
 congrArg (fun o=>ofO (Option.bind o b7r) fun i:Int=>Out.ok (AV.int i) h) (a4I h e q)
theorem a5m {s:List Int} {i:Int} {k:Nat} {c:Int} (e:E3 s.length i = some k) (q:s[k]? = some c):w4 (.scr s) (.int i) h = some (.int c):=by
 show ((E3 s.length i).bind fun k=>(s[k]?).map AV.int) = _;rw [e];exact congrArg (Option.map AV.int) q
end
variable {n:Nat} {h:Hp}
noncomputable def j9 (ns:List Int) (k:Nat):Int:=(ns[k]?).getD 0
theorem C8 (ns:List Int) (k:Nat):a9 prog (n + 1) 27 [.scr ns,.int k] h = .ok (.int (j9 ns k)) h:=by
 by_cases q:k < ns.length
 ·have h1:ns[k]? = some (j9 ns k):=by simp [j9,q]
  exact via [1,0] fun R=>R _ (b0k (Int.ofNat_lt.mpr q)) _ (a5m h (g9 q) h1)
 ·have:j9 ns k = 0:=by simp [j9,List.getElem?_eq_none (Nat.le_of_not_lt q)]
  rw [this]
  exact via [1] fun R=>R _ (V9 (fun z=>q (Int.ofNat_lt.mp z)))
theorem a0l (i:Int) {m:Nat} (q:0 < m):∃ k:Nat,k < m∧i % (m:Int) = k:=by
 have e:=Int.natCast_pos.mpr q
 obtain ⟨k,hk⟩:=Int.eq_ofNat_of_zero_le (Int.emod_nonneg i (Int.ne_of_gt e))
 exact ⟨k,Int.ofNat_lt.mp (hk▸Int.emod_lt_of_pos i e),hk⟩
theorem P3 (i:Int) {m:Nat} (q:0 < m):∃ k:Nat,1≤k∧k≤m∧1 + i % (m:Int) = k:=let ⟨k,h,e⟩:=a0l i q;⟨1 + k,Nat.le_add_right _ _,Nat.add_comm k 1▸h,by rw [e];rfl⟩
theorem b3i (c:Int):∃ w:Nat,a9 prog (n + 1) 37 [.int c] h = .ok (.int w) h∧1≤w∧w≤8:=by
 by_cases q:c / 8 % 3 = 0
 ·obtain ⟨k,h1,h2,e⟩:=P3 c (m:=8) (by decide)
  exact ⟨k,by exact via [2,1] fun R=>R _ (b1X q) _ _ (a0C e),h1,h2⟩
 ·obtain ⟨k,h1,h2,e⟩:=P3 c (m:=2) (by decide)
  exact ⟨k,by exact via [2,1] fun R=>R _ (a0Q q) _ _ (a0C e),h1,Nat.le_trans h2 (by decide)⟩
theorem b1R (c:Int):∃ r:Nat,a9 prog (n + 1) 38 [.int c] h = .ok (.int r) h∧1≤r∧r≤40:=by
 by_cases q:c % 9 = 8
 ·obtain ⟨k,h1,h2,e⟩:=P3 (c / 9) (m:=40) (by decide)
  exact ⟨k,by exact via [1,2] fun R=>R _ (b1X q) _ _ (a0C e),h1,h2⟩
 ·obtain ⟨k,h1,h2,e⟩:=P3 (c / 9) (m:=5) (by decide)
  exact ⟨k,by exact via [1,2] fun R=>R _ (a0Q q) _ _ (a0C e),h1,Nat.le_trans h2 (by decide)⟩
noncomputable def a5X (f:Int):List Nat→Int
 | []=>f
 | c :: r=>a5X ((f * 131 + c) % 65521) r
theorem b0O (s:List Nat):a9 prog (n + 1) 0 [.str s] h = .ok (.int (a5X 7 s)) h:=by
 have key:∀ (t:List Nat) (f:Int) (x:Option AV),∃ y,Q5 (r6 ⟨prog,a9 prog n⟩ 2 [.set 1 (.bin .mod (.bin .add (.bin .mul (.var 1) (.int 131)) (.bi .ord [.var 2])) (.int 65521))]) (t.map fun c=>.str [c]) (h,[some (.str s),some (.int f),x]) =
   .go (h,[some (.str s),some (.int (a5X f t)),y]):=by
  intro t
  induction t with
  | nil=>intro f x;exact ⟨x,rfl⟩
  | cons c r ih =>
   intro f x
   obtain ⟨y,q⟩:=ih ((f * 131 + c) % 65521) (some (.str [c]))
   refine ⟨y,?_⟩
   have z:r6 ⟨prog,a9 prog n⟩ 2 [.set 1 (.bin .mod (.bin .add (.bin .mul (.var 1) (.int 131)) (.bi .ord [.var 2])) (.int 65521))] (.str [c]) (h,[some (.str s),some (.int f),x]) = .go (h,[some (.str s),some (.int ((f * 131 + c) % 65521)),some (.str [c])]):=by exact V8 [0] fun R=>R _ _ (b2I rfl)
   exact (congrArg (fun o=>It.bind o _) z).trans q
 obtain ⟨y,q⟩:=key s 7 none
 exact via [0] fun R=>R _ _ (a0k q)
noncomputable def at0 (ws:List Int) (i:Nat):Int:=(ws[i]?).getD 0
noncomputable def wts (s:List Nat) (w:Nat):List Int:=(List.range (s.length + 1 - w)).map fun a=>a5X 7 ((s.drop a).take w)
noncomputable def low (ws:List Int) (a r:Nat):Bool:=(List.range (2 * r + 1)).all fun j=>decide (j = r) || decide (at0 ws a < at0 ws (a - r + j))
noncomputable def E4 (s:List Nat) (w r:Nat):List Nat:=((List.range ((wts s w).length - 2 * r)).filter fun i=>low (wts s w) (r + i) r).map fun i=>w + r + i
noncomputable abbrev t6 (l:List Int):List AV:=l.map .int
noncomputable abbrev E5 (l:List Nat):List AV:=l.map fun i:Nat=>.int (i:Int)
theorem a4W (s:List Nat) (w:Nat):(wts s w).length = s.length + 1 - w:=by simp [wts]
theorem a9i {ws:List Int} {i:Nat} (h:i < ws.length):ws[i]? = some (at0 ws i):=by simp [at0,h]
theorem b2x {l:Nat} {ws:List Int} (e:h[l]? = some (.list (t6 ws))) {i:Nat} (hi:i < ws.length):w4 (.ref l) (.int (i:Int)) h = some (.int (at0 ws i)) :=
 g7 h e (g9 (by simpa using hi)) (by simp [a9i hi])
end Mine.PL
namespace Mine.PL
theorem a9I (x:Int):∀ (r:List Int) (a:Int),x < a0J a r↔∀ y∈a :: r,x < y
 | [],a=>by simp [a0J]
 | b :: r,a=>by
  rw [a0J,a9I x r]
  constructor
  ·intro h y hy
   have h0:=h _ (by simp:(if b < a then b else a)∈(if b < a then b else a) :: r)
   rcases List.mem_cons.mp hy with rfl|hy
   ·split at h0<;>omega
   ·rcases List.mem_cons.mp hy with rfl|hy
    ·split at h0<;>lia
    ·exact h y (by simp [hy])
  ·intro h y hy
   rcases List.mem_cons.mp hy with rfl|hy
   ·split
    ·exact h b (by simp)
    ·exact h a (by simp)
   ·exact h y (by simp [hy])
theorem a1y:∀ l:List Int,p0 asInt (t6 l) = some l
 | []=>rfl
 | a :: r=>by
  have:=a1y r
  show p0 asInt (.int a :: t6 r) = _
  rw [a4c]
  have e:p0 asInt (t6 r) = some r:=this
  rw [e]
  rfl
noncomputable def M0 (ws:List Int) (i r:Nat):List Int:=(ws.drop i).take r ++ (ws.drop (r + i + 1)).take r
theorem a8x {ws:List Int} {i r:Nat} (h:r + i + r < ws.length):(∀ y∈M0 ws i r,at0 ws (r + i) < y)↔low ws (r + i) r = true:=by
 unfold M0 low
 simp only [List.all_eq_true,List.mem_range,Bool.or_eq_true,decide_eq_true_eq,Nat.add_sub_cancel_left]
 have b:∀ k,k < 2 * r + 1→ws[i + k]? = some (at0 ws (i + k)):=fun k hk=>a9i (Nat.lt_of_le_of_lt (Nat.add_le_add_left (Nat.le_of_lt_succ hk) i) (by rw [Nat.two_mul,← Nat.add_assoc,Nat.add_comm i];exact h))
 have e:∀ k,r + i + 1 + k = i + (r + k + 1):=fun k=>by rw [Nat.add_comm r i,Nat.add_assoc,Nat.add_assoc,Nat.add_comm 1 k];rfl
 have l1:∀ {k},k < r→k < 2 * r + 1:=fun q=>Nat.lt_succ_of_lt (Nat.lt_of_lt_of_le q (Nat.le_mul_of_pos_left r (by decide)))
 have l2:∀ {k},r + k + 1 < 2 * r + 1↔k < r:=fun {k}=>by rw [Nat.add_lt_add_iff_right,Nat.two_mul,Nat.add_lt_add_iff_left]
 constructor
 ·intro q j hj
  rcases Nat.lt_trichotomy j r with z|z|z
  ·exact .inr (q _ (List.mem_append_left _ (List.mem_of_getElem? (i:=j) (by rw [List.getElem?_take,if_pos z,List.getElem?_drop];exact b j hj))))
  ·exact .inl z
  ·obtain ⟨k,rfl⟩:=Nat.exists_eq_add_of_lt z
   exact .inr (q _ (List.mem_append_right _ (List.mem_of_getElem? (i:=k) (by rw [List.getElem?_take,if_pos (l2.mp hj),List.getElem?_drop,e];exact b _ hj))))
 ·intro q y hy
  rcases List.mem_append.mp hy with hy|hy
  ·obtain ⟨j,hj⟩:=List.mem_iff_getElem?.mp hy
   rw [List.getElem?_take] at hj
   split at hj
   ·rename_i hlt
    rw [List.getElem?_drop,b j (l1 hlt)] at hj
    cases hj
    exact (q j (l1 hlt)).resolve_left (Nat.ne_of_lt hlt)
   ·cases hj
  ·obtain ⟨j,hj⟩:=List.mem_iff_getElem?.mp hy
   rw [List.getElem?_take] at hj
   split at hj
   ·rename_i hlt
    rw [List.getElem?_drop,e,b _ (l2.mpr hlt)] at hj
    cases hj
    exact (q _ (l2.mpr hlt)).resolve_left (Nat.ne_of_gt (Nat.lt_succ_of_le (Nat.le_add_right _ _)))
   ·cases hj
noncomputable def R1 (s:List Nat) (w r i:Nat):List Nat:=((List.range i).filter fun i=>low (wts s w) (r + i) r).map fun i=>w + r + i
theorem a1k (s:List Nat) (w r i:Nat):R1 s w r (i + 1) = R1 s w r i ++ (if low (wts s w) (r + i) r then [w + r + i] else []):=by
 unfold R1
 rw [List.range_succ,List.filter_append,List.map_append]
 congr 1
 cases h:low (wts s w) (r + i) r<;>simp [h]
theorem a2X (s:List Nat) (w r i:Nat):(R1 s w r i).length≤i:=by
 unfold R1
 rw [List.length_map]
 exact Nat.le_trans (List.length_filter_le _ _) (by simp)
theorem getElem?_set_other {h:Hp} {l k:Nat} {o:AO} (q:l≠k):(h.set l o)[k]? = h[k]?:=by simp [List.getElem?_set,q]
theorem b5p {L r i:Nat} (hr1:1≤r) (hL:L≤3001) (hi:i < L - 2 * r):r + i + r < L∧i≤L∧r + i≤L∧r + i + 1≤L∧r + i + r + 1≤L∧L≤lim∧i < lim∧r + r≤lim∧0 < r:=by
 have h:r + i + r < L:=by rw [Nat.add_comm r i,Nat.add_assoc,← Nat.two_mul];exact Nat.add_lt_of_lt_sub hi
 have h3:r + i + 1≤L:=Nat.lt_of_le_of_lt (Nat.le_add_right _ _) h
 have h2:=Nat.le_of_lt h3
 have h1:=Nat.le_trans (Nat.le_add_left i r) h2
 have h5:L≤lim:=Nat.le_trans hL (by decide)
 exact ⟨h,h1,h2,h3,h,h5,Nat.lt_of_le_of_lt (Nat.le_trans h1 hL) (by decide),Nat.le_trans (Nat.add_le_add_right (Nat.le_add_right r i) r) (Nat.le_trans (Nat.le_of_lt h) h5),hr1⟩
theorem b3d {k w:Nat} (hk:k≤3000) (hw:w≤40):-lim≤(k:Int) - w + 1∧(k:Int) - w + 1≤lim:=by
 have:(lim:Int) = 16777216:=rfl
 rw [this];lia
theorem b4i {k:Nat} (h:k≤48):-(lim:Int)≤(k:Int)∧(k:Int)≤lim:=⟨Int.neg_natCast_le_natCast lim k,Int.ofNat_le.mpr (Nat.le_trans h (by decide))⟩
theorem b4w {k w:Nat}:((k:Int) - w + 1).toNat = k + 1 - w:=by
 rw [show (k:Int) - w + 1 = ((k + 1:Nat):Int) - w from Int.add_right_comm _ _ _];exact Int.toNat_sub _ _
theorem b4R {k w r:Nat}:((k:Int) - r + 1 - (w + r)).toNat = k + 1 - w - 2 * r:=by
 rw [show (k:Int) - r + 1 - (w + r) = ((k + 1:Nat):Int) - ((w + 2 * r:Nat):Int) by lia,Nat.sub_sub];exact Int.toNat_sub _ _
theorem a3n {ws:List Int} {i r:Nat} (h:r + i + r < ws.length):(M0 ws i r).length = r + r:=by
 unfold M0
 rw [List.length_append,List.length_take_of_le,List.length_take_of_le]<;>rw [List.length_drop]
 ·exact Nat.le_sub_of_add_le (by rw [Nat.add_comm,Nat.add_right_comm];exact h)
 ·exact Nat.le_sub_of_add_le (Nat.le_of_lt (Nat.lt_of_le_of_lt (Nat.le_add_right _ _) h))
noncomputable abbrev b7l (s:List Nat) (w r l:Nat) (y:Option AV×Option AV):Vs:=[some (.str s),some (.int w),some (.int r),some (.ref l),some (.ref (l + 1)),y.1,y.2,none]
structure b6E (s:List Nat) (w r:Nat) (h:Hp) (i:Nat) (hh:Hp):Prop where
 g:d9 h hh
 gw:hh[h.length]? = some (.list (t6 (wts s w)))
 gc:hh[h.length + 1]? = some (.list (E5 (R1 s w r i)))
variable {n:Nat} {h hh:Hp} {s:List Nat} {w r i:Nat}
theorem b3p (l:i + r + 1 = r + i + 1):((t6 (wts s w)).drop i).take (i + r - i) ++ ((t6 (wts s w)).drop (i + r + 1)).take (i + r + r + 1 - (i + r + 1)) = t6 (M0 (wts s w) i r):=by
 rw [Nat.add_sub_cancel_left,Nat.add_right_comm (i + r),Nat.add_sub_cancel_left,l]
 unfold M0 t6
 rw [List.map_append,List.map_take,List.map_take,List.map_drop,List.map_drop]
theorem b1g {y:Option AV×Option AV} (hr1:1≤r) (hL:(wts s w).length≤3001) (hi:i < (wts s w).length - 2 * r) (J:b6E s w r h i hh) :
  Tn (b7l s w r h.length) (fun hh _=>b6E s w r h (i + 1) hh) (r6 ⟨prog,a9 prog n⟩ 5 (u8 a9r.body 2) (.int (((w + r:Nat):Int) + i)) (hh,b7l s w r h.length y)):=by
 obtain ⟨hil,l1,l2,l3,l4,l5,l6,l7,l8⟩:=b5p hr1 hL hi
 have c:=Nat.add_comm r i
 have zl:(t6 (wts s w)).length = (wts s w).length:=List.length_map ..
 have ew:((w + r:Nat):Int) + i - w = ((i + r:Nat):Int):=by
  rw [Int.natCast_add,Int.natCast_add,Int.add_assoc,Int.add_comm,Int.add_sub_cancel,Int.add_comm]
 have e1:((i + r:Nat):Int) - r = i:=by rw [Int.natCast_add];exact Int.add_sub_cancel ..
 have i1:=b2x (h:=hh) J.gw (i:=i + r) (c▸l3)
 have s1:=O9 hh J.gw (a:=i) (b:=i + r) (zl▸l1) (zl▸c▸l2) (zl▸l5)
 have G1:=d9.app hh [.list (((t6 (wts s w)).drop i).take (i + r - i))]
 have n1:=f5 hh (.list (((t6 (wts s w)).drop i).take (i + r - i)))
 generalize hh ++ [AO.list (((t6 (wts s w)).drop i).take (i + r - i))] = h1 at s1 G1 n1
 have s2:=O9 h1 (G1.get J.gw) (a:=i + r + 1) (b:=i + r + r + 1) (zl▸c▸l3) (zl▸c▸l4) (zl▸l5)
 have G2:=d9.app h1 [.list (((t6 (wts s w)).drop (i + r + 1)).take (i + r + r + 1 - (i + r + 1)))]
 have n2:=f5 h1 (.list (((t6 (wts s w)).drop (i + r + 1)).take (i + r + r + 1 - (i + r + 1))))
 generalize h1 ++ [AO.list (((t6 (wts s w)).drop (i + r + 1)).take (i + r + r + 1 - (i + r + 1)))] = h2 at s2 G2 n2
 have ab:=b3p (s:=s) (w:=w) (congrArg (· + 1) c.symm)
 have s3:=add_list h2 (G2.get n1) n2 (by rw [← List.length_append,ab];exact Nat.le_trans (Nat.le_of_eq ((List.length_map ..).trans (a3n hil))) l7)
 rw [ab] at s3
 have G3:=d9.app h2 [.list (t6 (M0 (wts s w) i r))]
 have n3:=f5 h2 (.list (t6 (M0 (wts s w) i r)))
 generalize h2 ++ [AO.list (t6 (M0 (wts s w) i r))] = h3 at s3 G3 n3
 have g3:=(G1.trans G2).trans G3
 cases hC:M0 (wts s w) i r with
 | nil=>exact absurd ((congrArg List.length hC).symm.trans (a3n hil)) (Nat.ne_of_lt (Nat.add_pos_left l8 r))
 | cons x C' =>
  have s4:=b3M h3 n3 (a:=x) (r:=C') (by rw [a1y,hC])
  have hcond:at0 (wts s w) (i + r) < a0J x C'↔low (wts s w) (r + i) r = true:=by
   rw [a9I,← hC,← c];exact a8x hil
  by_cases hlow:low (wts s w) (r + i) r = true
  ·have cnd:=hcond.mpr hlow
   have ap:=D3 h3 (g3.get J.gc) (Nat.lt_of_le_of_lt (Nat.le_trans (Nat.le_of_eq (List.length_map ..)) (a2X s w r i)) l6) (.int (((w + r:Nat):Int) + i))
   have kd:=F7 h3 (g3.get J.gc)
   refine ⟨h3.set (h.length + 1) (.list (E5 (R1 s w r i) ++ [.int (((w + r:Nat):Int) + i)])),(some (.int (((w + r:Nat):Int) + i)),some (.int ((i + r:Nat):Int))),?_,⟨⟨?_,fun j hj=>?_⟩,?_,?_⟩⟩
   ·exact V8 [0,0,0,0,3,0,0,0,0,0] fun R=>R _ _ (Y4 ew) _ i1 _ _ (Y4 e1) _ _ s1 _ _ s2 _ _ s3 _ _ s4 _ (b0k cnd) kd _ _ ap
   ·rw [List.length_set];exact (J.g.trans g3).1
   ·rw [getElem?_set_other (Nat.ne_of_gt (Nat.lt_succ_of_lt hj))]
    exact (J.g.trans g3).2 j hj
   ·rw [getElem?_set_other (Nat.succ_ne_self _)];exact g3.get J.gw
   ·rw [List.getElem?_set_self (List.getElem?_eq_some_iff.mp (g3.get J.gc)).1,a1k,if_pos hlow]
    rw [E5,E5,List.map_append];rfl
  ·have cnd:¬ at0 (wts s w) (i + r) < a0J x C':=fun q=>hlow (hcond.mp q)
   refine ⟨h3,(some (.int (((w + r:Nat):Int) + i)),some (.int ((i + r:Nat):Int))),?_,J.g.trans g3,g3.get J.gw,?_⟩
   ·exact V8 [0,0,0,0,3,0,0,0] fun R=>R _ _ (Y4 ew) _ i1 _ _ (Y4 e1) _ _ s1 _ _ s2 _ _ s3 _ _ s4 _ (V9 cnd)
   ·rw [a1k,if_neg hlow,List.append_nil];exact g3.get J.gc
theorem b0b (hs:s.length≤3000):D1 (some (.fixed (ups 0 (s.length + 1 - w)))) (p3 (evConds ⟨prog,a9 prog (n + 1)⟩ []) (ev ⟨prog,a9 prog (n + 1)⟩ (.call 0 [.slice (.var 0) (.var 7) (.bin .add (.var 7) (.var 1)) true true])) 7
   [some (.str s),some (.int w),some (.int r),none,none,none,none,none]) h = .ok (.ref h.length) (h ++ [.list (t6 (wts s w))]):=by
 rw [a0h (fun i=>.int (a5X 7 ((s.drop i).take w))) (Nat.le_trans (Nat.sub_le ..) (Nat.le_trans (Nat.succ_le_succ hs) (by decide))) fun i hi=>?_]
 ·rw [t6,wts,List.map_map];rfl
 ·have sl:=a0Y h s (a:=i) (b:=w) (Nat.le_of_lt_succ (Nat.add_lt_of_lt_sub hi))
  have lw:=b0O (n:=n) (h:=h) ((s.drop i).take w)
  exact a0G [1,0] fun R=>R _ _ sl _ _ lw
theorem b5j (hs:s.length≤3000) (hw:w≤8) (hr1:1≤r) (hr:r≤40) :
  ∃ h',a9 prog (n + 2) 1 [.str s,.int w,.int r] h = .ok (.ref (h.length + 1)) h'∧d9 h h'∧h'[h.length + 1]? = some (.list (E5 (E4 s w r))):=by
 have hwl:=a4W s w
 have hL:(wts s w).length≤3001:=by rw [hwl];exact Nat.le_trans (Nat.sub_le ..) (Nat.succ_le_succ hs)
 have c1:=b0b (n:=n) (h:=h) (w:=w) (r:=r) hs
 have nl:=f8 (h ++ [.list (t6 (wts s w))]) [] (Nat.zero_le _)
 have G1:=d9.app h [.list (t6 (wts s w))]
 have n1:=f5 h (.list (t6 (wts s w)))
 have x1:(h ++ [AO.list (t6 (wts s w))]).length = h.length + 1:=List.length_append ..
 generalize h ++ [AO.list (t6 (wts s w))] = h1 at c1 nl G1 n1 x1
 have G2:=d9.app h1 [.list []]
 have n2:=f5 h1 (.list [])
 rw [x1] at nl n2
 generalize h1 ++ [AO.list []] = h2 at nl G2 n2
 obtain ⟨h',y,lp,J⟩:=a7b (n:=(wts s w).length - 2 * r) (V:=b7l s w r h.length) (J:=fun i hh _=>b6E s w r h i hh) (y:=(none,none)) (fun i hh y hi J=>b1g (n:=n + 1) hr1 hL hi J) ⟨G1.trans G2,G2.get n1,n2⟩
 refine ⟨h',?_,J.g,J.gc⟩
 have b1:=b3d hs (Nat.le_trans hw (by decide))
 have b2:=b4i (Nat.add_le_add hw hr)
 have b4:=b3d hs hr
 have r1:=M4 h ((s.length:Int) - w + 1) b1.1 b1.2
 have r2:=b7s h2 ((w + r:Nat):Int) ((s.length:Int) - r + 1) b2.1 b2.2 b4.1 b4.2
 have n1:((s.length:Int) - w + 1 - 0).toNat = s.length + 1 - w:=by rw [Int.sub_zero];exact b4w
 have n2:((s.length:Int) - r + 1 - ((w + r:Nat):Int)).toNat = (wts s w).length - 2 * r:=hwl▸b4R
 rw [← n1] at c1
 rw [← n2] at lp
 exact via [3,0,0,4,0] fun R=>R _ _ r1 _ _ c1 _ _ nl _ _ r2 _ _ lp
end Mine.PL
namespace Mine.PL
theorem b0P (s:List Nat) (w r:Nat):E4 s w r = R1 s w r ((wts s w).length - 2 * r):=rfl
theorem b3q {s:List Nat} {w r p:Nat} (h:p∈E4 s w r):∃ i,i < (wts s w).length - 2 * r∧p = w + r + i∧low (wts s w) (r + i) r = true:=by
 unfold E4 at h
 obtain ⟨i,hi,rfl⟩:=List.mem_map.mp h
 obtain ⟨h1,h2⟩:=List.mem_filter.mp hi
 exact ⟨i,List.mem_range.mp h1,rfl,h2⟩
theorem a0N {α σ ρ:Type} {get:σ→Option (List AV)} {bad:ρ} {f:AV→σ→It σ ρ} (l:List α) (κ:α→AV) (J:Nat→σ→Prop) (hg:∀ i s,J i s→get s = some (l.map κ))
  (step:∀ (i:Nat) a s,l[i]? = some a→J i s→∃ s',f (κ a) s = .go s'∧J (i + 1) s'):∀ (n k:Nat) (s:σ),k≤l.length→k + n = l.length + 1→J k s→∃ s',s8 get bad f n k s = .go s'∧J l.length s'
 | 0,k,s,c,e,j=>absurd c (Nat.not_le.mpr (Nat.lt_of_lt_of_eq (Nat.lt_succ_self _) e.symm))
 | n + 1,k,s,c,e,j=>by
  rw [s8,hg k s j]
  show ∃ s',orO (l.map κ)[k]? _ _ = It.go s'∧_
  rw [List.getElem?_map]
  cases q:l[k]? with
  | none=>exact ⟨s,rfl,Nat.le_antisymm c (List.getElem?_eq_none_iff.mp q)▸j⟩
  | some a =>
   obtain ⟨s',e',j'⟩:=step k a s q j
   obtain ⟨s'',e'',j''⟩:=a0N l κ J hg step n (k + 1) s' (List.getElem?_eq_some_iff.mp q).1 (by lia) j'
   exact ⟨s'',(congrArg (It.bind · fun s=>s8 get bad f n (k + 1) s) e').trans e'',j''⟩
structure a4v (h:Hp) (t:Nat) (xs:List AV) (get:Hp→Option (List AV)):Prop where
 at':get h = some xs
 src:∃ s,z5 h (.ref t) = some s∧∀ {τ ρ:Type} (bad:ρ) (f:AV→Hp×τ→It (Hp×τ) ρ) (st:Hp×τ),iter s bad f st = s8 (fun s=>get s.1) bad f (xs.length + 1) 0 st
theorem Q2 {h:Hp} {t:Nat} {xs:List AV} (e:h[t]? = some (.list xs)):a4v h t xs (b4D t) :=
 ⟨congrArg lst e,.list t xs.length,congrArg (fun o=>orO (lst o) (fun xs=>some (Src.list t xs.length)) ((dct h[t]?).bind fun p:Option Nat×List (AV×AV)=>p.1.map fun ep=>Src.dict t ep p.2.length)) e,fun _ _ _=>rfl⟩
theorem a9w {h:Hp} {t ep:Nat} {es:List (AV×AV)} (e:h[t]? = some (.dict (some ep) es)):getD t ep es.length h = some (es.map (·.1)):=by
 refine (congrArg (fun o=>(dct o).bind fun p:Option Nat×List (AV×AV)=>ifS (decide (p.1 = some ep∧p.2.length = es.length)) (some (p.2.map (·.1)))) e).trans ?_
 exact congrArg (fun b=>ifS b (some (es.map (·.1)))) (decide_eq_true (p:=some ep = some ep∧es.length = es.length) ⟨rfl,rfl⟩)
theorem a7F {h:Hp} {t ep:Nat} {es:List (AV×AV)} (e:h[t]? = some (.dict (some ep) es)):a4v h t (es.map (·.1)) (getD t ep es.length):=by
 refine ⟨a9w e,.dict t ep es.length,?_,fun _ _ _=>by rw [List.length_map];rfl⟩
 refine (congrArg (fun o=>orO (lst o) (fun xs=>some (Src.list t xs.length)) ((dct h[t]?).bind fun p:Option Nat×List (AV×AV)=>p.1.map fun ep=>Src.dict t ep p.2.length)) e).trans ?_
 exact congrArg (fun o=>(dct o).bind fun p:Option Nat×List (AV×AV)=>p.1.map fun ep=>Src.dict t ep p.2.length) e
theorem b0A {α:Type} {t x:Nat} {l:List α} {κ:α→AV} {get:Hp→Option (List AV)} {C:Cx} {body:List MS} {h:Hp} {vs:Vs} (G:a4v h t (l.map κ) get) (J:Nat→Hp→Vs→Prop) (hg:∀ i h vs,J i h vs→get h = some (l.map κ)) (j:J 0 h vs)
  (step:∀ (i:Nat) (a:α) h vs,l[i]? = some a→J i h vs→∃ h' vs',exs C body h (vs.set x (some (κ a))) = .next h' vs'∧J (i + 1) h' vs') :
  ∃ h' vs',t5 (z5 h (.ref t)) (r6 C x body) (h,vs) = .next h' vs'∧J l.length h' vs':=by
 obtain ⟨s,e1,j1⟩:=a0N (get:=fun s:Hp×Vs=>get s.1) (bad:=i9.fail) (f:=r6 C x body) l κ (fun i s=>J i s.1 s.2) (fun i s j=>hg i _ _ j) (fun i a s hv j=>by
  obtain ⟨h',vs',e1,j1⟩:=step i a s.1 s.2 hv j
  exact ⟨(h',vs'),a3L e1,j1⟩) (l.length + 1) 0 (h,vs) (Nat.zero_le _) (Nat.zero_add _) j
 obtain ⟨sr,e2,e3⟩:=G.src
 have e4:=e3 i9.fail (r6 C x body) (h,vs)
 rw [List.length_map] at e4
 exact ⟨s.1,s.2,(congrArg (fun o=>t5 o (r6 C x body) (h,vs)) e2).trans (congrArg W0 (e4.trans e1)),j1⟩
theorem b0p {α:Type} {a x:Nat} {l:List α} {κ:α→AV} {C:Cx} {body:List MS} {h:Hp} {vs:Vs} (e:h[a]? = some (.list (l.map κ))) (J:Nat→Hp→Vs→Prop) (hg:∀ i h vs,J i h vs→h[a]? = some (.list (l.map κ))) (j:J 0 h vs)
  (step:∀ (i:Nat) (v:α) h vs,l[i]? = some v→J i h vs→∃ h' vs',exs C body h (vs.set x (some (κ v))) = .next h' vs'∧J (i + 1) h' vs') :
  ∃ h' vs',t5 (z5 h (.ref a)) (r6 C x body) (h,vs) = .next h' vs'∧J l.length h' vs' :=
 b0A (Q2 e) J (fun i h vs j=>congrArg lst (hg i h vs j)) j step
theorem Q0 {α Y:Type} {a x:Nat} {l:List α} {κ:α→AV} {C:Cx} {b:List MS} {V:Nat→Y→Vs} {J:Nat→Hp→Y→Prop} {h:Hp} {y:Y} (e:h[a]? = some (.list (l.map κ))) (hg:∀ i h y,J i h y→h[a]? = some (.list (l.map κ)))
  (step:∀ i v h y,l[i]? = some v→J i h y→Tn (V (i + 1)) (J (i + 1)) (r6 C x b (κ v) (h,V i y))) (j:J 0 h y):Nx (V l.length) (J l.length) (t5 (z5 h (.ref a)) (r6 C x b) (h,V 0 y)):=by
 obtain ⟨s,e1,h',y',rfl,j'⟩:=a0N (get:=fun s:Hp×Vs=>b4D a s.1) (bad:=i9.fail) (f:=r6 C x b) l κ (fun i s=>∃ h y,s = (h,V i y)∧J i h y) (fun i s ⟨h,y,q,j⟩=>q▸congrArg lst (hg i h y j)) (fun i v s hv ⟨h,y,q,j⟩=>by
  obtain ⟨h',y',e1,j1⟩:=step i v h y hv j
  exact ⟨_,q▸e1,h',y',rfl,j1⟩) (l.length + 1) 0 (h,V 0 y) (Nat.zero_le _) (Nat.zero_add _) ⟨h,y,rfl,j⟩
 obtain ⟨sr,e2,e3⟩:=(Q2 e).src
 have e4:=e3 i9.fail (r6 C x b) (h,V 0 y)
 rw [List.length_map] at e4
 exact ⟨h',y',(congrArg (fun o=>t5 o (r6 C x b) (h,V 0 y)) e2).trans (congrArg W0 (e4.trans e1)),j'⟩
noncomputable def a3d:Nat→List Nat→List (Nat×Nat)
 | _,[]=>[]
 | a,b :: r=>(a,b) :: a3d b r
noncomputable def bit (s:List Nat) (g:Nat×Nat):List Nat:=(s.drop g.1).take (g.2 - g.1)
noncomputable def p6 (s:List Nat) (w r:Nat):List Nat:=E4 s w r ++ [s.length]
noncomputable def i7 (s:List Nat) (w r:Nat):List (List Nat):=if s = [] then [] else (a3d 0 (p6 s w r)).map (bit s)
noncomputable abbrev o0 (l:List (List Nat)):List AV:=l.map .str
noncomputable def a6T:Nat→List Nat→Prop
 | _,[]=>True
 | a,b :: r=>a < b∧a6T b r
theorem a9p:∀ (l:List Nat) (a:Nat),(∀ x∈l,a < x)→l.Pairwise (· < ·)→a6T a l
 | [],_,_,_=>trivial
 | b :: r,a,h,p=>by
  rw [List.pairwise_cons] at p
  exact ⟨h b (by simp),a9p r b p.1 p.2⟩
theorem a6T.lt:∀ {l:List Nat} {a:Nat},a6T a l→∀ x∈l,a < x
 | b :: r,a,h,x,hx=>by
  rcases List.mem_cons.mp hx with rfl|hx
  ·exact h.1
  ·exact Nat.lt_trans h.1 (h.2.lt x hx)
theorem a6x (s:List Nat) (w r:Nat):(E4 s w r).Pairwise (· < ·):=by
 unfold E4
 exact List.Pairwise.map _ (fun a b (h:a < b)=>by exact Nat.add_lt_add_left h (w + r)) ((List.pairwise_lt_range (n:=(wts s w).length - 2 * r)).filter _)
theorem a1P {s:List Nat} {w r p:Nat} (h:p∈E4 s w r):w + r≤p∧p + r≤s.length:=by
 obtain ⟨i,hi,rfl,_⟩:=b3q h
 rw [a4W,Nat.lt_sub_iff_add_lt,Nat.lt_sub_iff_add_lt] at hi
 refine ⟨Nat.le_add_right _ _,?_⟩
 rw [Nat.add_assoc w,Nat.add_assoc w,Nat.add_comm r i,Nat.add_assoc i,← Nat.two_mul,Nat.add_comm w]
 exact Nat.le_of_lt_succ hi
theorem a3J {s:List Nat} {w r:Nat} (hr:1≤r) (hs:s≠[]):a6T 0 (p6 s w r):=by
 have hl:0 < s.length:=List.length_pos_iff.mpr hs
 refine a9p _ _ (fun x hx=>?_) ?_
 ·rcases List.mem_append.mp hx with q|q
  ·have:=a1P q;lia
  ·rw [List.mem_singleton.mp q];exact hl
 ·unfold p6
  rw [List.pairwise_append]
  refine ⟨a6x s w r,List.pairwise_singleton _ _,fun a ha b hb=>?_⟩
  rw [List.mem_singleton.mp hb]
  have:=a1P ha
  lia
theorem a6i {α:Type} (f:Nat→Nat→α):∀ (cs:List Nat) (a:Nat),(List.range cs.length).map (fun k=>f ((a :: cs)[k]?.getD 0) ((a :: cs)[k + 1]?.getD 0)) = (a3d a cs).map fun g=>f g.1 g.2
 | [],_=>rfl
 | b :: r,a=>by
  rw [List.length_cons,List.range_succ_eq_map,List.map_cons,List.map_map,a3d,List.map_cons]
  simp only [List.getElem?_cons_zero,List.getElem?_cons_succ,Option.getD_some,Nat.zero_add]
  congr 1
  rw [← a6i f r b]
  apply List.map_congr_left
  intro k _
  simp only [Function.comp,Nat.succ_eq_add_one,List.getElem?_cons_succ]
theorem a7c {s:List Nat} {w r:Nat}:(E4 s w r).length≤s.length + 1:=by
 rw [b0P]
 exact Nat.le_trans (a2X s w r _) (Nat.le_trans (Nat.sub_le ..) (by rw [a4W];exact Nat.sub_le ..))
theorem a9s {s:List Nat} {w r k:Nat}:(0 :: p6 s w r)[k]?.getD 0≤s.length:=by
 cases q:(0 :: p6 s w r)[k]? with
 | none=>simp
 | some x =>
  simp only [Option.getD_some]
  rcases List.mem_cons.mp (List.mem_of_getElem? q) with rfl|q
  ·lia
  ·rcases List.mem_append.mp q with q|q
   ·have:=a1P q;lia
   ·rw [List.mem_singleton.mp q];lia
theorem a7r {n w r l:Nat} {h:Hp} {s:List Nat} (q:¬ s = []) (hs:(p6 s w r).length≤lim) (a5:h[l]? = some (.list (E5 (0 :: p6 s w r)))) :
  D1 (some (.fixed (ups 0 (p6 s w r).length))) (p3 (evConds ⟨prog,a9 prog n⟩ []) (ev ⟨prog,a9 prog n⟩ (.slice (.var 0) (.idx (.var 3) (.var 4)) (.idx (.var 3) (.bin .add (.var 4) (.int 1))) true true)) 4
    [some (.str s),some (.int w),some (.int r),some (.ref l),none]) h = .ok (.ref h.length) (h ++ [.list (o0 (i7 s w r))]):=by
 rw [a0h (fun k=>.str (bit s ((0 :: p6 s w r)[k]?.getD 0,(0 :: p6 s w r)[k + 1]?.getD 0))) hs fun i hi=>?_]
 ·rw [a6i (fun a b=>AV.str (bit s (a,b))) (p6 s w r) 0,o0,i7,if_neg q,List.map_map];rfl
 ·have gt:∀ j,j < (0 :: p6 s w r).length→w4 (.ref l) (.int (j:Int)) h = some (.int (((0 :: p6 s w r)[j]?.getD 0:Nat):Int)):=fun j hj=>by
   refine g7 h a5 (g9 (by rw [List.length_map];exact hj)) ?_
   rw [List.getElem?_map,List.getElem?_eq_getElem hj];rfl
  have i1:=gt i (Nat.lt_succ_of_lt hi)
  have i2:=gt (i + 1) (Nat.succ_lt_succ hi)
  have sl:=a3U h s (a9s (s:=s) (w:=w) (r:=r) (k:=i)) (a9s (s:=s) (w:=w) (r:=r) (k:=i + 1))
  exact a0G [0,1,0] fun R=>R _ i1 _ i2 _ _ sl
theorem b0v {n:Nat} {h:Hp} {s:List Nat} {w r:Nat} (hs:s.length≤3000) (hw:w≤8) (hr1:1≤r) (hr:r≤40) :
  ∃ l h',a9 prog (n + 3) 3 [.str s,.int w,.int r] h = .ok (.ref l) h'∧d9 h h'∧h.length≤l∧h'[l]? = some (.list (o0 (i7 s w r))):=by
 by_cases q:s = []
 ·subst q
  refine ⟨h.length,h ++ [.list []],?_,d9.app _ _,Nat.le_refl _,f5 _ _⟩
  exact via [] fun R=>R
 ·have hcl:(E4 s w r).length≤3001:=Nat.le_trans a7c (Nat.succ_le_succ hs)
  have g1:=d9.app h [.list [.int 0]]
  have a1:=f5 h (.list [.int 0])
  have n1:=f8 h [.int 0] (show 1≤lim by decide)
  generalize h ++ [AO.list [.int 0]] = h1 at g1 a1 n1
  obtain ⟨h2,k2,g2,a2⟩:=b5j (n:=n) (h:=h1) (s:=s) (w:=w) (r:=r) hs hw hr1 hr
  have ad:=add_list h2 (g2.get a1) a2 (Nat.le_trans (Nat.add_le_add_left (Nat.le_trans (Nat.le_of_eq (List.length_map ..)) hcl) 1) (show 3002≤lim by decide))
  have g3:=d9.app h2 [.list ([.int 0] ++ E5 (E4 s w r))]
  have a3:=f5 h2 (.list ([.int 0] ++ E5 (E4 s w r)))
  generalize h2 ++ [AO.list ([.int 0] ++ E5 (E4 s w r))] = h3 at ad g3 a3
  have n4:=f8 h3 [.int (s.length:Int)] (show 1≤lim by decide)
  have g4:=d9.app h3 [.list [.int (s.length:Int)]]
  have a4:=f5 h3 (.list [.int (s.length:Int)])
  generalize h3 ++ [AO.list [.int (s.length:Int)]] = h4 at n4 g4 a4
  have lene:(p6 s w r).length = (E4 s w r).length + 1:=List.length_append
  have le:(p6 s w r).length≤3002:=lene▸Nat.succ_le_succ hcl
  have el:([.int 0] ++ E5 (E4 s w r) ++ [.int (s.length:Int)]:List AV) = E5 (0 :: p6 s w r):=by rw [E5,E5,p6,List.map_cons,List.map_append];rfl
  have ad5:=add_list h4 (g4.get a3) a4 (by rw [← List.length_append,el,List.length_map];exact Nat.le_trans (Nat.succ_le_succ le) (by decide))
  rw [el] at ad5
  have g5:=d9.app h4 [.list (E5 (0 :: p6 s w r))]
  have a5:=f5 h4 (.list (E5 (0 :: p6 s w r)))
  generalize h4 ++ [AO.list (E5 (0 :: p6 s w r))] = h5 at ad5 g5 a5
  have c6:=a7r (n:=n + 2) (w:=w) (r:=r) q (Nat.le_trans le (by decide)) a5
  have G:=(((g1.trans g2).trans g3).trans g4).trans g5
  refine ⟨h5.length,h5 ++ [.list (o0 (i7 s w r))],?_,G.trans (d9.app _ _),G.1,f5 _ _⟩
  have ln:=len_list h5 a5
  rw [List.length_map] at ln
  have r1:=M4 h5 ((p6 s w r).length:Int) (Int.neg_natCast_le_natCast ..) (Int.ofNat_le.mpr (Nat.le_trans le (by decide)))
  have nn:(((p6 s w r).length:Int) - 0).toNat = (p6 s w r).length:=by rw [Int.sub_zero];rfl
  rw [← nn] at c6
  have e1:(((0 :: p6 s w r).length:Nat):Int) - 1 = ((p6 s w r).length:Int):=Int.add_sub_cancel ((p6 s w r).length:Int) 1
  exact via [0,0,0,0,1,0,0,0,0,0] fun R=>R _ (b5G q) _ _ n1 _ _ k2 _ _ ad _ _ n4 _ _ ad5 _ _ ln _ _ (Y4 e1) _ _ r1 _ _ c6
theorem a3Q (s:List Nat):∀ (cs:List Nat) (a:Nat),a6T a (cs ++ [s.length])→((a3d a (cs ++ [s.length])).map (bit s)).flatten = s.drop a
 | [],a,h=>by
  simp only [List.nil_append,a3d,List.map_cons,List.map_nil,List.flatten_cons,List.flatten_nil,List.append_nil,bit]
  rw [List.take_of_length_le (by simp)]
 | b :: r,a,h=>by
  rw [List.cons_append,a3d,List.map_cons,List.flatten_cons,a3Q s r b h.2]
  simp only [bit]
  have hb:a < b:=h.1
  have:s.drop b = (s.drop a).drop (b - a):=by rw [List.drop_drop];congr 1;lia
  rw [this,List.take_append_drop]
theorem a5U:∀ (cs:List Nat) (a:Nat),(a3d a cs).length = cs.length
 | [],_=>rfl
 | b :: r,a=>by rw [a3d,List.length_cons,a5U r b,List.length_cons]
theorem a1x (s:List Nat) (w r:Nat) (hr:1≤r):∃ es,i7 s w r = (a3d 0 es).map (bit s)∧a6T 0 es∧(∀ x∈es,x≤s.length)∧(i7 s w r).flatten = s∧(s≠[]→es = p6 s w r)∧es.length≤s.length + 2:=by
 by_cases q:s = []
 ·subst q
  exact ⟨[],rfl,trivial,by simp,rfl,fun h=>absurd rfl h,by simp⟩
 ·have e:i7 s w r = (a3d 0 (p6 s w r)).map (bit s):=by unfold i7;rw [if_neg q]
  refine ⟨p6 s w r,e,a3J hr q,fun x hx=>?_,?_,fun _=>rfl,?_⟩
  ·rcases List.mem_append.mp hx with z|z
   ·have:=a1P z;lia
   ·rw [List.mem_singleton.mp z];lia
  ·rw [e]
   exact (a3Q s (E4 s w r) 0 (a3J hr q)).trans (by simp)
  ·have:=a7c (s:=s) (w:=w) (r:=r)
   simp [p6];omega
end Mine.PL
namespace Mine.PL
noncomputable abbrev z4:List Nat:=[97,98,99,100,101,102,103,104,105,106,107,108,109,110,111,112,113,114,115,116,117,118,119,120,121,122]
section
variable {cl:Nat→List AV→Hp→Out AV} {h:Hp} {vs:Vs}
end
variable {n:Nat} {h:Hp}
theorem le_str (a b:List Nat):j5 .le (.str a) (.str b) h = some (!decide (b < a)):=rfl
theorem b3v (a b:Nat):([a] < [b])↔a < b:=by
 constructor
 ·intro q;cases q with
  | rel q=>exact q
  | cons q=>cases q
 ·intro q;exact .rel q
theorem a9v {c:Nat} (q:good c):a9 prog (n + 1) 5 [.str [c]] h = .ok (.bool true) h:=by
 by_cases q1:c = 10
 ·subst q1
  exact via [] fun R=>R
 ·rcases q with q|⟨q2,q3,q4⟩
  ·exact absurd q q1
  ·have l1:j5 .le (.str [32]) (.str [c]) h = some true:=by rw [le_str,decide_eq_false (by rw [b3v];exact (Nat.not_lt.mpr) q2)];rfl
   have l2:j5 .le (.str [c]) (.str [126]) h = some true:=by rw [le_str,decide_eq_false (by rw [b3v];exact (Nat.not_lt.mpr) q3)];rfl
   have l3:¬ ((c:Int) = 37):=by lia
   exact via [0,0,0,1] fun R=>R _ (b5G fun z=>q1 (List.cons.inj z).1) _ l1 _ l2 _ (b8f l3)
theorem a5Z {α:Type} {l:Nat} (s:List α) (e:h[l]? = some (.list (s.map fun _=>AV.bool true))):biA .all [.ref l] h = .ok (.bool true) h:=by
 have key:∀ s:List α,p0 asBool (s.map fun _=>AV.bool true) = some (s.map fun _=>true):=fun s=>by
  induction s with
  | nil=>rfl
  | cons a r ih=>exact congrArg (Option.map fun ys=>true :: ys) ih
 have k2:∀ s:List α,(s.map fun _=>true).all id = true:=fun s=>by
  induction s with
  | nil=>rfl
  | cons a r ih=>exact ih
 show (ofO ((o6 h (.ref l)).bind (p0 asBool)) fun bs=>Out.ok (AV.bool (bs.all id)) h) = _
 rw [o9 e]
 show (ofO (p0 asBool (s.map fun _=>AV.bool true)) fun bs=>Out.ok (AV.bool (bs.all id)) h) = _
 rw [key]
 exact congrArg (fun b=>Out.ok (AV.bool b) h) (k2 s)
theorem a6a {C:Cx} {vs:Vs} {el:Hp→Vs→Out AV} {x:Nat} {s:List Nat} (hl:s.length≤lim) (he:∀ c∈s,el h (vs.set x (some (.str [c]))) = .ok (.bool true) h):D1 (some (.fixed (s.map fun c=>.str [c]))) (p3 (evConds C []) el x vs) h = .ok (.ref h.length) (h ++ [.list (s.map fun _=>.bool true)]):=by
 rw [J6 s (fun c=>.str [c]) (fun _=>true) (fun _=>.bool true) hl (fun _ _=>rfl) fun c hc _=>he c hc,t9]
theorem b4Z {s:List Nat} (q:∀ x∈s,good x) (hs:s.length≤4000):∃ xs,a9 prog (n + 2) 6 [.str s] h = .ok (.bool true) (h ++ xs):=by
 have hl:4000≤lim:=by decide
 have c:=a6a (C:=⟨prog,a9 prog (n + 1)⟩) (el:=ev ⟨prog,a9 prog (n + 1)⟩ (.call 5 [.var 1])) (x:=1) (h:=h) (vs:=[some (.str s),none]) (Nat.le_trans hs hl) fun c hc=>by exact a0G [0] fun R=>R _ _ (a9v (q c hc))
 have a:=a5Z (h:=h ++ [.list (s.map fun _=>AV.bool true)]) s (f5 _ _)
 refine ⟨[.list (s.map fun _=>AV.bool true)],?_⟩
 exact via [1,0] fun R=>R _ _ c _ _ a
theorem b1A {w r:Nat} (w1:1≤w) (w8:w≤8) (r1:1≤r) (r40:r≤40):a9 prog (n + 2) 8 [.int w,.int r] h = .ok (.bool true) h:=by
 have a1:a9 prog (n + 1) 4 [.int w] h = .ok (.bool true) h:=rfl
 have a2:a9 prog (n + 1) 4 [.int r] h = .ok (.bool true) h:=rfl
 have w1:(1:Int)≤w:=by lia
 have w8:(w:Int)≤8:=by exact Nat.ToInt.of_le rfl rfl w8
 have r1:(1:Int)≤r:=by lia
 have r40:(r:Int)≤40:=by lia
 exact via [0,0,0,0,0,0] fun R=>R _ _ a1 _ _ a2 _ (a0g w1) _ (a0g w8) _ (a0g r1) _ (a0g r40)
noncomputable def s6 (x:List Nat):Prop:=1≤x.length∧x.length≤12∧∀ c∈x,97≤c∧c≤122
theorem a7E {c:Nat} (q:97≤c∧c≤122):j5 .isin (.str [c]) (.str z4) h = some true:=by
 have:(List.range 26).all (fun k=>PySem.Txt.contains (tS z4) (tS [97 + k])) = true:=by kernel_rfl
 have:=List.all_eq_true.mp this (c - 97) (List.mem_range.mpr (Nat.sub_lt_left_of_lt_add q.1 (Nat.lt_succ_of_le q.2)))
 rw [Nat.add_sub_cancel' q.1] at this
 exact congrArg some this
theorem b4u {x:List Nat} (q:s6 x):∃ xs,a9 prog (n + 1) 7 [.str x] h = .ok (.bool true) (h ++ xs):=by
 have hl:12≤lim:=by decide
 have c:=a6a (C:=⟨prog,a9 prog n⟩) (el:=ev ⟨prog,a9 prog n⟩ (.cmp (.var 1) .isin (.gl 0))) (x:=1) (h:=h) (vs:=[some (.str x),none]) (Nat.le_trans q.2.1 hl) fun c hc=>by exact a0G [0] fun R=>R _ (a7E (h:=h) (q.2.2 c hc))
 have a:=a5Z (h:=h ++ [.list (x.map fun _=>AV.bool true)]) x (f5 _ _)
 refine ⟨[.list (x.map fun _=>AV.bool true)],?_⟩
 have q1:(1:Int)≤x.length:=by have:=q.1;lia
 have q2:(x.length:Int)≤12:=by have:=q.2.1;exact Nat.ToInt.of_le rfl rfl this
 exact via [2,0,0,0] fun R=>R _ (a0g q1) _ (a0g q2) _ _ c _ _ a
end Mine.PL
namespace Mine.PL
variable {n:Nat} {h:Hp}
noncomputable def B3 (c:Int):Nat:=(z4[(c % 26).toNat]?).getD 0
theorem a3N (c:Int):w4 (.str z4) (.int (c % 26)) h = some (.str [B3 c]):=by
 have h1:0≤c % 26:=Int.emod_nonneg c (by decide)
 have h3:(c % 26).toNat < z4.length:=(Int.toNat_lt h1).mpr (Int.emod_lt_of_pos c (by decide))
 refine a8Z h (k:=(c % 26).toNat) ?_ ?_
 ·have:=g9 h3
  rw [Int.toNat_of_nonneg h1] at this
  exact this
 ·unfold B3;rw [List.getElem?_eq_getElem h3];rfl
theorem a3H (c:Int):97≤B3 c∧B3 c≤122:=by
 have:∀ k < 26,97≤(z4[k]?).getD 0∧(z4[k]?).getD 0≤122:=by decide
 exact this _ ((Int.toNat_lt (Int.emod_nonneg c (by decide))).mpr (Int.emod_lt_of_pos c (by decide)))
theorem a7D {c d:Int} (e:B3 c = B3 d):c % 26 = d % 26:=by
 have:∀ k < 26,(z4[k]?).getD 0 = 97 + k:=by decide
 have hc:=Int.emod_nonneg c (b:=26) (by decide)
 have hd:=Int.emod_nonneg d (b:=26) (by decide)
 unfold B3 at e
 rw [this _ ((Int.toNat_lt hc).mpr (Int.emod_lt_of_pos c (by decide))),this _ ((Int.toNat_lt hd).mpr (Int.emod_lt_of_pos d (by decide)))] at e
 rw [← Int.toNat_of_nonneg hc,Nat.add_left_cancel e,Int.toNat_of_nonneg hd]
theorem b2z {f:Nat→List Nat} (q:∀ k,1≤k→k < 4→f k≠f 0) (k:Nat) (k1:1≤k) (k4:k < 4):((List.range 7).map f)[k]?≠((List.range 7).map f)[0]?:=by
 match k,k1,k4 with
 | 1,a,b=>exact fun e=>q 1 a b (Option.some.inj e)
 | 2,a,b=>exact fun e=>q 2 a b (Option.some.inj e)
 | 3,a,b=>exact fun e=>q 3 a b (Option.some.inj e)
noncomputable abbrev nmV (c:Int) (z:Int) (w:List Nat) (num:Int) (y a b:Option AV):Vs:=[some (.int c),some (.str z4),some (.int z),some (.str w),some (.int num),y,a,b,none,none]
theorem a7Y (c:Int) (z:Nat) (hz:z≤12):∃ w num y,t5 (some (.fixed (ups 0 z))) (r6 ⟨prog,a9 prog n⟩ 5 (u8 M6.body 4)) (h,nmV c z [] c none none none) = .next h (nmV c z w num y none none)∧w.length = z∧∀ x∈w,97≤x∧x≤122:=by
 obtain ⟨_,y,e,rfl,j1,j2⟩:=R2 (n:=z) (C:=⟨prog,a9 prog n⟩) (x:=5) (b:=u8 M6.body 4) (V:=fun y:List Nat×Int×Option AV=>nmV c z y.1 y.2.1 y.2.2 none none) (J:=fun i hh y=>hh = h∧y.1.length = i∧∀ x∈y.1,97≤x∧x≤122) (h:=h) (y:=([],c,none)) (fun i _ y hi j=>by
   obtain ⟨rfl,j1,j2⟩:=j
   have hq:y.1.length + 1≤lim:=Nat.le_trans (Nat.succ_le_succ (Nat.le_trans (Nat.le_of_eq j1) (Nat.le_of_lt (Nat.lt_of_lt_of_le hi hz)))) (by decide)
   refine ⟨_,(y.1 ++ [B3 ((y.2.1 * 48271 + 11) % 2147483647 / 7)],(y.2.1 * 48271 + 11) % 2147483647,some (.int i)),?_,rfl,List.length_append.trans (congrArg (· + 1) j1),fun x hx=>?_⟩
   ·exact V8 [0,4,0] fun R=>R _ _ (b2I rfl) _ (a3N _) _ _ (o7 _ _ _ hq)
   ·rcases List.mem_append.mp hx with q|q
    ·exact j2 x q
    ·rw [List.mem_singleton.mp q];exact a3H _) ⟨rfl,rfl,fun _ z=>nomatch z⟩
 exact ⟨_,_,_,e,j1,j2⟩
theorem a6O {w:List Nat} {s x:Nat} (h:s < w.length):(w.take s ++ [x] ++ w.drop (s + 1)).length = w.length:=by
 rw [List.length_append,List.length_append,List.length_take_of_le (Nat.le_of_lt h),List.length_drop,List.length_singleton];exact Nat.add_sub_cancel' h
theorem a9S {w:List Nat} (l1:(w.take 1).length = 1) (w2:∀ x∈w,97≤x∧x≤122) (d:Int):s6 (rep (1 + d % 12).toNat (w.take 1)):=by
 obtain ⟨t,t1,t2,et⟩:=P3 d (m:=12) (by decide)
 have e:(rep (1 + d % 12).toNat (w.take 1)).length = t:=by rw [z8,l1,show 1 + d % 12 = t from et,Int.toNat_natCast,Nat.mul_one]
 exact ⟨e.symm▸t1,e.symm▸t2,fun d hd=>w2 d (List.mem_of_mem_take (L5 hd))⟩
theorem b0H {w:List Nat} {s:Nat} (s2:s < w.length) (l1:1≤w.length) (l2:w.length≤12) (w2:∀ x∈w,97≤x∧x≤122) (d:Int):s6 (w.take s ++ [B3 d] ++ w.drop (s + 1)):=by
 have e:(w.take s ++ [B3 d] ++ w.drop (s + 1)).length = w.length:=a6O s2
 refine ⟨e.symm▸l1,e.symm▸l2,fun d hd=>?_⟩
 rcases List.mem_append.mp hd with hd|hd
 ·rcases List.mem_append.mp hd with hd|hd
  ·exact w2 d (List.mem_of_mem_take hd)
  ·rw [List.mem_singleton.mp hd];exact a3H _
 ·exact w2 d (List.mem_of_mem_drop hd)
theorem b4a (c:Int):∃ h' l nms,a9 prog (n + 1) 39 [.int c] h = .ok (.ref l) h'∧d9 h h'∧h'[l]? = some (.list (o0 nms))∧nms.length = 7∧(∀ x∈nms,s6 x)∧h.length≤l∧∀ k,1≤k→k < 4→nms[k]?≠nms[0]?:=by
 obtain ⟨z,z1,z2,ez⟩:=P3 c (m:=12) (by decide)
 obtain ⟨w,num,y,lw,w1,w2⟩:=a7Y (n:=n) (h:=h) c z z2
 have rz:biA .range [.int (z:Int)] h = .ok (.rng 0 z) h:=M4 h z (Int.neg_natCast_le_natCast lim z) (Int.ofNat_le.mpr (Nat.le_trans z2 (by decide)))
 by_cases q:c / 12 % 3 = 2
 ·have sl:=R9 (h:=h) w (b:=1) (by exact le_of_le_of_eq z1 (Eq.symm w1))
  have l1:(w.take 1).length = 1:=List.length_take_of_le (le_of_le_of_eq z1 (Eq.symm w1))
  have c7:=a0h (C:=⟨prog,a9 prog n⟩) (el:=ev ⟨prog,a9 prog n⟩ (.bin .mul (.slice (.var 3) .none (.int 1) false true) (.bin .add (.int 1) (.bin .mod (.bin .add (.var 8) (.bin .div (.var 0) (.int 36))) (.int 12))))) (x:=8) (h:=h) (vs:=nmV c z w num y none none) (n:=7)
   (fun k=>.str (rep (1 + ((k:Int) + c / 36) % 12).toNat (w.take 1))) (by decide) (fun k _=>by
   obtain ⟨t,t1,t2,et⟩:=P3 ((k:Int) + c / 36) (m:=12) (by decide)
   have et:1 + ((k:Int) + c / 36) % 12 = t:=et
   have ms:=K8 h (w.take 1) (1 + ((k:Int) + c / 36) % 12) (by rw [et];exact Int.neg_natCast_le_natCast lim t) (by rw [et];exact Int.ofNat_le.mpr (Nat.le_trans t2 (by decide))) (by rw [et,l1];exact Nat.le_trans (Nat.le_of_eq (Nat.one_mul _)) (Nat.le_trans t2 (by decide)))
   clear et
   exact a0G [0,4] fun R=>R _ _ sl _ _ ms)
  refine ⟨_,_,(List.range 7).map fun k:Nat=>rep (1 + ((k:Int) + c / 36) % 12).toNat (w.take 1),?_,d9.app _ _,f5 _ _,by rw [List.length_map];rfl,fun x hx=>?_,Nat.le_refl _,b2z fun k k1 k4 e=>?_⟩
  ·exact via [1,0,0,2,1] fun R=>R _ _ (a0C ez) _ _ rz _ _ lw _ (b1X q) _ _ c7
  ·obtain ⟨k,_,rfl⟩:=List.mem_map.mp hx
   exact a9S l1 w2 _
  ·have e:=congrArg List.length e
   rw [z8,z8,l1,Nat.mul_one,Nat.mul_one] at e
   have a:=Int.emod_nonneg ((k:Int) + c / 36) (b:=12) (by decide)
   have b:=Int.emod_nonneg (((0:Nat):Int) + c / 36) (b:=12) (by decide)
   lia
 ·obtain ⟨s,s1,es⟩:=a0l (c / 36) z1
  have md:=mod_int h (c / 36) z (Int.natCast_pos.mpr z1)
  rw [es] at md
  have s2:s < w.length:=w1.symm▸s1
  have sl1:=R9 (h:=h) w (b:=s) (Nat.le_of_lt s2)
  have sl2:=Y5 (h:=h) w (a:=s + 1) s2
  have n1:=f8 h [.str (w.take s),.str (w.drop (s + 1))] (show 2≤lim by decide)
  have g1:d9 h (h ++ [.list [.str (w.take s),.str (w.drop (s + 1))]]):=d9.app _ _
  have a1:=f5 h (.list [.str (w.take s),.str (w.drop (s + 1))])
  generalize h ++ [AO.list [.str (w.take s),.str (w.drop (s + 1))]] = h1 at n1 g1 a1
  have c7:=a0h (C:=⟨prog,a9 prog n⟩) (el:=ev ⟨prog,a9 prog n⟩ (.bin .add (.bin .add (.idx (.var 7) (.int 0)) (.idx (.var 1) (.bin .mod (.bin .add (.bin .div (.var 0) (.int 500)) (.bin .mul (.int 7) (.var 9))) (.int 26)))) (.idx (.var 7) (.int 1)))) (x:=9) (h:=h1) (vs:=nmV c z w num y (some (.int s)) (some (.ref h.length))) (n:=7)
   (fun k=>.str (w.take s ++ [B3 (c / 500 + 7 * (k:Int))] ++ w.drop (s + 1))) (by decide) (fun k _=>by
   have i0:w4 (.ref h.length) (.int 0) h1 = some (.str (w.take s)):=g7 h1 a1 (k:=0) rfl rfl
   have i1:w4 (.ref h.length) (.int 1) h1 = some (.str (w.drop (s + 1))):=g7 h1 a1 (k:=1) rfl rfl
   have a2:=o7 h1 (w.take s) [B3 (c / 500 + 7 * (k:Int))] (Nat.le_trans (Nat.add_le_add_right (List.length_take_le _ _) 1) (Nat.le_trans (Nat.succ_le_succ (Nat.le_trans (Nat.le_of_lt s1) z2)) (by decide)))
   have a3:=o7 h1 (w.take s ++ [B3 (c / 500 + 7 * (k:Int))]) (w.drop (s + 1)) (by rw [← List.length_append,a6O s2,w1];exact Nat.le_trans z2 (by decide))
   exact a0G [0,4,0,0,0] fun R=>R _ i0 _ (a3N _) _ _ a2 _ i1 _ _ a3)
  refine ⟨_,_,(List.range 7).map fun k:Nat=>w.take s ++ [B3 (c / 500 + 7 * (k:Int))] ++ w.drop (s + 1),?_,g1.trans (d9.app _ _),f5 _ _,by rw [List.length_map];rfl,fun x hx=>?_,g1.1,b2z fun k k1 k4 e=>?_⟩
  ·exact via [1,0,0,2,1,0,1,0,1] fun R=>R _ _ (a0C ez) _ _ rz _ _ lw _ (a0Q q) _ _ md _ _ sl1 _ _ sl2 _ _ n1 _ _ c7
  ·obtain ⟨k,_,rfl⟩:=List.mem_map.mp hx
   exact b0H s2 (w1.symm▸z1) (w1.symm▸z2) w2 _
  ·have e:=List.head_eq_of_cons_eq (List.append_cancel_left (List.append_cancel_right e))
   have e:=a7D e
   lia
end Mine.PL
namespace Mine.PL
variable {n:Nat} {h:Hp}
structure Sq (h:Hp) (v:AV) (t:Bool):Prop where
 s:a1u h v .str = some false
 i:a1u h v .int = some false
 p:a1u h v .tup = some t
 l:a1u h v .list = some (!t)
 n:isN v = false
 b:isT v = false
theorem a5j (xs:List AV):Sq h (.tup xs) true:=⟨rfl,rfl,rfl,rfl,rfl,rfl⟩
theorem N3 {a:Nat} {xs:List AV} (e:h[a]? = some (.list xs)) (k:Kd):a1u h (.ref a) k = some ([Kd.list].contains k) :=
 congrArg (fun o:Option (List AV)=>(o.map fun _=>[Kd.list]).map fun l:List Kd=>l.contains k) (o9 e)
theorem a9C {a:Nat} {xs:List AV} (e:h[a]? = some (.list xs)):Sq h (.ref a) false:=⟨N3 e .str,N3 e .int,N3 e .tup,N3 e .list,rfl,rfl⟩
theorem a4x (a:Int):a9 prog (n + 2) 45 [.int a,.int a] h = .ok (.bool true) h:=by
 have e:a9 prog (n + 2) 45 [.int a,.int a] h = D5 (j5 .eq (.int a) (.int a) h) h:=by kernel_rfl
 rw [e,b1F,decide_eq_true rfl];rfl
theorem N4 (a:List Nat):a9 prog (n + 1) 45 [.str a,.str a] h = .ok (.bool true) h:=by
 have e:a9 prog (n + 1) 45 [.str a,.str a] h = D5 (j5 .eq (.str a) (.str a) h) h:=by kernel_rfl
 rw [e,a2v,decide_eq_true rfl];rfl
theorem a3X {m:Nat} {g d:AV} {xs:List AV} {t:Bool} (G:Sq h g t) (D:Sq h d t)
  (lg:biA .len [g] h = .ok (.int xs.length) h) (ld:biA .len [d] h = .ok (.int xs.length) h) (hl:xs.length≤100000)
  (I:∀ k:Nat,k < xs.length→∃ x∈xs,w4 g (.int k) h = some x∧w4 d (.int k) h = some x) (H:∀ x∈xs,a9 prog m 45 [x,x] h = .ok (.bool true) h):a9 prog (m + 1) 45 [g,d] h = .ok (.bool true) h:=by
 have hlim:(100000:Int)≤lim:=by decide
 obtain ⟨_,y,lq,rfl⟩:=R2 (n:=xs.length) (C:=⟨prog,a9 prog m⟩) (x:=2) (b:=u8 Y0.body 7) (V:=fun y=>[some g,some d,y]) (J:=fun _ hh _=>hh = h) (h:=h) (y:=none) (fun i _ y hi j=>by
   obtain rfl:=j
   obtain ⟨x,hx,e1,e2⟩:=I i hi
   refine ⟨_,some (.int i),?_,rfl⟩
   exact V8 [0,0,0] fun R=>R _ e1 _ e2 _ _ (H x hx)) rfl
 have r1:-(lim:Int)≤(xs.length:Int):=by exact Int.neg_natCast_le_natCast lim xs.length
 have r2:(xs.length:Int)≤lim:=by lia
 have le:((xs.length:Nat):Int) = xs.length:=rfl
 cases t
 ·exact via [0,0,0,0,0,0,0,0,0,0,0,0,0] fun R=>R _ D.n _ D.b _ D.s _ D.i _ D.p _ D.l _ G.l _ _ lg _ _ ld _ (b4Y le) _ _ ld _ _ (M4 _ _ r1 r2) _ _ lq
 ·exact via [0,0,0,0,0,0,0,0,0,0,0,0,0] fun R=>R _ D.n _ D.b _ D.s _ D.i _ D.p _ G.p _ D.l _ _ lg _ _ ld _ (b4Y le) _ _ ld _ _ (M4 _ _ r1 r2) _ _ lq
theorem V6 {xs:List AV} {k:Nat} {x:AV} (q:xs[k]? = some x):w4 (.tup xs) (.int (k:Int)) h = some x :=
 (congrArg (fun o=>Option.bind o fun k=>xs[k]?) (g9 (List.getElem?_eq_some_iff.mp q).1)).trans q
theorem a0O {m:Nat} (xs:List AV) (h2:xs.length≤100000) (H:∀ x∈xs,a9 prog m 45 [x,x] h = .ok (.bool true) h):a9 prog (m + 1) 45 [.tup xs,.tup xs] h = .ok (.bool true) h :=
 a3X (a5j xs) (a5j xs) rfl rfl h2 (fun _ hk=>⟨_,List.getElem_mem hk,V6 (List.getElem?_eq_getElem hk),V6 (List.getElem?_eq_getElem hk)⟩) H
theorem a8j {m:Nat} {a b:Nat} {xs:List AV} (ea:h[a]? = some (.list xs)) (eb:h[b]? = some (.list xs)) (h2:xs.length≤100000) (H:∀ x∈xs,a9 prog m 45 [x,x] h = .ok (.bool true) h) :
  a9 prog (m + 1) 45 [.ref a,.ref b] h = .ok (.bool true) h :=
 a3X (a9C ea) (a9C eb) (len_list h ea) (len_list h eb) h2 (fun _ hk=>⟨_,List.getElem_mem hk,g7 h ea (g9 hk) (List.getElem?_eq_getElem hk),g7 h eb (g9 hk) (List.getElem?_eq_getElem hk)⟩) H
inductive b0x:AV→Prop
 | int (i:Int):b0x (.int i)
 | str (s:List Nat):b0x (.str s)
inductive b1t:AV→Prop
 | flat {v:AV}:b0x v→b1t v
 | tup {xs:List AV}:xs.length≤100000→(∀ x∈xs,b0x x)→b1t (.tup xs)
theorem b0x.alike {v:AV} (f:b0x v):a9 prog (n + 2) 45 [v,v] h = .ok (.bool true) h:=by
 cases f with
 | int i=>exact a4x i
 | str s=>exact N4 s
theorem b1t.alike {v:AV} (f:b1t v):a9 prog (n + 3) 45 [v,v] h = .ok (.bool true) h:=by
 cases f with
 | flat f=>exact f.alike
 | tup l q=>exact a0O _ l fun x hx=>(q x hx).alike
theorem T4 {a b:Nat} {xs:List AV} (ea:h[a]? = some (.list xs)) (eb:h[b]? = some (.list xs)) (h2:xs.length≤100000) (H:∀ x∈xs,b1t x):a9 prog (n + 4) 45 [.ref a,.ref b] h = .ok (.bool true) h :=
 a8j ea eb h2 fun x hx=>(H x hx).alike
end Mine.PL
namespace Mine.PL
theorem o3 {h:Hp} {l l':Nat} {x:AO} (q:l≠l'):(h.set l x)[l']? = h[l']?:=List.getElem?_set_ne q
theorem B7 {h:Hp} {l:Nat} {x o:AO} (q:h[l]? = some o):(h.set l x)[l]? = some x:=List.getElem?_set_self (List.getElem?_eq_some_iff.mp q).1
theorem a4E (p:AV×AV) (r:List (AV×AV)) (k:AV):o8 (p :: r) k = if keq p.1 k then some p.2 else o8 r k:=by
 unfold o8 J0
 rw [List.findIdx?_cons]
 cases keq p.1 k with
 | true=>rfl
 | false =>
  show ((r.findIdx? fun p=>keq p.1 k).map (· + 1)).bind _ = (r.findIdx? fun p=>keq p.1 k).bind _
  cases r.findIdx? fun p=>keq p.1 k<;>rfl
theorem a3T (p:AV×AV) (r:List (AV×AV)) (k w:AV):y8 (p :: r) k w = if keq p.1 k then (p.1,w) :: r else p :: y8 r k w:=by
 unfold y8 J0
 rw [List.findIdx?_cons]
 cases keq p.1 k with
 | true=>rfl
 | false =>
  show orO ((r.findIdx? fun p=>keq p.1 k).map (· + 1)) _ _ = p :: orO (r.findIdx? fun p=>keq p.1 k) _ _
  cases r.findIdx? fun p=>keq p.1 k<;>rfl
theorem b1x (p:AV×AV) (r:List (AV×AV)) (k:AV):a1A (p :: r) k = if keq p.1 k then r else p :: a1A r k:=by
 unfold a1A J0
 rw [List.findIdx?_cons]
 cases keq p.1 k with
 | true=>rfl
 | false =>
  show orO ((r.findIdx? fun p=>keq p.1 k).map (· + 1)) _ _ = p :: orO (r.findIdx? fun p=>keq p.1 k) _ _
  cases r.findIdx? fun p=>keq p.1 k<;>rfl
section
variable {α:Type} (κ f:α→AV) (k:AV)
noncomputable abbrev mk (l:List α):List (AV×AV):=l.map fun x=>(κ x,f x)
theorem a4U:∀ l:List α,(∀ x∈l,keq (κ x) k = false)→o8 (mk κ f l) k = none
 | [],_=>rfl
 | a :: r,q=>by
  rw [mk,List.map_cons,a4E,q a List.mem_cons_self]
  exact a4U r fun x hx=>q x (List.mem_cons_of_mem _ hx)
theorem a0i (y:α) (hy:keq (κ y) k = true):∀ l:List α,y∈l→(∀ x∈l,keq (κ x) k = true→x = y)→o8 (mk κ f l) k = some (f y)
 | [],m,_=>(nomatch m)
 | a :: r,m,q=>by
  rw [mk,List.map_cons,a4E]
  cases z:keq (κ a) k with
  | true=>rw [q a List.mem_cons_self z];rfl
  | false =>
   rcases List.mem_cons.mp m with rfl|m
   ·rw [hy] at z;cases z
   ·exact a0i y hy r m fun x hx=>q x (List.mem_cons_of_mem _ hx)
theorem Z8 (w:AV):∀ l:List α,(∀ x∈l,keq (κ x) k = false)→y8 (mk κ f l) k w = mk κ f l ++ [(k,w)]
 | [],_=>rfl
 | a :: r,q=>by
  rw [mk,List.map_cons,a3T,q a List.mem_cons_self]
  exact congrArg ((κ a,f a) :: ·) (Z8 w r fun x hx=>q x (List.mem_cons_of_mem _ hx))
theorem a1K (f':α→AV) (y:α) (hy:keq (κ y) k = true):∀ l:List α,l.Nodup→y∈l→(∀ x∈l,keq (κ x) k = true→x = y)→(∀ x∈l,x≠y→f' x = f x)→y8 (mk κ f l) k (f' y) = mk κ f' l
 | [],_,m,_,_=>(nomatch m)
 | a :: r,nd,m,q,e=>by
  rw [List.nodup_cons] at nd
  rw [mk,List.map_cons,a3T]
  cases z:keq (κ a) k with
  | true =>
   have:=q a List.mem_cons_self z
   subst this
   exact congrArg ((κ a,f' a) :: ·) (List.map_congr_left fun x hx=>by rw [e x (List.mem_cons_of_mem _ hx) fun q=>nd.1 (q▸hx)])
  | false =>
   have ya:a≠y:=fun q=>by rw [q,hy] at z;cases z
   rw [mk,List.map_cons,e a List.mem_cons_self ya]
   exact congrArg ((κ a,f a) :: ·) (a1K f' y hy r nd.2 ((List.mem_cons.mp m).elim (fun q=>absurd q.symm ya) id) (fun x hx=>q x (List.mem_cons_of_mem _ hx)) fun x hx=>e x (List.mem_cons_of_mem _ hx))
theorem a9u (p:α→Bool) (y:α) (hy:keq (κ y) k = true) (py:p y = false):∀ l:List α,l.Nodup→(∀ x∈l,keq (κ x) k = true→x = y)→(∀ x∈l,x≠y→p x = true)→a1A (mk κ f l) k = mk κ f (l.filter p)
 | [],_,_,_=>rfl
 | a :: r,nd,q,e=>by
  rw [List.nodup_cons] at nd
  rw [mk,List.map_cons,b1x]
  cases z:keq (κ a) k with
  | true =>
   have:=q a List.mem_cons_self z
   subst this
   rw [List.filter_cons_of_neg (by rw [py];exact Bool.false_ne_true),List.filter_eq_self.mpr fun x hx=>e x (List.mem_cons_of_mem _ hx) fun e=>nd.1 (e▸hx)]
   rfl
  | false =>
   rw [List.filter_cons_of_pos (e a List.mem_cons_self fun q=>by rw [q,hy] at z;cases z)]
   exact congrArg ((κ a,f a) :: ·) (a9u p y hy py r nd.2 (fun x hx=>q x (List.mem_cons_of_mem _ hx)) fun x hx=>e x (List.mem_cons_of_mem _ hx))
theorem V2 {l:List α} {b:Bool} (hκ:∀ a,isK b (κ a) = true) (hk:isK b k = true):E1 (mk κ f l) k = true:=by
 cases l with
 | nil =>
  show (kof k).isSome = true
  unfold isK at hk
  cases z:kof k with
  | none=>rw [z] at hk;cases hk
  | some _=>rfl
 | cons a r =>
  show ((isK true k && isK true (κ a)) || (isK false k && isK false (κ a))) = true
  cases b with
  | true=>rw [hk,hκ a];rfl
  | false=>rw [hk,hκ a];exact Bool.or_true _
end
noncomputable abbrev b9:=List Nat
theorem V0 (a b:b9):keq (.str a) (.str b) = true↔a = b :=
 ⟨fun q=>a5f (Sum.inl.inj (Sum.inl.inj (of_decide_eq_true q))),fun e=>e▸decide_eq_true rfl⟩
theorem w0 (a b:Int):keq (.int a) (.int b) = true↔a = b :=
 ⟨fun q=>Sum.inr.inj (Sum.inl.inj (of_decide_eq_true q)),fun e=>e▸decide_eq_true rfl⟩
theorem a0M {a b:AV} (q:¬ keq a b = true):keq a b = false:=Bool.eq_false_iff.mpr q
section
variable {α:Type} [DecidableEq α]
noncomputable def A0 (T:List α) (t:α):List α:=if t∈T then T else T ++ [t]
theorem I8 {T:List α} {t:α} (q:t∈T):A0 T t = T:=if_pos q
theorem a6B {T:List α} {t:α} (q:t∉T):A0 T t = T ++ [t]:=if_neg q
theorem r9 {T:List α} {t x:α}:x∈A0 T t↔x∈T∨x = t:=by
 unfold A0
 split
 ·exact ⟨.inl,fun q=>q.elim id fun e=>e▸‹_›⟩
 ·rw [List.mem_append,List.mem_singleton]
theorem Y9 {T:List α} {t:α} (nd:T.Nodup):(A0 T t).Nodup:=by
 unfold A0
 split
 ·exact nd
 ·exact List.nodup_append.mpr ⟨nd,List.nodup_cons.mpr ⟨List.not_mem_nil,List.nodup_nil⟩,fun a ha b hb q=>‹t∉T› (by rw [← List.mem_singleton.mp hb,← q];exact ha)⟩
theorem b3Z (T:List α) (t:α):(A0 T t).length≤T.length + 1:=by
 unfold A0
 split
 ·exact Nat.le_succ _
 ·rw [List.length_append];exact Nat.le_refl _
end
theorem I9 (f:b9→AV) (T:List b9) (t:b9):o8 (mk .str f T) (.str t) = if t∈T then some (f t) else none:=by
 split
 ·exact a0i _ f _ t ((V0 t t).mpr rfl) T ‹_› fun x _ q=>(V0 x t).mp q
 ·exact a4U _ f _ T fun x hx=>a0M fun z=>‹t∉T› ((V0 x t).mp z▸hx)
theorem a0A (f:b9→AV) (T:List b9) (nd:T.Nodup) (t:b9) (w:AV):y8 (mk .str f T) (.str t) w = mk .str (fun x=>if x = t then w else f x) (A0 T t):=by
 unfold A0
 split
 ·have:=a1K AV.str f (.str t) (fun x=>if x = t then w else f x) t ((V0 t t).mpr rfl) T nd ‹_› (fun x _ q=>(V0 x t).mp q) fun x _ q=>if_neg q
  rw [if_pos rfl] at this
  exact this
 ·rename_i q
  rw [Z8 _ f _ w T fun x hx=>a0M fun z=>q ((V0 x t).mp z▸hx),mk,mk,List.map_append]
  congr 1
  ·exact List.map_congr_left fun x hx=>by rw [if_neg (fun e:x = t=>q (e▸hx))]
  ·rw [List.map_cons,if_pos rfl];rfl
structure Kg (S:Nat→Prop) (h h':Hp):Prop where
 fst:h.length≤h'.length
 snd:∀ l,l < h.length→¬ S l→h'[l]? = h[l]?
theorem Kg.refl (S:Nat→Prop) (h:Hp):Kg S h h:=⟨Nat.le_refl _,fun _ _ _=>rfl⟩
theorem Kg.trans' {S S':Nat→Prop} {a b c:Hp} (x:Kg S a b) (y:Kg S' b c) (q:∀ l,l < a.length→S' l→S l):Kg S a c:=⟨Nat.le_trans x.1 y.1,fun l hl z=>(y.2 l (Nat.lt_of_lt_of_le hl x.1) fun z'=>z (q l hl z')).trans (x.2 l hl z)⟩
theorem Kg.trans {S:Nat→Prop} {a b c:Hp} (x:Kg S a b) (y:Kg S b c):Kg S a c:=x.trans' y fun _ _=>id
theorem Kg.mono {S S':Nat→Prop} {a b:Hp} (x:Kg S a b) (q:∀ l,l < a.length→S l→S' l):Kg S' a b:=⟨x.1,fun l hl z=>x.2 l hl fun y=>z (q l hl y)⟩
theorem Kg.get {S:Nat→Prop} {h h':Hp} (g:Kg S h h') {l:Nat} {o:AO} (e:h[l]? = some o) (q:¬ S l):h'[l]? = some o:=(g.2 l (List.getElem?_eq_some_iff.mp e).1 q).trans e
theorem Kg.set {S:Nat→Prop} (h:Hp) (l:Nat) (o:AO) (q:S l):Kg S h (h.set l o):=⟨by rw [List.length_set];exact Nat.le_refl _,fun l' _ z=>o3 fun e=>z (e▸q)⟩
theorem Kg.of {S:Nat→Prop} {h h':Hp} (g:d9 h h'):Kg S h h':=⟨g.1,fun l hl _=>g.2 l hl⟩
section
variable {h:Hp} {s k:Nat} {ep:Option Nat} {es:List (AV×AV)} {v d:AV}
theorem A9 {a c:Nat} {fs:List (Option AV)} (e:h[s]? = some (.inst c fs)) (q:fs[a]? = some (some v)):O6 h (.ref s) a = some v :=
 (congrArg (fun o=>(ins o).bind fun p:Nat×List (Option AV)=>(p.2[a]?).bind id) e).trans (congrArg (·.bind id) q)
theorem b2F {a c:Nat} {fs:List (Option AV)} (e:h[s]? = some (.inst c fs)) (q:a < fs.length):D7 (.ref s) a v h = .ok .none (h.set s (.inst c (fs.set a (some v)))) :=
 (congrArg (fun o=>ofO (ins o) fun p:Nat×List (Option AV)=>ifO (decide (a < p.2.length)) (Out.ok AV.none (h.set s (.inst p.1 (p.2.set a (some v)))))) e).trans (r8 (decide_eq_true q))
theorem a9F {m f c:Nat} {fs:List (Option AV)} (e:h[s]? = some (.inst c fs)) (q:((prog.cls[c]?).bind fun cl=>cl.meths.lookup m) = some f):L6 prog h (.ref s) m = some f :=
 (congrArg (fun o=>(ins o).bind fun p:Nat×List (Option AV)=>(prog.cls[p.1]?).bind fun cl=>cl.meths.lookup m) e).trans q
theorem b3Q (e:h[k]? = some (.dict ep es)) (q:E1 es v = true):inA h v (.ref k) = some (o8 es v).isSome:=by
 unfold inA
 rw [M9 e]
 exact congrArg (fun b=>ifS b (some (o8 es v).isSome)) q
theorem a5l (e:h[k]? = some (.dict ep es)) (q:E1 es v = true):j5 .isin v (.ref k) h = some (o8 es v).isSome:=b3Q e q
theorem X4 (e:h[k]? = some (.dict ep es)) (q:E1 es v = true):j5 .notin v (.ref k) h = some (!(o8 es v).isSome):=congrArg (Option.map fun b=>!b) (b3Q e q)
theorem O4 (e:h[k]? = some (.dict ep es)) (q:E1 es v = true):w4 (.ref k) v h = o8 es v:=by
 unfold w4
 rw [M9 e]
 exact congrArg (fun b=>ifS b (o8 es v)) q
theorem O3 (e:h[k]? = some (.dict ep es)) (q:E1 es v = true) (l:es.length < lim) (f:Nat→Option Nat→List (AV×AV)→Out AV):X6 (.ref k) v h f = f k ep es :=
 (congrArg (fun o=>ofO (dct o) fun p:Option Nat×List (AV×AV)=>ifO (E1 p.2 v && decide (p.2.length < lim)) (f k p.1 p.2)) e).trans (r8 (by rw [q,decide_eq_true l];rfl))
theorem a5R (e:h[k]? = some (.dict ep es)) (q:E1 es v = true) (l:es.length < lim):bmA .get (.ref k) [v,d] h = .ok ((o8 es v).getD d) h:=O3 e q l fun _ _ es=>.ok ((o8 es v).getD d) h
theorem U8 (e:h[k]? = some (.dict ep es)):(A5 h (.ref k)).isSome = true:=congrArg Option.isSome (M9 e)
theorem b2R (e:h[k]? = some (.dict ep es)) (q:E1 es v = true) (l:es.length < lim):D8 (.ref k) v d h = .ok .none (h.set k (.dict (if (o8 es v).isSome then ep else ep.map (· + 1)) (y8 es v d))):=O3 e q l fun l ep es=>.ok .none (a3u l (if (o8 es v).isSome then ep else ep.map (· + 1)) (y8 es v d) h)
theorem b2Q (e:h[k]? = some (.dict ep es)) (q:E1 es v = true) (l:es.length < lim) {w:AV} (g:o8 es v = some w):bmA .setdefault (.ref k) [v,d] h = .ok w h :=
 (O3 e q l fun l ep es=>orO (o8 es v) (fun v=>.ok v h) (.ok d (a3u l (ep.map (· + 1)) (y8 es v d) h))).trans (congrArg (fun o=>orO o (fun v=>Out.ok v h) (.ok d (a3u k (ep.map (· + 1)) (y8 es v d) h))) g)
theorem b1O (e:h[k]? = some (.dict ep es)) (q:E1 es v = true) (l:es.length < lim) (g:o8 es v = none):bmA .setdefault (.ref k) [v,d] h = .ok d (h.set k (.dict (ep.map (· + 1)) (y8 es v d))) :=
 (O3 e q l fun l ep es=>orO (o8 es v) (fun v=>.ok v h) (.ok d (a3u l (ep.map (· + 1)) (y8 es v d) h))).trans (congrArg (fun o=>orO o (fun v=>Out.ok v h) (.ok d (a3u k (ep.map (· + 1)) (y8 es v d) h))) g)
theorem b1G (e:h[k]? = some (.dict ep es)) (q:E1 es v = true) (l:es.length < lim) {w:AV} (g:o8 es v = some w):bmA .pop (.ref k) [v] h = .ok w (h.set k (.dict (ep.map (· + 1)) (a1A es v))) :=
 (O3 e q l fun l ep es=>ofO (o8 es v) fun w=>.ok w (a3u l (ep.map (· + 1)) (a1A es v) h)).trans (congrArg (fun o=>ofO o fun w=>Out.ok w (a3u k (ep.map (· + 1)) (a1A es v) h)) g)
end
end Mine.PL
namespace Mine.PL
structure Sb where
 T:List b9
 ν:b9→Int
 g:Int
noncomputable abbrev Sb.k (b:Sb) (t:b9):AV:=.int (b.ν t)
structure Nu (b:Sb):Prop where
 nd:b.T.Nodup
 asc:(b.T.map b.ν).Pairwise (· < ·)
 le:∀ t∈b.T,b.ν t≤b.g
theorem b2E {α:Type} {f:α→Int}:∀ {l:List α},(l.map f).Pairwise (· < ·)→∀ x∈l,∀ y∈l,f x = f y→x = y
 | a :: r,p,x,hx,y,hy,e=>by
  rw [List.map_cons,List.pairwise_cons] at p
  rcases List.mem_cons.mp hx with u|u<;>rcases List.mem_cons.mp hy with v|v
  ·rw [u,v]
  ·have:=p.1 _ (List.mem_map_of_mem v);rw [u] at e;lia
  ·have:=p.1 _ (List.mem_map_of_mem u);rw [v] at e;lia
  ·exact b2E p.2 x u y v e
theorem Nu.inj {b:Sb} (n:Nu b) {x y:b9} (hx:x∈b.T) (hy:y∈b.T) (q:b.ν x = b.ν y):x = y:=b2E n.asc x hx y hy q
noncomputable def Sb.more (b:Sb) (t:b9):Sb:=⟨b.T ++ [t],fun x=>if x = t then b.g + 1 else b.ν x,b.g + 1⟩
noncomputable def Sb.add (b:Sb) (t:b9):Sb:=if t∈b.T then b else b.more t
theorem Sb.add_mem {b:Sb} {t:b9} (q:t∈b.T):b.add t = b:=if_pos q
theorem Sb.add_new {b:Sb} {t:b9} (q:t∉b.T):b.add t = b.more t:=if_neg q
theorem Sb.more_t (b:Sb) (t:b9):(b.more t).ν t = b.g + 1:=if_pos rfl
theorem Sb.more_ne {b:Sb} {t x:b9} (q:x≠t):(b.more t).ν x = b.ν x:=if_neg q
theorem R6 {b:Sb} {t:b9} (q:t∉b.T) {x:b9} (hx:x∈b.T):(b.more t).ν x = b.ν x:=Sb.more_ne fun e=>q (e▸hx)
theorem Nu.more {b:Sb} (n:Nu b) {t:b9} (q:t∉b.T):Nu (b.more t):=by
 have e:b.T.map (b.more t).ν = b.T.map b.ν:=List.map_congr_left fun x hx=>R6 q hx
 refine ⟨List.nodup_append.mpr ⟨n.nd,List.pairwise_singleton _ _,fun x hx y hy z=>q (by rw [← List.mem_singleton.mp hy,← z];exact hx)⟩,?_,fun x hx=>?_⟩
 ·show ((b.T ++ [t]).map (b.more t).ν).Pairwise _
  rw [List.map_append,e]
  refine List.pairwise_append.mpr ⟨n.asc,List.pairwise_singleton _ _,fun i hi j hj=>?_⟩
  obtain ⟨x,hx,rfl⟩:=List.mem_map.mp hi
  rw [List.mem_singleton.mp hj,Sb.more_t]
  have:=n.le x hx
  exact (Int.le_iff_lt_add_one.mp) this
 ·rcases List.mem_append.mp hx with z|z
  ·rw [R6 q z]
   have:=n.le x z
   show _≤b.g + 1
   lia
  ·rw [List.mem_singleton.mp z,Sb.more_t]
   exact Int.le_refl _
theorem Nu.add {b:Sb} (n:Nu b) (t:b9):Nu (b.add t):=by
 by_cases q:t∈b.T
 ·rw [Sb.add_mem q];exact n
 ·rw [Sb.add_new q];exact n.more q
theorem Sb.mem_add {b:Sb} {t x:b9}:x∈(b.add t).T↔x∈b.T∨x = t:=by
 by_cases q:t∈b.T
 ·rw [Sb.add_mem q];exact ⟨.inl,fun z=>z.elim id fun z=>z▸q⟩
 ·rw [Sb.add_new q]
  exact List.mem_append.trans (or_congr Iff.rfl List.mem_singleton)
theorem Sb.add_old {b:Sb} {t x:b9} (hx:x∈b.T):(b.add t).ν x = b.ν x:=by
 by_cases q:t∈b.T
 ·rw [Sb.add_mem q]
 ·rw [Sb.add_new q,R6 q hx]
section
variable {h:Hp} {k ep:Nat} {b:Sb} {T:List b9} {t:b9} {f:b9→AV} {w:AV}
theorem a9l (n:Nu b) (q:t∈b.T):o8 (mk b.k f b.T) (b.k t) = some (f t) :=
 a0i _ f _ t ((w0 _ _).mpr rfl) b.T q fun _ hx z=>n.inj hx q ((w0 _ _).mp z)
theorem U7 (i:Int):E1 (mk b.k f T) (.int i) = true:=V2 (b:=false) _ f _ (fun _=>rfl) rfl
theorem E9:E1 (mk .str f T) (.str t) = true:=V2 (b:=false) _ f _ (fun _=>rfl) rfl
theorem A6 {α:Type} (κ f:α→AV) {l:List α} (q:l.length < 100000):(mk κ f l).length < lim:=by rw [List.length_map];exact Nat.lt_trans q (by decide)
theorem a0p (e:h[k]? = some (.dict (some ep) (mk b.k f b.T))) (n:Nu b) (q:t∈b.T):w4 (.ref k) (b.k t) h = some (f t):=(O4 e (U7 _)).trans (a9l n q)
theorem Z7 (e:h[k]? = some (.dict (some ep) (mk .str f T))) (q:t∈T):w4 (.ref k) (.str t) h = some (f t):=(O4 e E9).trans ((I9 f T t).trans (if_pos q))
theorem b2J:(o8 (mk .str f T) (.str t)).isSome = decide (t∈T):=by
 rw [I9]
 by_cases q:t∈T
 ·rw [if_pos q,decide_eq_true q];rfl
 ·rw [if_neg q,decide_eq_false q];rfl
theorem a9x (e:h[k]? = some (.dict (some ep) (mk .str f T))):j5 .notin (.str t) (.ref k) h = some (!decide (t∈T)):=(X4 e E9).trans (by rw [b2J])
theorem P9 {es:List (AV×AV)} {v:AV} (e:h[k]? = some (.dict (some ep) es)) (q:E1 es v = true) (l:es.length < lim):∃ ep',D8 (.ref k) v w h = .ok .none (h.set k (.dict (some ep') (y8 es v w))):=by
 have:=b2R (d:=w) e q l
 cases z:(o8 es v).isSome with
 | true=>rw [z] at this;exact ⟨ep,this⟩
 | false=>rw [z] at this;exact ⟨ep + 1,this⟩
theorem b4j (n:Nu b) (q:t∉b.T):y8 (mk .str b.k b.T) (.str t) (.int (b.g + 1)) = mk .str (b.more t).k (b.more t).T:=by
 rw [a0A _ b.T n.nd,a6B q]
 refine List.map_congr_left fun x hx=>?_
 show (AV.str x,if x = t then AV.int (b.g + 1) else b.k x) = (AV.str x,AV.int (if x = t then b.g + 1 else b.ν x))
 split<;>rfl
theorem a1p (n:Nu b) (q:t∉b.T) (hw:f t = w):y8 (mk b.k f b.T) (.int (b.g + 1)) w = mk (b.more t).k f (b.more t).T:=by
 rw [Z8 _ f _ w b.T fun x hx=>a0M fun z=>by
  have:=(w0 _ _).mp z
  have:=n.le x hx
  lia,mk,mk,show (b.more t).T = b.T ++ [t] from rfl,List.map_append]
 congr 1
 ·exact List.map_congr_left fun x hx=>by rw [Sb.k,Sb.k,R6 q hx]
 ·rw [List.map_cons,Sb.k,Sb.more_t,hw];rfl
theorem a9m (f':b9→AV) (n:Nu b) (q:t∈b.T) (e:∀ x,x≠t→f' x = f x):y8 (mk b.k f b.T) (b.k t) (f' t) = mk b.k f' b.T :=
 a1K _ f _ f' t ((w0 _ _).mpr rfl) b.T n.nd q (fun _ hx z=>n.inj hx q ((w0 _ _).mp z)) fun x _=>e x
end
noncomputable def stI (o:Nat) (g:Int):AO:=.inst 0 [some (.ref (o + 2)),some (.ref (o + 3)),some (.ref (o + 4)),some (.int g),none,none,none,none,none]
section
variable {h:Hp} {o:Nat} {g:Int} (e:h[o + 1]? = some (stI o g))
include e
theorem a1U:O6 h (.ref (o + 1)) 0 = some (.ref (o + 2)):=A9 e rfl
theorem a0q:O6 h (.ref (o + 1)) 1 = some (.ref (o + 3)):=A9 e rfl
theorem a2E:O6 h (.ref (o + 1)) 2 = some (.ref (o + 4)):=A9 e rfl
theorem a1f:O6 h (.ref (o + 1)) 3 = some (.int g):=A9 e rfl
theorem b5S (g':Int):D7 (.ref (o + 1)) 3 (.int g') h = .ok .none (h.set (o + 1) (stI o g')):=b2F e (show (3:Nat) < 9 by decide)
theorem B6 {m f:Nat} (q:((prog.cls[0]?).bind fun cl=>cl.meths.lookup m) = some f):L6 prog h (.ref (o + 1)) m = some f:=a9F e q
end
structure St (h:Hp) (o:Nat) (b:Sb) (c:b9→Int):Prop where
 inst:h[o + 1]? = some (stI o b.g)
 kept:∃ ep,h[o + 2]? = some (.dict (some ep) (mk b.k .str b.T))
 many:∃ ep,h[o + 3]? = some (.dict (some ep) (mk b.k (fun x=>.int (c x)) b.T))
 known:∃ ep,h[o + 4]? = some (.dict (some ep) (mk .str b.k b.T))
noncomputable def z9 (o:Nat) (l:Nat):Prop:=o + 1≤l∧l≤o + 4
theorem in1 {o:Nat}:z9 o (o + 1):=⟨Nat.le_refl _,Nat.add_le_add_left (by decide) o⟩
theorem in2 {o:Nat}:z9 o (o + 2):=⟨Nat.le_succ _,Nat.add_le_add_left (by decide) o⟩
theorem in3 {o:Nat}:z9 o (o + 3):=⟨Nat.add_le_add_left (by decide) o,Nat.add_le_add_left (by decide) o⟩
theorem in4 {o:Nat}:z9 o (o + 4):=⟨Nat.add_le_add_left (by decide) o,Nat.le_refl _⟩
theorem v6 {o a b:Nat} (q:a≠b):o + a≠o + b:=fun e=>q (Nat.add_left_cancel e)
variable {n:Nat} {h:Hp} {o:Nat} {b:Sb} {c:b9→Int}
theorem St.keep {S:Nat→Prop} {h':Hp} (s:St h o b c) (K:Kg S h h') (q:∀ l,z9 o l→¬ S l):St h' o b c :=
 ⟨K.get s.inst (q _ in1),s.kept.imp fun _ e=>K.get e (q _ in2),s.many.imp fun _ e=>K.get e (q _ in3),s.known.imp fun _ e=>K.get e (q _ in4)⟩
theorem a9P (S:St h o b c) (nu:Nu b) (hT:b.T.length < 100000) (t:b9) (hc:t∉b.T→c t = 0) :
  ∃ h',exs ⟨prog,a9 prog n⟩ (y6.body.take 1) h [some (.ref (o + 1)),some (.str t),none] = .next h' [some (.ref (o + 1)),some (.str t),none]∧St h' o (b.add t) c∧Kg (z9 o) h h':=by
 obtain ⟨ew,hw⟩:=S.known
 have a2:=a2E S.inst
 have n1:=a9x (t:=t) hw
 by_cases q:t∈b.T
 ·rw [decide_eq_true q] at n1
  rw [Sb.add_mem q]
  exact ⟨h,by exact J8 [0,0] fun R=>R _ a2 _ n1,S,Kg.refl _ _⟩
 ·obtain ⟨em,hm⟩:=S.many
  obtain ⟨ek,hk⟩:=S.kept
  rw [decide_eq_false q] at n1
  rw [Sb.add_new q]
  have a3:=a1f S.inst
  have s1:=b5S S.inst (b.g + 1)
  have I1:=B7 (x:=stI o (b.g + 1)) S.inst
  have K1:=Kg.set (S:=z9 o) h (o + 1) (stI o (b.g + 1)) in1
  have hw:=(o3 (h:=h) (x:=stI o (b.g + 1)) (v6 (show 1≠4 by decide))).trans hw
  have hk:=(o3 (h:=h) (x:=stI o (b.g + 1)) (v6 (show 1≠2 by decide))).trans hk
  have hm:=(o3 (h:=h) (x:=stI o (b.g + 1)) (v6 (show 1≠3 by decide))).trans hm
  generalize h.set (o + 1) (stI o (b.g + 1)) = h1 at s1 I1 K1 hw hk hm
  have b2:=a2E I1
  have b3:=a1f I1
  obtain ⟨e4,s2⟩:=P9 (w:=.int (b.g + 1)) hw (E9 (t:=t)) (A6 _ _ hT)
  rw [b4j nu q] at s2
  generalize hX:AO.dict (some e4) (mk .str (b.more t).k (b.more t).T) = X at s2
  have W2:=B7 (x:=X) hw
  have K2:=K1.trans (Kg.set (S:=z9 o) h1 (o + 4) X in4)
  have I2:=(o3 (h:=h1) (x:=X) (v6 (show 4≠1 by decide))).trans I1
  have hk:=(o3 (h:=h1) (x:=X) (v6 (show 4≠2 by decide))).trans hk
  have hm:=(o3 (h:=h1) (x:=X) (v6 (show 4≠3 by decide))).trans hm
  generalize h1.set (o + 4) X = h2 at s2 W2 K2 I2 hk hm
  have c0:=a1U I2
  have c3:=a1f I2
  obtain ⟨e2,s3⟩:=P9 (w:=.str t) hk (U7 (b.g + 1)) (A6 _ _ hT)
  rw [a1p nu q rfl] at s3
  generalize hY:AO.dict (some e2) (mk (b.more t).k .str (b.more t).T) = Y at s3
  have Y3:=B7 (x:=Y) hk
  have K3:=K2.trans (Kg.set (S:=z9 o) h2 (o + 2) Y in2)
  have I3:=(o3 (h:=h2) (x:=Y) (v6 (show 2≠1 by decide))).trans I2
  have W3:=(o3 (h:=h2) (x:=Y) (v6 (show 2≠4 by decide))).trans W2
  have hm:=(o3 (h:=h2) (x:=Y) (v6 (show 2≠3 by decide))).trans hm
  generalize h2.set (o + 2) Y = h3 at s3 Y3 K3 I3 W3 hm
  have d1:=a0q I3
  have d3:=a1f I3
  obtain ⟨e3,s4⟩:=P9 (w:=.int 0) hm (U7 (b.g + 1)) (A6 _ _ hT)
  rw [a1p nu q (by rw [hc q])] at s4
  refine ⟨_,by exact J8 [0,0,0,1,0,0,0,0,0,0,0,0,0] fun R=>R _ a2 _ n1 _ a3 _ _ s1 _ b3 _ b2 _ _ s2 _ c0 _ c3 _ _ s3 _ d1 _ d3 _ _ s4,⟨(o3 (v6 (by decide))).trans I3,⟨e2,?_⟩,⟨e3,B7 hm⟩,⟨e4,?_⟩⟩,K3.trans (Kg.set (S:=z9 o) h3 (o + 3) _ in3)⟩
  ·rw [hY];exact (o3 (v6 (by decide))).trans Y3
  ·rw [hX];exact (o3 (v6 (by decide))).trans W3
noncomputable def a6W (c:b9→Int) (t:b9):b9→Int:=fun x=>if x = t then c x + 1 else c x
theorem b0Q (S:St h o b c) (nu:Nu b) (hT:b.T.length < 100000) {t:b9} (q:t∈b.T) :
  ∃ h',exs ⟨prog,a9 prog n⟩ (y6.body.drop 1) h [some (.ref (o + 1)),some (.str t),none] = .ret (.int (b.ν t)) h'∧St h' o b (a6W c t)∧Kg (z9 o) h h':=by
 obtain ⟨ew,hw⟩:=S.known
 obtain ⟨em,hm⟩:=S.many
 have a2:=a2E S.inst
 have a1:=a0q S.inst
 have i1:=Z7 hw q
 have i2:=a0p hm nu q
 obtain ⟨e3,s1⟩:=P9 (w:=.int (c t + 1)) hm (U7 (b.ν t)) (A6 _ _ hT)
 have dp:=a9m (f:=fun x=>.int (c x)) (fun x=>.int (a6W c t x)) nu q fun x z=>by rw [a6W,if_neg z]
 rw [show a6W c t t = c t + 1 from if_pos rfl] at dp
 rw [dp] at s1
 exact ⟨_,by exact J8 [0,0,0,0,1,0] fun R=>R _ a2 _ i1 _ a1 _ i2 _ a1 _ _ s1,⟨(o3 (v6 (by decide))).trans S.inst,S.kept.imp fun _ e=>(o3 (v6 (by decide))).trans e,⟨e3,B7 hm⟩,⟨ew,(o3 (v6 (by decide))).trans hw⟩⟩,Kg.set _ _ _ in3⟩
theorem Sb.add_len (b:Sb) (t:b9):(b.add t).T.length≤b.T.length + 1:=by
 by_cases q:t∈b.T
 ·rw [Sb.add_mem q];exact Nat.le_succ _
 ·rw [Sb.add_new q];show (b.T ++ [t]).length≤_;rw [List.length_append];exact Nat.le_refl _
theorem b5l (S:St h o b c) (nu:Nu b) (hT:b.T.length < 99999) (t:b9) (hc:t∉b.T→c t = 0) :
  ∃ h',a9 prog (n + 1) 10 [.ref (o + 1),.str t] h = .ok (.int ((b.add t).ν t)) h'∧St h' o (b.add t) (a6W c t)∧Kg (z9 o) h h':=by
 obtain ⟨h1,e1,S1,K1⟩:=a9P (n:=n) S nu (Nat.lt_trans hT (by decide)) t hc
 obtain ⟨h2,e2,S2,K2⟩:=b0Q (n:=n) S1 (nu.add t) (Nat.lt_of_le_of_lt (b.add_len t) (Nat.add_lt_add_right hT 1)) (t:=t) (Sb.mem_add.mpr (.inr rfl))
 refine ⟨h2,?_,S2,K1.trans K2⟩
 rw [U5 (fn:=y6) rfl rfl,a4y 1]
 exact congrArg (a7O _) ((congrArg (fun o=>a8l o ⟨prog,a9 prog n⟩ (y6.body.drop 1)) e1).trans e2)
section
variable (S:St h o b c) (nu:Nu b) {t:b9} (q:t∈b.T)
include S nu q
theorem a8i:a9 prog (n + 2) 11 [.ref (o + 1),.int (b.ν t)] h = .ok (.bool true) h:=by
 obtain ⟨ep,hk⟩:=S.kept
 have ha:=a1U S.inst
 have hi:=(a5l hk (U7 (b.ν t))).trans (congrArg (fun o=>some (Option.isSome o)) (a9l nu q))
 have hN:a9 prog (n + 1) 4 [.int (b.ν t)] h = .ok (.bool true) h:=rfl
 exact via [0,0,0] fun R=>R _ _ hN _ ha _ hi
theorem b2W:a9 prog (n + 3) 12 [.ref (o + 1),.int (b.ν t)] h = .ok (.int (c t)) h:=by
 obtain ⟨ep,hk⟩:=S.many
 have hm:=B6 (m:=0) (f:=11) S.inst rfl
 have ha:=a0q S.inst
 have hh:=a8i (n:=n) S nu q
 have hi:=a0p hk nu q
 exact via [0,0,0,0] fun R=>R _ hm _ _ hh _ ha _ hi
theorem a2H:a9 prog (n + 3) 13 [.ref (o + 1),.int (b.ν t)] h = .ok (.str t) h:=by
 obtain ⟨ep,hk⟩:=S.kept
 have hm:=B6 (m:=0) (f:=11) S.inst rfl
 have ha:=a1U S.inst
 have hh:=a8i (n:=n) S nu q
 have hi:=a0p hk nu q
 exact via [0,0,0,0] fun R=>R _ hm _ _ hh _ ha _ hi
end
end Mine.PL
namespace Mine.PL
theorem b2w:∀ l:List Int,l.Pairwise (· < ·)→a5v l = true
 | [],_=>rfl
 | [_],_=>rfl
 | a :: b :: r,p=>by
  rw [List.pairwise_cons] at p
  show (decide (a < b) && a5v (b :: r)) = true
  rw [decide_eq_true (p.1 b List.mem_cons_self),b2w (b :: r) p.2];rfl
theorem a2z {α β:Type} {g:AV→Option β} (κ:α→AV) (f:α→β) (q:∀ x,g (κ x) = some (f x)):∀ l:List α,p0 g (l.map κ) = some (l.map f)
 | []=>rfl
 | a :: r=>by rw [List.map_cons,a4c,a2z κ f q r,q a];rfl
theorem a3O {α:Type} (f:α→Int) (l:List α):p0 asInt (l.map fun x=>.int (f x)) = some (l.map f):=a2z _ f (fun _=>rfl) l
theorem a3S (l:List b9):p0 asStr (o0 l) = some l:=(a2z AV.str id (fun _=>rfl) l).trans (congrArg some (List.map_id l))
theorem a4q {α:Type} (f:α→Int) (l:List α) (p:(l.map f).Pairwise (· < ·)):a3Y (l.map fun x=>.int (f x)) = some (l.map fun x=>.int (f x)):=by
 unfold a3Y
 rw [a3O]
 exact if_pos (b2w _ p)
section
variable {h:Hp}
theorem U1 {l:Nat} {xs:List AV} (e:h[l]? = some (.list xs)):B5 h (.ref l) = some xs:=congrArg (fun o=>orO o some ((A5 h (.ref l)).map fun p:Option Nat×List (AV×AV)=>p.2.map fun z:AV×AV=>z.1)) (o9 e)
theorem b0h {l:Nat} {ep:Option Nat} {es:List (AV×AV)} (e:h[l]? = some (.dict ep es)):B5 h (.ref l) = some (es.map fun z:AV×AV=>z.1) :=
 (congrArg (fun o=>orO o some ((A5 h (.ref l)).map fun p:Option Nat×List (AV×AV)=>p.2.map fun z:AV×AV=>z.1)) (b3y e)).trans (congrArg (Option.map fun p:Option Nat×List (AV×AV)=>p.2.map fun z:AV×AV=>z.1) (M9 e))
theorem a1R {α:Type} {l:Nat} {ep:Option Nat} {κ f:α→AV} {xs:List α} (e:h[l]? = some (.dict ep (mk κ f xs))):B5 h (.ref l) = some (xs.map κ):=by
 rw [b0h e,mk,List.map_map];rfl
theorem a1N {l:Nat} {xs:List AV} (e:B5 h (.ref l) = some xs) (q:xs.length≤lim):biA .list [.ref l] h = .ok (.ref h.length) (h ++ [.list xs]) :=
 (congrArg (fun o=>ofO o fun xs=>newList xs h) e).trans (f8 h xs q)
theorem U6 {l:Nat} {xs ys:List AV} (e:B5 h (.ref l) = some xs) (s:a3Y xs = some ys) (q:ys.length≤lim):biA .sorted [.ref l] h = .ok (.ref h.length) (h ++ [.list ys]):=by
 show (ofO ((B5 h (.ref l)).bind a3Y) fun xs=>newList xs h) = _
 rw [e]
 exact (congrArg (fun o=>ofO o fun xs=>newList xs h) s).trans (f8 h ys q)
theorem b6i {l:Nat} {xs:List AV} {ns:List Int} (e:h[l]? = some (.list xs)) (q:p0 asInt xs = some ns):biA .sum [.ref l] h = .ok (.int ns.sum) h :=
 congrArg (fun o=>ofO o fun ns:List Int=>Out.ok (AV.int ns.sum) h) (a4I h e q)
theorem P2 {α:Type} {f:α→AV} {l:List α} (q:l.length≤100000):(l.map f).length≤lim:=by rw [List.length_map];exact Nat.le_trans q (by decide)
end
variable {n:Nat} {h:Hp} {o:Nat} {b:Sb} {c:b9→Int}
theorem a2N (S:St h o b c) (nu:Nu b) (hT:b.T.length≤100000):a9 prog (n + 1) 14 [.ref (o + 1)] h = .ok (.ref (h.length + 1)) (h ++ [.list (b.T.map b.k),.list (b.T.map b.k)]):=by
 have ha:=a1U S.inst
 obtain ⟨ep,e⟩:=S.kept
 have b1:=a1N (a1R e) (P2 hT)
 have b2:=U6 (U1 (f5 h (.list (b.T.map b.k)))) (a4q b.ν b.T nu.asc) (P2 hT)
 rw [List.length_append,List.append_assoc] at b2
 exact via [0,0,0] fun R=>R _ ha _ _ b1 _ _ b2
theorem b7c {α:Type} {k ep:Nat} {κ f:α→AV} {l:List α} {v:AV} (e:h[k]? = some (.dict (some ep) (mk κ f l))) (q:E1 (mk κ f l) v = true) (hl:l.length < 100000) (nd:l.Nodup) (y:α) (hy:keq (κ y) v = true) (m:y∈l) (u:∀ x∈l,keq (κ x) v = true→x = y) (p:α→Bool) (py:p y = false) (px:∀ x∈l,x≠y→p x = true) :
  bmA .pop (.ref k) [v] h = .ok (f y) (h.set k (.dict (some (ep + 1)) (mk κ f (l.filter p)))):=by
 rw [← a9u κ f v p y hy py l nd u px]
 exact b1G e q (A6 κ f hl) (a0i κ f v y hy l m u)
noncomputable def a2l (c:b9→Int) (t:b9):b9→Int:=fun x=>if x = t then c x - 1 else c x
theorem b4r (S:St h o b c) (nu:Nu b) (hT:b.T.length < 100000) {t:b9} (q:t∈b.T) (z:c t≠1) :
  ∃ h',a9 prog (n + 3) 42 [.ref (o + 1),.int (b.ν t)] h = .ok .none h'∧St h' o b (a2l c t)∧Kg (z9 o) h h':=by
 have ndT:=nu.nd
 have hh:=a8i (n:=n) S nu q
 have m0:=B6 (m:=0) (f:=11) S.inst rfl
 have a1:=a0q S.inst
 obtain ⟨em,hm⟩:=S.many
 have i1:=a0p hm nu q
 obtain ⟨e3,s1⟩:=P9 (w:=.int (c t - 1)) hm (U7 (b.ν t)) (A6 _ _ hT)
 have dp:=a9m (f:=fun x=>.int (c x)) (fun x=>.int (a2l c t x)) nu q fun x z=>by rw [a2l,if_neg z]
 rw [show a2l c t t = c t - 1 from if_pos rfl] at dp
 rw [dp] at s1
 generalize hX:AO.dict (some e3) (mk b.k (fun x=>.int (a2l c t x)) b.T) = X at s1
 have K1:=Kg.set (S:=z9 o) h (o + 3) X in3
 have I1:=(o3 (h:=h) (x:=X) (v6 (show 3≠1 by decide))).trans S.inst
 have M1:=(B7 (x:=X) hm).trans (congrArg some hX.symm)
 obtain ⟨ek,hk⟩:=S.kept
 obtain ⟨ew,hw⟩:=S.known
 have hk:=(o3 (h:=h) (x:=X) (v6 (show 3≠2 by decide))).trans hk
 have hw:=(o3 (h:=h) (x:=X) (v6 (show 3≠4 by decide))).trans hw
 generalize h.set (o + 3) X = h1 at s1 K1 I1 M1 hk hw
 have b1:=a0q I1
 have i2:=a0p M1 nu q
 rw [show a2l c t t = c t - 1 from if_pos rfl] at i2
 refine ⟨h1,?_,⟨I1,⟨ek,hk⟩,⟨e3,M1⟩,⟨ew,hw⟩⟩,K1⟩
 have z':¬ c t - 1 = 0:=by lia
 exact via [0,0,0,0,1,0,0,0,0] fun R=>R _ m0 _ _ hh _ a1 _ i1 _ a1 _ _ s1 _ b1 _ i2 _ (a0Q z')
end Mine.PL
namespace Mine.PL
section
variable {α:Type} [DecidableEq α]
noncomputable def Q8 (T:List α) (ps:List α):List α:=ps.foldl A0 T
theorem P0:∀ (ps T:List α),T.Nodup→(Q8 T ps).Nodup
 | [],_,nd=>nd
 | _ :: r,_,nd=>P0 r _ (Y9 nd)
theorem A8 {x:α}:∀ {ps T:List α},x∈Q8 T ps↔x∈T∨x∈ps
 | [],T=>⟨.inl,fun z=>z.elim id fun z=>nomatch z⟩
 | p :: r,T=>by
  show x∈Q8 (A0 T p) r↔_
  rw [A8,r9,List.mem_cons,or_assoc]
theorem a0s:∀ ps T:List α,(Q8 T ps).length≤T.length + ps.length
 | [],T=>Nat.le_refl _
 | p :: r,T=>by
  have:=a0s r (A0 T p)
  have:=b3Z T p
  show (Q8 (A0 T p) r).length≤_
  rw [List.length_cons];lia
theorem a5Y (T ps qs:List α):Q8 T (ps ++ qs) = Q8 (Q8 T ps) qs:=List.foldl_append
theorem a4s {T ps:List α} {i:Nat} {p:α} (e:ps[i]? = some p):Q8 T (ps.take (i + 1)) = A0 (Q8 T (ps.take i)) p:=by
 rw [List.take_add_one,e,a5Y];rfl
end
noncomputable def Sb.adds (b:Sb) (ps:List b9):Sb:=ps.foldl Sb.add b
theorem Nu.adds:∀ (ps:List b9) {b:Sb},Nu b→Nu (b.adds ps)
 | [],_,n=>n
 | p :: r,_,n=>Nu.adds r (n.add p)
theorem H8 {x:b9}:∀ {ps:List b9} {b:Sb},x∈(b.adds ps).T↔x∈b.T∨x∈ps
 | [],_=>⟨.inl,fun z=>z.elim id fun z=>nomatch z⟩
 | p :: r,b=>by
  show x∈((b.add p).adds r).T↔_
  rw [H8,Sb.mem_add,List.mem_cons,or_assoc]
theorem a2Z {x:b9}:∀ (ps:List b9) {b:Sb},x∈b.T→(b.adds ps).ν x = b.ν x
 | [],_,_=>rfl
 | p :: r,_,hx=>(a2Z r (Sb.mem_add.mpr (.inl hx))).trans (Sb.add_old hx)
theorem a0t:∀ (ps:List b9) (b:Sb),(b.adds ps).T.length≤b.T.length + ps.length
 | [],_=>Nat.le_refl _
 | p :: r,b=>by
  have:=a0t r (b.add p)
  have:=b.add_len p
  show ((b.add p).adds r).T.length≤_
  rw [List.length_cons];lia
theorem a6l (b:Sb) (ps qs:List b9):b.adds (ps ++ qs) = (b.adds ps).adds qs:=List.foldl_append
theorem a0W {b:Sb} {ps:List b9} {i:Nat} {p:b9} (e:ps[i]? = some p):b.adds (ps.take (i + 1)) = (b.adds (ps.take i)).add p:=by
 rw [List.take_add_one,e,a6l];rfl
theorem b0u {b:Sb} {ps:List b9} {i:Nat} {x:b9} (hx:x∈(b.adds (ps.take i)).T):(b.adds (ps.take i)).ν x = (b.adds ps).ν x:=by
 have:b.adds ps = (b.adds (ps.take i)).adds (ps.drop i):=by rw [← a6l,List.take_append_drop]
 rw [this,a2Z _ hx]
structure Rw where
 name:b9
 ver:Nat
 text:b9
 parts:List b9
noncomputable def byN (R:List Rw) (x:b9):List Rw:=R.filter fun r=>decide (r.name = x)
noncomputable def cN (R:List Rw) (x:b9):Nat:=(byN R x).length
noncomputable def cT (R:List Rw) (t:b9):Int:=((R.filter fun r=>decide (t∈r.parts)).length:Nat)
theorem a1e {α:Type} (p:α→Bool) (R:List α) (q:α):(R ++ [q]).filter p = if p q then R.filter p ++ [q] else R.filter p:=by
 rw [List.filter_append]
 cases z:p q with
 | true=>rw [List.filter_cons_of_pos z];rfl
 | false=>rw [List.filter_cons_of_neg (by rw [z];exact Bool.false_ne_true)];exact List.append_nil _
theorem a4Q (R:List Rw) (q:Rw) (x:b9):byN (R ++ [q]) x = if q.name = x then byN R x ++ [q] else byN R x:=by
 rw [byN,a1e]
 by_cases z:q.name = x
 ·rw [decide_eq_true z,if_pos z];rfl
 ·rw [decide_eq_false z,if_neg z];rfl
theorem b6h (R:List Rw) (q:Rw) (t:b9):cT (R ++ [q]) t = if t∈q.parts then cT R t + 1 else cT R t:=by
 rw [cT,a1e]
 by_cases z:t∈q.parts
 ·rw [decide_eq_true z,if_pos z,if_pos rfl,List.length_append];rfl
 ·rw [decide_eq_false z,if_neg z];rfl
theorem o4 {R:List Rw} {x:b9} {q:Rw}:q∈byN R x↔q∈R∧q.name = x:=by
 unfold byN;rw [List.mem_filter,decide_eq_true_iff]
theorem b8N (R:List Rw) (x:b9):cN R x≤R.length:=List.length_filter_le _ _
structure Num (b:Sb):Prop where
 g0:0≤b.g
 gT:b.g≤b.T.length
 nu:∀ t∈b.T,0≤b.ν t
theorem Num.add {b:Sb} (n:Num b) (t:b9):Num (b.add t):=by
 unfold Sb.add
 split
 ·exact n
 ·rename_i q
  have g0:=n.g0
  have gT:=n.gT
  refine ⟨by show 0≤b.g + 1;lia,by show b.g + 1≤((b.T ++ [t]).length:Nat);rw [List.length_append];show b.g + 1≤((b.T.length + 1:Nat):Int);lia,fun x hx=>?_⟩
  rcases List.mem_append.mp (show x∈b.T ++ [t] from hx) with hx|hx
  ·rw [R6 q hx];exact n.nu x hx
  ·rw [List.mem_singleton.mp hx,b.more_t];lia
theorem Num.adds:∀ (ps:List b9) {b:Sb},Num b→Num (b.adds ps)
 | [],_,n=>n
 | p :: r,_,n=>Num.adds r (n.add p)
structure Bk where
 R:List Rw
 b:Sb
 G:b9→Nat
 NM:List b9
structure Rok (w r m:Nat) (K:Bk):Prop where
 nu:Nu K.b
 ndM:K.NM.Nodup
 ndR:K.R.Nodup
 parts:∀ q∈K.R,∀ p∈q.parts,p∈K.b.T
 tin:∀ t∈K.b.T,∃ q∈K.R,t∈q.parts
 nm:∀ q∈K.R,q.name∈K.NM
 name:∀ x∈K.NM,s6 x
 asc:∀ x,((byN K.R x).map (·.ver)).Pairwise (· < ·)
 ver:∀ q∈K.R,q.ver≤K.G q.name
 g0:∀ x,x∉K.NM→K.G x = 0
 uniq:∀ q∈K.R,∀ q'∈K.R,q.name = q'.name→q.ver = q'.ver→q = q'
 pcs:∀ q∈K.R,q.parts = i7 q.text w r
 good:∀ q∈K.R,∀ c∈q.text,good c
 xlen:∀ q∈K.R,q.text.length≤3000
 plen:∀ q∈K.R,q.parts.length≤3000
 tlen:K.b.T.length≤6060
 nlen:K.NM.length≤7
 rlen:K.R.length = m
 m101:m≤101
 num:Num K.b
 gm:∀ x,K.G x≤m
 v0:∀ q∈K.R,1≤q.ver
noncomputable abbrev a1z (b:Sb) (ps:List b9):List AV:=ps.map b.k
noncomputable def ddE (dd:b9→Nat) (NM:List b9):List (AV×AV):=mk .str (fun x=>.ref (dd x)) NM
noncomputable def vE (b:Sb) (l:List Rw):List (AV×AV):=mk (fun q=>.int q.ver) (fun q=>.tup (a1z b q.parts)) l
noncomputable def a6A (G:b9→Nat) (NM:List b9):List (AV×AV):=mk .str (fun x=>.int (G x)) NM
noncomputable def shI (o w r:Nat):AO:=.inst 1 [none,none,none,none,some (.int w),some (.int r),some (.ref (o + 1)),some (.ref (o + 5)),some (.ref (o + 6))]
section
variable {h:Hp} {o w r:Nat} (e:h[o]? = some (shI o w r))
include e
theorem a6e:O6 h (.ref o) 4 = some (.int w):=A9 e rfl
theorem a6M:O6 h (.ref o) 5 = some (.int r):=A9 e rfl
theorem H7:O6 h (.ref o) 6 = some (.ref (o + 1)):=A9 e rfl
theorem C9:O6 h (.ref o) 7 = some (.ref (o + 5)):=A9 e rfl
theorem a5s:O6 h (.ref o) 8 = some (.ref (o + 6)):=A9 e rfl
theorem d7 {m f:Nat} (q:((prog.cls[1]?).bind fun cl=>cl.meths.lookup m) = some f):L6 prog h (.ref o) m = some f:=a9F e q
end
structure Sr (h:Hp) (o w r B:Nat) (K:Bk) (dd:b9→Nat):Prop where
 inst:h[o]? = some (shI o w r)
 rows:∃ ep,h[o + 5]? = some (.dict (some ep) (ddE dd K.NM))
 last:∃ ep,h[o + 6]? = some (.dict (some ep) (a6A K.G K.NM))
 inner:∀ x∈K.NM,B≤dd x∧∃ ep,h[dd x]? = some (.dict (some ep) (vE K.b (byN K.R x)))
 inj:∀ x∈K.NM,∀ y∈K.NM,dd x = dd y→x = y
structure Sh (h:Hp) (o w r B:Nat) (K:Bk) (dd:b9→Nat):Prop extends Sr h o w r B K dd where
 st:St h o K.b (cT K.R)
variable {n:Nat} {h:Hp} {o w r B:Nat} {K:Bk} {dd:b9→Nat}
theorem Sr.keep {S:Nat→Prop} {h':Hp} (s:Sr h o w r B K dd) (k:Kg S h h') (q0:¬ S o) (q5:¬ S (o + 5)) (q6:¬ S (o + 6)) (q':∀ x∈K.NM,¬ S (dd x)):Sr h' o w r B K dd :=
 ⟨k.get s.inst q0,s.rows.imp fun _ e=>k.get e q5,s.last.imp fun _ e=>k.get e q6,fun x hx=>⟨(s.inner x hx).1,(s.inner x hx).2.imp fun _ e=>k.get e (q' x hx)⟩,s.inj⟩
theorem Sh.keep {S:Nat→Prop} {h':Hp} (s:Sh h o w r B K dd) (k:Kg S h h') (q:∀ l,o≤l→l≤o + 6→¬ S l) (q':∀ x∈K.NM,¬ S (dd x)):Sh h' o w r B K dd :=
 ⟨s.toSr.keep k (q _ (Nat.le_refl _) (Nat.le_add_right _ _)) (q _ (Nat.le_add_right _ _) (Nat.le_succ _)) (q _ (Nat.le_add_right _ _) (Nat.le_refl _)) q',s.st.keep k fun l hl=>q l (Nat.le_trans (Nat.le_succ _) hl.1) (Nat.le_trans hl.2 (Nat.add_le_add_left (by decide) o))⟩
theorem Sh.grow {h':Hp} (s:Sh h o w r B K dd) (g:d9 h h'):Sh h' o w r B K dd:=s.keep (S:=fun _=>False) (Kg.of g) (fun _ _ _=>id) (fun _ _=>id)
theorem Sh.idx (s:Sh h o w r B K dd) {x:b9} (hx:x∈K.NM):w4 (.ref (o + 5)) (.str x) h = some (.ref (dd x)):=by
 obtain ⟨ep,e⟩:=s.rows
 exact Z7 e hx
theorem Sh.len (s:Sh h o w r B K dd) {x:b9} (hx:x∈K.NM):biA .len [.ref (dd x)] h = .ok (.int (cN K.R x)) h:=by
 obtain ⟨_,ep,e⟩:=s.inner x hx
 rw [a3f h e,vE,List.length_map]
 rfl
theorem a8p {α ρ:Type} {l:List α} {κ:α→AV} {get:Hp×List AV→Option (List AV)} {bad:ρ} {f:AV→Hp×List AV→It (Hp×List AV) ρ} (p:α→Bool) (g:α→AV) (h:Hp) (hg:∀ acc,get (h,acc) = some (l.map κ))
  (hf:∀ a∈l,∀ acc,acc.length < lim→f (κ a) (h,acc) = .go (h,if p a then acc ++ [g a] else acc)):∀ (k i:Nat) (acc:List AV),i + k = l.length→acc.length + k≤lim→s8 get bad f (k + 1) i (h,acc) = .go (h,acc ++ ((l.drop i).filter p).map g):=by
 intro k
 induction k with
 | zero =>
  intro i acc e _
  have:l.length≤i:=Nat.le_of_eq e.symm
  rw [s8,hg]
  show orO (l.map κ)[i]? _ _ = _
  rw [List.getElem?_eq_none (by rw [List.length_map];exact this),List.drop_eq_nil_of_le this]
  exact congrArg (fun l=>It.go (h,l)) (List.append_nil acc).symm
 | succ k ih =>
  intro i acc e hl
  have hi:i < l.length:=by lia
  rw [s8,hg]
  show orO (l.map κ)[i]? _ _ = _
  rw [List.getElem?_map,List.getElem?_eq_getElem hi]
  show (f (κ l[i]) (h,acc)).bind _ = _
  rw [hf _ (List.getElem_mem hi) acc (by exact Nat.lt_of_add_right_lt hl),List.drop_eq_getElem_cons hi,← a1s]
  exact ih (i + 1) _ (by lia) (b3E hl)
theorem a4H {α:Type} {cs:Hp→Vs→Out Bool} {el:Hp→Vs→Out AV} {x:Nat} {vs:Vs} {h:Hp} {t:Nat} {get:Hp→Option (List AV)} (l:List α) (κ:α→AV) (G:a4v h t (l.map κ) get) (hl:l.length≤100000) (p:α→Bool) (g:α→AV) (hc:∀ a∈l,cs h (vs.set x (some (κ a))) = .ok (p a) h)
  (he:∀ a∈l,p a = true→el h (vs.set x (some (κ a))) = .ok (g a) h):D1 (z5 h (.ref t)) (p3 cs el x vs) h = .ok (.ref h.length) (h ++ [.list ((l.filter p).map g)]):=by
 have hl:l.length≤lim:=Nat.le_trans hl (by decide)
 have key:=a8p (ρ:=Out AV) (bad:=Out.fail) (κ:=κ) (get:=fun st=>get st.1) (f:=p3 cs el x vs) p g h (l:=l) (fun _=>G.at') (fun v hv acc ha=>a2q (hc v hv) (he v hv) acc ha) l.length 0 [] (Nat.zero_add _) (by rw [List.length_nil,Nat.zero_add];exact hl)
 obtain ⟨sr,e1,e2⟩:=G.src
 have e3:=e2 Out.fail (p3 cs el x vs) (h,[])
 rw [List.length_map] at e3
 refine (congrArg (fun o=>D1 o (p3 cs el x vs) h) e1).trans ((congrArg K9 (e3.trans key)).trans (f8 h _ ?_))
 rw [List.drop_zero,List.nil_append,List.length_map]
 exact Nat.le_trans (List.length_filter_le _ _) hl
theorem a6R {α:Type} {t ep:Nat} {l:List α} {κ f:α→AV} (e:h[t]? = some (.dict (some ep) (mk κ f l))):a4v h t (l.map κ) (getD t ep (mk κ f l).length):=by
 have:=a7F e
 rw [List.map_map] at this
 exact this
theorem a2O {α:Type} {C:Cx} {el:Hp→Vs→Out AV} {x:Nat} {vs:Vs} {h:Hp} {t:Nat} {get:Hp→Option (List AV)} (l:List α) (κ:α→AV) (G:a4v h t (l.map κ) get) (hl:l.length≤100000) (g:α→AV) (he:∀ a∈l,el h (vs.set x (some (κ a))) = .ok (g a) h) :
  D1 (z5 h (.ref t)) (p3 (evConds C []) el x vs) h = .ok (.ref h.length) (h ++ [.list (l.map g)]):=by
 rw [a4H l κ G hl (fun _=>true) g (fun _ _=>rfl) (fun a ha _=>he a ha),t9]
theorem a3l {α:Type}:∀ l:List α,(l.map fun _=>(0:Int)).sum = 0
 | []=>rfl
 | _ :: r=>by rw [List.map_cons,List.sum_cons,a3l r];rfl
theorem a9d (x:b9):∀ l:List b9,l.Nodup→x∈l→(l.map fun y=>if x = y then (1:Int) else 0).sum = 1
 | y :: r,nd,hx=>by
  have nd:=List.nodup_cons.mp nd
  rw [List.map_cons,List.sum_cons]
  by_cases q:x = y
  ·have:(r.map fun y=>if x = y then (1:Int) else 0).sum = 0:=by
    have e:(r.map fun y=>if x = y then (1:Int) else 0) = r.map fun _=>0:=List.map_congr_left fun z hz=>if_neg fun e=>nd.1 (by rw [← q,e];exact hz)
    rw [e,a3l]
   rw [this,if_pos q];rfl
  ·rw [if_neg q,Int.zero_add];exact a9d x r nd.2 ((List.mem_cons.mp hx).resolve_left q)
theorem a9o (f g:b9→Int):∀ l:List b9,(l.map fun x=>f x + g x).sum = (l.map f).sum + (l.map g).sum
 | []=>rfl
 | a :: r=>by rw [List.map_cons,List.sum_cons,List.map_cons,List.sum_cons,List.map_cons,List.sum_cons,a9o f g r];lia
theorem b2a (NM:List b9) (nd:NM.Nodup):∀ R:List Rw,(∀ q∈R,q.name∈NM)→(NM.map fun x=>(cN R x:Int)).sum = R.length
 | [],_=>a3l NM
 | q :: R,hm=>by
  have e:(NM.map fun x=>(cN (q :: R) x:Int)) = NM.map fun x=>(if q.name = x then (1:Int) else 0) + cN R x:=List.map_congr_left fun x _=>by
   unfold cN byN
   rw [List.filter_cons]
   by_cases z:q.name = x
   ·rw [decide_eq_true z,if_pos z,if_pos rfl,List.length_cons];lia
   ·rw [decide_eq_false z,if_neg z];simp
  have h1:=a9d q.name NM nd (hm q List.mem_cons_self)
  have h2:=b2a NM nd R fun q hq=>hm q (List.mem_cons_of_mem _ hq)
  rw [e,a9o,List.length_cons]
  lia
theorem a1t {m:Nat} (s:Sh h o w r B K dd) (k:Rok w r m K):∃ xs,a9 prog (n + 1) 19 [.ref o] h = .ok (.int m) (h ++ xs):=by
 have a7:=C9 s.inst
 obtain ⟨ep,e⟩:=s.rows
 have nl:=k.nlen
 have c:=a2O (C:=⟨prog,a9 prog n⟩) (el:=ev ⟨prog,a9 prog n⟩ (.bi .len [.idx (.attr (.var 0) 7) (.var 1)])) (x:=1) (vs:=[some (.ref o),none]) K.NM .str (a6R e) (by lia) (fun x=>.int (cN K.R x)) (fun x hx=>by
  exact a0G [0,0,0] fun R=>R _ a7 _ (s.idx hx) _ _ (s.len hx))
 have sm:=b6i (f5 h (.list (K.NM.map fun x=>.int (cN K.R x)))) (a3O (fun x=>(cN K.R x:Int)) K.NM)
 rw [b2a K.NM k.ndM K.R k.nm,k.rlen] at sm
 refine ⟨[.list (K.NM.map fun x=>.int (cN K.R x))],?_⟩
 exact via [0,0,0] fun R=>R _ a7 _ _ c _ _ sm
end Mine.PL
namespace Mine.PL
variable {n:Nat} {h:Hp} {o:Nat} {b:Sb}
noncomputable abbrev b6q:List MS:=[.ifs (.cmp (.var 5) .notin (.var 4)) [.setItem (.var 4) (.var 5) (.meth (.attr (.var 0) 6) 2 [.var 5])] [],
  .expr (.bm .append (.var 3) [.idx (.var 4) (.var 5)])]
noncomputable def a1G (c:b9→Int) (ps:List b9):b9→Int:=fun x=>if x∈ps then c x + 1 else c x
theorem R8 {ps:List b9} {i:Nat} {p x:b9} (e:ps[i]? = some p):x∈ps.take (i + 1)↔x∈ps.take i∨x = p:=by
 rw [List.take_add_one,e,List.mem_append]
 exact or_congr Iff.rfl List.mem_singleton
theorem b2f {c:b9→Int} {ps:List b9} {i:Nat} {p:b9} (e:ps[i]? = some p) (q:p∈ps.take i):a1G c (ps.take (i + 1)) = a1G c (ps.take i):=by
 funext x
 have:x∈ps.take (i + 1)↔x∈ps.take i:=(R8 e).trans ⟨fun z=>z.elim id fun z=>z▸q,.inl⟩
 simp only [a1G,this]
theorem b2d {c:b9→Int} {ps:List b9} {i:Nat} {p:b9} (e:ps[i]? = some p) (q:p∉ps.take i):a6W (a1G c (ps.take i)) p = a1G c (ps.take (i + 1)):=by
 funext x
 by_cases z:x = p
 ·subst z
  simp only [a6W,a1G,if_true,if_neg q,if_pos ((R8 e).mpr (.inr rfl))]
 ·have:x∈ps.take (i + 1)↔x∈ps.take i:=(R8 e).trans ⟨fun y=>y.elim id fun y=>absurd y z,.inl⟩
  simp only [a6W,a1G,if_neg z,this]
noncomputable abbrev a5n (o a1 a2:Nat) (nm tx:AV) (y:Option AV):Vs:=[some (.ref o),some nm,some tx,some (.ref a1),some (.ref a2),y,none]
structure b7z (h:Hp) (o a1 a2 a3:Nat) (nm tx:AV) (b:Sb) (c:b9→Int) (ps:List b9) (ν:b9→Int) (i:Nat) (h':Hp) (vs:Vs):Prop where
 K:Kg (fun l=>z9 o l∨l = a1∨l = a2) h h'
 S:St h' o (b.adds (ps.take i)) (a1G c (ps.take i))
 r:h'[a1]? = some (.list ((ps.take i).map fun p=>.int (ν p)))
 k:∃ ep,h'[a2]? = some (.dict (some ep) (mk .str (fun p=>.int (ν p)) (Q8 [] (ps.take i))))
 s:h'[a3]? = some (.list (o0 ps))
 v:∃ y,vs = a5n o a1 a2 nm tx y
theorem b2e {c:b9→Int} {fs:List (Option AV)} {nm tx:AV} {a1 a2 a3 i:Nat} {ps:List b9} (hi:h[o]? = some (.inst 1 fs)) (hf:fs[6]? = some (some (.ref (o + 1)))) (nu:Nu b) (hT:b.T.length + ps.length < 99000) (hc:∀ t,t∉b.T→c t = 0)
  (l1:o + 7≤a1) (l2:o + 7≤a2) (l3:o + 7≤a3) (n12:a1≠a2) (n13:a1≠a3) (n23:a2≠a3) {p:b9} (z:ps[i]? = some p) {h':Hp} {vs:Vs} (J:b7z h o a1 a2 a3 nm tx b c ps (b.adds ps).ν i h' vs) :
  ∃ h2 vs2,exs ⟨prog,a9 prog (n + 1)⟩ b6q h' (vs.set 5 (some (.str p))) = .next h2 vs2∧b7z h o a1 a2 a3 nm tx b c ps (b.adds ps).ν (i + 1) h2 vs2:=by
 obtain ⟨K,S',r1,⟨ep,k1⟩,s1,y,rfl⟩:=J
 have vp:(b.adds (ps.take (i + 1))).ν p = (b.adds ps).ν p:=b0u (H8.mpr (.inr ((R8 z).mpr (.inr rfl))))
 generalize (b.adds ps).ν = ν at *
 have ln:=List.length_take_le' i ps
 have ll:((ps.take i).map fun p=>AV.int (ν p)).length < lim:=by
  rw [List.length_map]
  have:99000 < lim:=by decide
  lia
 have tk:ps.take (i + 1) = ps.take i ++ [p]:=by rw [List.take_add_one,z];rfl
 have hiK:=K.get hi (by unfold z9;lia)
 have nn:=a9x (t:=p) k1
 have re:∀ {h1:Hp},h1[a1]? = some (.list ((ps.take i).map fun p=>.int (ν p)))→(h1.set a1 (.list ((ps.take i).map (fun p=>.int (ν p)) ++ [.int (ν p)])))[a1]? = some (.list ((ps.take (i + 1)).map fun p=>.int (ν p))):=fun r=>by rw [B7 r,tk,List.map_append];rfl
 by_cases q:p∈ps.take i
 ·rw [decide_eq_true (A8.mpr (.inr q))] at nn
  have e0:b.adds (ps.take (i + 1)) = b.adds (ps.take i):=by rw [a0W z,Sb.add_mem (H8.mpr (.inr q))]
  have e1:Q8 [] (ps.take (i + 1)) = Q8 [] (ps.take i):=by rw [a4s z,I8 (A8.mpr (.inr q))]
  have ix:=Z7 k1 (A8.mpr (.inr q))
  have kd:=F7 h' r1
  have ap:=D3 h' r1 ll (.int (ν p))
  refine ⟨h'.set a1 (.list ((ps.take i).map (fun p=>.int (ν p)) ++ [.int (ν p)])),a5n o a1 a2 nm tx (some (.str p)),by exact J8 [0,0,0,0] fun R=>R _ nn kd _ ix _ _ ap,K.trans (Kg.set _ _ _ (.inr (.inl rfl))),?_,re r1,⟨ep,?_⟩,(o3 n13).trans s1,_,rfl⟩
  ·rw [e0,b2f z q];exact S'.keep (Kg.set (S:=fun l=>l = a1) _ _ _ rfl) (by unfold z9;lia)
  ·rw [e1];exact (o3 n12).trans k1
 ·have q':p∉Q8 [] (ps.take i):=fun z=>q ((A8.mp z).elim (fun y=>nomatch y) id)
  rw [decide_eq_false q'] at nn
  have a6:=A9 (a:=6) (v:=.ref (o + 1)) hiK hf
  have mt:=B6 (m:=2) (f:=10) S'.inst rfl
  have la:=a0t (ps.take i) b
  obtain ⟨h4,e4,S4,K4⟩:=b5l (n:=n) S' (Nu.adds _ nu) (by lia) p (fun z=>by
   unfold a1G
   rw [if_neg q];exact hc p fun y=>z (H8.mpr (.inl y)))
  rw [← a0W z,b2d z q] at S4
  rw [← a0W z,vp] at e4
  have r4:=K4.get r1 (by unfold z9;lia)
  have k4:=K4.get k1 (by unfold z9;lia)
  have s4:=K4.get s1 (by unfold z9;lia)
  have K4':=K.trans (K4.mono (S':=fun l=>z9 o l∨l = a1∨l = a2) fun l _ z=>.inl z)
  have lb:=a0s (ps.take i) []
  obtain ⟨ep',st⟩:=P9 (w:=.int (ν p)) k4 (E9 (t:=p)) (A6 _ _ (by rw [List.length_nil] at lb;lia))
  have dp:y8 (mk .str (fun p=>.int (ν p)) (Q8 [] (ps.take i))) (.str p) (.int (ν p)) = mk .str (fun p=>.int (ν p)) (Q8 [] (ps.take (i + 1))):=by
   rw [a0A _ _ (P0 _ _ List.nodup_nil),← a4s z]
   refine List.map_congr_left fun x _=>?_
   show (AV.str x,if x = p then AV.int (ν p) else AV.int (ν x)) = (AV.str x,AV.int (ν x))
   by_cases q:x = p
   ·rw [if_pos q,q]
   ·rw [if_neg q]
  rw [dp] at st
  generalize hX:AO.dict (some ep') (mk .str (fun p=>.int (ν p)) (Q8 [] (ps.take (i + 1)))) = X at st
  have k5:=(B7 (x:=X) k4).trans (congrArg some hX.symm)
  have r5:=(o3 (h:=h4) (l:=a2) (x:=X) (Ne.symm n12)).trans r4
  have s5:=(o3 (h:=h4) (l:=a2) (x:=X) n23).trans s4
  have K5:=K4'.trans (Kg.set h4 a2 X (.inr (.inr rfl)))
  have S5:=S4.keep (Kg.set (S:=fun l=>l = a2) h4 a2 X rfl) (by unfold z9;lia)
  generalize h4.set a2 X = h5 at st k5 r5 s5 K5 S5
  have ix:=Z7 k5 (A8.mpr (.inr ((R8 z).mpr (.inr rfl))))
  have kd:=F7 h5 r5
  have ap:=D3 h5 r5 ll (.int (ν p))
  exact ⟨h5.set a1 (.list ((ps.take i).map (fun p=>.int (ν p)) ++ [.int (ν p)])),a5n o a1 a2 nm tx (some (.str p)),by exact J8 [0,0,0,0,0,0,0,0] fun R=>R _ nn _ a6 _ mt _ _ e4 _ _ st kd _ ix _ _ ap,K5.trans (Kg.set _ _ _ (.inr (.inl rfl))),S5.keep (Kg.set (S:=fun l=>l = a1) _ _ _ rfl) (by unfold z9;lia),re r5,⟨ep',(o3 n12).trans k5⟩,(o3 n13).trans s5,_,rfl⟩
theorem b1U {c:b9→Int} {fs:List (Option AV)} {nm tx:AV} {a1 a2 a3:Nat} {ps:List b9} (hi:h[o]? = some (.inst 1 fs)) (hf:fs[6]? = some (some (.ref (o + 1)))) (S:St h o b c) (nu:Nu b) (hT:b.T.length + ps.length < 99000) (hc:∀ t,t∉b.T→c t = 0)
  (h1:h[a1]? = some (.list [])) (h2:h[a2]? = some (.dict (some 0) [])) (h3:h[a3]? = some (.list (o0 ps))) (l1:o + 7≤a1) (l2:o + 7≤a2) (l3:o + 7≤a3) (n12:a1≠a2) (n13:a1≠a3) (n23:a2≠a3) :
  ∃ h' y,t5 (z5 h (.ref a3)) (r6 ⟨prog,a9 prog (n + 1)⟩ 5 b6q) (h,a5n o a1 a2 nm tx none) = .next h' (a5n o a1 a2 nm tx y) ∧
   Kg (fun l=>z9 o l∨l = a1∨l = a2) h h'∧St h' o (b.adds ps) (a1G c ps)∧h'[a1]? = some (.list (a1z (b.adds ps) ps)):=by
 obtain ⟨h',vs',e,J⟩:=b0p (C:=⟨prog,a9 prog (n + 1)⟩) (x:=5) (body:=b6q) (vs:=a5n o a1 a2 nm tx none) h3 (b7z h o a1 a2 a3 nm tx b c ps (b.adds ps).ν) (fun i h' vs j=>j.s) ⟨Kg.refl _ _,(by
   have:a1G c (ps.take 0) = c:=funext fun x=>if_neg List.not_mem_nil
   rw [this];exact S),h1,⟨0,h2⟩,h3,none,rfl⟩ (fun i p h' vs z J=>b2e hi hf nu hT hc l1 l2 l3 n12 n13 n23 z J)
 obtain ⟨K,S',r1,_,_,y,rfl⟩:=J
 rw [List.take_length] at S' r1
 exact ⟨h',y,e,K,S',r1⟩
end Mine.PL
namespace Mine.PL
noncomputable abbrev X9 (K:Bk) (x t:b9) (ps:List b9):Rw:=⟨x,K.G x + 1,t,ps⟩
noncomputable def Bk.put (K:Bk) (x t:b9) (ps:List b9):Bk:=⟨K.R ++ [X9 K x t ps],K.b.adds ps,fun y=>if y = x then K.G y + 1 else K.G y,A0 K.NM x⟩
variable {n m:Nat} {h:Hp} {o w r B:Nat} {K:Bk} {dd:b9→Nat}
theorem b1J {b:Sb} {ps:List b9} {l:List Rw} (q:∀ r∈l,∀ p∈r.parts,p∈b.T):vE (b.adds ps) l = vE b l :=
 List.map_congr_left fun r hr=>congrArg (fun l=>(AV.int r.ver,AV.tup l)) (List.map_congr_left fun p hp=>congrArg AV.int (a2Z ps (q r hr p hp)))
theorem b2A (nd:K.NM.Nodup) (x t:b9) (ps:List b9):y8 (a6A K.G K.NM) (.str x) (.int ((K.G x:Int) + 1)) = a6A (K.put x t ps).G (A0 K.NM x):=by
 unfold a6A
 rw [a0A _ K.NM nd]
 refine List.map_congr_left fun y _=>?_
 show (AV.str y,if y = x then AV.int ((K.G x:Int) + 1) else AV.int (K.G y)) = (AV.str y,AV.int ((if y = x then K.G y + 1 else K.G y:Nat):Int))
 by_cases z:y = x
 ·rw [if_pos z,if_pos z,z];rfl
 ·rw [if_neg z,if_neg z]
theorem b3m (k:Rok w r m K) (x:b9):(o8 (a6A K.G K.NM) (.str x)).getD (.int 0) = .int (K.G x):=by
 rw [a6A,I9]
 split
 ·rfl
 ·rw [k.g0 x ‹_›];rfl
noncomputable def b8M (o:Nat) (K:Bk) (dd:b9→Nat) (l:Nat):Prop:=(o + 1≤l∧l≤o + 6)∨∃ x∈K.NM,dd x = l
structure Mv (h h':Hp) (o:Nat) (K K':Bk) (dd dd':b9→Nat):Prop where
 kg:Kg (b8M o K dd) h h'
 old:∀ y∈K'.NM,(y∈K.NM∧dd' y = dd y)∨h.length≤dd' y
inductive Sw (c:Out AV) (v:AV) (h:Hp) (o w r B:Nat) (K K':Bk) (dd:b9→Nat):Prop
 | mk (h':Hp) (dd':b9→Nat):c = .ok v h'→Sh h' o w r B K' dd'→Mv h h' o K K' dd dd'→Sw c v h o w r B K K' dd
theorem Mv.pre {h h1 h':Hp} {o:Nat} {K K':Bk} {dd dd':b9→Nat} (M:Mv h1 h' o K K' dd dd') (G:d9 h h1):Mv h h' o K K' dd dd':=⟨(Kg.of G).trans' M.kg fun _ _=>id,fun y hy=>(M.old y hy).imp id (Nat.le_trans G.1)⟩
theorem b3U {a:Nat} {xs:List AV} (e:h[a]? = some (.list xs)) (q:xs.length≤lim):biA .tuple [.ref a] h = .ok (.tup xs) h :=
 (congrArg (fun o=>ofO o fun xs=>a7t xs h) (o9 e)).trans (r8 (decide_eq_true q))
theorem a8G {x t:b9} {tx:AV} {a1 a2 e5 e6:Nat} {ps:List b9} {y:Option AV} (k:Rok w r m K) (hB:o + 7≤B) (hp:ps.length≤5000) (i3:h[o]? = some (shI o w r)) (r3:h[o + 5]? = some (.dict (some e5) (ddE dd (A0 K.NM x)))) (v3:h[o + 6]? = some (.dict (some e6) (a6A (K.put x t ps).G (A0 K.NM x))))
  (w3:h[a1]? = some (.list (a1z (K.b.adds ps) ps))) (S3:St h o (K.b.adds ps) (cT (K.put x t ps).R)) (in3:∀ y∈A0 K.NM x,B≤dd y∧∃ ep,h[dd y]? = some (.dict (some ep) (vE K.b (byN K.R y)))) (inj3:∀ x'∈A0 K.NM x,∀ y∈A0 K.NM x,dd x' = dd y→x' = y) :
  ∃ h',exs ⟨prog,a9 prog n⟩ (p9.body.drop 8) h [some (.ref o),some (.str x),some tx,some (.ref a1),some (.ref a2),y,some (.int ((K.G x:Int) + 1))] = .ret (.int ((K.G x:Int) + 1)) h' ∧
   Sh h' o w r B (K.put x t ps) dd∧Kg (fun l=>l = dd x) h h':=by
 have mx:x∈A0 K.NM x:=r9.mpr (.inr rfl)
 obtain ⟨zB,ep,e⟩:=in3 x mx
 have a7:=C9 i3
 have ix:=Z7 r3 mx
 have tu:=b3U w3 (P2 (by lia))
 have bl:(byN K.R x).length < 100000:=Nat.lt_of_le_of_lt (Nat.le_trans (List.length_filter_le _ _) (Nat.le_trans (Nat.le_of_eq k.rlen) k.m101)) (by decide)
 obtain ⟨ep',st⟩:=P9 (v:=.int ((K.G x:Int) + 1)) (w:=.tup (a1z (K.b.adds ps) ps)) e (V2 (b:=false) _ _ _ (fun _=>rfl) rfl) (A6 _ _ bl)
 have dp:y8 (vE K.b (byN K.R x)) (.int ((K.G x:Int) + 1)) (.tup (a1z (K.b.adds ps) ps)) = vE (K.b.adds ps) (byN (K.R ++ [X9 K x t ps]) x):=by
  rw [a4Q,if_pos rfl,← b1J (b:=K.b) (ps:=ps) (l:=byN K.R x) fun r hr=>k.parts r (o4.mp hr).1]
  unfold vE
  rw [Z8,mk,mk,List.map_append]
  ·rfl
  ·intro q hq
   refine a0M fun z=>?_
   have z:=(w0 _ _).mp z
   have:=k.ver q (o4.mp hq).1
   rw [(o4.mp hq).2] at this
   lia
 rw [dp] at st
 have ne:∀ l,l≤o + 6→¬ l = dd x:=fun l hl z=>by lia
 have Kd:=Kg.set (S:=fun l=>l = dd x) h (dd x) (.dict (some ep') (vE (K.b.adds ps) (byN (K.R ++ [X9 K x t ps]) x))) rfl
 refine ⟨_,by exact J8 [0,0,0,0] fun R=>R _ _ tu _ a7 _ ix _ _ st,⟨⟨Kd.get i3 (ne _ (by lia)),⟨e5,Kd.get r3 (ne _ (by lia))⟩,⟨e6,Kd.get v3 (ne _ (Nat.le_refl _))⟩,fun z hz=>?_,inj3⟩,S3.keep Kd fun l hl=>ne l (Nat.le_trans hl.2 (by lia))⟩,Kd⟩
 by_cases zx:z = x
 ·subst zx;exact ⟨zB,ep',B7 e⟩
 ·obtain ⟨y1,ep2,y2⟩:=in3 z hz
  refine ⟨y1,ep2,Kd.get ?_ fun q=>zx (inj3 z hz x mx q)⟩
  show h[dd z]? = some (.dict (some ep2) (vE (K.b.adds ps) (byN (K.R ++ [X9 K x t ps]) z)))
  rw [a4Q,if_neg (Ne.symm zx),b1J fun r hr=>k.parts r (o4.mp hr).1];exact y2
theorem b2m {x t:b9} {tx:AV} {a1 a2:Nat} {ps:List b9} (k:Rok w r m K) (s:Sr h o w r B K dd) (hB:o + 7≤B) (hBl:B≤h.length) (hp:ps.length≤5000) (S:St h o (K.b.adds ps) (cT (K.put x t ps).R))
  (h1:h[a1]? = some (.list (a1z (K.b.adds ps) ps))) (l1:o + 7≤a1) (y:Option AV) :
  ∃ h' dd',exs ⟨prog,a9 prog n⟩ (p9.body.drop 5) h (a5n o a1 a2 (.str x) tx y) = .ret (.int ((K.G x:Int) + 1)) h' ∧
   Sh h' o w r B (K.put x t ps) dd'∧Mv h h' o K (K.put x t ps) dd dd':=by
 have nl:K.NM.length < 100000:=by have:=k.nlen;lia
 obtain ⟨e6,v0⟩:=s.last
 obtain ⟨e5,r0⟩:=s.rows
 have a8:=a5s s.inst
 have kd:=U8 v0
 have gt:=a5R (v:=.str x) (d:=.int 0) v0 E9 (A6 _ _ nl)
 rw [b3m k] at gt
 obtain ⟨e7,s1⟩:=P9 (w:=.int ((K.G x:Int) + 1)) v0 (E9 (t:=x)) (A6 _ _ nl)
 rw [b2A k.ndM x t ps] at s1
 generalize hX:AO.dict (some e7) (a6A (K.put x t ps).G (A0 K.NM x)) = X at s1
 have v1:=(B7 (x:=X) v0).trans (congrArg some hX.symm)
 have K1:Kg (b8M o K dd) h (h.set (o + 6) X):=Kg.set h (o + 6) X (.inl ⟨by lia,by lia⟩)
 have Ks:=Kg.set (S:=fun l=>l = o + 6) h (o + 6) X rfl
 have i1:=Ks.get s.inst (by lia)
 have r1:=Ks.get r0 (by lia)
 have w1:=Ks.get h1 (by exact Nat.ne_of_lt' l1)
 have S1:=S.keep Ks fun l hl z=>by have:=hl.2;lia
 have in1:∀ x∈K.NM,B≤dd x∧∃ ep,(h.set (o + 6) X)[dd x]? = some (.dict (some ep) (vE K.b (byN K.R x))):=fun x hx=>by
  obtain ⟨z,ep,e⟩:=s.inner x hx
  exact ⟨z,ep,Ks.get e (by lia)⟩
 have len1:(h.set (o + 6) X).length = h.length:=List.length_set ..
 generalize h.set (o + 6) X = h1 at s1 v1 K1 i1 r1 w1 S1 in1 len1
 have a7:=C9 i1
 have kd1:=U8 r1
 have nd:=U4 h1
 have G2:d9 h1 (h1 ++ [.dict (some 0) []]):=d9.app _ _
 have d2:=f5 h1 (.dict (some 0) [])
 generalize h1 ++ [AO.dict (some 0) []] = h2 at nd G2 d2
 have r2:=G2.get r1
 have K2:=K1.trans (Kg.of G2)
 have in2:∀ x∈K.NM,B≤dd x∧dd x < h1.length∧∃ ep,h2[dd x]? = some (.dict (some ep) (vE K.b (byN K.R x))):=fun x hx=>by
  obtain ⟨z,ep,e⟩:=in1 x hx
  exact ⟨z,(List.getElem?_eq_some_iff.mp e).1,ep,G2.get e⟩
 have S2:=S1.keep (S:=fun _=>False) (Kg.of G2) (fun _ _=>id)
 have sp:p9.body.drop 5 = (p9.body.drop 5).take 3 ++ p9.body.drop 8:=rfl
 rw [sp,H9]
 by_cases q:x∈K.NM
 ·have sd:=b2Q (v:=.str x) (w:=.ref (dd x)) (d:=.ref h1.length) r2 E9 (A6 _ _ nl) (by rw [ddE,I9,if_pos q])
  have ea:exs ⟨prog,a9 prog n⟩ ((p9.body.drop 5).take 3) h (a5n o a1 a2 (.str x) tx y) = .next h2 [some (.ref o),some (.str x),some tx,some (.ref a1),some (.ref a2),y,some (.int ((K.G x:Int) + 1))]:=by
   exact J8 [0,0,0,1,0,0,0,0,0] fun R=>R _ a8 kd _ _ gt _ a8 _ _ s1 _ a7 kd1 _ _ nd _ _ sd
  obtain ⟨h',e',F,K⟩:=a8G (n:=n) (dd:=dd) (tx:=tx) (a2:=a2) (y:=y) (e5:=e5) k hB hp (G2.get i1) (by rw [I8 q];exact r2) (G2.get v1) (G2.get w1) S2 (by rw [I8 q];exact fun y hy=>⟨(in2 y hy).1,(in2 y hy).2.2⟩) (by rw [I8 q];exact s.inj)
  exact ⟨h',dd,by rw [ea,F8,e'],F,K2.trans' K fun l _ z=>.inr ⟨x,q,z.symm⟩,fun y hy=>.inl ⟨I8 q▸hy,rfl⟩⟩
 ·have sd:=b1O (v:=.str x) (d:=.ref h1.length) r2 E9 (A6 _ _ nl) (by rw [ddE,I9,if_neg q])
  obtain ⟨dd',hd'⟩:∃ dd':b9→Nat,dd' = fun y=>if y = x then h1.length else dd y:=⟨_,rfl⟩
  have dx:dd' x = h1.length:=by rw [hd'];exact if_pos rfl
  have dy:∀ y∈K.NM,dd' y = dd y:=fun y hy=>by rw [hd'];exact if_neg (fun e:y = x=>q (e▸hy))
  have dp:y8 (ddE dd K.NM) (.str x) (.ref h1.length) = ddE dd' (A0 K.NM x):=by
   unfold ddE
   rw [a0A _ K.NM k.ndM,hd']
   refine List.map_congr_left fun y _=>?_
   show (AV.str y,if y = x then AV.ref h1.length else AV.ref (dd y)) = (AV.str y,AV.ref (if y = x then h1.length else dd y))
   split<;>rfl
  rw [dp] at sd
  have ea:exs ⟨prog,a9 prog n⟩ ((p9.body.drop 5).take 3) h (a5n o a1 a2 (.str x) tx y) = .next (h2.set (o + 5) (.dict (some (e5 + 1)) (ddE dd' (A0 K.NM x)))) [some (.ref o),some (.str x),some tx,some (.ref a1),some (.ref a2),y,some (.int ((K.G x:Int) + 1))]:=by
   exact J8 [0,0,0,1,0,0,0,0,0] fun R=>R _ a8 kd _ _ gt _ a8 _ _ s1 _ a7 kd1 _ _ nd _ _ sd
  have bx:byN K.R x = []:=List.eq_nil_iff_forall_not_mem.mpr fun z hz=>q ((o4.mp hz).2▸k.nm z (o4.mp hz).1)
  have Kr:=Kg.set (S:=fun l=>l = o + 5) h2 (o + 5) (.dict (some (e5 + 1)) (ddE dd' (A0 K.NM x))) rfl
  have hx1:B≤h1.length:=by exact le_of_le_of_eq hBl (Eq.symm len1)
  obtain ⟨h',e',F,K⟩:=a8G (n:=n) (dd:=dd') (tx:=tx) (a2:=a2) (y:=y) (e5:=e5 + 1) k hB hp (Kr.get (G2.get i1) (by lia)) (B7 r2) (Kr.get (G2.get v1) (by lia)) (Kr.get (G2.get w1) (by lia))
   (S2.keep Kr fun l hl z=>by have:=hl.2;lia) (fun y hy=>by
    rcases r9.mp hy with z|z
    ·rw [dy y z]
     obtain ⟨z1,z2,ep,z3⟩:=in2 y z
     exact ⟨z1,ep,Kr.get z3 (by lia)⟩
    ·rw [z,dx,bx]
     exact ⟨hx1,0,Kr.get d2 (by lia)⟩) (fun x' hx' y hy z=>by
    rcases r9.mp hx' with u|u<;>rcases r9.mp hy with v|v
    ·rw [dy _ u,dy _ v] at z;exact s.inj _ u _ v z
    ·rw [dy _ u,v,dx] at z;exact absurd z (Nat.ne_of_lt (in2 _ u).2.1)
    ·rw [dy _ v,u,dx] at z;exact absurd z.symm (Nat.ne_of_lt (in2 _ v).2.1)
    ·rw [u,v])
  exact ⟨h',dd',by rw [ea,F8,e'],F,(K2.trans (Kg.set _ _ _ (.inl ⟨by lia,by lia⟩))).trans' K fun l hl z=>by lia,fun y hy=>(r9.mp hy).imp (fun z=>⟨z,dy y z⟩) fun z=>by rw [z,dx,len1];exact Nat.le_refl _⟩
end Mine.PL
namespace Mine.PL
variable {n m:Nat} {h:Hp} {o w r B:Nat} {K:Bk} {dd:b9→Nat}
theorem a6Z:∀ (es:List Nat) (a m:Nat),a≤m→a6T a es→(∀ x∈es,x≤m)→a + es.length≤m
 | [],a,m,h,_,_=>h
 | e :: r,a,m,_,h,q=>by
  have:=a6Z r e m (q e List.mem_cons_self) h.2 fun x hx=>q x (List.mem_cons_of_mem _ hx)
  have:=h.1
  rw [List.length_cons];lia
theorem G0 (s:b9) (w:Nat) {r:Nat} (hr:1≤r):(i7 s w r).length≤s.length:=by
 obtain ⟨es,e,h1,h2,_⟩:=a1x s w r hr
 rw [e,List.length_map,a5U]
 have:=a6Z es 0 s.length (Nat.zero_le _) h1 h2
 exact Nat.le_of_add_left_le this
theorem b8q {R:List Rw} {t:b9} (q:∀ r∈R,t∉r.parts):cT R t = 0:=by
 unfold cT
 rw [List.filter_eq_nil_iff.mpr fun r hr=>by rw [decide_eq_true_iff];exact q r hr];rfl
theorem b3W {x t:b9} (s:Sh h o w r B K dd) (k:Rok w r m K) (hB:o + 7≤B) (hBl:B≤h.length) (hm:m < 100) (ht:t.length≤3000) (w8:w≤8) (r1:1≤r) (r40:r≤40) :
  Sw (a9 prog (n + 4) 20 [.ref o,.str x,.str t] h) (.int ((K.G x:Int) + 1)) h o w r B K (K.put x t (i7 t w r)) dd:=by
 have hp:=G0 t w r1
 obtain ⟨xs,e1⟩:=a1t (n:=n + 2) s k
 have mv:=d7 (m:=1) (f:=19) s.inst rfl
 have G1:d9 h (h ++ xs):=d9.app _ _
 generalize h ++ xs = h1 at e1 G1
 have n2:=f8 h1 [] (Nat.zero_le _)
 have G2:d9 h1 (h1 ++ [.list []]):=d9.app _ _
 have d2:=f5 h1 (.list [])
 have len2:(h1 ++ [AO.list []]).length = h1.length + 1:=List.length_append
 generalize h1 ++ [AO.list []] = h2 at n2 G2 d2 len2
 have n3:=U4 h2
 have G3:d9 h2 (h2 ++ [.dict (some 0) []]):=d9.app _ _
 have d3:=f5 h2 (.dict (some 0) [])
 have len3:(h2 ++ [AO.dict (some 0) []]).length = h2.length + 1:=List.length_append
 generalize h2 ++ [AO.dict (some 0) []] = h3 at n3 G3 d3 len3
 obtain ⟨l,h4,e4,G4,l4,d4⟩:=b0v (n:=n) (h:=h3) (s:=t) (w:=w) (r:=r) ht w8 r1 r40
 have G':=(G1.trans G2).trans G3
 have s3:=s.grow G'
 have GA:=G'.trans G4
 have s4:=s.grow GA
 have a4:=a6e s3.inst
 have a5:=a6M s3.inst
 have g1:=G1.1
 have lo:=Nat.le_trans hB hBl
 have p1:=Nat.le_trans lo g1
 have lt2:h1.length < h2.length:=len2▸Nat.lt_succ_self _
 have lt3:h2.length < l:=Nat.lt_of_lt_of_le (len3▸Nat.lt_succ_self _) l4
 have p2:=Nat.le_trans p1 (Nat.le_of_lt lt2)
 obtain ⟨h5,y,e5,K5,S5,r5⟩:=b1U (n:=n + 2) (nm:=.str x) (tx:=.str t) (ps:=i7 t w r) s4.inst rfl s4.st k.nu (Nat.lt_of_le_of_lt (Nat.add_le_add k.tlen (Nat.le_trans hp ht)) (by decide)) (fun t ht=>b8q fun q hq z=>ht (k.parts q hq t z))
  ((G3.trans G4).get d2) (G4.get d3) d4 (a1:=h1.length) (a2:=h2.length) p1 p2 (Nat.le_trans p2 (Nat.le_of_lt lt3)) (Nat.ne_of_lt lt2) (Nat.ne_of_lt (Nat.lt_trans lt2 lt3)) (Nat.ne_of_lt lt3)
 have cnt:a1G (cT K.R) (i7 t w r) = cT (K.put x t (i7 t w r)).R:=funext fun z=>(b6h K.R (X9 K x t (i7 t w r)) z).symm
 have nS:∀ l,l≤o∨(o + 5≤l∧l < h.length)→¬ (z9 o l∨l = h1.length∨l = h2.length):=fun l z q=>by
  have hl:l < h.length:=z.elim (fun z=>Nat.lt_of_le_of_lt z (Nat.lt_of_lt_of_le (Nat.lt_add_of_pos_right (by decide)) lo)) (·.2)
  rcases q with q|q|q
  ·exact z.elim (fun z=>Nat.not_lt.mpr z q.1) fun z=>Nat.not_lt.mpr q.2 z.1
  ·exact absurd (q▸hl) (Nat.not_lt.mpr g1)
  ·exact absurd (q▸hl) (Nat.not_lt.mpr (Nat.le_trans g1 (Nat.le_of_lt lt2)))
 have s5:=s4.toSr.keep K5 (nS _ (.inl (Nat.le_refl _))) (nS _ (.inr ⟨Nat.le_refl _,Nat.lt_of_lt_of_le (Nat.add_lt_add_left (by decide) o) lo⟩)) (nS _ (.inr ⟨Nat.le_succ _,lo⟩)) fun x hx=>nS _ (.inr (by
  obtain ⟨z,ep,e⟩:=s.inner x hx
  exact ⟨Nat.le_trans (Nat.add_le_add_left (by decide) o) (Nat.le_trans hB z),(List.getElem?_eq_some_iff.mp e).1⟩))
 have g5:=K5.1
 have g4:=GA.1
 rw [cnt] at S5
 obtain ⟨h6,dd',e6,S6,K6⟩:=b2m (n:=n + 3) (x:=x) (tx:=.str t) (a2:=h2.length) k s5 hB (Nat.le_trans hBl (Nat.le_trans g4 g5)) (Nat.le_trans hp (Nat.le_trans ht (by decide))) S5 r5 p1 y
 refine ⟨h6,dd',?_,S6,?_⟩
 ·have q1:¬ (t.length:Int) > 3000:=Int.not_lt.mpr (Int.ofNat_le.mpr (Nat.le_trans ht (by decide)))
  have q2:¬ (m:Int) ≥ 100:=Int.not_le.mpr (Int.ofNat_lt.mpr hm)
  exact via [1,0,0,0,0,0,0,0,0,0,1000] fun R=>R _ (b8v q1) _ mv _ _ e1 _ (b9c q2) _ _ n2 _ _ n3 _ a4 _ a5 _ _ e4 _ _ e5 _ _ e6
 ·exact ⟨((Kg.of GA).trans' K5 fun l hl z=>.inl (z.elim (fun z=>⟨z.1,Nat.le_trans z.2 (Nat.add_le_add_left (by decide) o)⟩) fun z=>z.elim (fun z=>absurd (z▸hl) (Nat.not_lt.mpr g1)) fun z=>absurd (z▸hl) (Nat.not_lt.mpr (Nat.le_trans g1 (Nat.le_of_lt lt2))))).trans' K6.kg fun _ _=>id,fun y hy=>(K6.old y hy).imp id (Nat.le_trans (Nat.le_trans g4 g5))⟩
theorem u9 {x:b9} (q:s6 x):∃ xs,a9 prog (n + 2) 16 [.ref o,.str x] h = .ok .none (h ++ xs):=by
 obtain ⟨xs,e⟩:=b4u (n:=n) (h:=h) q
 exact ⟨xs,by exact via [0] fun R=>R _ _ e⟩
theorem a1J {t:b9} (q:∀ x∈t,good x) (ht:t.length≤4000):∃ xs,a9 prog (n + 3) 18 [.ref o,.str t] h = .ok .none (h ++ xs):=by
 obtain ⟨xs,e⟩:=b4Z (n:=n) (h:=h) q ht
 exact ⟨xs,by exact via [0] fun R=>R _ _ e⟩
theorem a1T {x t:b9} (s:Sh h o w r B K dd) (k:Rok w r m K) (hB:o + 7≤B) (hBl:B≤h.length) (hm:m < 100) (hx:s6 x) (tg:∀ x∈t,good x) (ht:t.length≤3000) (w8:w≤8) (r1:1≤r) (r40:r≤40) :
  Sw (a9 prog (n + 5) 21 [.ref o,.str x,.str t] h) (.int ((K.G x:Int) + 1)) h o w r B K (K.put x t (i7 t w r)) dd:=by
 obtain ⟨xs,e1⟩:=u9 (n:=n + 2) (o:=o) (h:=h) hx
 obtain ⟨ys,e2⟩:=a1J (n:=n + 1) (o:=o) (h:=h ++ xs) tg (by lia)
 have G1:d9 h (h ++ xs):=d9.app _ _
 have G:d9 h ((h ++ xs) ++ ys):=G1.trans (d9.app _ _)
 have s2:=s.grow G
 have m1:=d7 (m:=3) (f:=16) s.inst rfl
 have m2:=d7 (m:=4) (f:=18) (s.grow G1).inst rfl
 have m3:=d7 (m:=5) (f:=20) s2.inst rfl
 generalize (h ++ xs) ++ ys = h2 at *
 obtain ⟨h',dd',e3,S3,K3⟩:=b3W (n:=n) (x:=x) (t:=t) s2 k hB (Nat.le_trans hBl G.1) hm ht w8 r1 r40
 refine ⟨h',dd',by exact via [0,0,0,0,0,0] fun R=>R _ m1 _ _ e1 _ m2 _ _ e2 _ m3 _ _ e3,S3,K3.pre G⟩
theorem Rok.put (k:Rok w r m K) {x t:b9} (h1:s6 x) (tg:∀ c∈t,PL.good c) (tl:t.length≤3000) (tt:K.b.T.length + t.length≤6060) (r1:1≤r) (hm:m < 101) (nl:(A0 K.NM x).length≤7):Rok w r (m + 1) (K.put x t (i7 t w r)):=by
 have hp:=G0 t w r1
 have new:∀ q∈K.R,q.name = x→q.ver≠K.G x + 1:=fun q hq e z=>by
  have:=k.ver q hq
  rw [e] at this;lia
 have mem:∀ {q},q∈K.R ++ [X9 K x t (i7 t w r)]→q∈K.R∨q = X9 K x t (i7 t w r):=fun hr=>(List.mem_append.mp hr).imp id List.mem_singleton.mp
 have all:∀ {P:Rw→Prop},(∀ q∈K.R,P q)→P (X9 K x t (i7 t w r))→∀ q∈K.R ++ [X9 K x t (i7 t w r)],P q:=fun p p' q hq=>(mem hq).elim (p q) fun z=>z▸p'
 exact {
  nu:=Nu.adds _ k.nu
  ndM:=Y9 k.ndM
  ndR:=List.nodup_append.mpr ⟨k.ndR,List.nodup_cons.mpr ⟨List.not_mem_nil,List.nodup_nil⟩,fun q hq q' hq' e=>by
   rw [List.mem_singleton.mp hq'] at e
   subst e
   exact new _ hq rfl rfl⟩
  parts:=all (fun q hq p hp=>H8.mpr (.inl (k.parts q hq p hp))) fun p hp=>H8.mpr (.inr hp)
  tin:=fun y hy=>(H8.mp hy).elim (fun z=>let ⟨q,hq,e⟩:=k.tin y z;⟨q,List.mem_append_left _ hq,e⟩) fun z=>⟨X9 K x t (i7 t w r),List.mem_append_right _ (List.mem_singleton.mpr rfl),z⟩
  nm:=all (fun q hq=>r9.mpr (.inl (k.nm q hq))) (r9.mpr (.inr rfl))
  name:=fun y hy=>(r9.mp hy).elim (k.name y) fun z=>z▸h1
  asc:=fun y=>by
   show ((byN (K.R ++ [X9 K x t (i7 t w r)]) y).map (·.ver)).Pairwise (· < ·)
   rw [a4Q]
   split
   ·rename_i z
    subst z
    rw [List.map_append]
    refine List.pairwise_append.mpr ⟨k.asc x,List.pairwise_singleton _ _,fun v hv u hu=>?_⟩
    obtain ⟨q,hq,rfl⟩:=List.mem_map.mp hv
    rw [List.mem_singleton.mp hu]
    have:=k.ver q (o4.mp hq).1
    rw [(o4.mp hq).2] at this
    exact Nat.lt_succ_of_le this
   ·exact k.asc y
  ver:=all (fun q hq=>by
   have:=k.ver q hq
   show _≤if q.name = x then K.G q.name + 1 else K.G q.name
   split<;>lia) (by show _≤if x = x then K.G x + 1 else K.G x;rw [if_pos rfl];exact Nat.le_refl _)
  g0:=fun y hy=>by
   show (if y = x then K.G y + 1 else K.G y) = 0
   rw [if_neg fun z=>hy (r9.mpr (.inr z))]
   exact k.g0 y fun z=>hy (r9.mpr (.inl z))
  uniq:=fun q hq q' hq' e e'=>by
   rcases mem hq with z|z<;>rcases mem hq' with z'|z'
   ·exact k.uniq q z q' z' e e'
   ·subst z';exact absurd e' (new q z e)
   ·subst z;exact absurd e'.symm (new q' z' e.symm)
   ·rw [z,z']
  pcs:=all k.pcs rfl
  good:=all k.good tg
  xlen:=all k.xlen tl
  plen:=all k.plen (Nat.le_trans hp tl)
  tlen:=Nat.le_trans (a0t (i7 t w r) K.b) (Nat.le_trans (Nat.add_le_add_left hp _) tt)
  nlen:=nl
  rlen:=by
   show (K.R ++ [X9 K x t (i7 t w r)]).length = _
   rw [List.length_append,k.rlen];rfl
  m101:=hm
  num:=Num.adds _ k.num
  gm:=fun y=>by
   have:=k.gm y
   show (if y = x then K.G y + 1 else K.G y)≤_
   split<;>lia
  v0:=all k.v0 (Nat.succ_le_succ (Nat.zero_le _)) }
end Mine.PL
namespace Mine.PL
theorem a7y {α:Type} {x:Nat} (l:List α) (κ:α→AV) {C:Cx} {body:List MS} {h:Hp} {vs:Vs} (J:List α→Hp→Vs→Prop) (j:J [] h vs)
  (step:∀ (pre:List α) (a:α) h vs,pre.length < l.length→a∈l→J pre h vs→∃ h' vs',exs C body h (vs.set x (some (κ a))) = .next h' vs'∧J (pre ++ [a]) h' vs') :
  ∃ h' vs',t5 (some (.fixed (l.map κ))) (r6 C x body) (h,vs) = .next h' vs'∧J l h' vs':=by
 have key:∀ (r pre:List α) (st:Hp×Vs),pre ++ r = l→J pre st.1 st.2→∃ st',Q5 (r6 C x body) (r.map κ) st = .go st'∧J l st'.1 st'.2:=fun r=>by
  induction r with
  | nil=>intro pre st e j;rw [List.append_nil] at e;subst e;exact ⟨st,rfl,j⟩
  | cons a r ih =>
   intro pre st e j
   obtain ⟨h1,vs1,e1,j1⟩:=step pre a st.1 st.2 (by rw [← e,List.length_append];exact Nat.lt_add_of_pos_right (Nat.succ_pos _)) (by rw [← e];exact List.mem_append.mpr (.inr List.mem_cons_self)) j
   obtain ⟨st',e2,j2⟩:=ih (pre ++ [a]) (h1,vs1) (by rw [List.append_assoc];exact e) j1
   exact ⟨st',(congrArg (It.bind · fun s=>Q5 (r6 C x body) (r.map κ) s) (a3L e1)).trans e2,j2⟩
 obtain ⟨st,e,j⟩:=key l [] (h,vs) rfl j
 exact ⟨st.1,st.2,a0k e,j⟩
variable {n:Nat} {h:Hp}
end Mine.PL
namespace Mine.PL
variable {n m:Nat} {h:Hp} {o w r B:Nat} {K:Bk} {dd:b9→Nat}
theorem Rok.tl (k:Rok w r m K):K.b.T.length≤6060:=k.tlen
theorem Rok.nl (k:Rok w r m K):K.NM.length≤7:=k.nlen
theorem Rok.rl (k:Rok w r m K):K.R.length≤101:=Nat.le_trans (Nat.le_of_eq k.rlen) k.m101
theorem Rok.pl (k:Rok w r m K) {q:Rw} (hq:q∈K.R):q.parts.length≤3000:=k.plen q hq
inductive a2c (h:Hp) (c:Out AV) (xs:List AV):Prop
 | mk (h':Hp) (a:Nat):c = .ok (.ref a) h'→d9 h h'→h.length≤a→h'[a]? = some (.list xs)→a2c h c xs
theorem a2c.of {h h1:Hp} {c:Out AV} {xs:List AV} (G:d9 h h1) (e:c = .ok (.ref h1.length) (h1 ++ [.list xs])):a2c h c xs:=⟨_,_,e,G.trans (d9.app _ _),G.1,f5 _ _⟩
theorem a3R (l:List b9) (q:l.length < 64):a3Y (o0 l) = some (o0 (u7 ltT l)):=by
 cases l with
 | nil=>rfl
 | cons a r =>
  show orO (p0 asStr (o0 (a :: r))) _ _ = _
  rw [a3S]
  exact congrArg (fun b=>ifS b (some (o0 (u7 ltT (a :: r))))) (decide_eq_true q)
theorem a6u {α:Type} (lt:α→α→Bool) (x:α):∀ l:List α,(a1D lt x l).length = l.length + 1
 | []=>rfl
 | y :: r=>by
  show (if lt y x then y :: a1D lt x r else x :: y :: r).length = _
  split
  ·rw [List.length_cons,a6u lt x r,List.length_cons]
  ·rfl
theorem F9 {α:Type} (lt:α→α→Bool):∀ l:List α,(u7 lt l).length = l.length
 | []=>rfl
 | x :: r=>by show (a1D lt x (u7 lt r)).length = _;rw [a6u,F9 lt r,List.length_cons]
theorem a6o {α:Type} (lt:α→α→Bool) {x y:α}:∀ {l:List α},y∈a1D lt x l↔y = x∨y∈l
 | []=>List.mem_cons
 | z :: r=>by
  show y∈(if lt z x then z :: a1D lt x r else x :: z :: r)↔_
  split
  ·rw [List.mem_cons,a6o lt,List.mem_cons,or_left_comm]
  ·exact List.mem_cons
theorem U2 {α:Type} (lt:α→α→Bool) {y:α}:∀ {l:List α},y∈u7 lt l↔y∈l
 | []=>Iff.rfl
 | x :: r=>by show y∈a1D lt x (u7 lt r)↔_;rw [a6o,U2 lt,List.mem_cons]
noncomputable def nmS (K:Bk):List b9:=u7 ltT (K.NM.filter fun x=>decide (0 < cN K.R x))
theorem a1M (k:Rok w r m K):(nmS K).length≤7:=by
 unfold nmS
 rw [F9]
 exact Nat.le_trans (List.length_filter_le _ _) k.nl
theorem a7n (s:Sh h o w r B K dd) (k:Rok w r m K):a2c h (a9 prog (n + 1) 25 [.ref o] h) (o0 (nmS K)):=by
 have a7:=C9 s.inst
 obtain ⟨ep,e0⟩:=s.rows
 have nl:=k.nl
 have c:=a4H (cs:=evConds ⟨prog,a9 prog n⟩ [.cmp (.bi .len [.idx (.attr (.var 0) 7) (.var 1)]) .gt (.int 0)]) (el:=ev ⟨prog,a9 prog n⟩ (.var 1)) (x:=1) (vs:=[some (.ref o),none]) K.NM .str (a6R e0) (by lia) (fun x=>decide (0 < cN K.R x)) .str (fun x hx=>b8p (by exact a0G [0,0,0,0] fun R=>R _ a7 _ (s.idx hx) _ _ (s.len hx) _ (b7x (b:=0)))) (fun x hx _=>rfl)
 have G1:d9 h (h ++ [.list (o0 (K.NM.filter fun x=>decide (0 < cN K.R x)))]):=d9.app _ _
 have d1:=f5 h (.list (o0 (K.NM.filter fun x=>decide (0 < cN K.R x))))
 generalize h ++ [AO.list (o0 (K.NM.filter fun x=>decide (0 < cN K.R x)))] = h1 at c G1 d1
 have so:=U6 (U1 d1) (a3R _ (Nat.lt_of_le_of_lt (List.length_filter_le _ _) (by lia))) (P2 (by have:=a1M k;unfold nmS at this;lia))
 refine .of G1 ?_
 exact via [0,0,0] fun R=>R _ a7 _ _ c _ _ so
noncomputable abbrev tri (K:Bk) (t:b9):AV:=.tup [K.b.k t,.str t,.int (cT K.R t)]
theorem a1i (h:Hp) (x:AO):(h ++ [x,x])[h.length + 1]? = some x:=by
 rw [List.getElem?_append_right (Nat.le_add_right _ _),Nat.add_sub_cancel_left];rfl
theorem a7u (s:Sh h o w r B K dd) (k:Rok w r m K):a2c h (a9 prog (n + 4) 26 [.ref o] h) (K.b.T.map (tri K)):=by
 have a6:=H7 s.inst
 have m9:=B6 (m:=9) (f:=14) s.st.inst rfl
 have hT:=k.tl
 have e1:=a2N (n:=n + 2) s.st k.nu (by lia)
 have G:d9 h (h ++ [.list (K.b.T.map K.b.k),.list (K.b.T.map K.b.k)]):=d9.app _ _
 have d1:=a1i h (.list (K.b.T.map K.b.k))
 generalize h ++ [AO.list (K.b.T.map K.b.k),.list (K.b.T.map K.b.k)] = h1 at e1 G d1
 have s1:=s.grow G
 have b6:=H7 s1.inst
 have n6:=B6 (m:=6) (f:=13) s1.st.inst rfl
 have n10:=B6 (m:=10) (f:=12) s1.st.inst rfl
 have c:=a2O (C:=⟨prog,a9 prog (n + 3)⟩) (el:=ev ⟨prog,a9 prog (n + 3)⟩ (.tup [.var 1,.meth (.attr (.var 0) 6) 6 [.var 1],.meth (.attr (.var 0) 6) 10 [.var 1]])) (x:=1) (vs:=[some (.ref o),none]) K.b.T K.b.k (Q2 d1) (by lia) (tri K) (fun t ht=>by
  have p1:=a2H (n:=n) s1.st k.nu ht
  have p2:=b2W (n:=n) s1.st k.nu ht
  exact a0G [0,0,0,0,0,0] fun R=>R _ b6 _ n6 _ _ p1 _ b6 _ n10 _ _ p2)
 refine .of G ?_
 exact via [0,0,0,0] fun R=>R _ a6 _ m9 _ _ e1 _ _ c
noncomputable def sgn (K:Bk):Int:=(K.b.T.map fun t=>(t.length:Int)).sum
noncomputable abbrev a2U (K:Bk) (x:b9):List AV:=(byN K.R x).map fun q=>.int q.ver
theorem b3l (k:Rok w r m K) {x:b9} (q:x∉K.NM):byN K.R x = []:=List.eq_nil_iff_forall_not_mem.mpr fun z hz=>q ((o4.mp hz).2▸k.nm z (o4.mp hz).1)
theorem V5 (k:Rok w r m K) (x:b9):(byN K.R x).length≤101:=Nat.le_trans (b8N K.R x) k.rl
theorem Sh.get (s:Sh h o w r B K dd) (k:Rok w r m K) (x:b9) (d:Nat) (hd:h[d]? = some (.dict (some 0) [])):∃ a ep,bmA .get (.ref (o + 5)) [.str x,.ref d] h = .ok (.ref a) h∧h[a]? = some (.dict (some ep) (vE K.b (byN K.R x))):=by
 obtain ⟨ep,e⟩:=s.rows
 have nl:K.NM.length < 100000:=Nat.lt_of_le_of_lt k.nl (by decide)
 have gt:=a5R (v:=.str x) (d:=.ref d) e E9 (A6 _ _ nl)
 rw [ddE,I9] at gt
 by_cases q:x∈K.NM
 ·rw [if_pos q] at gt
  obtain ⟨_,ep2,e2⟩:=s.inner x q
  exact ⟨_,ep2,gt,e2⟩
 ·rw [if_neg q] at gt
  exact ⟨d,0,gt,by rw [b3l k q];exact hd⟩
theorem a9H (s:Sh h o w r B K dd) (k:Rok w r m K) {x:b9} (hx:s6 x):a2c h (a9 prog (n + 3) 22 [.ref o,.str x] h) (a2U K x):=by
 obtain ⟨xs,e1⟩:=u9 (n:=n) (o:=o) (h:=h) hx
 have m3:=d7 (m:=3) (f:=16) s.inst rfl
 have G1:d9 h (h ++ xs):=d9.app _ _
 generalize h ++ xs = h1 at e1 G1
 have s1:=s.grow G1
 obtain ⟨ep,e⟩:=s1.rows
 have kd:=U8 e
 have a7:=C9 s1.inst
 have nd:=U4 h1
 have G2:d9 h1 (h1 ++ [.dict (some 0) []]):=d9.app _ _
 obtain ⟨a,ep2,gt,e2⟩:=(s1.grow G2).get k x h1.length (f5 _ _)
 generalize h1 ++ [AO.dict (some 0) []] = h2 at nd G2 gt e2
 have bl:=V5 k x
 have b1:=a1N (a1R e2) (P2 (by lia))
 have G3:d9 h2 (h2 ++ [.list (a2U K x)]):=d9.app _ _
 have d3:=f5 h2 (.list (a2U K x))
 generalize h2 ++ [AO.list (a2U K x)] = h3 at b1 G3 d3
 have b2:=U6 (U1 d3) (a4q (fun q:Rw=>(q.ver:Int)) (byN K.R x) (by
  have:=k.asc x
  rw [List.pairwise_map] at this ⊢
  exact this.imp fun q=>Int.ofNat_lt.mpr q)) (P2 (by lia))
 refine .of ((G1.trans G2).trans G3) ?_
 exact via [0,0,0,0,0,0,0,0] fun R=>R _ m3 _ _ e1 _ a7 kd _ _ nd _ _ gt _ _ b1 _ _ b2
theorem b3I (k:Rok w r m K) {q:Rw} (hq:q∈K.R):o8 (vE K.b (byN K.R q.name)) (.int q.ver) = some (.tup (a1z K.b q.parts)) :=
 a0i _ _ _ q ((w0 _ _).mpr rfl) _ (o4.mpr ⟨hq,rfl⟩) fun x hx z=>k.uniq x (o4.mp hx).1 q hq (o4.mp hx).2 (Int.ofNat.inj ((w0 _ _).mp z))
theorem a8X {l:List Rw} (i:Int):E1 (vE K.b l) (.int i) = true:=V2 (b:=false) _ _ _ (fun _=>rfl) rfl
theorem Sh.row (s:Sh h o w r B K dd) (k:Rok w r m K) {q:Rw} (hq:q∈K.R):w4 (.ref (dd q.name)) (.int q.ver) h = some (.tup (a1z K.b q.parts)):=by
 obtain ⟨_,ep,e⟩:=s.inner q.name (k.nm q hq)
 exact (O4 e (a8X _)).trans (b3I k hq)
theorem a5O (s:Sh h o w r B K dd) (k:Rok w r m K) {q:Rw} (hq:q∈K.R):a9 prog (n + 2) 17 [.ref o,.str q.name,.int q.ver] h = .ok .none (h ++ [.dict (some 0) []]):=by
 have a1:a9 prog (n + 1) 4 [.int q.ver] h = .ok (.bool true) h:=rfl
 have a7:=C9 s.inst
 obtain ⟨ep,e⟩:=s.rows
 have kd:=U8 e
 have nd:=U4 h
 have G:d9 h (h ++ [.dict (some 0) []]):=d9.app _ _
 obtain ⟨a,ep2,gt,e2⟩:=(s.grow G).get k q.name h.length (f5 _ _)
 generalize h ++ [AO.dict (some 0) []] = h1 at nd G gt e2
 have ni:=(X4 e2 (a8X _)).trans (congrArg (fun o=>some (!Option.isSome o)) (b3I k hq))
 exact via [0,0,0,0,0,0] fun R=>R _ _ a1 _ a7 kd _ _ nd _ _ gt _ ni
end Mine.PL
namespace Mine.PL
variable {n m:Nat} {h:Hp} {o w r B:Nat} {K:Bk} {dd:b9→Nat}
inductive b5J (n:Nat) (h:Hp) (o:Nat) (x:b9) (i:Int):Prop
 | mk (h1 h2:Hp):L6 prog h (.ref o) 3 = some 16→a9 prog (n + 2) 16 [.ref o,.str x] h = .ok .none h1→L6 prog h1 (.ref o) 7 = some 17→a9 prog (n + 2) 17 [.ref o,.str x,.int i] h1 = .ok .none h2→d9 h h2→b5J n h o x i
theorem a1n (s:Sh h o w r B K dd) (k:Rok w r m K) {q:Rw} (hq:q∈K.R):b5J n h o q.name q.ver:=by
 obtain ⟨xs,e1⟩:=u9 (n:=n) (o:=o) (h:=h) (k.name _ (k.nm q hq))
 have G1:d9 h (h ++ xs):=d9.app _ _
 generalize h ++ xs = h1 at e1 G1
 have s1:=s.grow G1
 exact ⟨h1,_,d7 (m:=3) (f:=16) s.inst rfl,e1,d7 (m:=7) (f:=17) s1.inst rfl,a5O (n:=n) s1 k hq,G1.trans (d9.app _ _)⟩
theorem b6y (s:Sh h o w r B K dd) (k:Rok w r m K) {q:Rw} (hq:q∈K.R):Gv (a9 prog (n + 3) 35 [.ref o,.str q.name,.int q.ver] h) (.tup (a1z K.b q.parts)) h:=by
 obtain ⟨h1,h2,m3,n1,m7,n2,G1⟩:=a1n (n:=n) s k hq
 have s1:=s.grow G1
 exact ⟨h2,by exact via [0,0,0,0,0,0,0] fun R=>R _ m3 _ _ n1 _ m7 _ _ n2 _ (C9 s1.inst) _ (s1.idx (k.nm q hq)) _ (s1.row k hq),G1⟩
theorem a4Z {a:Nat} {sep:List Nat} {l:List b9} (e:h[a]? = some (.list (o0 l))) (q:l.flatten.length + l.length * sep.length≤lim):bmA .join (.str sep) [.ref a] h = .ok (.str (u6 sep l)) h:=by
 show (ofO ((o6 h (.ref a)).bind (p0 asStr)) fun ts=>ifO (decide (ts.flatten.length + ts.length * sep.length≤lim)) (Out.ok (AV.str (u6 sep ts)) h)) = _
 rw [o9 e]
 show (ofO (p0 asStr (o0 l)) fun ts=>ifO (decide (ts.flatten.length + ts.length * sep.length≤lim)) (Out.ok (AV.str (u6 sep ts)) h)) = _
 rw [a3S]
 exact r8 (decide_eq_true q)
theorem a4u:∀ l:List b9,u6 [] l = l.flatten
 | []=>rfl
 | [t]=>(List.append_nil t).symm
 | t :: u :: r=>by show t ++ ([] ++ u6 [] (u :: r)) = _;rw [a4u (u :: r)];rfl
theorem a5N {a:Nat} {l:List b9} (e:h[a]? = some (.list (o0 l))) (q:l.flatten.length≤lim):bmA .join (.str []) [.ref a] h = .ok (.str l.flatten) h:=by
 rw [a4Z e (by show _ + _ * 0≤_;rw [Nat.mul_zero];exact q),a4u]
theorem Rok.flat (k:Rok w r m K) (r1:1≤r) {q:Rw} (hq:q∈K.R):q.parts.flatten = q.text:=by
 rw [k.pcs q hq]
 obtain ⟨_,_,_,_,e,_⟩:=a1x q.text w r r1
 exact e
theorem Rok.xl (k:Rok w r m K) {q:Rw} (hq:q∈K.R):q.text.length≤3000:=k.xlen q hq
theorem N0 (s:Sh h o w r B K dd) (k:Rok w r m K) (r1:1≤r) {q:Rw} (hq:q∈K.R):Gv (a9 prog (n + 4) 33 [.ref o,.str q.name,.int q.ver] h) (.str q.text) h:=by
 have a7:=C9 s.inst
 have ix:=s.idx (k.nm q hq)
 have ir:=s.row k hq
 have a6:=H7 s.inst
 have m6:=B6 (m:=6) (f:=13) s.st.inst rfl
 have pl:=k.pl hq
 have c:=J6 (h:=h) (cs:=evConds ⟨prog,a9 prog (n + 3)⟩ []) (el:=ev ⟨prog,a9 prog (n + 3)⟩ (.meth (.attr (.var 0) 6) 6 [.var 3])) (x:=3) (vs:=[some (.ref o),some (.str q.name),some (.int q.ver),none]) q.parts K.b.k (fun _=>true) .str (Nat.le_trans pl (by decide)) (fun _ _=>rfl) (fun t ht _=>by
  have p1:=a2H (n:=n) s.st k.nu (k.parts q hq t ht)
  exact a0G [0,0,0] fun R=>R _ a6 _ m6 _ _ p1)
 rw [t9] at c
 have j:=a5N (f5 h (.list (o0 q.parts))) (by rw [k.flat r1 hq];exact Nat.le_trans (k.xl hq) (by decide))
 rw [k.flat r1 hq] at j
 refine ⟨_,?_,d9.app h [.list (o0 q.parts)]⟩
 exact via [1,0,0,0,0] fun R=>R _ a7 _ ix _ ir _ _ c _ _ j
theorem V4 (s:Sh h o w r B K dd) (k:Rok w r m K) (r1:1≤r) {q:Rw} (hq:q∈K.R):Gv (a9 prog (n + 5) 34 [.ref o,.str q.name,.int q.ver] h) (.str q.text) h:=by
 obtain ⟨h0,h1,m3,n1,m7,n2,G1⟩:=a1n (n:=n + 2) s k hq
 have s1:=s.grow G1
 have m8:=d7 (m:=8) (f:=33) s1.inst rfl
 obtain ⟨h2,e2,G2⟩:=N0 (n:=n) s1 k r1 hq
 exact ⟨h2,by exact via [0,0,0,0,0,0] fun R=>R _ m3 _ _ n1 _ m7 _ _ n2 _ m8 _ _ e2,G1.trans G2⟩
theorem X3 {a b l:Nat} (h1:a≤b) (h2:b≤l):a9 prog (n + 2) 28 [.int a,.int b,.int l] h = .ok (.bool true) h:=by
 have e:∀ i:Nat,a9 prog (n + 1) 4 [.int i] h = .ok (.bool true) h:=fun _=>rfl
 exact via [0,0,0,0,0] fun R=>R _ _ (e a) _ _ (e b) _ (a0g (Int.natCast_nonneg a)) _ (a0g (Int.ofNat_le.mpr h1)) _ (a0g (Int.ofNat_le.mpr h2))
end Mine.PL
namespace Mine.PL
variable {n m:Nat} {h:Hp} {o w r B:Nat} {K:Bk} {dd:b9→Nat}
inductive Rf (n f:Nat) (args:List AV) (h:Hp) (c:Nat):Prop
 | mk (h':Hp):callX prog n f args h = some (c,h')→d9 h h'→Rf n f args h c
inductive Sy (n f:Nat) (args:List AV) (h:Hp) (b:Bool):Prop
 | mk (h':Hp):a9 prog n f args h = .ok (.bool b) h'→d9 h h'→Sy n f args h b
theorem a4N {C:Cx} {vs:Vs} {el:Hp→Vs→Out AV} {x:Nat} {s:List Nat} (p:Nat→Bool) (hl:s.length≤lim) (he:∀ c∈s,el h (vs.set x (some (.str [c]))) = .ok (.bool (p c)) h):D1 (some (.fixed (s.map fun c=>.str [c]))) (p3 (evConds C []) el x vs) h = .ok (.ref h.length) (h ++ [.list (s.map fun c=>.bool (p c))]):=by
 rw [J6 s (fun c=>.str [c]) (fun _=>true) (fun c=>.bool (p c)) hl (fun _ _=>rfl) fun c hc _=>he c hc,t9]
theorem a2V (p:Nat→Bool):∀ s:List Nat,p0 asBool (s.map fun c=>AV.bool (p c)) = some (s.map p)
 | []=>rfl
 | c :: s=>by
  show (asBool (AV.bool (p c))).bind (fun b=>(p0 asBool (s.map fun c=>AV.bool (p c))).map fun l=>b :: l) = _
  rw [a2V p s];rfl
theorem b1P {l:Nat} {s:List Nat} {p:Nat→Bool} (e:h[l]? = some (.list (s.map fun c=>AV.bool (p c)))) {c:Nat} (hc:c∈s) (q:p c = false):biA .all [.ref l] h = .ok (.bool false) h:=by
 show (ofO ((o6 h (.ref l)).bind (p0 asBool)) fun bs=>Out.ok (AV.bool (bs.all id)) h) = _
 rw [o9 e]
 show (ofO (p0 asBool (s.map fun c=>AV.bool (p c))) fun bs=>Out.ok (AV.bool (bs.all id)) h) = _
 rw [a2V]
 have:(s.map p).all id = false:=List.all_eq_false.mpr ⟨p c,List.mem_map.mpr ⟨c,hc,rfl⟩,by rw [q];decide⟩
 exact congrArg (fun b=>Out.ok (AV.bool b) h) this
theorem a0r {x:List Nat} (l1:1≤x.length) (l2:x.length≤12) (hp:(x.all fun c=>PySem.Txt.contains (tS z4) (tS [c])) = false):Sy (n + 1) 7 [.str x] h false:=by
 obtain ⟨c,hc,q⟩:=List.all_eq_false.mp hp
 have hl:12≤lim:=by decide
 have cc:=a4N (C:=⟨prog,a9 prog n⟩) (el:=ev ⟨prog,a9 prog n⟩ (.cmp (.var 1) .isin (.gl 0))) (x:=1) (h:=h) (vs:=[some (.str x),none]) (fun c=>PySem.Txt.contains (tS z4) (tS [c])) (Nat.le_trans l2 hl) fun c hc=>rfl
 have a:=b1P (p:=fun c=>PySem.Txt.contains (tS z4) (tS [c])) (f5 h _) hc (Bool.eq_false_iff.mpr q)
 have q1:(1:Int)≤x.length:=by lia
 have q2:(x.length:Int)≤12:=by lia
 exact ⟨_,by exact via [2,0,0,0] fun R=>R _ (a0g q1) _ (a0g q2) _ _ cc _ _ a,d9.app _ _⟩
noncomputable def P8 (v:AV):Prop:=∀ (n:Nat) (h:Hp),Sy (n + 1) 7 [v] h false
theorem a2k (i:Int):P8 (.int i):=fun _ h=>⟨h,rfl,d9.refl _⟩
theorem b0j:P8 .none:=fun _ h=>⟨h,rfl,d9.refl _⟩
theorem a2x:P8 (.str []):=fun _ h=>⟨h,rfl,d9.refl _⟩
theorem a4g:P8 (.str (rep 13 [97])):=fun _ h=>⟨h,rfl,d9.refl _⟩
theorem a5o:P8 (.str [65]):=fun _ _=>a0r (by decide) (by decide) (by decide +kernel)
theorem a8S:P8 (.str [97,32,98]):=fun _ _=>a0r (by decide) (by decide) (by decide +kernel)
theorem b4N:P8 (.str [97,49]):=fun _ _=>a0r (by decide) (by decide) (by decide +kernel)
theorem b5m:P8 (.str [97,10]):=fun _ _=>a0r (by decide) (by decide) (by decide +kernel)
theorem u4 {v:AV} (b:P8 v):Rf (n + 2) 16 [.ref o,v] h 2:=by
 obtain ⟨h',e,G⟩:=b n h
 exact ⟨h',by exact n9 [0,0] [0] fun R=>R _ _ e,G⟩
theorem a7A {c:Nat} (q:good c∨c = 9):a9 prog (n + 1) 5 [.str [c]] h = .ok (.bool (decide (c≠9))) h:=by
 by_cases z:c = 9
 ·subst z;rfl
 ·rw [decide_eq_true z];exact a9v (q.resolve_right z)
theorem a2I {s:List Nat} (q:∀ c∈s,good c∨c = 9) (h9:9∈s) (hs:s.length≤4000):Sy (n + 2) 6 [.str s] h false:=by
 have hl:4000≤lim:=by decide
 have c:=a4N (C:=⟨prog,a9 prog (n + 1)⟩) (el:=ev ⟨prog,a9 prog (n + 1)⟩ (.call 5 [.var 1])) (x:=1) (h:=h) (vs:=[some (.str s),none]) (fun c=>decide (c≠9)) (Nat.le_trans hs hl) fun c hc=>by exact a0G [0] fun R=>R _ _ (a7A (q c hc))
 have a:=b1P (p:=fun c=>decide (c≠9)) (f5 h _) h9 (by decide:decide (9≠9) = false)
 exact ⟨_,by exact via [1,0] fun R=>R _ _ c _ _ a,d9.app _ _⟩
theorem a8F {v:AV} (b:Sy (n + 2) 6 [v] h false):Rf (n + 3) 18 [.ref o,v] h 5:=by
 obtain ⟨h',e,G⟩:=b
 exact ⟨h',by exact n9 [0,0] [0] fun R=>R _ _ e,G⟩
end Mine.PL
namespace Mine.PL
variable {n m:Nat} {h:Hp} {o w r B:Nat} {K:Bk} {dd:b9→Nat}
noncomputable def b4z (K:Bk) (x:b9) (i:Int):Prop:=∀ q∈K.R,q.name = x→(q.ver:Int)≠i
theorem a5u (s:Sh h o w r B K dd) (k:Rok w r m K) {x:b9} {i:Int} (g:b4z K x i):Rf (n + 2) 17 [.ref o,.str x,.int i] h 3:=by
 have a1:a9 prog (n + 1) 4 [.int i] h = .ok (.bool true) h:=rfl
 have a7:=C9 s.inst
 obtain ⟨ep,e⟩:=s.rows
 have kd:=U8 e
 have nd:=U4 h
 have G:d9 h (h ++ [.dict (some 0) []]):=d9.app _ _
 obtain ⟨a,ep2,gt,e2⟩:=(s.grow G).get k x h.length (f5 _ _)
 generalize h ++ [AO.dict (some 0) []] = h1 at nd G gt e2
 have ni:=(X4 (v:=.int i) e2 (a8X _)).trans (congrArg (fun o=>some (!Option.isSome o)) (show o8 (vE K.b (byN K.R x)) (.int i) = none from a4U _ _ _ _ fun q hq=>a0M fun z=>g q (o4.mp hq).1 (o4.mp hq).2 ((w0 _ _).mp z)))
 exact ⟨h1,by exact n9 [0,0] [0,0,0,0,0,0] fun R=>R _ _ a1 _ a7 kd _ _ nd _ _ gt _ ni,G⟩
theorem T7 {v x:AV} (a1:a9 prog (n + 1) 4 [v] h = .ok (.bool false) h):Rf (n + 2) 17 [.ref o,x,v] h 3:=⟨h,by exact n9 [0,0] [0] fun R=>R _ _ a1,d9.refl _⟩
noncomputable def NoV (n:Nat) (h:Hp) (o:Nat) (x:b9) (v:AV):Prop:=∀ h',d9 h h'→Rf (n + 2) 17 [.ref o,.str x,v] h' 3
theorem S8 (s:Sh h o w r B K dd) (k:Rok w r m K) {x:b9} {i:Int} (g:b4z K x i):NoV n h o x (.int i):=fun _ G=>a5u (s.grow G) k g
theorem b3X (x:b9) (b:Bool):NoV n h o x (.bool b):=fun _ _=>T7 rfl
theorem b5n (x t:b9):NoV n h o x (.str t):=fun _ _=>T7 rfl
theorem b2t (x:b9):NoV n h o x .none:=fun _ _=>T7 rfl
section
variable (i:h[o]? = some (shI o w r)) {v a b c d:AV}
include i
theorem b1y (z:P8 v):Rf (n + 3) 34 [.ref o,v,a] h 2:=by
 obtain ⟨h',e,G⟩:=u4 (n:=n) (o:=o) (h:=h) z
 exact ⟨h',by exact n9 [0] [0] fun R=>R _ (d7 (m:=3) (f:=16) i rfl) _ e,G⟩
theorem b2s (z:P8 v):Rf (n + 3) 35 [.ref o,v,a] h 2:=by
 obtain ⟨h',e,G⟩:=u4 (n:=n) (o:=o) (h:=h) z
 exact ⟨h',by exact n9 [0] [0] fun R=>R _ (d7 (m:=3) (f:=16) i rfl) _ e,G⟩
theorem b0L (z:P8 v):Rf (n + 3) 43 [.ref o,v,a] h 2:=by
 obtain ⟨h',e,G⟩:=u4 (n:=n) (o:=o) (h:=h) z
 exact ⟨h',by exact n9 [0] [0] fun R=>R _ (d7 (m:=3) (f:=16) i rfl) _ e,G⟩
theorem a5t (z:P8 v):Rf (n + 3) 23 [.ref o,v,a,b] h 2:=by
 obtain ⟨h',e,G⟩:=u4 (n:=n) (o:=o) (h:=h) z
 exact ⟨h',by exact n9 [0] [0] fun R=>R _ (d7 (m:=3) (f:=16) i rfl) _ e,G⟩
theorem a3r (z:P8 v):Rf (n + 3) 22 [.ref o,v] h 2:=by
 obtain ⟨h',e,G⟩:=u4 (n:=n) (o:=o) (h:=h) z
 exact ⟨h',by exact n9 [0] [0] fun R=>R _ (d7 (m:=3) (f:=16) i rfl) _ e,G⟩
theorem b1p (z:P8 v):Rf (n + 3) 21 [.ref o,v,a] h 2:=by
 obtain ⟨h',e,G⟩:=u4 (n:=n) (o:=o) (h:=h) z
 exact ⟨h',by exact n9 [0] [0] fun R=>R _ (d7 (m:=3) (f:=16) i rfl) _ e,G⟩
theorem a6n (z:P8 v):Rf (n + 3) 32 [.ref o,v,a,b,c,d] h 2:=by
 obtain ⟨h',e,G⟩:=u4 (n:=n) (o:=o) (h:=h) z
 exact ⟨h',by exact n9 [0] [0] fun R=>R _ (d7 (m:=3) (f:=16) i rfl) _ e,G⟩
end
section
variable (s:Sh h o w r B K dd) {x:b9} (hx:s6 x) {v a b c d:AV}
include s hx
theorem a6S (z:NoV n h o x v):Rf (n + 3) 34 [.ref o,.str x,v] h 3:=by
 obtain ⟨xs,e1⟩:=u9 (n:=n) (o:=o) (h:=h) hx
 have G1:d9 h (h ++ xs):=d9.app _ _
 obtain ⟨h',e,G⟩:=z _ G1
 exact ⟨h',by exact n9 [1] [0,0,0] fun R=>R _ (d7 (m:=3) (f:=16) s.inst rfl) _ _ e1 _ (d7 (m:=7) (f:=17) (s.grow G1).inst rfl) _ e,G1.trans G⟩
theorem a9b (z:NoV n h o x v):Rf (n + 3) 35 [.ref o,.str x,v] h 3:=by
 obtain ⟨xs,e1⟩:=u9 (n:=n) (o:=o) (h:=h) hx
 have G1:d9 h (h ++ xs):=d9.app _ _
 obtain ⟨h',e,G⟩:=z _ G1
 exact ⟨h',by exact n9 [1] [0,0,0] fun R=>R _ (d7 (m:=3) (f:=16) s.inst rfl) _ _ e1 _ (d7 (m:=7) (f:=17) (s.grow G1).inst rfl) _ e,G1.trans G⟩
theorem a6P (z:NoV n h o x v):Rf (n + 3) 43 [.ref o,.str x,v] h 3:=by
 obtain ⟨xs,e1⟩:=u9 (n:=n) (o:=o) (h:=h) hx
 have G1:d9 h (h ++ xs):=d9.app _ _
 obtain ⟨h',e,G⟩:=z _ G1
 exact ⟨h',by exact n9 [1] [0,0,0] fun R=>R _ (d7 (m:=3) (f:=16) s.inst rfl) _ _ e1 _ (d7 (m:=7) (f:=17) (s.grow G1).inst rfl) _ e,G1.trans G⟩
theorem a1m (z:NoV n h o x v):Rf (n + 3) 23 [.ref o,.str x,v,a] h 3:=by
 obtain ⟨xs,e1⟩:=u9 (n:=n) (o:=o) (h:=h) hx
 have G1:d9 h (h ++ xs):=d9.app _ _
 obtain ⟨h',e,G⟩:=z _ G1
 exact ⟨h',by exact n9 [1] [0,0,0] fun R=>R _ (d7 (m:=3) (f:=16) s.inst rfl) _ _ e1 _ (d7 (m:=7) (f:=17) (s.grow G1).inst rfl) _ e,G1.trans G⟩
theorem X7 (z:NoV n h o x v):Rf (n + 3) 32 [.ref o,.str x,v,a,b,c] h 3:=by
 obtain ⟨xs,e1⟩:=u9 (n:=n) (o:=o) (h:=h) hx
 have G1:d9 h (h ++ xs):=d9.app _ _
 obtain ⟨h',e,G⟩:=z _ G1
 exact ⟨h',by exact n9 [1] [0,0,0] fun R=>R _ (d7 (m:=3) (f:=16) s.inst rfl) _ _ e1 _ (d7 (m:=7) (f:=17) (s.grow G1).inst rfl) _ e,G1.trans G⟩
end
theorem a3i {x:AV} {t:b9} (q:3000 < t.length):Rf (n + 1) 20 [.ref o,x,.str t] h 6:=by
 have q1:(3000:Int) < t.length:=by lia
 exact ⟨h,by exact n9 [0,0] [1] fun R=>R _ (b8G q1),d9.refl _⟩
theorem a6f {x:AV} {t:b9} (s:Sh h o w r B K dd) (k:Rok w r m K) (hm:m = 100) (q:t.length≤3000):Rf (n + 2) 20 [.ref o,x,.str t] h 7:=by
 obtain ⟨xs,e1⟩:=a1t (n:=n) s k
 have q1:¬ (3000:Int) < t.length:=by lia
 have q2:(100:Int)≤(m:Int):=by lia
 exact ⟨_,by exact n9 [1,0] [1,0,0,0] fun R=>R _ (b8v q1) _ (d7 (m:=1) (f:=19) s.inst rfl) _ _ e1 _ (b9d q2),d9.app _ _⟩
theorem a0I {x:b9} {v:AV} (s:Sh h o w r B K dd) (hx:s6 x) (z:∀ h',d9 h h'→Sy (n + 2) 6 [v] h' false):Rf (n + 4) 21 [.ref o,.str x,v] h 5:=by
 obtain ⟨xs,e1⟩:=u9 (n:=n + 1) (o:=o) (h:=h) hx
 have G1:d9 h (h ++ xs):=d9.app _ _
 obtain ⟨h',e,G⟩:=a8F (n:=n) (o:=o) (z _ G1)
 exact ⟨h',by exact n9 [1] [0,0,0] fun R=>R _ (d7 (m:=3) (f:=16) s.inst rfl) _ _ e1 _ (d7 (m:=4) (f:=18) (s.grow G1).inst rfl) _ e,G1.trans G⟩
theorem a2G {x t:b9} {c:Nat} (s:Sh h o w r B K dd) (hx:s6 x) (tg:∀ x∈t,good x) (ht:t.length≤4000) (z:∀ h',d9 h h'→Rf (n + 3) 20 [.ref o,.str x,.str t] h' c):Rf (n + 4) 21 [.ref o,.str x,.str t] h c:=by
 obtain ⟨xs,e1⟩:=u9 (n:=n + 1) (o:=o) (h:=h) hx
 have G1:d9 h (h ++ xs):=d9.app _ _
 obtain ⟨ys,e2⟩:=a1J (n:=n) (o:=o) (h:=h ++ xs) tg ht
 have G2:=G1.trans (d9.app _ ys)
 obtain ⟨h',e,G⟩:=z _ G2
 exact ⟨h',by exact n9 [2] [0,0,0,0,0] fun R=>R _ (d7 (m:=3) (f:=16) s.inst rfl) _ _ e1 _ (d7 (m:=4) (f:=18) (s.grow G1).inst rfl) _ _ e2 _ (d7 (m:=5) (f:=20) (s.grow G2).inst rfl) _ e,G2.trans G⟩
end Mine.PL
namespace Mine.PL
variable {n m:Nat} {h:Hp} {o w r B:Nat} {K:Bk} {dd:b9→Nat}
section
variable (s:Sh h o w r B K dd) (k:Rok w r m K) (r1:1≤r) {q:Rw} (hq:q∈K.R)
include s k r1 hq
theorem B4 {a b t:AV} (st:∀ h,a9 prog (n + 4) 28 [a,b,.int q.text.length] h = .ok (.bool false) h):Rf (n + 5) 32 [.ref o,.str q.name,.int q.ver,a,b,t] h 4:=by
 obtain ⟨h0,h1,m3,n1,m7,n2,G1⟩:=a1n (n:=n + 2) s k hq
 have s1:=s.grow G1
 have m8:=d7 (m:=8) (f:=33) s1.inst rfl
 obtain ⟨h2,e2,G2⟩:=N0 (n:=n) s1 k r1 hq
 have st:=st h2
 exact ⟨h2,by exact n9 [3,0] [0,0,0,0,0,0,1] fun R=>R _ m3 _ _ n1 _ m7 _ _ n2 _ m8 _ _ e2 _ _ st,G1.trans G2⟩
theorem a1h {a b:Nat} {t:AV} (hab:a≤b) (hb:b≤q.text.length) (z:∀ h',d9 h h'→Sy (n + 3) 6 [t] h' false):Rf (n + 5) 32 [.ref o,.str q.name,.int q.ver,.int a,.int b,t] h 5:=by
 obtain ⟨h0,h1,m3,n1,m7,n2,G1⟩:=a1n (n:=n + 2) s k hq
 have s1:=s.grow G1
 have m8:=d7 (m:=8) (f:=33) s1.inst rfl
 obtain ⟨h2,e2,G2⟩:=N0 (n:=n) s1 k r1 hq
 have s2:=s1.grow G2
 have st:=X3 (n:=n + 2) (h:=h2) hab hb
 have m4:=d7 (m:=4) (f:=18) s2.inst rfl
 obtain ⟨h3,e3,G3⟩:=a8F (n:=n + 1) (o:=o) (z h2 (G1.trans G2))
 exact ⟨h3,by exact n9 [4] [0,0,0,0,0,0,1,0] fun R=>R _ m3 _ _ n1 _ m7 _ _ n2 _ m8 _ _ e2 _ _ st _ m4 _ e3,(G1.trans G2).trans G3⟩
theorem a2M {a b c:Nat} {t:b9} (hab:a≤b) (hb:b≤q.text.length) (tg:∀ x∈t,good x) (ht:t.length≤4000) (z:∀ h',d9 h h'→Rf (n + 4) 20 [.ref o,.str q.name,.str (q.text.take a ++ t ++ q.text.drop b)] h' c) :
  Rf (n + 5) 32 [.ref o,.str q.name,.int q.ver,.int a,.int b,.str t] h c:=by
 obtain ⟨h0,h1,m3,n1,m7,n2,G1⟩:=a1n (n:=n + 2) s k hq
 have s1:=s.grow G1
 have m8:=d7 (m:=8) (f:=33) s1.inst rfl
 obtain ⟨h2,e2,G2⟩:=N0 (n:=n) s1 k r1 hq
 have s2:=s1.grow G2
 have st:=X3 (n:=n + 2) (h:=h2) hab hb
 have m4:=d7 (m:=4) (f:=18) s2.inst rfl
 obtain ⟨ys,e3⟩:=a1J (n:=n + 1) (o:=o) (h:=h2) tg ht
 have G3:d9 h2 (h2 ++ ys):=d9.app _ _
 generalize h2 ++ ys = h3 at e3 G3
 have s3:=s2.grow G3
 have G:=(G1.trans G2).trans G3
 have a6:=H7 s3.inst
 have g3:=a1f s3.st.inst
 have m5:=d7 (m:=5) (f:=20) s3.inst rfl
 have xl:=k.xl hq
 have li:20000≤lim:=by decide
 have l1:=R9 h3 q.text (b:=a) (by exact Nat.le_trans hab hb)
 have l2:=Y5 h3 q.text (a:=b) hb
 have t1:(q.text.take a).length≤3000:=Nat.le_trans (List.length_take_le' _ _) xl
 have t2:(q.text.drop b).length≤3000:=by rw [List.length_drop];exact Nat.le_trans (Nat.sub_le _ _) xl
 have A1:=o7 h3 (q.text.take a) t (by lia)
 have A2:=o7 h3 (q.text.take a ++ t) (q.text.drop b) (by rw [List.length_append];lia)
 obtain ⟨h4,e4,G4⟩:=z h3 G
 exact ⟨h4,by exact n9 [6] [0,0,0,0,0,0,1,0,0,0,0,0,0,0,0,0] fun R=>R _ m3 _ _ n1 _ m7 _ _ n2 _ m8 _ _ e2 _ _ st _ m4 _ _ e3 _ a6 _ g3 _ m5 _ _ l1 _ _ A1 _ _ l2 _ _ A2 _ e4,G.trans G4⟩
end
theorem R4 (i:Int):a9 prog (n + 1) 4 [.int i] h = .ok (.bool true) h:=rfl
theorem a0P {a b l:AV} (e:a9 prog (n + 1) 4 [a] h = .ok (.bool false) h):a9 prog (n + 2) 28 [a,b,l] h = .ok (.bool false) h:=by exact via [0] fun R=>R _ _ e
theorem a8d {i:Int} {b l:AV} (e:a9 prog (n + 1) 4 [b] h = .ok (.bool false) h):a9 prog (n + 2) 28 [.int i,b,l] h = .ok (.bool false) h:=by exact via [0,0] fun R=>R _ _ (R4 (n:=n) (h:=h) i) _ _ e
theorem b1n {i j:Int} {l:AV} (q:¬ (0:Int)≤i):a9 prog (n + 2) 28 [.int i,.int j,l] h = .ok (.bool false) h:=by exact via [0,0,0] fun R=>R _ _ (R4 (n:=n) (h:=h) i) _ _ (R4 (n:=n) (h:=h) j) _ (b7q q)
theorem Z4 {i j:Int} {l:AV} (q:(0:Int)≤i) (q2:¬ i≤j):a9 prog (n + 2) 28 [.int i,.int j,l] h = .ok (.bool false) h:=by exact via [0,0,0,0] fun R=>R _ _ (R4 (n:=n) (h:=h) i) _ _ (R4 (n:=n) (h:=h) j) _ (a0g q) _ (b7q q2)
theorem b1b {i j l:Int} (q:(0:Int)≤i) (q2:i≤j) (q3:¬ j≤l):a9 prog (n + 2) 28 [.int i,.int j,.int l] h = .ok (.bool false) h:=by exact via [0,0,0,0,0] fun R=>R _ _ (R4 (n:=n) (h:=h) i) _ _ (R4 (n:=n) (h:=h) j) _ (a0g q) _ (a0g q2) _ (b7q q3)
noncomputable abbrev b8F:Pr:={ prog with hd:=true }
noncomputable def b8C:List b9:=[[],[110,111,32,115,105,122,101],[110,111,32,110,97,109,101],[110,111,116,32,116,104,101,114,101],[110,111,32,112,108,97,99,101],[110,111,32,116,101,120,116],[116,111,111,32,108,111,110,103],[116,111,111,32,109,97,110,121]]
noncomputable def R3 (c:Nat):b9:=(b8C[c]?).getD []
theorem a8q {t:b9}:bmA .append (.ref h.length) [.str t] (h ++ [.list []]) = .ok .none (h ++ [.list [.str t]]):=by
 rw [D3 _ (f5 h _) (by decide)]
 exact congrArg (Out.ok AV.none) (by rw [List.set_append_right _ _ (Nat.le_refl _),Nat.sub_self];rfl)
theorem hkd {xs:List AV}:a6D .append (.ref h.length) (h ++ [.list xs]) = true:=F7 _ (f5 h _)
theorem a9c (c:Nat) (c1:1≤c) (c7:c≤7):Gv (a9 b8F (n + 1) 44 [.exc c] h) (.tup [.str (R3 c),.bool true]) h:=by
 have nl:=f8 h [] (Nat.zero_le _)
 have j:∀ t:b9,t.length≤100→bmA .join (.str []) [.ref h.length] (h ++ [.list [.str t]]) = .ok (.str t) (h ++ [.list [.str t]]):=fun t q=>by
  have:=a5N (l:=[t]) (f5 h (.list (o0 [t]))) (Nat.le_trans (by simpa using q) (by decide:100≤lim))
  rw [show [t].flatten = t from List.append_nil t] at this
  exact this
 match c,c1,c7 with
 | 1,_,_=>exact ⟨_,by exact via [0,1,0,8] fun R=>R _ _ nl hkd _ _ a8q _ _ (j _ (by decide)),d9.app _ _⟩
 | 2,_,_=>exact ⟨_,by exact via [0,2,0,7] fun R=>R _ _ nl hkd _ _ a8q _ _ (j _ (by decide)),d9.app _ _⟩
 | 3,_,_=>exact ⟨_,by exact via [0,3,0,6] fun R=>R _ _ nl hkd _ _ a8q _ _ (j _ (by decide)),d9.app _ _⟩
 | 4,_,_=>exact ⟨_,by exact via [0,4,0,5] fun R=>R _ _ nl hkd _ _ a8q _ _ (j _ (by decide)),d9.app _ _⟩
 | 5,_,_=>exact ⟨_,by exact via [0,5,0,4] fun R=>R _ _ nl hkd _ _ a8q _ _ (j _ (by decide)),d9.app _ _⟩
 | 6,_,_=>exact ⟨_,by exact via [0,6,0,3] fun R=>R _ _ nl hkd _ _ a8q _ _ (j _ (by decide)),d9.app _ _⟩
 | 7,_,_=>exact ⟨_,by exact via [0,7,0,2] fun R=>R _ _ nl hkd _ _ a8q _ _ (j _ (by decide)),d9.app _ _⟩
theorem a0K {v y z u:AV} {c:Nat} (R:Rf (n + 1) 40 [v,y,z,u] h c) (c1:1≤c) (c7:c≤7):Gv (a9 prog (n + 2) 41 [v,y,z,u] h) (.tup [.str (R3 c),.bool true]) h:=by
 obtain ⟨h1,e1,G1⟩:=R
 obtain ⟨h2,e2,G2⟩:=a9c (n:=n) (h:=h1) c c1 c7
 refine ⟨h2,?_,G1.trans G2⟩
 match c,c1,c7,e1,e2 with
 | 1,_,_,e1,e2=>exact a5a [0] [0] fun R=>R _ e1 _ _ e2
 | 2,_,_,e1,e2=>exact a5a [0] [0] fun R=>R _ e1 _ _ e2
 | 3,_,_,e1,e2=>exact a5a [0] [0] fun R=>R _ e1 _ _ e2
 | 4,_,_,e1,e2=>exact a5a [0] [0] fun R=>R _ e1 _ _ e2
 | 5,_,_,e1,e2=>exact a5a [0] [0] fun R=>R _ e1 _ _ e2
 | 6,_,_,e1,e2=>exact a5a [0] [0] fun R=>R _ e1 _ _ e2
 | 7,_,_,e1,e2=>exact a5a [0] [0] fun R=>R _ e1 _ _ e2
end Mine.PL
namespace Mine.PL
variable {n m:Nat} {h:Hp} {o w r B:Nat} {K:Bk} {dd:b9→Nat}
theorem a5k {a:Nat} {xs:List AV} {ds:List PySem.PyData} {d:PySem.PyData} {x:AV} {b:Bool} (e:h[a]? = some (.list xs)) (e3:p0 V7 xs = some ds) (e4:V7 x = some d) (e5:(ds.any fun y=>PySem.PyData.eqv y d) = b):j5 .isin x (.ref a) h = some b:=by
 show inA h x (.ref a) = _
 unfold inA
 rw [b1H e]
 show ((a4t h (.ref a)).bind (p0 V7)).bind (fun ds=>(V7 x).map fun d=>ds.any fun y=>PySem.PyData.eqv y d) = _
 rw [show a4t h (.ref a) = some xs from o9 e]
 show ((p0 V7 xs).bind fun ds=>(V7 x).map fun d=>ds.any fun y=>PySem.PyData.eqv y d) = _
 rw [e3,e4,← e5];rfl
theorem pick {l:Nat} {xs:List AV} (e:h[l]? = some (.list xs)) (z:Int) (q:0 < xs.length):∃ v∈xs,w4 (.ref l) (.int (z % (xs.length:Int))) h = some v:=by
 obtain ⟨k,hk,e2⟩:=a0l z q
 exact ⟨xs[k],List.getElem_mem hk,by rw [e2];exact g7 _ e (g9 hk) (List.getElem?_eq_getElem hk)⟩
structure Rdy (h:Hp) (o w r B m:Nat) (K:Bk) (dd:b9→Nat) (q:Rw):Prop where
 s:Sh h o w r B K dd
 k:Rok w r m K
 r1:1≤r
 hq:q∈K.R
 v1:(q.ver:Int) = 1
 g:∀ i:Int,i≤0∨101 < i→b4z K q.name i
 z60:q.text.length < 60
theorem Rdy.grow {q:Rw} (Y:Rdy h o w r B m K dd q) {h':Hp} (G:d9 h h'):Rdy h' o w r B m K dd q:={ Y with s:=Y.s.grow G }
theorem Rdy.x {q:Rw} (Y:Rdy h o w r B m K dd q):s6 q.name:=Y.k.name _ (Y.k.nm q Y.hq)
variable {q:Rw}
theorem Rdy.ver {v:AV} (Y:Rdy h o w r B m K dd q) (hv:v∈[.int 0,.int 999,.bool true,.str [49],.none,.int (-1)]):NoV n h o q.name v:=by
 simp only [List.mem_cons,List.not_mem_nil,or_false] at hv
 rcases hv with rfl|rfl|rfl|rfl|rfl|rfl
 ·exact S8 Y.s Y.k (Y.g _ (.inl (by decide)))
 ·exact S8 Y.s Y.k (Y.g _ (.inr (by decide)))
 ·exact b3X _ _
 ·exact b5n _ _
 ·exact b2t _
 ·exact S8 Y.s Y.k (Y.g _ (.inl (by decide)))
inductive b8g (h:Hp) (z:Int):Prop
 | mk (h1 h2:Hp) (v:AV) (l l2:Nat):newList [.int 34,.int 35,.int 36,.int 37] h = .ok (.ref l) h1→(∀ i∈[34,35,36,37],j5 .isin (.int i) (.ref l) h1 = some true)→newList [.str [65],.int 5,.str [],.str [97,32,98],.str (rep 13 [97])] h1 = .ok (.ref l2) h2→w4 (.ref l2) (.int (z % 5)) h2 = some v→P8 v→d9 h h2→b8g h z
theorem b4c (h:Hp) (z:Int):b8g h z:=by
 obtain ⟨v,hv,e⟩:=pick (f5 (h ++ [.list [.int 34,.int 35,.int 36,.int 37]]) (.list [.str [65],.int 5,.str [],.str [97,32,98],.str (rep 13 [97])])) z (by decide)
 refine ⟨_,_,v,_,_,f8 h _ (by decide),fun i hi=>?_,f8 _ _ (by decide),e,?_,(d9.app _ _).trans (d9.app _ _)⟩
 ·simp only [List.mem_cons,List.not_mem_nil,or_false] at hi
  rcases hi with rfl|rfl|rfl|rfl<;>exact a5k (f5 h _) rfl rfl rfl
 ·simp only [List.mem_cons,List.not_mem_nil,or_false] at hv
  rcases hv with rfl|rfl|rfl|rfl|rfl
  ·exact a5o
  ·exact a2k _
  ·exact a2x
  ·exact a8S
  ·exact a4g
theorem a7X {i:Int} (q:([.int 34,.int 35,.int 36,.int 37].any fun y=>PySem.PyData.eqv y (.int i)) = false):∃ h1 l,newList [.int 34,.int 35,.int 36,.int 37] h = .ok (.ref l) h1∧j5 .isin (.int i) (.ref l) h1 = some false∧d9 h h1 :=
 ⟨_,_,f8 h _ (by decide),a5k (f5 h _) rfl rfl q,d9.app _ _⟩
section
variable (Y:Rdy h o w r B m K dd q) (z:Int)
include Y
theorem b6Y:Rf (n + 6) 48 [.ref o,.int 34,.str q.name,.int z] h 2:=by
 obtain ⟨h1,h2,v,l,l2,e1,i1,e2,e3,bv,G⟩:=b4c h z
 have i1:=i1 34 (by decide)
 have md:=mod_int h2 z 5 (by decide)
 obtain ⟨h3,e4,G3⟩:=b1y (n:=n + 2) (a:=.int 1) (Y.s.grow G).inst bv
 exact ⟨h3,by exact n9 [0,1,0] [0,0,1,0,0,1] fun R=>R _ _ e1 _ i1 _ _ e2 _ _ md _ e3 _ (d7 (m:=12) (f:=34) (Y.s.grow G).inst rfl) _ e4,G.trans G3⟩
theorem b6Z:Rf (n + 6) 48 [.ref o,.int 35,.str q.name,.int z] h 2:=by
 obtain ⟨h1,h2,v,l,l2,e1,i1,e2,e3,bv,G⟩:=b4c h z
 have i1:=i1 35 (by decide)
 have md:=mod_int h2 z 5 (by decide)
 obtain ⟨h3,e4,G3⟩:=b2s (n:=n + 2) (a:=.int 1) (Y.s.grow G).inst bv
 exact ⟨h3,by exact n9 [0,2,0] [0,0,1,0,0,2] fun R=>R _ _ e1 _ i1 _ _ e2 _ _ md _ e3 _ (d7 (m:=13) (f:=35) (Y.s.grow G).inst rfl) _ e4,G.trans G3⟩
theorem b5T:Rf (n + 6) 48 [.ref o,.int 36,.str q.name,.int z] h 2:=by
 obtain ⟨h1,h2,v,l,l2,e1,i1,e2,e3,bv,G⟩:=b4c h z
 have i1:=i1 36 (by decide)
 have md:=mod_int h2 z 5 (by decide)
 obtain ⟨h3,e4,G3⟩:=b0L (n:=n + 2) (a:=.int 1) (Y.s.grow G).inst bv
 exact ⟨h3,by exact n9 [0,3,0] [0,0,1,0,0,3] fun R=>R _ _ e1 _ i1 _ _ e2 _ _ md _ e3 _ (d7 (m:=21) (f:=43) (Y.s.grow G).inst rfl) _ e4,G.trans G3⟩
theorem b5L:Rf (n + 6) 48 [.ref o,.int 37,.str q.name,.int z] h 2:=by
 obtain ⟨h1,h2,v,l,l2,e1,i1,e2,e3,bv,G⟩:=b4c h z
 have i1:=i1 37 (by decide)
 have md:=mod_int h2 z 5 (by decide)
 obtain ⟨h3,e4,G3⟩:=a5t (n:=n + 2) (a:=.int 1) (b:=.int 1) (Y.s.grow G).inst bv
 exact ⟨h3,by exact n9 [0,4] [0,0,1,0,0,3] fun R=>R _ _ e1 _ i1 _ _ e2 _ _ md _ e3 _ (d7 (m:=18) (f:=23) (Y.s.grow G).inst rfl) _ e4,G.trans G3⟩
theorem b5M:Rf (n + 6) 48 [.ref o,.int 38,.str q.name,.int z] h 3:=by
 obtain ⟨h1,l,e1,i1,G⟩:=a7X (h:=h) (i:=38) rfl
 obtain ⟨h3,e4,G3⟩:=a9b (n:=n + 2) (Y.s.grow G) Y.x ((Y.grow G).ver (v:=.bool true) (by simp))
 exact ⟨h3,by exact n9 [1,0] [0,0,1] fun R=>R _ _ e1 _ i1 _ (d7 (m:=13) (f:=35) (Y.s.grow G).inst rfl) _ e4,G.trans G3⟩
theorem b5R:Rf (n + 6) 48 [.ref o,.int 39,.str q.name,.int z] h 3:=by
 obtain ⟨h1,l,e1,i1,G⟩:=a7X (h:=h) (i:=39) rfl
 obtain ⟨h3,e4,G3⟩:=a6P (n:=n + 2) (Y.s.grow G) Y.x ((Y.grow G).ver (v:=.bool true) (by simp))
 exact ⟨h3,by exact n9 [2,0] [0,0,2] fun R=>R _ _ e1 _ i1 _ (d7 (m:=21) (f:=43) (Y.s.grow G).inst rfl) _ e4,G.trans G3⟩
theorem b6m:Rf (n + 6) 48 [.ref o,.int 40,.str q.name,.int z] h 3:=by
 obtain ⟨h1,l,e1,i1,G⟩:=a7X (h:=h) (i:=40) rfl
 obtain ⟨h3,e4,G3⟩:=X7 (n:=n + 2) (a:=.int 0) (b:=.int 0) (c:=.str [97]) (Y.s.grow G) Y.x ((Y.grow G).ver (v:=.bool true) (by simp))
 exact ⟨h3,by exact n9 [3,0] [0,0,3] fun R=>R _ _ e1 _ i1 _ (d7 (m:=20) (f:=32) (Y.s.grow G).inst rfl) _ e4,G.trans G3⟩
theorem b6G:Rf (n + 6) 48 [.ref o,.int 41,.str q.name,.int z] h 3:=by
 obtain ⟨h1,l,e1,i1,G⟩:=a7X (h:=h) (i:=41) rfl
 obtain ⟨h3,e4,G3⟩:=a1m (n:=n + 2) (a:=.int 1) (Y.s.grow G) Y.x ((Y.grow G).ver (v:=.bool true) (by simp))
 exact ⟨h3,by exact n9 [4,0] [0,0,4] fun R=>R _ _ e1 _ i1 _ (d7 (m:=18) (f:=23) (Y.s.grow G).inst rfl) _ e4,G.trans G3⟩
theorem b6c (v:NoV (n + 2) h o q.name (.int z)):Rf (n + 6) 48 [.ref o,.int 42,.str q.name,.int z] h 3:=by
 obtain ⟨h1,l,e1,i1,G⟩:=a7X (h:=h) (i:=42) rfl
 obtain ⟨h3,e4,G3⟩:=X7 (n:=n + 2) (a:=.int 0) (b:=.int 0) (c:=.str [97]) (Y.s.grow G) Y.x fun h' G'=>v h' (G.trans G')
 exact ⟨h3,by exact n9 [5] [0,0,4] fun R=>R _ _ e1 _ i1 _ (d7 (m:=20) (f:=32) (Y.s.grow G).inst rfl) _ e4,G.trans G3⟩
theorem a9L (hm:m = 100):Rf (n + 6) 48 [.ref o,.int 42,.str q.name,.int 1] h 7:=by
 obtain ⟨h1,l,e1,i1,G⟩:=a7X (h:=h) (i:=42) rfl
 have Y1:=Y.grow G
 have tl:=Y.z60
 obtain ⟨h3,e4,G3⟩:=a2M (n:=n) (a:=0) (b:=0) (c:=7) (t:=[97]) Y1.s Y1.k Y1.r1 Y1.hq (Nat.le_refl _) (Nat.zero_le _) (fun x hx=>by rw [List.mem_singleton.mp hx];exact .inr (by decide)) (by decide) fun h' G'=>a6f (n:=n + 2) (Y1.s.grow G') Y1.k hm (by simp;lia)
 rw [Y.v1] at e4
 exact ⟨h3,by exact n9 [5] [0,0,4] fun R=>R _ _ e1 _ i1 _ (d7 (m:=20) (f:=32) (Y.s.grow G).inst rfl) _ e4,G.trans G3⟩
end
end Mine.PL
namespace Mine.PL
variable {n m:Nat} {h:Hp} {o w r B:Nat} {K:Bk} {dd:b9→Nat} {q:Rw}
theorem y0 {v y z:AV} {i:Int} {c:Nat} (gt:(33:Int) < i) (Z:Rf (n + 6) 48 [v,.int i,y,z] h c):Rf (n + 7) 49 [v,.int i,y,z] h c:=by
 obtain ⟨h1,e1,G1⟩:=Z
 exact ⟨h1,by exact n9 [0,0] [0] fun R=>R _ (b8G gt) _ e1,G1⟩
noncomputable def b4X (v:AV):Prop:=∀ (n:Nat) (h:Hp),Sy (n + 2) 6 [v] h false
theorem a7m (i:Int):b4X (.int i):=fun _ h=>⟨h,rfl,d9.refl _⟩
theorem a4D:b4X .none:=fun _ h=>⟨h,rfl,d9.refl _⟩
theorem a4p:b4X (.bool true):=fun _ h=>⟨h,rfl,d9.refl _⟩
theorem P6 (k c:Nat):(rep k [c]).length = k:=(z8 k [c]).trans (Nat.mul_one k)
theorem a5x {v:AV} (Y:Rdy h o w r B m K dd q) (z:NoV n h o q.name v):Rf (n + 3) 23 [.ref o,.str q.name,.int 1,v] h 3:=by
 obtain ⟨h0,h1,m3,n1,m7,n2,G1⟩:=a1n (n:=n) Y.s Y.k Y.hq
 rw [Y.v1] at n2
 obtain ⟨h',e,G⟩:=z _ G1
 have m7':=d7 (m:=7) (f:=17) (Y.s.grow G1).inst rfl
 exact ⟨h',by exact n9 [2] [0,0,0,0,0] fun R=>R _ m3 _ _ n1 _ m7 _ _ n2 _ m7' _ e,G1.trans G⟩
section
variable (Y:Rdy h o w r B m K dd q)
include Y
theorem b8z:Rf (n + 7) 49 [.ref o,.int 21,.str q.name,.int q.text.length] h 4:=by
 obtain ⟨h3,e4,G3⟩:=B4 (n:=n + 1) (t:=.str [97]) Y.s Y.k Y.r1 Y.hq fun h=>b1n (n:=n + 3) (i:=-1) (j:=0) (by decide)
 rw [Y.v1] at e4
 exact ⟨h3,by exact n9 [1,0] [2] fun R=>R _ (d7 (m:=20) (f:=32) Y.s.inst rfl) _ e4,G3⟩
theorem b8O:Rf (n + 7) 49 [.ref o,.int 22,.str q.name,.int q.text.length] h 4:=by
 obtain ⟨k,hk,ek⟩:=a0l (q.text.length:Int) (m:=4) (by decide)
 have nl:=f8 h [.bool true,.str [48],.none,.int 0] (by decide)
 have g1:=f5 h (.list [.bool true,.str [48],.none,.int 0])
 have G:d9 h (h ++ [.list [.bool true,.str [48],.none,.int 0]]):=d9.app _ _
 generalize h ++ [AO.list [.bool true,.str [48],.none,.int 0]] = h1 at nl g1 G
 have nl2:=f8 h1 [.int q.text.length,.int q.text.length,.int q.text.length,.bool true] (Nat.le_trans (by simp:_≤4) (by decide))
 have g2:=f5 h1 (.list [.int q.text.length,.int q.text.length,.int q.text.length,.bool true])
 have G2:d9 h1 (h1 ++ [.list [.int q.text.length,.int q.text.length,.int q.text.length,.bool true]]):=d9.app _ _
 generalize h1 ++ [AO.list [.int q.text.length,.int q.text.length,.int q.text.length,.bool true]] = h2 at nl2 g2 G2
 have md:=a3g (h:=h1) ek (by decide)
 have md2:=a3g (h:=h2) ek (by decide)
 have key:∃ v u,w4 (.ref h.length) (.int k) h1 = some v∧w4 (.ref h1.length) (.int k) h2 = some u∧∀ h,a9 prog (n + 5) 28 [v,u,.int q.text.length] h = .ok (.bool false) h:=by
  match k,hk with
  | 0,_=>exact ⟨_,_,g7 _ g1 (g9 (k:=0) (by decide)) rfl,g7 _ g2 (g9 (k:=0) (by simp)) rfl,fun _=>a0P rfl⟩
  | 1,_=>exact ⟨_,_,g7 _ g1 (g9 (k:=1) (by decide)) rfl,g7 _ g2 (g9 (k:=1) (by simp)) rfl,fun _=>a0P rfl⟩
  | 2,_=>exact ⟨_,_,g7 _ g1 (g9 (k:=2) (by decide)) rfl,g7 _ g2 (g9 (k:=2) (by simp)) rfl,fun _=>a0P rfl⟩
  | 3,_=>exact ⟨_,_,g7 _ g1 (g9 (k:=3) (by decide)) rfl,g7 _ g2 (g9 (k:=3) (by simp)) rfl,fun _=>a8d rfl⟩
 obtain ⟨v,u,e1,e2,st⟩:=key
 have Y2:=Y.grow (G.trans G2)
 have m20:=d7 (m:=20) (f:=32) (Y.s.grow G).inst rfl
 obtain ⟨h3,e4,G3⟩:=B4 (n:=n + 1) (t:=.str [97]) Y2.s Y.k Y.r1 Y.hq st
 rw [Y.v1] at e4
 exact ⟨h3,by exact n9 [2,1] [3,0,0,0,0,0,0] fun R=>R _ _ nl _ _ md _ e1 _ m20 _ _ nl2 _ _ md2 _ e2 _ e4,(G.trans G2).trans G3⟩
theorem b7S:Rf (n + 7) 49 [.ref o,.int 23,.str q.name,.int q.text.length] h 5:=by
 have mu:=K8 h [98] 3000 (by decide) (by decide) (by decide)
 have ad:=o7 h [97,9] (rep (3000:Int).toNat [98]) (by rw [P6];decide)
 have rm:∀ c∈rep (3000:Int).toNat [98],c = 98:=fun c hc=>List.mem_singleton.mp (L5 hc)
 have rl:=P6 (3000:Int).toNat 98
 generalize rep (3000:Int).toNat [98] = u at mu ad rm rl
 have rl:u.length = 3000:=rl
 obtain ⟨h3,e4,G3⟩:=a1h (n:=n + 1) (a:=0) (b:=0) (t:=.str ([97,9] ++ u)) Y.s Y.k Y.r1 Y.hq (Nat.le_refl _) (Nat.zero_le _) fun h' _=>a2I (n:=n + 2) (fun c hc=>by
  rcases List.mem_append.mp hc with hc|hc
  ·simp only [List.mem_cons,List.not_mem_nil,or_false] at hc
   rcases hc with rfl|rfl
   ·exact .inl (.inr (by decide))
   ·exact .inr rfl
  ·rw [rm c hc];exact .inl (.inr (by decide))) (by simp) (by rw [List.length_append,rl];decide)
 rw [Y.v1] at e4
 exact ⟨h3,by exact n9 [3,0] [4,0,0] fun R=>R _ (d7 (m:=20) (f:=32) Y.s.inst rfl) _ _ mu _ _ ad _ e4,G3⟩
theorem b8U:Rf (n + 7) 49 [.ref o,.int 24,.str q.name,.int q.text.length] h 3:=by
 obtain ⟨h3,e4,G3⟩:=X7 (n:=n + 3) (a:=.int 5) (b:=.int 4) (c:=.str [97]) Y.s Y.x (Y.ver (v:=.int 999) (by simp))
 exact ⟨h3,by exact n9 [4,0] [5] fun R=>R _ (d7 (m:=20) (f:=32) Y.s.inst rfl) _ e4,G3⟩
theorem b8b:Rf (n + 7) 49 [.ref o,.int 25,.str q.name,.int q.text.length] h 2:=by
 obtain ⟨h3,e4,G3⟩:=a6n (n:=n + 3) (a:=.int 999) (b:=.int 0) (c:=.int 0) (d:=.str [97]) Y.s.inst a5o
 exact ⟨h3,by exact n9 [5,0] [6] fun R=>R _ (d7 (m:=20) (f:=32) Y.s.inst rfl) _ e4,G3⟩
theorem b7J:Rf (n + 7) 49 [.ref o,.int 27,.str q.name,.int q.text.length] h 3:=by
 obtain ⟨h3,e4,G3⟩:=a9b (n:=n + 3) Y.s Y.x (Y.ver (v:=.int 999) (by simp))
 exact ⟨h3,by exact n9 [7,0] [8] fun R=>R _ (d7 (m:=13) (f:=35) Y.s.inst rfl) _ e4,G3⟩
theorem b7X {z:Int} (v:NoV (n + 3) h o q.name (.int z)):Rf (n + 7) 49 [.ref o,.int 33,.str q.name,.int z] h 3:=by
 obtain ⟨h3,e4,G3⟩:=a6S (n:=n + 3) Y.s Y.x v
 exact ⟨h3,by exact n9 [9,0] [10] fun R=>R _ (d7 (m:=12) (f:=34) Y.s.inst rfl) _ e4,G3⟩
theorem b8K:Rf (n + 7) 49 [.ref o,.int 31,.str q.name,.int q.text.length] h 4:=by
 have mx:biA .max [.int 1,.int q.text.length] h = .ok (.int (if (1:Int) < q.text.length then q.text.length else 1)) h:=rfl
 have p1:(1:Int)≤if (1:Int) < q.text.length then (q.text.length:Int) else 1:=by split<;>lia
 generalize (if (1:Int) < q.text.length then (q.text.length:Int) else 1) = j at mx p1
 obtain ⟨h3,e4,G3⟩:=B4 (n:=n + 1) (t:=.str [97]) Y.s Y.k Y.r1 Y.hq fun h=>Z4 (n:=n + 3) (i:=j) (j:=0) (by lia) (by lia)
 rw [Y.v1] at e4
 exact ⟨h3,by exact n9 [10,0] [11,0] fun R=>R _ (d7 (m:=20) (f:=32) Y.s.inst rfl) _ _ mx _ e4,G3⟩
theorem b7U:Rf (n + 7) 49 [.ref o,.int 26,.str q.name,.int q.text.length] h 3:=by
 obtain ⟨v,hv,e⟩:=pick (f5 h (.list [.int 0,.int 999,.bool true,.str [49],.none])) (q.text.length:Int) (by decide)
 have nl:=f8 h [.int 0,.int 999,.bool true,.str [49],.none] (by decide)
 have G:d9 h (h ++ [.list [.int 0,.int 999,.bool true,.str [49],.none]]):=d9.app _ _
 generalize h ++ [AO.list [.int 0,.int 999,.bool true,.str [49],.none]] = h1 at nl e G
 have md:=mod_int h1 (q.text.length:Int) 5 (by decide)
 have Y1:=Y.grow G
 obtain ⟨h3,e4,G3⟩:=a6S (n:=n + 3) Y1.s Y.x (Y1.ver (v:=v) (by
  simp only [List.mem_cons,List.not_mem_nil,or_false] at hv ⊢
  rcases hv with z|z|z|z|z<;>simp [z]))
 exact ⟨h3,by exact n9 [6,0] [7,0,0,0] fun R=>R _ (d7 (m:=12) (f:=34) Y.s.inst rfl) _ _ nl _ _ md _ e _ e4,G.trans G3⟩
theorem b7H:Rf (n + 7) 49 [.ref o,.int 28,.str q.name,.int q.text.length] h 3:=by
 obtain ⟨v,hv,e⟩:=pick (f5 h (.list [.int 0,.int 999,.int (-1)])) (q.text.length:Int) (by decide)
 have nl:=f8 h [.int 0,.int 999,.int (-1)] (by decide)
 have G:d9 h (h ++ [.list [.int 0,.int 999,.int (-1)]]):=d9.app _ _
 generalize h ++ [AO.list [.int 0,.int 999,.int (-1)]] = h1 at nl e G
 have md:=mod_int h1 (q.text.length:Int) 3 (by decide)
 have Y1:=Y.grow G
 obtain ⟨h3,e4,G3⟩:=a6P (n:=n + 3) Y1.s Y.x (Y1.ver (v:=v) (by
  simp only [List.mem_cons,List.not_mem_nil,or_false] at hv ⊢
  rcases hv with z|z|z<;>simp [z]))
 exact ⟨h3,by exact n9 [8,0] [9,0,0,0] fun R=>R _ (d7 (m:=21) (f:=43) Y.s.inst rfl) _ _ nl _ _ md _ e _ e4,G.trans G3⟩
theorem b8t:Rf (n + 7) 49 [.ref o,.int 32,.str q.name,.int q.text.length] h 5:=by
 obtain ⟨v,hv,e⟩:=pick (f5 h (.list [.int 5,.none,.bool true])) (q.text.length:Int) (by decide)
 have nl:=f8 h [.int 5,.none,.bool true] (by decide)
 have G:d9 h (h ++ [.list [.int 5,.none,.bool true]]):=d9.app _ _
 generalize h ++ [AO.list [.int 5,.none,.bool true]] = h1 at nl e G
 have md:=mod_int h1 (q.text.length:Int) 3 (by decide)
 have Y1:=Y.grow G
 have bt:b4X v:=by
  simp only [List.mem_cons,List.not_mem_nil,or_false] at hv
  rcases hv with rfl|rfl|rfl
  ·exact a7m _
  ·exact a4D
  ·exact a4p
 obtain ⟨h3,e4,G3⟩:=a1h (n:=n + 1) (a:=0) (b:=0) (t:=v) Y1.s Y.k Y.r1 Y.hq (Nat.le_refl _) (Nat.zero_le _) fun h' _=>bt (n + 2) h'
 rw [Y.v1] at e4
 exact ⟨h3,by exact n9 [11,0] [12,0,0,0] fun R=>R _ (d7 (m:=20) (f:=32) Y.s.inst rfl) _ _ nl _ _ md _ e _ e4,G.trans G3⟩
theorem b7P:Rf (n + 7) 49 [.ref o,.int 30,.str q.name,.int q.text.length] h 2:=by
 obtain ⟨v,hv,e⟩:=pick (f5 h (.list [.str [],.str [65],.int 7])) (q.text.length:Int) (by decide)
 have nl:=f8 h [.str [],.str [65],.int 7] (by decide)
 have G:d9 h (h ++ [.list [.str [],.str [65],.int 7]]):=d9.app _ _
 generalize h ++ [AO.list [.str [],.str [65],.int 7]] = h1 at nl e G
 have md:=mod_int h1 (q.text.length:Int) 3 (by decide)
 have bn:P8 v:=by
  simp only [List.mem_cons,List.not_mem_nil,or_false] at hv
  rcases hv with rfl|rfl|rfl
  ·exact a2x
  ·exact a5o
  ·exact a2k _
 obtain ⟨h3,e4,G3⟩:=a3r (n:=n + 3) (Y.s.grow G).inst bn
 exact ⟨h3,by exact n9 [13] [13,0,0,0] fun R=>R _ (d7 (m:=17) (f:=22) Y.s.inst rfl) _ _ nl _ _ md _ e _ e4,G.trans G3⟩
end
end Mine.PL
namespace Mine.PL
variable {n m:Nat} {h:Hp} {o w r B:Nat} {K:Bk} {dd:b9→Nat} {q:Rw}
theorem b8c (Y:Rdy h o w r B m K dd q):Rf (n + 7) 49 [.ref o,.int 29,.str q.name,.int q.text.length] h 3:=by
 obtain ⟨k,hk,ek⟩:=a0l (q.text.length:Int) (m:=2) (by decide)
 have nl:=f8 h [.int 1,.int 999] (by decide)
 have g1:=f5 h (.list [.int 1,.int 999])
 have G:d9 h (h ++ [.list [.int 1,.int 999]]):=d9.app _ _
 generalize h ++ [AO.list [.int 1,.int 999]] = h1 at nl g1 G
 have nl2:=f8 h1 [.int 999,.int 1] (by decide)
 have g2:=f5 h1 (.list [.int 999,.int 1])
 have G2:d9 h1 (h1 ++ [.list [.int 999,.int 1]]):=d9.app _ _
 generalize h1 ++ [AO.list [.int 999,.int 1]] = h2 at nl2 g2 G2
 have md:=a3g (h:=h1) ek (by decide)
 have md2:=a3g (h:=h2) ek (by decide)
 have Y2:=Y.grow (G.trans G2)
 have key:∃ v u,w4 (.ref h.length) (.int k) h1 = some v∧w4 (.ref h1.length) (.int k) h2 = some u∧Rf (n + 6) 23 [.ref o,.str q.name,v,u] h2 3:=by
  match k,hk with
  | 0,_=>exact ⟨_,_,g7 _ g1 (g9 (k:=0) (by decide)) rfl,g7 _ g2 (g9 (k:=0) (by decide)) rfl,a5x (n:=n + 3) Y2 (Y2.ver (by simp))⟩
  | 1,_=>exact ⟨_,_,g7 _ g1 (g9 (k:=1) (by decide)) rfl,g7 _ g2 (g9 (k:=1) (by decide)) rfl,a1m (n:=n + 3) Y2.s Y.x (Y2.ver (by simp))⟩
 obtain ⟨v,u,e1,e2,h3,e4,G3⟩:=key
 exact ⟨h3,by exact n9 [12,0] [13,0,0,0,0,0,0] fun R=>R _ (d7 (m:=18) (f:=23) Y.s.inst rfl) _ _ nl _ _ md _ e1 _ _ nl2 _ _ md2 _ e2 _ e4,(G.trans G2).trans G3⟩
theorem j0 {v y z:AV} {i:Int} {c:Nat} (gt:(20:Int) < i) (Z:Rf (n + 7) 49 [v,.int i,y,z] h c):Rf (n + 8) 40 [v,.int i,y,z] h c:=by
 obtain ⟨h1,e1,G1⟩:=Z
 have a1:¬ i < 6:=by lia
 have a2:¬ i < 14:=by lia
 have b1:¬ i = 14:=by lia
 have b2:¬ i = 15:=by lia
 have b3:¬ i = 16:=by lia
 have b4:¬ i = 17:=by lia
 have b5:¬ i = 18:=by lia
 have b6:¬ i = 19:=by lia
 have b7:¬ i = 20:=by lia
 exact ⟨h1,by exact n9 [9] [0,0,0,0,0,0,0,0,0] fun R=>R _ (V9 a1) _ (V9 a2) _ (a0Q b1) _ (a0Q b2) _ (a0Q b3) _ (a0Q b4) _ (a0Q b5) _ (a0Q b6) _ (a0Q b7) _ e1,G1⟩
theorem b4q {v a b:AV} (e:a9 prog (n + 2) 8 [a,b] h = .ok (.bool false) h):callX prog (n + 3) 15 [v,a,b] h = some (1,h):=by exact n9 [0,0] [0] fun R=>R _ _ e
theorem b0q {a b:AV} (e:a9 prog (n + 1) 4 [a] h = .ok (.bool false) h):a9 prog (n + 2) 8 [a,b] h = .ok (.bool false) h:=by exact via [0] fun R=>R _ _ e
theorem a7H {i:Int} {b:AV} (e:a9 prog (n + 1) 4 [b] h = .ok (.bool false) h):a9 prog (n + 2) 8 [.int i,b] h = .ok (.bool false) h:=by exact via [0,0] fun R=>R _ _ (R4 (n:=n) (h:=h) i) _ _ e
section
variable (Y:Rdy h o w r B m K dd q)
include Y
theorem b0y {i:Nat} (hi:i < 6):Rf (n + 8) 40 [.ref o,.int i,.str q.name,.int q.text.length] h 1:=by
 obtain ⟨v,hv,e⟩:=pick (f5 h (.list [.bool true,.str [49],.none])) ((q.text.length:Int) / 2) (by decide)
 have nl:=f8 h [.bool true,.str [49],.none] (by decide)
 have G:d9 h (h ++ [.list [.bool true,.str [49],.none]]):=d9.app _ _
 generalize h ++ [AO.list [.bool true,.str [49],.none]] = h1 at nl e G
 have dv:=a4Y h1 (q.text.length:Int) 2 (by decide) (by decide)
 have md:=mod_int h1 ((q.text.length:Int) / 2) 3 (by decide)
 have nv:∀ (n:Nat) (h:Hp),a9 prog (n + 1) 4 [v] h = .ok (.bool false) h:=fun n h=>by
  simp only [List.mem_cons,List.not_mem_nil,or_false] at hv
  rcases hv with rfl|rfl|rfl<;>rfl
 have nl2:=f8 h1 [.tup [.int 0,.int 1],.tup [.int 9,.int 1],.tup [.int 1,.int 0],.tup [.int 1,.int 41],.tup [v,.int 1],.tup [.int 1,v]] (Nat.le_trans (by simp:_≤6) (by decide))
 have g2:=f5 h1 (.list [.tup [.int 0,.int 1],.tup [.int 9,.int 1],.tup [.int 1,.int 0],.tup [.int 1,.int 41],.tup [v,.int 1],.tup [.int 1,v]])
 have G2:d9 h1 (h1 ++ [.list [.tup [.int 0,.int 1],.tup [.int 9,.int 1],.tup [.int 1,.int 0],.tup [.int 1,.int 41],.tup [v,.int 1],.tup [.int 1,v]]]):=d9.app _ _
 generalize h1 ++ [AO.list [.tup [.int 0,.int 1],.tup [.int 9,.int 1],.tup [.int 1,.int 0],.tup [.int 1,.int 41],.tup [v,.int 1],.tup [.int 1,v]]] = h2 at nl2 g2 G2
 have key:∃ a b,w4 (.ref h1.length) (.int i) h2 = some (.tup [a,b])∧∀ h,a9 prog (n + 6) 8 [a,b] h = .ok (.bool false) h:=by
  match i,hi with
  | 0,_=>exact ⟨_,_,g7 _ g2 (g9 (k:=0) (by simp)) rfl,fun h=>rfl⟩
  | 1,_=>exact ⟨_,_,g7 _ g2 (g9 (k:=1) (by simp)) rfl,fun h=>rfl⟩
  | 2,_=>exact ⟨_,_,g7 _ g2 (g9 (k:=2) (by simp)) rfl,fun h=>rfl⟩
  | 3,_=>exact ⟨_,_,g7 _ g2 (g9 (k:=3) (by simp)) rfl,fun h=>rfl⟩
  | 4,_=>exact ⟨_,_,g7 _ g2 (g9 (k:=4) (by simp)) rfl,fun h=>b0q (nv _ _)⟩
  | 5,_=>exact ⟨_,_,g7 _ g2 (g9 (k:=5) (by simp)) rfl,fun h=>a7H (nv _ _)⟩
 obtain ⟨a,b,e2,az⟩:=key
 have a1:(i:Int) < 6:=by lia
 have iz:=b4q (n:=n + 4) (v:=.ref h2.length) (az (h2 ++ [.inst 1 (List.replicate prog.attrs.length none)]))
 exact ⟨_,by exact n9 [0,2] [0,0,0,0,0,0,0,1] fun R=>R _ (b0k a1) _ _ nl _ _ dv _ _ md _ e _ _ nl2 _ e2 _ e2 _ iz,(G.trans G2).trans (d9.app _ _)⟩
theorem b1c {i:Nat} (hi:i < 8):Rf (n + 8) 40 [.ref o,.int ((6 + i:Nat):Int),.str q.name,.int q.text.length] h 2:=by
 have nl:=f8 h [.str [],.str [65],.str (rep 13 [97]),.str [97,32,98],.str [97,49],.int 5,.none,.str [97,10]] (by decide)
 have g1:=f5 h (.list [.str [],.str [65],.str (rep 13 [97]),.str [97,32,98],.str [97,49],.int 5,.none,.str [97,10]])
 have G:d9 h (h ++ [.list [.str [],.str [65],.str (rep 13 [97]),.str [97,32,98],.str [97,49],.int 5,.none,.str [97,10]]]):=d9.app _ _
 generalize h ++ [AO.list [.str [],.str [65],.str (rep 13 [97]),.str [97,32,98],.str [97,49],.int 5,.none,.str [97,10]]] = h1 at nl g1 G
 obtain ⟨u,hu,e⟩:=pick (f5 h1 (.list [.int 5,.str [103,111,111,100]])) ((6 + i:Nat):Int) (by decide)
 have nl2:=f8 h1 [.int 5,.str [103,111,111,100]] (by decide)
 have G2:d9 h1 (h1 ++ [.list [.int 5,.str [103,111,111,100]]]):=d9.app _ _
 generalize h1 ++ [AO.list [.int 5,.str [103,111,111,100]]] = h2 at nl2 e G2
 have md:=mod_int h2 ((6 + i:Nat):Int) 2 (by decide)
 have key:∃ v,w4 (.ref h.length) (.int i) h1 = some v∧P8 v:=by
  match i,hi with
  | 0,_=>exact ⟨_,g7 _ g1 (g9 (k:=0) (by decide)) rfl,a2x⟩
  | 1,_=>exact ⟨_,g7 _ g1 (g9 (k:=1) (by decide)) rfl,a5o⟩
  | 2,_=>exact ⟨_,g7 _ g1 (g9 (k:=2) (by decide)) rfl,a4g⟩
  | 3,_=>exact ⟨_,g7 _ g1 (g9 (k:=3) (by decide)) rfl,a8S⟩
  | 4,_=>exact ⟨_,g7 _ g1 (g9 (k:=4) (by decide)) rfl,b4N⟩
  | 5,_=>exact ⟨_,g7 _ g1 (g9 (k:=5) (by decide)) rfl,a2k _⟩
  | 6,_=>exact ⟨_,g7 _ g1 (g9 (k:=6) (by decide)) rfl,b0j⟩
  | 7,_=>exact ⟨_,g7 _ g1 (g9 (k:=7) (by decide)) rfl,b5m⟩
 obtain ⟨v,e2,bv⟩:=key
 have a1:¬ ((6 + i:Nat):Int) < 6:=by lia
 have a2:((6 + i:Nat):Int) < 14:=by lia
 have sb:=Y4 (h:=h1) (show ((6 + i:Nat):Int) - 6 = (i:Int) by lia)
 obtain ⟨h3,e4,G3⟩:=b1p (n:=n + 4) (a:=u) (Y.s.grow (G.trans G2)).inst bv
 have m11:=d7 (m:=11) (f:=21) (Y.s.grow G).inst rfl
 exact ⟨h3,by exact n9 [1,1] [0,0,1,0,0,0,0,0,0] fun R=>R _ (V9 a1) _ (b0k a2) _ _ nl _ m11 _ _ sb _ e2 _ _ nl2 _ _ md _ e _ e4,(G.trans G2).trans G3⟩
theorem b5N:Rf (n + 8) 40 [.ref o,.int 14,.str q.name,.int q.text.length] h 5:=by
 obtain ⟨h3,e4,G3⟩:=a0I (n:=n + 3) (v:=.str [97,9,98]) Y.s Y.x fun h' _=>a2I (n:=n + 3) (fun c hc=>by
  simp only [List.mem_cons,List.not_mem_nil,or_false] at hc
  rcases hc with rfl|rfl|rfl
  ·exact .inl (.inr (by decide))
  ·exact .inr rfl
  ·exact .inl (.inr (by decide))) (by decide) (by decide)
 exact ⟨h3,by exact n9 [2,0] [3] fun R=>R _ (d7 (m:=11) (f:=21) Y.s.inst rfl) _ e4,G3⟩
theorem b7e:Rf (n + 8) 40 [.ref o,.int 15,.str q.name,.int q.text.length] h 5:=by
 have nl:=f8 h [.str [97]] (by decide)
 have g1:=f5 h (.list [.str [97]])
 have G:d9 h (h ++ [.list [.str [97]]]):=d9.app _ _
 generalize h ++ [AO.list [.str [97]]] = h1 at nl g1 G
 obtain ⟨v,hv,e⟩:=pick (f5 h1 (.list [.int 5,.none,.bool true,.ref h.length])) (q.text.length:Int) (by simp)
 have nl2:=f8 h1 [.int 5,.none,.bool true,.ref h.length] (Nat.le_trans (by simp:_≤4) (by decide))
 have G2:d9 h1 (h1 ++ [.list [.int 5,.none,.bool true,.ref h.length]]):=d9.app _ _
 generalize h1 ++ [AO.list [.int 5,.none,.bool true,.ref h.length]] = h2 at nl2 e G2
 have md:=mod_int h2 (q.text.length:Int) 4 (by decide)
 have bt:∀ h',d9 h2 h'→Sy (n + 5) 6 [v] h' false:=fun h' G'=>by
  simp only [List.mem_cons,List.not_mem_nil,or_false] at hv
  rcases hv with rfl|rfl|rfl|rfl
  ·exact a7m _ _ _
  ·exact a4D _ _
  ·exact a4p _ _
  ·have il:=N3 (G'.get (G2.get g1)) .str
   exact ⟨h',by exact via [0] fun R=>R _ il,d9.refl _⟩
 obtain ⟨h3,e4,G3⟩:=a0I (n:=n + 3) (Y.s.grow (G.trans G2)) Y.x bt
 exact ⟨h3,by exact n9 [3,0] [4,0,0,0,0] fun R=>R _ (d7 (m:=11) (f:=21) Y.s.inst rfl) _ _ nl _ _ nl2 _ _ md _ e _ e4,(G.trans G2).trans G3⟩
theorem b6r:Rf (n + 8) 40 [.ref o,.int 16,.str q.name,.int q.text.length] h 6:=by
 have mu:=K8 h [97] 3001 (by decide) (by decide) (by decide)
 have rm:∀ c∈rep (3001:Int).toNat [97],c = 97:=fun c hc=>List.mem_singleton.mp (L5 hc)
 have rl:=P6 (3001:Int).toNat 97
 generalize rep (3001:Int).toNat [97] = u at mu rm rl
 have rl:u.length = 3001:=rl
 obtain ⟨h3,e4,G3⟩:=a2G (n:=n + 3) (t:=u) (c:=6) Y.s Y.x (fun c hc=>by rw [rm c hc];exact .inr (by decide)) (by rw [rl];decide) fun h' _=>a3i (by rw [rl];decide)
 exact ⟨h3,by exact n9 [4,0] [5,0] fun R=>R _ (d7 (m:=11) (f:=21) Y.s.inst rfl) _ _ mu _ e4,G3⟩
theorem b7o:Rf (n + 8) 40 [.ref o,.int 17,.str q.name,.int q.text.length] h 5:=by
 have mu:=K8 h [9] 3001 (by decide) (by decide) (by decide)
 have rm:∀ c∈rep (3001:Int).toNat [9],c = 9:=fun c hc=>List.mem_singleton.mp (L5 hc)
 have rl:=P6 (3001:Int).toNat 9
 generalize rep (3001:Int).toNat [9] = u at mu rm rl
 have rl:u.length = 3001:=rl
 obtain ⟨h3,e4,G3⟩:=a0I (n:=n + 3) (v:=.str u) Y.s Y.x fun h' _=>a2I (n:=n + 3) (fun c hc=>.inr (rm c hc)) (by
  match u,rl,rm with
  | c :: u,_,rm=>rw [rm c List.mem_cons_self];exact List.mem_cons_self) (by rw [rl];decide)
 exact ⟨h3,by exact n9 [5,0] [6,0] fun R=>R _ (d7 (m:=11) (f:=21) Y.s.inst rfl) _ _ mu _ e4,G3⟩
theorem b7k:Rf (n + 8) 40 [.ref o,.int 18,.str q.name,.int q.text.length] h 6:=by
 have z:=Y.z60
 have li:3001≤lim:=by decide
 have sb:=Y4 (h:=h) (show (3001:Int) - (q.text.length:Int) = ((3001 - q.text.length:Nat):Int) by lia)
 have mu:=K8 h [97] ((3001 - q.text.length:Nat):Int) (by lia) (by lia) (by rw [Int.toNat_natCast];show 1 * _≤_;lia)
 rw [Int.toNat_natCast] at mu
 have rm:∀ c∈rep (3001 - q.text.length) [97],c = 97:=fun c hc=>List.mem_singleton.mp (L5 hc)
 have rl:=P6 (3001 - q.text.length) 97
 generalize rep (3001 - q.text.length) [97] = u at mu rm rl
 obtain ⟨h3,e4,G3⟩:=a2M (n:=n + 2) (a:=q.text.length) (b:=q.text.length) (c:=6) (t:=u) Y.s Y.k Y.r1 Y.hq (Nat.le_refl _) (Nat.le_refl _) (fun c hc=>by rw [rm c hc];exact .inr (by decide)) (by lia) fun h' _=>a3i (by
  rw [List.length_append,List.length_append,List.take_length,rl];lia)
 rw [Y.v1] at e4
 exact ⟨h3,by exact n9 [6,0] [7,0,0] fun R=>R _ (d7 (m:=20) (f:=32) Y.s.inst rfl) _ _ sb _ _ mu _ e4,G3⟩
theorem b6d:Rf (n + 8) 40 [.ref o,.int 19,.str q.name,.int q.text.length] h 4:=by
 obtain ⟨h3,e4,G3⟩:=B4 (n:=n + 2) (t:=.str [97,9,98]) Y.s Y.k Y.r1 Y.hq fun h=>Z4 (n:=n + 4) (i:=(q.text.length:Int) + 1) (j:=(q.text.length:Int)) (by lia) (by lia)
 rw [Y.v1] at e4
 exact ⟨h3,by exact n9 [7,0] [8] fun R=>R _ (d7 (m:=20) (f:=32) Y.s.inst rfl) _ e4,G3⟩
theorem b7w:Rf (n + 8) 40 [.ref o,.int 20,.str q.name,.int q.text.length] h 4:=by
 obtain ⟨h3,e4,G3⟩:=B4 (n:=n + 2) (t:=.str [97]) Y.s Y.k Y.r1 Y.hq fun h=>b1b (n:=n + 4) (i:=0) (j:=(q.text.length:Int) + 1) (l:=(q.text.length:Int)) (by decide) (by lia) (by lia)
 rw [Y.v1] at e4
 exact ⟨h3,by exact n9 [8,0] [9] fun R=>R _ (d7 (m:=20) (f:=32) Y.s.inst rfl) _ e4,G3⟩
end
end Mine.PL
namespace Mine.PL
variable {n m:Nat} {h:Hp} {o w r B:Nat} {K:Bk} {dd:b9→Nat} {q:Rw}
noncomputable def cls (i:Int):Nat:=if i < 6 then 1 else if i < 14 then 2 else if i∈[25,30,34,35,36,37] then 2 else if i∈[14,15,17,23,32] then 5 else if i∈[16,18] then 6 else if i∈[19,20,21,22,31] then 4 else 3
theorem b3R (i:Int):1≤cls i∧cls i≤7:=by
 unfold cls
 repeat' split
 all_goals decide
theorem a8P (i:Int):∀ l:List Int,(l.map fun a=>PySem.PyData.int a).any (fun y=>PySem.PyData.eqv y (.int i)) = decide (i∈l)
 | []=>(decide_eq_false List.not_mem_nil).symm
 | a :: r=>by
  rw [List.map_cons,List.any_cons,a8P i r]
  show (decide (a = i) || decide (i∈r)) = _
  by_cases z:a = i
  ·rw [decide_eq_true z,decide_eq_true (List.mem_cons.mpr (.inl z.symm))];rfl
  ·rw [decide_eq_false z,Bool.false_or]
   exact decide_eq_decide.mpr (by rw [List.mem_cons];exact ⟨.inr,fun y=>y.elim (fun y=>absurd y.symm z) id⟩)
theorem b4T {a:Nat} {xs:List AV} {i:Int} {b:Bool} (ns:List Int) (e:h[a]? = some (.list xs)) (e3:p0 V7 xs = some (ns.map fun a=>PySem.PyData.int a)) (q:decide (i∈ns) = b):j5 .isin (.int i) (.ref a) h = some b :=
 a5k e e3 rfl ((a8P i ns).trans q)
theorem ask (xs:List AV) (ns:List Int) (i:Int) (ql:xs.length≤lim) (e3:p0 V7 xs = some (ns.map fun a=>PySem.PyData.int a)):∃ h1 l,newList xs h = .ok (.ref l) h1∧j5 .isin (.int i) (.ref l) h1 = some (decide (i∈ns))∧d9 h h1 :=
 ⟨_,_,f8 h xs ql,b4T ns (f5 h _) e3 rfl,d9.app _ _⟩
theorem b4s (i:Int):Gv (a9 prog (n + 1) 50 [.int i] h) (.str (R3 (cls i))) h:=by
 unfold cls
 by_cases a:i < 6
 ·rw [if_pos a];exact ⟨h,by exact via [0] fun R=>R _ (b0k a),d9.refl _⟩
 rw [if_neg a]
 by_cases b:i < 14
 ·rw [if_pos b];exact ⟨h,by exact via [0,0] fun R=>R _ (V9 a) _ (b0k b),d9.refl _⟩
 rw [if_neg b]
 obtain ⟨h1,l1,e1,d1,G1⟩:=ask (h:=h) [.int 25,.int 30,.int 34,.int 35,.int 36,.int 37] [25,30,34,35,36,37] i (by decide) rfl
 by_cases c:i∈[25,30,34,35,36,37]
 ·rw [if_pos c];rw [decide_eq_true c] at d1;exact ⟨h1,by exact via [0,0,0,0] fun R=>R _ (V9 a) _ (V9 b) _ _ e1 _ d1,G1⟩
 rw [if_neg c];rw [decide_eq_false c] at d1
 obtain ⟨h2,l2,e2,d2,G2⟩:=ask (h:=h1) [.int 14,.int 15,.int 17,.int 23,.int 32] [14,15,17,23,32] i (by decide) rfl
 have G2:=G1.trans G2
 by_cases d:i∈[14,15,17,23,32]
 ·rw [if_pos d];rw [decide_eq_true d] at d2;exact ⟨h2,by exact via [0,0,0,0,0,0] fun R=>R _ (V9 a) _ (V9 b) _ _ e1 _ d1 _ _ e2 _ d2,G2⟩
 rw [if_neg d];rw [decide_eq_false d] at d2
 obtain ⟨h3,l3,e3,d3,G3⟩:=ask (h:=h2) [.int 16,.int 18] [16,18] i (by decide) rfl
 have G3:=G2.trans G3
 by_cases f:i∈[16,18]
 ·rw [if_pos f];rw [decide_eq_true f] at d3;exact ⟨h3,by exact via [0,0,0,0,0,0,0,0] fun R=>R _ (V9 a) _ (V9 b) _ _ e1 _ d1 _ _ e2 _ d2 _ _ e3 _ d3,G3⟩
 rw [if_neg f];rw [decide_eq_false f] at d3
 obtain ⟨h4,l4,e4,d4,G4⟩:=ask (h:=h3) [.int 19,.int 20,.int 21,.int 22,.int 31] [19,20,21,22,31] i (by decide) rfl
 have G4:=G3.trans G4
 by_cases g:i∈[19,20,21,22,31]
 ·rw [if_pos g];rw [decide_eq_true g] at d4;exact ⟨h4,by exact via [0,0,0,0,0,0,0,0,0,0] fun R=>R _ (V9 a) _ (V9 b) _ _ e1 _ d1 _ _ e2 _ d2 _ _ e3 _ d3 _ _ e4 _ d4,G4⟩
 ·rw [if_neg g];rw [decide_eq_false g] at d4;exact ⟨h4,by exact via [0,0,0,0,0,0,0,0,0,0] fun R=>R _ (V9 a) _ (V9 b) _ _ e1 _ d1 _ _ e2 _ d2 _ _ e3 _ d3 _ _ e4 _ d4,G4⟩
noncomputable def a8C (i:Int):Prop:=0≤i∧(i≤32∨(34≤i∧i≤41))
theorem b6l (Y:Rdy h o w r B m K dd q) {i:Int} (hi:a8C i):Rf (n + 8) 40 [.ref o,.int i,.str q.name,.int q.text.length] h (cls i):=by
 have all:∀ i∈[14,15,16,17,18,19,20,21,22,23,24,25,26,27,28,29,30,31,32,34,35,36,37,38,39,40,(41:Int)],Rf (n + 8) 40 [.ref o,.int i,.str q.name,.int q.text.length] h (cls i):=by
  have c {p:Int→Prop} {a:Int} {l:List Int} (x:p a) (y:∀ i∈l,p i):∀ i∈a :: l,p i:=List.forall_mem_cons.mpr ⟨x,y⟩
  exact c (b5N Y) (c (b7e Y) (c (b6r Y) (c (b7o Y) (c (b7k Y) (c (b6d Y) (c (b7w Y) (c (j0 (by decide) (b8z Y)) (c (j0 (by decide) (b8O Y)) (c (j0 (by decide) (b7S Y)) (c (j0 (by decide) (b8U Y)) (c (j0 (by decide) (b8b Y)) (c (j0 (by decide) (b7U Y))
   (c (j0 (by decide) (b7J Y)) (c (j0 (by decide) (b7H Y)) (c (j0 (by decide) (b8c Y)) (c (j0 (by decide) (b7P Y)) (c (j0 (by decide) (b8K Y)) (c (j0 (by decide) (b8t Y))
   (c (j0 (by decide) (y0 (by decide) (b6Y Y _))) (c (j0 (by decide) (y0 (by decide) (b6Z Y _))) (c (j0 (by decide) (y0 (by decide) (b5T Y _))) (c (j0 (by decide) (y0 (by decide) (b5L Y _)))
   (c (j0 (by decide) (y0 (by decide) (b5M Y _))) (c (j0 (by decide) (y0 (by decide) (b5R Y _))) (c (j0 (by decide) (y0 (by decide) (b6m Y _))) (c (j0 (by decide) (y0 (by decide) (b6G Y _))) fun _ h=>nomatch h))))))))))))))))))))))))))
 by_cases a:i < 6
 ·have:=b0y (n:=n) Y (i:=i.toNat) (by have:=hi.1;lia)
  rw [Int.toNat_of_nonneg hi.1] at this
  rw [show cls i = 1 from if_pos a];exact this
 by_cases b:i < 14
 ·have:=b1c (n:=n) Y (i:=(i - 6).toNat) (by lia)
  rw [show ((6 + (i - 6).toNat:Nat):Int) = i by lia] at this
  rw [show cls i = 2 from (if_neg a).trans (if_pos b)];exact this
 ·refine all i ?_
  have:=hi.2
  simp only [List.mem_cons,List.not_mem_nil,or_false]
  lia
end Mine.PL
namespace Mine.PL
variable {n m:Nat} {h:Hp}
theorem a9a (i:Int):l9 i = (toString i).toList.map Char.toNat:=by
 unfold l9;rw [PySem.Str.ofString_eq_toList]
theorem s9 {i:Int} (q:i.natAbs < 1000000):(l9 i).length≤7:=by
 rw [a9a,List.length_map,String.length_toList]
 exact PySem.int_text_length_le10 (k:=6) (by decide) q
theorem X8 {i:Int} (q:i.natAbs < 1000000):biA .str [.int i] h = .ok (.str (l9 i)) h:=by
 refine r8 (Bool.and_eq_true_iff.mpr ⟨decide_eq_true ?_,List.all_eq_true.mpr fun c hc=>decide_eq_true ?_⟩)
 ·by_cases z:i.natAbs = 0
  ·rw [z];decide
  ·exact (Nat.log2_lt z).mpr (Nat.lt_of_lt_of_le q (Nat.le_trans (by decide:1000000≤2 ^ 20) (Nat.pow_le_pow_right (by decide) (by decide))))
 ·rw [a9a] at hc
  obtain ⟨d,hd,rfl⟩:=List.mem_map.mp hc
  exact PySem.int_ascii i d hd
theorem U9 (c:Nat) {b:List Nat} (hb:b.length = 2):∀ s:List Nat,(B8 c b s).length≤2 * s.length
 | []=>Nat.le_refl _
 | x :: s=>by
  have:=U9 c hb s
  show ((if x = c then b else [x]) ++ B8 c b s).length≤_
  rw [List.length_append,List.length_cons]
  split
  ·rw [hb];lia
  ·show 1 + _≤_;lia
noncomputable def hid (t:b9):b9:=B8 10 [92,110] (B8 92 [92,92] t)
theorem b4H (t:b9):(hid t).length≤4 * t.length:=by
 have:=U9 10 (b:=[92,110]) rfl (B8 92 [92,92] t)
 have:=U9 92 (b:=[92,92]) rfl t
 unfold hid;lia
theorem a9e {c:Nat} {b s:List Nat} (q:s.length + (s.length + 1) * b.length≤lim):a5V (.str s) c b h = .ok (.str (B8 c b s)) h:=r8 (decide_eq_true q)
theorem b0i {t:b9} (ht:t.length≤60):a9 prog (n + 1) 46 [.str t] h = .ok (.str (hid t)) h:=by
 have li:1000≤lim:=by decide
 have e1:=a9e (h:=h) (c:=92) (b:=[92,92]) (s:=t) (by show _ + _ * 2≤_;lia)
 have l1:=U9 92 (b:=[92,92]) rfl t
 have e2:=a9e (h:=h) (c:=10) (b:=[92,110]) (s:=B8 92 [92,92] t) (by show _ + _ * 2≤_;lia)
 exact via [0,0] fun R=>R _ _ e1 _ _ e2
structure NeJ (h:Hp) (f:Nat) (xs:List AV) (h':Hp):Prop where
 G:d9 h h'
 L:h.length≤f
 f:h'[f]? = some (.list xs)
theorem NeJ.grow {f:Nat} {xs:List AV} {h' h2:Hp} (J:NeJ h f xs h') (G:d9 h' h2):NeJ h f xs h2:=⟨J.G.trans G,J.L,G.get J.f⟩
theorem NeJ.add {f:Nat} {xs:List AV} {h':Hp} (J:NeJ h f xs h') (v:AV) (q:xs.length < lim):a6D .append (.ref f) h' = true∧bmA .append (.ref f) [v] h' = .ok .none (h'.set f (.list (xs ++ [v])))∧NeJ h f (xs ++ [v]) (h'.set f (.list (xs ++ [v]))) :=
 ⟨F7 _ J.f,D3 _ J.f q v,⟨⟨by rw [List.length_set];exact J.G.1,fun i hi=>(o3 (Nat.ne_of_gt (Nat.lt_of_lt_of_le hi J.L))).trans (J.G.2 i hi)⟩,J.L,B7 J.f⟩⟩
end Mine.PL
namespace Mine.PL
variable {n m:Nat} {h h0:Hp} {o w r B:Nat} {K:Bk} {dd:b9→Nat}
noncomputable abbrev wV (o a:Nat) (y:Option AV×Option AV×Option AV):Vs:=[some (.ref o),some (.ref (o + 1)),some (.ref a),y.1,y.2.1,y.2.2,none,none]
noncomputable abbrev a4T:b9:=[112,105,101,99,101,32]
noncomputable abbrev a8J:b9:=[119,111,114,107,32]
noncomputable abbrev x2:b9:=[118,101,114,115,105,111,110]
noncomputable def rwP (K:Bk) (t:b9):b9:=a4T ++ l9 (K.b.ν t) ++ [32] ++ hid t
noncomputable def rwW (K:Bk) (x:b9):b9:=a8J ++ x ++ [32] ++ l9 (K.G x)
noncomputable def rwV (K:Bk) (x:b9) (q:Rw):b9:=u6 [32] ([x2,x,l9 q.ver] ++ q.parts.map fun t=>l9 (K.b.ν t))
structure WrJ (h0:Hp) (a ln:Nat) (src xs:List AV) (h:Hp):Prop where
 J:NeJ h0 a xs h
 S:h[ln]? = some (.list src)
 ne:ln≠a
theorem WrJ.grow {a ln:Nat} {src xs:List AV} {h2:Hp} (J:WrJ h0 a ln src xs h) (G:d9 h h2):WrJ h0 a ln src xs h2:=⟨J.J.grow G,G.get J.S,J.ne⟩
theorem WrJ.add {a ln:Nat} {src xs:List AV} (J:WrJ h0 a ln src xs h) (v:AV) (q:xs.length < lim):a6D .append (.ref a) h = true∧bmA .append (.ref a) [v] h = .ok .none (h.set a (.list (xs ++ [v])))∧WrJ h0 a ln src (xs ++ [v]) (h.set a (.list (xs ++ [v]))) :=
 let ⟨e1,e2,j⟩:=J.J.add v q
 ⟨e1,e2,j,(o3 (Ne.symm J.ne)).trans J.S,J.ne⟩
theorem Rok.num6 (k:Rok w r m K) {t:b9} (ht:t∈K.b.T):(K.b.ν t).natAbs < 1000000:=by
 have:=k.num.nu t ht
 have:=k.nu.le t ht
 have:=k.num.gT
 have:=k.tl
 lia
noncomputable def Sml (K:Bk):Prop:=∀ q∈K.R,q.text.length≤60∧q.parts.length≤60
theorem Rok.t60 (k:Rok w r m K) (z6:Sml K) {t:b9} (ht:t∈K.b.T) (r1:1≤r):t.length≤60:=by
 obtain ⟨q,hq,tq⟩:=k.tin t ht
 have e:=k.flat r1 hq
 have x:=(z6 q hq).1
 rw [← e] at x
 exact Nat.le_trans (List.Sublist.length_le (List.sublist_flatten_of_mem tq)) x
theorem a9E (k:Rok w r m K) (z6:Sml K) (r1:1≤r) {t:b9} (ht:t∈K.b.T):(rwP K t).length≤260:=by
 have a:=s9 (k.num6 ht)
 have b:=b4H t
 have c:=k.t60 z6 ht r1
 unfold rwP
 rw [List.length_append,List.length_append,List.length_append]
 show 6 + _ + 1 + _≤_;lia
theorem N9 {α:Type} {l:List α} {i:Nat} {v:α} (e:l[i]? = some v):l.take (i + 1) = l.take i ++ [v]:=by
 rw [List.take_add_one,e];rfl
theorem a9O (s:Sh h0 o w r B K dd) (k:Rok w r m K) (z6:Sml K) (r1:1≤r) {a ln:Nat} {xs:List b9} (hx:xs.length≤100000) {y:Option AV×Option AV×Option AV} (J:WrJ h0 a ln (K.b.T.map K.b.k) (o0 xs) h) :
  Nx (wV o a) (fun h' y'=>WrJ h0 a ln (K.b.T.map K.b.k) (o0 (xs ++ K.b.T.map (rwP K))) h'∧y'.2 = y.2) (t5 (z5 h (.ref ln)) (r6 ⟨prog,a9 prog (n + 3)⟩ 3 (u8 u2.body 2)) (h,wV o a y)):=by
 have li:200000≤lim:=by decide
 have tl:=k.tl
 obtain ⟨h',y',e,j⟩:=Q0 (C:=⟨prog,a9 prog (n + 3)⟩) (x:=3) (b:=u8 u2.body 2) (V:=fun _=>wV o a) (J:=fun i h' y'=>WrJ h0 a ln (K.b.T.map K.b.k) (o0 (xs ++ (K.b.T.take i).map (rwP K))) h'∧y'.2 = y.2) J.S (fun i h y j=>j.1.S) (fun i t h y hv j=>by
  have ht:t∈K.b.T:=List.mem_of_getElem? hv
  have sg:=s.grow j.1.J.G
  have st:=X8 (h:=h) (k.num6 ht)
  have a1:=o7 h a4T (l9 (K.b.ν t)) (by have:=s9 (k.num6 ht);show 6 + _≤_;lia)
  have a2:=o7 h (a4T ++ l9 (K.b.ν t)) [32] (by have:=s9 (k.num6 ht);rw [List.length_append];show 6 + _ + 1≤_;lia)
  have m6:=B6 (m:=6) (f:=13) sg.st.inst rfl
  have pc:=a2H (n:=n) sg.st k.nu ht
  have hd:=b0i (n:=n + 2) (h:=h) (k.t60 z6 ht r1)
  have a3:=o7 h (a4T ++ l9 (K.b.ν t) ++ [32]) (hid t) (by have:=a9E k z6 r1 ht;unfold rwP at this;rw [List.length_append] at this;lia)
  obtain ⟨kd,ap,j1⟩:=j.1.add (.str (rwP K t)) (by rw [List.length_map,List.length_append,List.length_map,List.length_take];lia)
  refine ⟨_,(some (.int (K.b.ν t)),y.2),by exact V8 [0,0,0,0,0,0,0,0,0] fun R=>R kd _ _ st _ _ a1 _ _ a2 _ m6 _ _ pc _ _ hd _ _ a3 _ _ ap,?_,j.2⟩
  rw [N9 hv,List.map_append,← List.append_assoc]
  show WrJ _ _ _ _ (List.map AV.str (_ ++ [rwP K t])) _
  rw [List.map_append];exact j1) (y:=y) ⟨by rw [List.take_zero,List.map_nil,List.append_nil];exact J,rfl⟩
 rw [List.take_length] at j
 exact ⟨h',y',e,j⟩
end Mine.PL
namespace Mine.PL
variable {n m:Nat} {h h0:Hp} {o w r B:Nat} {K:Bk} {dd:b9→Nat}
theorem Sh.given (s:Sh h o w r B K dd) {x:b9} (hx:x∈K.NM):w4 (.ref (o + 6)) (.str x) h = some (.int (K.G x)):=by
 obtain ⟨ep,e⟩:=s.last
 exact (O4 e (V2 (b:=false) _ _ _ (fun _=>rfl) rfl)).trans ((I9 _ _ _).trans (if_pos hx))
theorem Rok.g6 (k:Rok w r m K) (x:b9):((K.G x:Nat):Int).natAbs < 1000000:=by
 have:=k.gm x
 have:=k.m101
 lia
theorem a9n (k:Rok w r m K) {x:b9} (hx:x∈K.NM):(rwW K x).length≤30:=by
 have a:=s9 (k.g6 x)
 have b:=(k.name x hx).2.1
 unfold rwW
 rw [List.length_append,List.length_append,List.length_append]
 show 5 + _ + 1 + _≤_;lia
theorem b3G (s:Sh h0 o w r B K dd) (k:Rok w r m K) {a ln:Nat} {l xs:List b9} (hl:∀ x∈l,x∈K.NM) (hx:xs.length≤100000) (ll:l.length≤100000) {y:Option AV×Option AV×Option AV} (J:WrJ h0 a ln (o0 l) (o0 xs) h) :
  Nx (wV o a) (fun h' _=>WrJ h0 a ln (o0 l) (o0 (xs ++ l.map (rwW K))) h') (t5 (z5 h (.ref ln)) (r6 ⟨prog,a9 prog (n + 3)⟩ 4 (u8 u2.body 3)) (h,wV o a y)):=by
 have li:200000 < lim:=by decide
 obtain ⟨h',y',e,j⟩:=Q0 (C:=⟨prog,a9 prog (n + 3)⟩) (x:=4) (b:=u8 u2.body 3) (V:=fun _=>wV o a) (J:=fun i h' _=>WrJ h0 a ln (o0 l) (o0 (xs ++ (l.take i).map (rwW K))) h') J.S (fun i h y j=>j.S) (fun i x h y hv j=>by
  have hx':x∈l:=List.mem_of_getElem? hv
  have hm:=hl x hx'
  have sg:=s.grow j.J.G
  have xl:=(k.name x hm).2.1
  have sl:=s9 (k.g6 x)
  have a1:=o7 h a8J x (by show 5 + _≤_;lia)
  have a2:=o7 h (a8J ++ x) [32] (by rw [List.length_append];show 5 + _ + 1≤_;lia)
  have a8:=a5s sg.inst
  have ix:=sg.given hm
  have st:=X8 (h:=h) (k.g6 x)
  have a3:=o7 h (a8J ++ x ++ [32]) (l9 (K.G x)) (by have:=a9n k hm;unfold rwW at this;rw [List.length_append] at this;lia)
  obtain ⟨kd,ap,j1⟩:=j.add (.str (rwW K x)) (by rw [List.length_map,List.length_append,List.length_map,List.length_take];lia)
  refine ⟨_,(y.1,some (.str x),y.2.2),by exact V8 [0,0,0,0,0,0,0,0] fun R=>R kd _ _ a1 _ _ a2 _ a8 _ ix _ _ st _ _ a3 _ _ ap,?_⟩
  rw [N9 hv,List.map_append,← List.append_assoc]
  show WrJ _ _ _ _ (List.map AV.str (_ ++ [rwW K x])) _
  rw [List.map_append];exact j1) (y:=y) (by rw [List.take_zero,List.map_nil,List.append_nil];exact J)
 rw [List.take_length] at j
 exact ⟨h',y',e,j⟩
theorem F0 (sep:List Nat):∀ l:List b9,(u6 sep l).length≤l.flatten.length + l.length * sep.length
 | []=>Nat.zero_le _
 | [t]=>by show t.length≤_;simp
 | t :: u :: r=>by
  have:=F0 sep (u :: r)
  show (t ++ (sep ++ u6 sep (u :: r))).length≤_
  rw [List.length_append,List.length_append,List.flatten_cons,List.length_append,List.length_cons,Nat.succ_mul]
  lia
theorem a2m (f:b9→b9) (c:Nat):∀ l:List b9,(∀ t∈l,(f t).length≤c)→((l.map f).flatten).length≤l.length * c
 | [],_=>Nat.zero_le _
 | t :: l,q=>by
  have:=a2m f c l fun t ht=>q t (List.mem_cons_of_mem _ ht)
  have:=q t List.mem_cons_self
  rw [List.map_cons,List.flatten_cons,List.length_append,List.length_cons,Nat.succ_mul]
  lia
noncomputable abbrev rwL (K:Bk) (x:b9) (q:Rw):List b9:=[x2,x,l9 q.ver] ++ q.parts.map fun t=>l9 (K.b.ν t)
theorem a8Y (k:Rok w r m K) (z6:Sml K) {q:Rw} (hq:q∈K.R):(rwL K q.name q).flatten.length + (rwL K q.name q).length * 1≤600:=by
 have a:=a2m (fun t=>l9 (K.b.ν t)) 7 q.parts fun t ht=>s9 (k.num6 (k.parts q hq t ht))
 have b:=(z6 q hq).2
 have c:=(k.name _ (k.nm q hq)).2.1
 have d:=s9 (i:=(q.ver:Int)) (by have:=k.ver q hq;have:=k.gm q.name;have:=k.m101;lia)
 rw [List.flatten_append,List.length_append,List.length_append,List.length_map]
 have f:[x2,q.name,l9 (q.ver:Int)].flatten.length = 7 + (q.name.length + (l9 (q.ver:Int)).length):=by simp [x2];lia
 rw [f]
 show _ + (3 + _) * 1≤_
 lia
theorem b3b (s:Sh h0 o w r B K dd) (k:Rok w r m K) (z6:Sml K) {a lv:Nat} {x:b9} {xs:List b9} (hx:xs.length≤100000) {y:Option AV×Option AV×Option AV} (yx:y.2.1 = some (.str x)) (J:WrJ h0 a lv (a2U K x) (o0 xs) h) :
  Nx (wV o a) (fun h' _=>WrJ h0 a lv (a2U K x) (o0 (xs ++ (byN K.R x).map (rwV K x))) h'∧Kg (fun l=>l = a) h h') (t5 (z5 h (.ref lv)) (r6 ⟨prog,a9 prog (n + 4)⟩ 3 (u8 (u8 u2.body 4) 0)) (h,wV o a y)):=by
 have li:200000 < lim:=by decide
 have bl:=V5 k x
 obtain ⟨h',y',e,j⟩:=Q0 (C:=⟨prog,a9 prog (n + 4)⟩) (x:=3) (b:=u8 (u8 u2.body 4) 0) (l:=byN K.R x) (κ:=fun q=>.int q.ver) (V:=fun _=>wV o a) (J:=fun i h' y'=>(WrJ h0 a lv (a2U K x) (o0 (xs ++ ((byN K.R x).take i).map (rwV K x))) h'∧Kg (fun l=>l = a) h h')∧y'.2.1 = some (.str x)) J.S (fun i h y j=>j.1.1.S) (fun i q h1 y hv j=>by
  obtain ⟨⟨j,jk⟩,jy⟩:=j
  have hb:q∈byN K.R x:=List.mem_of_getElem? hv
  obtain ⟨hq,qn⟩:=o4.mp hb
  subst qn
  have sg:=s.grow j.J.G
  have m13:=d7 (m:=13) (f:=35) sg.inst rfl
  obtain ⟨h2,e2,G2⟩:=b6y (n:=n + 1) sg k hq
  have pl:=k.pl hq
  have c:=J6 (h:=h2) (cs:=evConds ⟨prog,a9 prog (n + 4)⟩ []) (el:=ev ⟨prog,a9 prog (n + 4)⟩ (.bi .str [.var 6])) (x:=6) (vs:=wV o a (some (.int q.ver),some (.str q.name),y.2.2)) q.parts K.b.k (fun _=>true) (fun t=>.str (l9 (K.b.ν t))) (Nat.le_trans pl (by decide)) (fun _ _=>rfl) fun t ht _=>by
   have st:=X8 (h:=h2) (k.num6 (k.parts q hq t ht))
   exact a0G [0] fun R=>R _ _ st
  rw [t9] at c
  have G3:d9 h2 (h2 ++ [.list (q.parts.map fun t=>.str (l9 (K.b.ν t)))]):=d9.app _ _
  have d3:=f5 h2 (.list (q.parts.map fun t=>.str (l9 (K.b.ν t))))
  have c':D1 (z5 h2 (.tup (a1z K.b q.parts))) (p3 (evConds ⟨prog,a9 prog (n + 4)⟩ []) (ev ⟨prog,a9 prog (n + 4)⟩ (.bi .str [.var 6])) 6 (wV o a (some (.int q.ver),some (.str q.name),y.2.2))) h2 = .ok (.ref h2.length) (h2 ++ [.list (q.parts.map fun t=>.str (l9 (K.b.ν t)))]):=c
  generalize h2 ++ [AO.list (q.parts.map fun t=>.str (l9 (K.b.ν t)))] = h3 at c c' G3 d3
  have sv:=X8 (h:=h3) (i:=(q.ver:Int)) (by have:=k.ver q hq;have:=k.gm q.name;have:=k.m101;lia)
  have nl:=f8 h3 [.str x2,.str q.name,.str (l9 q.ver)] (Nat.le_trans (by simp:_≤3) (by decide))
  have G4:d9 h3 (h3 ++ [.list [.str x2,.str q.name,.str (l9 q.ver)]]):=d9.app _ _
  have d4:=f5 h3 (.list [.str x2,.str q.name,.str (l9 q.ver)])
  generalize h3 ++ [AO.list [.str x2,.str q.name,.str (l9 q.ver)]] = h4 at nl G4 d4
  have al:=add_list _ d4 (G4.get d3) (by rw [List.length_map];show 3 + _≤_;lia)
  have G5:d9 h4 (h4 ++ [.list ([.str x2,.str q.name,.str (l9 q.ver)] ++ q.parts.map fun t=>.str (l9 (K.b.ν t)))]):=d9.app _ _
  have d5:=f5 h4 (.list ([.str x2,.str q.name,.str (l9 q.ver)] ++ q.parts.map fun t=>.str (l9 (K.b.ν t))))
  generalize h4 ++ [AO.list ([.str x2,.str q.name,.str (l9 q.ver)] ++ q.parts.map fun t=>.str (l9 (K.b.ν t)))] = h5 at al G5 d5
  have d5:h5[h4.length]? = some (.list (o0 (rwL K q.name q))):=by rw [d5];simp [rwL,o0]
  have jn:=a4Z (sep:=[32]) d5 (Nat.le_trans (a8Y k z6 hq) (by decide))
  have G:=((G2.trans G3).trans G4).trans G5
  obtain ⟨_,ap,j1⟩:=(j.grow G).add (.str (rwV K q.name q)) (by rw [List.length_map,List.length_append,List.length_map,List.length_take];lia)
  have kd:=(j.grow (G2.trans G3)).J.f
  have kd:=F7 h3 kd
  refine ⟨_,(some (.int q.ver),some (.str q.name),some (.ref h2.length)),by
   show r6 _ _ _ _ (h1,[some (.ref o),some (.ref (o + 1)),some (.ref a),y.1,y.2.1,y.2.2,none,none]) = _
   rw [jy]
   exact V8 [0,0,0,0,1,0,0,0,0] fun R=>R _ m13 _ _ e2 _ _ c' kd _ _ sv _ _ nl _ _ al _ _ jn _ _ ap,⟨?_,(jk.trans (Kg.of G)).trans (Kg.set _ _ _ rfl)⟩,rfl⟩
  rw [N9 hv,List.map_append,← List.append_assoc]
  show WrJ _ _ _ _ (List.map AV.str (_ ++ [rwV K q.name q])) _
  rw [List.map_append];exact j1) (y:=y) ⟨⟨by rw [List.take_zero,List.map_nil,List.append_nil];exact J,Kg.refl _ _⟩,yx⟩
 rw [List.take_length] at j
 exact ⟨h',y',e,j.1⟩
end Mine.PL
namespace Mine.PL
variable {n m:Nat} {h h0:Hp} {o w r B:Nat} {K:Bk} {dd:b9→Nat}
theorem a3j {a:Nat} {x:AO} (e:h[a]? = some x):a < h.length:=(List.getElem?_eq_some_iff.mp e).1
noncomputable def rwN (K:Bk) (x:b9):List b9:=(byN K.R x).map (rwV K x)
theorem a6V (s:Sh h0 o w r B K dd) (k:Rok w r m K) (z6:Sml K) {a ln:Nat} {l xs:List b9} (hl:∀ x∈l,s6 x) (hx:xs.length≤90000) (ll:l.length≤7) {y:Option AV×Option AV×Option AV} (J:WrJ h0 a ln (o0 l) (o0 xs) h) :
  Nx (wV o a) (fun h' _=>WrJ h0 a ln (o0 l) (o0 (xs ++ l.flatMap (rwN K))) h') (t5 (z5 h (.ref ln)) (r6 ⟨prog,a9 prog (n + 4)⟩ 4 (u8 u2.body 4)) (h,wV o a y)):=by
 have bn:∀ j,((l.take j).flatMap (rwN K)).length≤(l.take j).length * 101:=fun j=>by
  generalize l.take j = u
  induction u with
  | nil=>exact Nat.zero_le _
  | cons x u ih =>
   have:=V5 k x
   rw [List.flatMap_cons,List.length_append,List.length_cons,Nat.succ_mul]
   unfold rwN at ih ⊢
   rw [List.length_map];lia
 obtain ⟨h',y',e,j⟩:=Q0 (C:=⟨prog,a9 prog (n + 4)⟩) (x:=4) (b:=u8 u2.body 4) (V:=fun _=>wV o a) (J:=fun i h' _=>WrJ h0 a ln (o0 l) (o0 (xs ++ (l.take i).flatMap (rwN K))) h') J.S (fun i h y j=>j.S) (fun i x h1 y hv j=>by
  have sg:=s.grow j.J.G
  have m17:=d7 (m:=17) (f:=22) sg.inst rfl
  obtain ⟨h2,lv,e2,G2,v2,d2⟩:=a9H (n:=n + 1) sg k (hl x (List.mem_of_getElem? hv))
  have j2:=j.grow G2
  obtain ⟨h3,y3,e3,j3,K3⟩:=b3b (n:=n) s k z6 (a:=a) (lv:=lv) (x:=x) (xs:=xs ++ (l.take i).flatMap (rwN K)) (y:=(y.1,some (.str x),y.2.2)) (by have:=bn i;rw [List.length_append];rw [List.length_take] at this;lia) rfl ⟨j2.J,d2,Nat.ne_of_gt (Nat.lt_of_lt_of_le (a3j j.J.f) v2)⟩
  refine ⟨h3,y3,by exact V8 [0,0,0] fun R=>R _ m17 _ _ e2 _ _ e3,?_⟩
  rw [N9 hv,List.flatMap_append,← List.append_assoc]
  refine ⟨?_,K3.get j2.S j2.ne,j2.ne⟩
  have:=j3.J
  rw [show [x].flatMap (rwN K) = (byN K.R x).map (rwV K x) from List.append_nil _]
  exact this) (y:=y) (by rw [List.take_zero,List.flatMap_nil,List.append_nil];exact J)
 rw [List.take_length] at j
 exact ⟨h',y',e,j⟩
end Mine.PL
namespace Mine.PL
variable {n m:Nat} {h h0:Hp} {o w r B:Nat} {K:Bk} {dd:b9→Nat}
noncomputable def rwH (K:Bk) (w r:Nat):b9:=u6 [32] [[115,104,101,108,102],l9 w,l9 r,l9 K.b.g]
noncomputable def wrL (K:Bk) (w r:Nat):List b9:=[rwH K w r] ++ K.b.T.map (rwP K) ++ (u7 ltT K.NM).map (rwW K) ++ (nmS K).flatMap (rwN K)
noncomputable def wrT (K:Bk) (w r:Nat):b9:=((wrL K w r).map fun t=>t ++ [10]).flatten
theorem a7R (s:Sh h o w r B K dd) (k:Rok w r m K) (z6:Sml K) (w8:w≤8) (r1:1≤r) (r40:r≤40) (fl:(wrT K w r).length≤10000000) (ll:(wrL K w r).length≤100000) (ls:∀ t∈wrL K w r,t.length≤1000):Gv (a9 prog (n + 5) 47 [.ref o] h) (.str (wrT K w r)) h:=by
 have li:10000000≤lim:=by decide
 have tl:=k.tl
 have nl:=k.nl
 have g6:K.b.g.natAbs < 1000000:=by have:=k.num.g0;have:=k.num.gT;lia
 have a6:=H7 s.inst
 have a4:=a6e s.inst
 have a5:=a6M s.inst
 have a3:=a1f s.st.inst
 have s1:=X8 (h:=h) (i:=(w:Int)) (by lia)
 have s2:=X8 (h:=h) (i:=(r:Int)) (by lia)
 have s3:=X8 (h:=h) g6
 have l1:=s9 (i:=(w:Int)) (by lia)
 have l2:=s9 (i:=(r:Int)) (by lia)
 have l3:=s9 g6
 have n1:=f8 h [.str [115,104,101,108,102],.str (l9 w),.str (l9 r),.str (l9 K.b.g)] (Nat.le_trans (by simp:_≤4) (by decide))
 have d1:(h ++ [AO.list [.str [115,104,101,108,102],.str (l9 w),.str (l9 r),.str (l9 K.b.g)]])[h.length]? = some (.list (o0 [[115,104,101,108,102],l9 w,l9 r,l9 K.b.g])):=f5 _ _
 have G1:d9 h (h ++ [AO.list [.str [115,104,101,108,102],.str (l9 w),.str (l9 r),.str (l9 K.b.g)]]):=d9.app _ _
 generalize h ++ [AO.list [.str [115,104,101,108,102],.str (l9 w),.str (l9 r),.str (l9 K.b.g)]] = h1 at n1 d1 G1
 have j1:bmA .join (.str [32]) [.ref h.length] h1 = .ok (.str (rwH K w r)) h1:=a4Z d1 (by simp;lia)
 have n2:=f8 h1 [.str (rwH K w r)] (Nat.le_trans (by simp:_≤1) (by decide))
 have d2:=f5 h1 (.list [.str (rwH K w r)])
 have G2:d9 h1 (h1 ++ [.list [.str (rwH K w r)]]):=d9.app _ _
 have L2:(h1 ++ [AO.list [.str (rwH K w r)]]).length = h1.length + 1:=List.length_append
 generalize h1 ++ [AO.list [.str (rwH K w r)]] = h2 at n2 d2 G2 L2
 have N2:NeJ h h1.length (o0 [rwH K w r]) h2:=⟨G1.trans G2,G1.1,d2⟩
 have m9:=B6 (m:=9) (f:=14) (s.grow N2.G).st.inst rfl
 have e3:=a2N (n:=n + 3) (s.grow N2.G).st k.nu (by lia)
 have d3:=a1i h2 (.list (K.b.T.map K.b.k))
 have G3:d9 h2 (h2 ++ [.list (K.b.T.map K.b.k),.list (K.b.T.map K.b.k)]):=d9.app _ _
 generalize h2 ++ [AO.list (K.b.T.map K.b.k),.list (K.b.T.map K.b.k)] = h3 at e3 d3 G3
 obtain ⟨h4,y4,e4,J4,_⟩:=a9O (n:=n + 1) (o:=o) s k z6 r1 (y:=(none,none,none)) (xs:=[rwH K w r]) (Nat.le_trans (by simp:_≤1) (by decide)) ⟨N2.grow G3,d3,by lia⟩
 have s4:=s.grow J4.J.G
 have a8:=a5s s4.inst
 obtain ⟨ep,e5⟩:=s4.last
 have b1:=a1N (a1R e5) (P2 (by lia))
 have d5:=f5 h4 (.list (o0 K.NM))
 have G5:d9 h4 (h4 ++ [.list (o0 K.NM)]):=d9.app _ _
 generalize h4 ++ [AO.list (o0 K.NM)] = h5 at b1 d5 G5
 have b2:=U6 (U1 d5) (a3R K.NM (by lia)) (P2 (by rw [F9];lia))
 have d6:=f5 h5 (.list (o0 (u7 ltT K.NM)))
 have G6:d9 h5 (h5 ++ [.list (o0 (u7 ltT K.NM))]):=d9.app _ _
 generalize h5 ++ [AO.list (o0 (u7 ltT K.NM))] = h6 at b2 d6 G6
 have f4:=a3j J4.J.f
 have g5:=G5.1
 obtain ⟨h7,y7,e7,J7⟩:=b3G (n:=n + 1) (o:=o) s k (y:=y4) (l:=u7 ltT K.NM) (xs:=[rwH K w r] ++ K.b.T.map (rwP K)) (fun x hx=>(U2 ltT).mp hx) (by rw [List.length_append,List.length_map];show 1 + _≤_;lia) (by rw [F9];lia) ⟨(J4.J.grow G5).grow G6,d6,by lia⟩
 have s7:=s.grow J7.J.G
 have m14:=d7 (m:=14) (f:=25) s7.inst rfl
 obtain ⟨h8,ln,e8,G8,v8,d8⟩:=a7n (n:=n + 3) s7 k
 have f7:=a3j J7.J.f
 obtain ⟨h9,y9,e9,J9⟩:=a6V (n:=n) (o:=o) s k z6 (y:=y7) (l:=nmS K) (xs:=[rwH K w r] ++ K.b.T.map (rwP K) ++ (u7 ltT K.NM).map (rwW K)) (fun x hx=>k.name x ((List.mem_filter.mp ((U2 ltT).mp hx)).1)) (by rw [List.length_append,List.length_append,List.length_map,List.length_map,F9];show 1 + _ + _≤_;lia) (a1M k) ⟨J7.J.grow G8,d8,by lia⟩
 have f9:h9[h1.length]? = some (.list ((wrL K w r).map .str)):=J9.J.f
 have c:=a2O (C:=⟨prog,a9 prog (n + 4)⟩) (el:=ev ⟨prog,a9 prog (n + 4)⟩ (.bin .add (.var 7) (.str [10]))) (x:=7) (vs:=wV o h1.length y9) (wrL K w r) .str (Q2 f9) ll (fun t=>.str (t ++ [10])) (fun t ht=>by
  have ad:=o7 h9 t [10] (by have:=ls t ht;show _ + 1≤_;lia)
  exact a0G [0] fun R=>R _ _ ad)
 have d10:(h9 ++ [AO.list ((wrL K w r).map fun t=>.str (t ++ [10]))])[h9.length]? = some (.list (o0 ((wrL K w r).map fun t=>t ++ [10]))):=by rw [f5];simp [o0]
 have G10:d9 h9 (h9 ++ [AO.list ((wrL K w r).map fun t=>.str (t ++ [10]))]):=d9.app _ _
 generalize h9 ++ [AO.list ((wrL K w r).map fun t=>.str (t ++ [10]))] = h10 at c d10 G10
 have jn:=a5N d10 (Nat.le_trans fl li)
 exact ⟨h10,by exact via [0,1,0,0,0,0,0,0,0,0,0,0,0,0,0,0,0,0,0,0,1,0] fun R=>R _ a6 _ a4 _ _ s1 _ a5 _ _ s2 _ a3 _ _ s3 _ _ n1 _ _ j1 _ _ n2 _ m9 _ _ e3 _ _ e4 _ a8 _ _ b1 _ _ b2 _ _ e7 _ m14 _ _ e8 _ _ e9 _ _ c _ _ jn,J9.J.G.trans G10⟩
end Mine.PL
namespace Mine.PL
variable {n m:Nat} {h h0:Hp} {o w r B:Nat} {K:Bk} {dd:b9→Nat}
theorem a9A (k:Rok w r m K):∀ l:List b9,(l.flatMap (rwN K)).length≤l.length * 101
 | []=>Nat.zero_le _
 | x :: u=>by
  have ih:=a9A k u
  have:=V5 k x
  rw [List.flatMap_cons,List.length_append,List.length_cons,Nat.succ_mul]
  unfold rwN at ih ⊢
  rw [List.length_map];lia
theorem a9y (k:Rok w r m K):(wrL K w r).length≤10000:=by
 have a:=k.tl
 have b:=k.nl
 have c:=a1M k
 have d:=a9A k (nmS K)
 unfold wrL
 rw [List.length_append,List.length_append,List.length_append,List.length_map,List.length_map,F9]
 show 1 + _ + _ + _≤_;lia
theorem a6p (k:Rok w r m K) (z6:Sml K) (w8:w≤8) (r1:1≤r) (r40:r≤40):∀ t∈wrL K w r,t.length≤600:=fun t ht=>by
 have g6:K.b.g.natAbs < 1000000:=by have:=k.num.g0;have:=k.num.gT;have:=k.tl;lia
 rcases List.mem_append.mp ht with ht|ht
 ·rcases List.mem_append.mp ht with ht|ht
  ·rcases List.mem_append.mp ht with ht|ht
   ·rw [List.mem_singleton.mp ht]
    have l1:=s9 (i:=(w:Int)) (by lia)
    have l2:=s9 (i:=(r:Int)) (by lia)
    have l3:=s9 g6
    have:=F0 [32] [[115,104,101,108,102],l9 w,l9 r,l9 K.b.g]
    unfold rwH
    simp at this ⊢;lia
   ·obtain ⟨p,hp,rfl⟩:=List.mem_map.mp ht
    exact Nat.le_trans (a9E k z6 r1 hp) (by decide)
  ·obtain ⟨x,hx,rfl⟩:=List.mem_map.mp ht
   exact Nat.le_trans (a9n k ((U2 ltT).mp hx)) (by decide)
 ·obtain ⟨x,_,hx⟩:=List.mem_flatMap.mp ht
  obtain ⟨q,hq,rfl⟩:=List.mem_map.mp hx
  obtain ⟨hr,rfl⟩:=o4.mp hq
  exact Nat.le_trans (F0 _ _) (a8Y k z6 hr)
theorem b5w (k:Rok w r m K) (z6:Sml K) (w8:w≤8) (r1:1≤r) (r40:r≤40):(wrT K w r).length≤10000000:=by
 have a:=a2m (fun t=>t ++ [10]) 601 (wrL K w r) fun t ht=>by rw [List.length_append];exact Nat.add_le_add_right (a6p k z6 w8 r1 r40 t ht) 1
 have b:=a9y k
 unfold wrT
 exact Nat.le_trans a (Nat.le_trans (Nat.mul_le_mul_right 601 b) (by decide))
theorem a9h (s:Sh h o w r B K dd) (k:Rok w r m K) (z6:Sml K) (w8:w≤8) (r1:1≤r) (r40:r≤40):Gv (a9 prog (n + 5) 47 [.ref o] h) (.str (wrT K w r)) h :=
 a7R s k z6 w8 r1 r40 (b5w k z6 w8 r1 r40) (Nat.le_trans (a9y k) (by decide)) fun t ht=>Nat.le_trans (a6p k z6 w8 r1 r40 t ht) (by decide)
inductive b8e (h:Hp) (c:Out AV) (K:Bk) (x:b9) (w r:Nat):Prop
 | mk (h':Hp) (p a v:Nat):c = .ok (.tup [.ref p,.ref a,.ref v,.str (wrT K w r)]) h'→h'[p]? = some (.list (K.b.T.map (tri K)))→h'[a]? = some (.list (o0 (nmS K)))→h'[v]? = some (.list (a2U K x))→d9 h h'→b8e h c K x w r
theorem a8O (s:Sh h o w r B K dd) (k:Rok w r m K) (z6:Sml K) {x:b9} (hx:s6 x) (w8:w≤8) (r1:1≤r) (r40:r≤40):b8e h (a9 prog (n + 6) 52 [.ref o,.str x] h) K x w r:=by
 have m15:=d7 (m:=15) (f:=26) s.inst rfl
 obtain ⟨h1,p,e1,G1,_,d1⟩:=a7u (n:=n + 1) s k
 have s1:=s.grow G1
 have m14:=d7 (m:=14) (f:=25) s1.inst rfl
 obtain ⟨h2,a,e2,G2,_,d2⟩:=a7n (n:=n + 4) s1 k
 have s2:=s1.grow G2
 have m17:=d7 (m:=17) (f:=22) s2.inst rfl
 obtain ⟨h3,v,e3,G3,_,d3⟩:=a9H (n:=n + 2) s2 k hx
 have s3:=s2.grow G3
 obtain ⟨h4,e4,G4⟩:=a9h (n:=n) s3 k z6 w8 r1 r40
 exact ⟨h4,p,a,v,by exact via [0,0,0,0,0,0,0] fun R=>R _ m15 _ _ e1 _ m14 _ _ e2 _ m17 _ _ e3 _ _ e4,((G2.trans G3).trans G4).get d1,(G3.trans G4).get d2,G4.get d3,((G1.trans G2).trans G3).trans G4⟩
end Mine.PL
namespace Mine.PL
variable {n m:Nat} {h h0:Hp} {o w r B:Nat} {K:Bk} {dd:b9→Nat}
theorem a9T {m:Nat} {xs ys:List AV} (hl:xs.length≤100) (e:ys.length = xs.length) (H:∀ k:Nat,k < xs.length→∃ x y,xs[k]? = some x∧ys[k]? = some y∧a9 prog m 45 [x,y] h = .ok (.bool true) h):a9 prog (m + 1) 45 [.tup xs,.tup ys] h = .ok (.bool true) h:=by
 have hlim:(100:Int)≤lim:=by decide
 have lg:biA .len [.tup xs] h = .ok (.int xs.length) h:=rfl
 have ld:biA .len [.tup ys] h = .ok (.int xs.length) h:=by rw [← e];rfl
 have D:=a5j (h:=h) ys
 have G:=a5j (h:=h) xs
 obtain ⟨_,y,lq,rfl⟩:=R2 (n:=xs.length) (C:=⟨prog,a9 prog m⟩) (x:=2) (b:=u8 Y0.body 7) (V:=fun y=>[some (.tup xs),some (.tup ys),y]) (J:=fun _ hh _=>hh = h) (h:=h) (y:=none) (fun i _ y hi j=>by
   obtain rfl:=j
   obtain ⟨x,z,e1,e2,e3⟩:=H i hi
   have e1:=V6 (h:=‹Hp›) e1
   have e2:=V6 (h:=‹Hp›) e2
   exact ⟨_,some (.int i),by exact V8 [0,0,0] fun R=>R _ e1 _ e2 _ _ e3,rfl⟩) rfl
 have r1:-(lim:Int)≤(xs.length:Int):=by exact Int.neg_natCast_le_natCast lim xs.length
 have r2:(xs.length:Int)≤lim:=by lia
 have le:((xs.length:Nat):Int) = xs.length:=rfl
 exact via [0,0,0,0,0,0,0,0,0,0,0,0,0] fun R=>R _ D.n _ D.b _ D.s _ D.i _ D.p _ G.p _ D.l _ _ lg _ _ ld _ (b4Y le) _ _ ld _ _ (M4 _ _ r1 r2) _ _ lq
theorem a7J:a9 prog (n + 1) 45 [.bool true,.bool true] h = .ok (.bool true) h:=rfl
theorem a0m (t:b9):a9 prog (n + 2) 45 [.tup [.str t,.bool true],.tup [.str t,.bool true]] h = .ok (.bool true) h :=
 a0O _ (Nat.le_trans (by simp:_≤2) (by decide)) fun x hx=>by
  simp only [List.mem_cons,List.not_mem_nil,or_false] at hx
  rcases hx with rfl|rfl
  ·exact N4 _
  ·exact a7J
theorem b3c (K:Bk) (t:b9):b1t (tri K t):=.tup (Nat.le_trans (by simp:_≤3) (by decide)) fun x hx=>by
 simp only [List.mem_cons,List.not_mem_nil,or_false] at hx
 rcases hx with rfl|rfl|rfl
 ·exact .int _
 ·exact .str _
 ·exact .int _
theorem a7L (k:Rok w r m K) {x:b9} {p a v p' a' v':Nat} {t:b9} (e1:h[p]? = some (.list (K.b.T.map (tri K)))) (e2:h[a]? = some (.list (o0 (nmS K)))) (e3:h[v]? = some (.list (a2U K x))) (e1':h[p']? = some (.list (K.b.T.map (tri K)))) (e2':h[a']? = some (.list (o0 (nmS K)))) (e3':h[v']? = some (.list (a2U K x))) :
  a9 prog (n + 5) 45 [.tup [.ref p,.ref a,.ref v,.str t],.tup [.ref p',.ref a',.ref v',.str t]] h = .ok (.bool true) h:=by
 have b1:=T4 (n:=n) e1 e1' (by rw [List.length_map];have:=k.tl;lia) fun x hx=>by
  obtain ⟨t,_,rfl⟩:=List.mem_map.mp hx
  exact b3c K t
 have b2:=T4 (n:=n) e2 e2' (by rw [List.length_map];have:=a1M k;lia) fun x hx=>by
  obtain ⟨t,_,rfl⟩:=List.mem_map.mp hx
  exact .flat (.str t)
 have b3:=T4 (n:=n) e3 e3' (by rw [List.length_map];have:=V5 k x;lia) fun x hx=>by
  obtain ⟨q,_,rfl⟩:=List.mem_map.mp hx
  exact .flat (.int _)
 have b4:=N4 (n:=n + 3) (h:=h) t
 refine a9T (by simp) rfl fun i hi=>?_
 match i,hi with
 | 0,_=>exact ⟨_,_,rfl,rfl,b1⟩
 | 1,_=>exact ⟨_,_,rfl,rfl,b2⟩
 | 2,_=>exact ⟨_,_,rfl,rfl,b3⟩
 | 3,_=>exact ⟨_,_,rfl,rfl,b4⟩
end Mine.PL
namespace Mine.PL
variable {n m:Nat} {h h0:Hp} {o w r B:Nat} {K:Bk} {dd:b9→Nat}
noncomputable def a2s (o w r:Nat):Hp:=[shI o w r,stI o 0,.dict (some 0) [],.dict (some 0) [],.dict (some 0) [],.dict (some 0) [],.dict (some 0) []]
noncomputable def K0:Bk:=⟨[],⟨[],fun _=>0,0⟩,fun _=>0,[]⟩
theorem b9p:Rok w r 0 K0 where
 nu:=⟨List.nodup_nil,List.Pairwise.nil,fun _ h=>(nomatch h)⟩
 ndM:=List.nodup_nil
 ndR:=List.nodup_nil
 parts:=fun _ h=>(nomatch h)
 tin:=fun _ h=>(nomatch h)
 nm:=fun _ h=>(nomatch h)
 name:=fun _ h=>(nomatch h)
 asc:=fun _=>List.Pairwise.nil
 ver:=fun _ h=>(nomatch h)
 g0:=fun _ _=>rfl
 uniq:=fun _ h=>(nomatch h)
 pcs:=fun _ h=>(nomatch h)
 good:=fun _ h=>(nomatch h)
 xlen:=fun _ h=>(nomatch h)
 plen:=fun _ h=>(nomatch h)
 tlen:=Nat.zero_le _
 nlen:=Nat.zero_le _
 rlen:=rfl
 m101:=Nat.zero_le _
 num:=⟨Int.le_refl _,Int.le_refl _,fun _ h=>(nomatch h)⟩
 gm:=fun _=>Nat.le_refl _
 v0:=fun _ h=>(nomatch h)
theorem b0Y (w1:1≤w) (w8:w≤8) (r1:1≤r) (r40:r≤40):b1q ⟨prog,a9 prog (n + 4)⟩ 1 [.int w,.int r] [] = .ok (.ref 0) (a2s 0 w r):=by
 have q:exs ⟨prog,a9 prog (n + 3)⟩ (X0.body.drop 1) [.inst 1 (List.replicate 9 none)] [some (.ref 0),some (.int w),some (.int r)] = .next (a2s 0 w r) [some (.ref 0),some (.int w),some (.int r)]:=by kernel_rfl
 have e:a9 prog (n + 4) 15 [.ref 0,.int w,.int r] [.inst 1 (List.replicate 9 none)] = .ok .none (a2s 0 w r):=by
  have a:=b1A (n:=n + 1) (h:=[.inst 1 (List.replicate 9 none)]) w1 w8 r1 r40
  generalize [AO.inst 1 (List.replicate 9 none)] = H1 at a q ⊢
  exact via [0,2000] fun R=>R _ _ a _ _ q
 exact congrArg (fun o=>Out.bind o fun r h'=>ifO (isN r) (.ok (AV.ref 0) h')) e
theorem sh0:Sh (a2s 0 w r) 0 w r 7 K0 fun _=>0 :=
 { inst:=rfl,rows:=⟨0,rfl⟩,last:=⟨0,rfl⟩,inner:=fun _ h=>(nomatch h),inj:=fun _ h=>(nomatch h),st:=⟨rfl,⟨0,rfl⟩,⟨0,rfl⟩,⟨0,rfl⟩⟩ }
end Mine.PL
namespace Mine.PL
variable {n m:Nat} {h h0:Hp} {o w r B:Nat} {K:Bk} {dd:b9→Nat}
theorem a2D {α:Type} [DecidableEq α]:∀ {l m:List α},l.Nodup→(∀ x∈l,x∈m)→l.length≤m.length
 | [],_,_,_=>Nat.zero_le _
 | a :: l,m,nd,q=>by
  have nd:=List.nodup_cons.mp nd
  have ha:=q a List.mem_cons_self
  have:=a2D (m:=m.erase a) nd.2 fun x hx=>(List.mem_erase_of_ne (fun e:x = a=>nd.1 (e▸hx))).mpr (q x (List.mem_cons_of_mem _ hx))
  have e:=List.length_erase_of_mem ha
  have p:=List.length_pos_of_mem ha
  rw [List.length_cons];lia
structure Kp (h:Hp) (w r i:Nat) (K:Bk) (dd:b9→Nat) (t:b9) (nms:List b9) (x0:b9) (ln:Nat):Prop where
 s:Sh h 0 w r 7 K dd
 k:Rok w r i K
 tx:∀ q∈K.R,q.text = t
 nm:∀ x∈K.NM,x∈nms
 l:h[ln]? = some (.list (o0 nms))
 l7:7≤ln
 all:∀ v,1≤v→v≤K.G x0→∃ q∈K.R,q.name = x0∧q.ver = v
 g:K.G x0 = (i + 3) / 4
 gy:∀ y,y≠x0→K.G y + K.G x0≤i
variable {i ln:Nat} {t x0 x:b9} {nms:List b9}
theorem Kp.grow (J:Kp h w r i K dd t nms x0 ln) {h':Hp} (G:d9 h h'):Kp h' w r i K dd t nms x0 ln:={ J with s:=J.s.grow G,l:=G.get J.l }
theorem Kp.pcs (J:Kp h w r i K dd t nms x0 ln) {q:Rw} (hq:q∈K.R):q.parts = i7 t w r:=by rw [J.k.pcs q hq,J.tx q hq]
theorem Kp.sml (J:Kp h w r i K dd t nms x0 ln) (tl:t.length < 60) (r1:1≤r):Sml K:=fun q hq=>by
 rw [J.pcs hq,J.tx q hq]
 exact ⟨Nat.le_of_lt tl,Nat.le_trans (G0 t w r1) (Nat.le_of_lt tl)⟩
theorem Kp.few (J:Kp h w r i K dd t nms x0 ln) (tl:t.length < 60) (r1:1≤r):K.b.T.length≤60:=Nat.le_trans (a2D J.k.nu.nd fun x hx=>by
  obtain ⟨q,hq,e⟩:=J.k.tin x hx
  rw [← J.pcs hq];exact e) (Nat.le_trans (G0 t w r1) (Nat.le_of_lt tl))
theorem a8e {h':Hp} {K':Bk} {dd':b9→Nat} {l:Nat} {xs:List AV} (s:Sh h o w r B K dd) (M:Mv h h' o K K' dd dd') (e:h[l]? = some (.list xs)) (l7:o + 7≤l):h'[l]? = some (.list xs):=by
 refine M.kg.get e fun z=>?_
 rcases z with z|z
 ·have:=z.2;lia
 ·obtain ⟨x,hx,rfl⟩:=z
  obtain ⟨_,ep,e'⟩:=s.inner x hx
  rw [e] at e';cases e'
theorem Kp.step (J:Kp h w r i K dd t nms x0 ln) (hi:i < 100) (hx:x∈nms) (n7:nms.length≤7) (ok:s6 x) (tg:∀ c∈t,good c) (tl:t.length < 60) (w8:w≤8) (r1:1≤r) (r40:r≤40) (fx:x = x0↔i % 4 = 0) :
  ∃ h' K' dd',a9 prog (n + 5) 21 [.ref 0,.str x,.str t] h = .ok (.int ((K.G x:Int) + 1)) h'∧Kp h' w r (i + 1) K' dd' t nms x0 ln:=by
 obtain ⟨h',dd',e,S,M⟩:=a1T (n:=n) (x:=x) (t:=t) J.s J.k (Nat.le_refl _) (Nat.le_trans J.l7 (Nat.le_of_lt (a3j J.l))) hi ok tg (by lia) w8 r1 r40
 have nm':∀ y∈A0 K.NM x,y∈nms:=fun y hy=>(r9.mp hy).elim (J.nm y) fun z=>z▸hx
 have k':=J.k.put (x:=x) (t:=t) ok tg (by lia) (by have:=J.few tl r1;lia) r1 (by lia) (Nat.le_trans (a2D (Y9 J.k.ndM) nm') n7)
 have g:=J.g
 refine ⟨h',_,dd',e,S,k',fun q hq=>?_,nm',a8e J.s M J.l J.l7,J.l7,fun v v1 hv=>?_,?_,fun y ne=>?_⟩
 ·rcases List.mem_append.mp (show q∈K.R ++ [X9 K x t (i7 t w r)] from hq) with hq|hq
  ·exact J.tx q hq
  ·rw [List.mem_singleton.mp hq]
 ·have hv:v≤if x0 = x then K.G x0 + 1 else K.G x0:=hv
  by_cases z:v≤K.G x0
  ·obtain ⟨q,hq,a⟩:=J.all v v1 z
   exact ⟨q,List.mem_append_left _ hq,a⟩
  ·by_cases y:x0 = x
   ·rw [if_pos y] at hv
    exact ⟨X9 K x t (i7 t w r),List.mem_append_right _ (List.mem_singleton.mpr rfl),y.symm,by show K.G x + 1 = v;rw [← y];lia⟩
   ·rw [if_neg y] at hv;exact absurd hv z
 ·show (if x0 = x then K.G x0 + 1 else K.G x0) = _
  by_cases y:x0 = x
  ·have:=fx.mp y.symm
   rw [if_pos y];lia
  ·have:¬ i % 4 = 0:=fun z=>y (fx.mpr z).symm
   rw [if_neg y];lia
 ·have a:=J.gy y ne
  show (if y = x then K.G y + 1 else K.G y) + (if x0 = x then K.G x0 + 1 else K.G x0)≤_
  by_cases z:y = x
  ·rw [if_pos z,if_neg fun e=>ne (z.trans e.symm)];lia
  ·rw [if_neg z];split<;>lia
end Mine.PL
namespace Mine.PL
variable {n m:Nat} {h h0:Hp} {o w r B:Nat} {K:Bk} {dd:b9→Nat}
noncomputable abbrev lV (ns:List Int) (ln:Nat) (x0 t:b9) (fu:Bool) (y:Option AV):Vs:=[some (.scr ns),some (.ref 0),some (.ref ln),some (.str x0),some (.str t),some (.bool fu),y,none,none,none,none]
theorem b0o {ns:List Int} {ln c:Nat} {x0 t:b9} {nms:List b9} {fu:Bool} (J:Kp h w r 0 K dd t nms x0 ln) (hc:c≤100) (n7:nms.length = 7) (f0:nms[0]? = some x0) (ne:∀ k,1≤k→k < 4→nms[k]?≠nms[0]?) (ok:∀ x∈nms,s6 x) (tg:∀ c∈t,good c) (tl:t.length < 60) (w8:w≤8) (r1:1≤r) (r40:r≤40) :
  Nx (lV ns ln x0 t fu) (fun h' _=>∃ K' dd',Kp h' w r c K' dd' t nms x0 ln) (t5 (some (.fixed (ups 0 c))) (r6 ⟨prog,a9 prog (n + 5)⟩ 6 (u8 q9.body 5)) (h,lV ns ln x0 t fu none)) :=
 R2 (J:=fun i h' _=>∃ K' dd',Kp h' w r i K' dd' t nms x0 ln) (fun i h1 y hi ⟨K1,dd1,J1⟩=>by
  have m4:=Nat.mod_lt i (show 0 < 4 by decide)
  have h4:i % 4 < nms.length:=by rw [n7];exact Nat.lt_of_lt_of_le m4 (by decide)
  have md:=a3g (h:=h1) (show (i:Int) % 4 = ((i % 4:Nat):Int) from rfl) (by decide)
  have ix:w4 (.ref ln) (.int ((i % 4:Nat):Int)) h1 = some (.str nms[i % 4]):=g7 _ J1.l (g9 (by rw [List.length_map];exact h4)) (by rw [List.getElem?_map,List.getElem?_eq_getElem h4];rfl)
  have m11:=d7 (m:=11) (f:=21) J1.s.inst rfl
  have hm:=List.getElem_mem h4
  have at4:=List.getElem?_eq_getElem h4
  obtain ⟨h2,K2,dd2,e2,J2⟩:=J1.step (n:=n) (x:=nms[i % 4]) (by lia) hm (Nat.le_of_eq n7) (ok _ hm) tg tl w8 r1 r40 ⟨fun z=>Classical.byContradiction fun y=>ne _ (Nat.pos_of_ne_zero y) m4 (by rw [at4,z,f0]),fun z=>Option.some.inj (at4.symm.trans ((congrArg (nms[·]?) z).trans f0))⟩
  exact ⟨h2,some (.int i),by exact V8 [0,0,0,0] fun R=>R _ m11 _ _ md _ ix _ _ e2,K2,dd2,J2⟩) ⟨K,dd,J⟩
inductive Rd (h:Hp) (w r i:Nat) (K:Bk) (dd:b9→Nat) (x0 t:b9):Prop
 | mk (q:Rw):Rdy h 0 w r 7 i K dd q→q.name = x0→q.text = t→q.ver = 1→Rd h w r i K dd x0 t
theorem Kp.rdy {i ln:Nat} {t x0:b9} {nms:List b9} (J:Kp h w r i K dd t nms x0 ln) (hi:0 < i) (r1:1≤r) (tl:t.length < 60):Rd h w r i K dd x0 t:=by
 obtain ⟨q,hq,qn,qv⟩:=J.all 1 (Nat.le_refl _) (by have:=J.g;lia)
 have qt:=J.tx q hq
 refine ⟨q,⟨J.s,J.k,r1,hq,by rw [qv];rfl,fun j hj p hp pn e=>?_,by rw [qt];exact tl⟩,qn,qt,qv⟩
 have a:=J.k.v0 p hp
 have b:=J.k.ver p hp
 have c:=J.k.gm p.name
 have d:=J.k.m101
 lia
end Mine.PL
namespace Mine.PL
variable {n m:Nat} {h:Hp} {o w r B:Nat} {K:Bk} {dd:b9→Nat} {b:Sb}
noncomputable abbrev tru (_:Int):AV:=.bool true
theorem b2n (l:List Int) (nd:l.Nodup) (a:Int):y8 (mk .int tru l) (.int a) (.bool true) = mk .int tru (A0 l a):=by
 by_cases z:a∈l
 ·rw [I8 z]
  exact a1K AV.int tru (.int a) tru a ((w0 _ _).mpr rfl) l nd z (fun x _ q=>(w0 _ _).mp q) fun _ _ _=>rfl
 ·rw [a6B z,Z8 _ _ _ _ l fun x hx=>a0M fun q=>z ((w0 x a).mp q▸hx),mk,mk,List.map_append]
  rfl
noncomputable abbrev b3n (ns:List Int):List Int:=Q8 [] ns
theorem b0r {ns:List Int} (q:ns.length≤3000):a2c h (a9 prog (n + 1) 36 [.tup (ns.map .int)] h) ((b3n ns).map .int):=by
 have nd:=U4 h
 obtain ⟨h1,vs1,e1,G1,⟨ep,d1⟩,y,rfl⟩:=a7y (x:=2) ns AV.int (C:=⟨prog,a9 prog n⟩) (body:=u8 a0f.body 1) (h:=h ++ [.dict (some 0) []]) (vs:=[some (.tup (ns.map .int)),some (.ref h.length),none])
  (fun pre h' vs=>d9 h h'∧(∃ ep,h'[h.length]? = some (.dict (some ep) (mk .int tru (b3n pre))))∧∃ y,vs = [some (.tup (ns.map .int)),some (.ref h.length),y]) ⟨d9.app _ _,⟨0,f5 _ _⟩,none,rfl⟩ (by
  rintro pre a h' _ hp ha ⟨G,⟨ep,d⟩,y,rfl⟩
  obtain ⟨ep',s⟩:=P9 (v:=.int a) (w:=.bool true) d (V2 (b:=false) _ _ _ (fun _=>rfl) rfl) (A6 _ _ (Nat.lt_of_le_of_lt (a0s pre []) (by show 0 + _ < _;lia)))
  rw [b2n _ (P0 _ _ List.nodup_nil),show A0 (b3n pre) a = b3n (pre ++ [a]) from (a5Y [] pre [a]).symm] at s
  exact ⟨_,[some (.tup (ns.map .int)),some (.ref h.length),some (.int a)],by exact J8 [0] fun R=>R _ _ s,⟨by rw [List.length_set];exact G.1,fun j hj=>(o3 (Nat.ne_of_gt hj)).trans (G.2 j hj)⟩,⟨ep',B7 d⟩,_,rfl⟩)
 have b1:=a1N (a1R d1) (P2 (Nat.le_trans (a0s ns []) (by show 0 + _≤_;lia)))
 refine .of G1 ?_
 exact via [0,0,0] fun R=>R _ _ nd _ _ e1 _ _ b1
noncomputable def a0T (q x:Rw):Bool:=decide (x.name≠q.name∨x.ver≠q.ver)
theorem a0R (q:Rw):a0T q q = false:=decide_eq_false fun z=>z.elim (fun z=>z rfl) fun z=>z rfl
theorem a5c (k:Rok w r m K) {q x:Rw} (hq:q∈K.R) (hx:x∈K.R) (ne:x≠q):a0T q x = true :=
 decide_eq_true (Classical.byContradiction fun z=>ne (k.uniq x hx q hq (Classical.byContradiction fun y=>z (.inl y)) (Classical.byContradiction fun y=>z (.inr y))))
theorem a0Z {α:Type} (f p:α→Bool) (q:α) (pq:p q = false):∀ l:List α,l.Nodup→q∈l→(∀ x∈l,x≠q→p x = true)→(l.filter f).length = ((l.filter p).filter f).length + if f q then 1 else 0
 | [],_,m,_=>nomatch m
 | a :: r,nd,m,u=>by
  have nd:=List.nodup_cons.mp nd
  by_cases e:a = q
  ·subst e
   rw [List.filter_cons_of_neg (p:=p) (by rw [pq];exact Bool.false_ne_true),List.filter_eq_self.mpr fun x hx=>u x (List.mem_cons_of_mem _ hx) fun e=>nd.1 (e▸hx)]
   cases z:f a with
   | true=>rw [List.filter_cons_of_pos z];rfl
   | false=>rw [List.filter_cons_of_neg (by rw [z];exact Bool.false_ne_true)];rfl
  ·have ih:=a0Z f p q pq r nd.2 ((List.mem_cons.mp m).elim (fun z=>absurd z.symm e) id) fun x hx=>u x (List.mem_cons_of_mem _ hx)
   rw [List.filter_cons_of_pos (p:=p) (u a List.mem_cons_self e)]
   cases z:f a with
   | true=>rw [List.filter_cons_of_pos z,List.filter_cons_of_pos z,List.length_cons,List.length_cons,ih];exact Nat.add_right_comm _ _ _
   | false=>rw [List.filter_cons_of_neg (by rw [z];exact Bool.false_ne_true),List.filter_cons_of_neg (by rw [z];exact Bool.false_ne_true),ih]
noncomputable abbrev R' (K:Bk) (q:Rw):List Rw:=K.R.filter (a0T q)
theorem a6Q (k:Rok w r m K) {q:Rw} (hq:q∈K.R) (t:b9):cT K.R t = cT (R' K q) t + if t∈q.parts then 1 else 0:=by
 unfold cT
 rw [a0Z (fun r=>decide (t∈r.parts)) (a0T q) q (a0R q) K.R k.ndR hq fun x hx=>a5c k hq hx]
 by_cases z:t∈q.parts
 ·rw [decide_eq_true z,if_pos z];rfl
 ·rw [decide_eq_false z,if_neg z];rfl
theorem b7f {R:List Rw} {t:b9} {x:Rw} (hx:x∈R) (ht:t∈x.parts):0 < cT R t:=Int.natCast_pos.mpr (List.length_pos_iff_exists_mem.mpr ⟨x,List.mem_filter.mpr ⟨hx,decide_eq_true ht⟩⟩)
noncomputable abbrev drK (K:Bk) (q:Rw):Bk:=⟨R' K q,K.b,K.G,K.NM⟩
theorem Rok.drop (k:Rok w r (m + 1) K) {q:Rw} (hq:q∈K.R) (hp:∀ t∈K.b.T,∃ x∈R' K q,t∈x.parts) (gm:∀ x,K.G x≤m):Rok w r m (drK K q):=by
 have sb:∀ {x},x∈R' K q→x∈K.R:=fun m=>(List.mem_filter.mp m).1
 exact { k with
     ndR:=k.ndR.filter _
     parts:=fun r hr=>k.parts r (sb hr)
     tin:=hp
     nm:=fun r hr=>k.nm r (sb hr)
     asc:=fun x=>(k.asc x).sublist (List.Sublist.map _ (List.filter_sublist.filter _))
     ver:=fun r hr=>k.ver r (sb hr)
     uniq:=fun r hr r' hr'=>k.uniq r (sb hr) r' (sb hr')
     pcs:=fun r hr=>k.pcs r (sb hr)
     good:=fun r hr=>k.good r (sb hr)
     xlen:=fun r hr=>k.xlen r (sb hr)
     plen:=fun r hr=>k.plen r (sb hr)
     rlen:=by
      have:=a0Z (fun _=>true) (a0T q) q (a0R q) K.R k.ndR hq fun x hx=>a5c k hq hx
      rw [t9,t9,k.rlen] at this
      exact (Nat.succ.inj this).symm
     m101:=Nat.le_of_succ_le k.m101
     gm:=gm
     v0:=fun r hr=>k.v0 r (sb hr) }
theorem St.congr {c c':b9→Int} (S:St h o b c) (q:∀ x∈b.T,c x = c' x):St h o b c':=by
 refine ⟨S.inst,S.kept,S.many.imp fun _ e=>e.trans ?_,S.known⟩
 rw [show PL.mk b.k (fun x=>.int (c x)) b.T = PL.mk b.k (fun x=>.int (c' x)) b.T from List.map_congr_left fun x hx=>congrArg (fun i=>(b.k x,AV.int i)) (q x hx)]
noncomputable def cF (c:b9→Int) (b:Sb) (pre:List Int) (t:b9):Int:=if b.ν t∈pre then c t - 1 else c t
theorem b0l {c:b9→Int} {fs:List (Option AV)} {ns:List Int} {a:Nat} {x3:Option AV} {nm nu:AV} (hi:h[o]? = some (.inst 1 fs)) (hf:fs[6]? = some (some (.ref (o + 1)))) (nb:Nu b) (hT:b.T.length < 100000) (S:St h o b c) (nn:ns.Nodup) (hn:∀ i∈ns,∃ t∈b.T,b.ν t = i∧c t≠1) (ha:h[a]? = some (.list (ns.map .int))) (la:o + 5≤a) :
  Nx (fun y=>[some (.ref o),some nm,some nu,x3,y]) (fun h' _=>St h' o b (cF c b ns)∧Kg (z9 o) h h') (t5 (z5 h (.ref a)) (r6 ⟨prog,a9 prog (n + 3)⟩ 4 (u8 L9.body 3)) (h,[some (.ref o),some nm,some nu,x3,none])):=by
 have nS:¬ z9 o o:=fun z=>Nat.not_lt.mpr (Nat.le_refl _) z.1
 have nA:¬ z9 o a:=fun z=>by have:=z.2;lia
 have:=Q0 (x:=4) (C:=⟨prog,a9 prog (n + 3)⟩) (b:=u8 L9.body 3) (V:=fun _ y=>[some (.ref o),some nm,some nu,x3,y]) (y:=none) (J:=fun i h' _=>St h' o b (cF c b (ns.take i))∧Kg (z9 o) h h') ha (fun _ _ _ j=>j.2.get ha nA) (fun i v h' y hv j=>by
  obtain ⟨S',K'⟩:=j
  obtain ⟨t,ht,rfl,c1⟩:=hn v (List.mem_of_getElem? hv)
  have tk:=N9 hv
  have hp:b.ν t∉ns.take i:=fun z=>by
   have nn:=nn.sublist (List.take_sublist (i + 1) ns)
   rw [tk] at nn
   exact (List.nodup_append.mp nn).2.2 _ z _ (List.mem_singleton.mpr rfl) rfl
  obtain ⟨h2,e2,S2,K2⟩:=b4r (n:=n) S' nb hT ht (by unfold cF;rw [if_neg hp];exact c1)
  have e2:a9 prog (n + 3) 42 [.ref (o + 1),.int (b.ν t)] h' = .ok .none h2:=e2
  have a6:=A9 (a:=6) (v:=.ref (o + 1)) (K'.get hi nS) hf
  have m16:=B6 (m:=16) (f:=42) S'.inst rfl
  refine ⟨h2,some (.int (b.ν t)),by exact V8 [0,0,0] fun R=>R _ a6 _ m16 _ _ e2,S2.congr fun x hx=>?_,K'.trans K2⟩
  unfold a2l cF
  rw [tk]
  by_cases z:x = t
  ·subst z
   rw [if_pos rfl,if_neg hp,if_pos (List.mem_append.mpr (.inr (List.mem_singleton.mpr rfl)))]
  ·rw [if_neg z]
   by_cases y:b.ν x∈ns.take i
   ·rw [if_pos y,if_pos (List.mem_append.mpr (.inl y))]
   ·rw [if_neg y,if_neg fun m=>(List.mem_append.mp m).elim y fun m=>z (nb.inj hx ht (List.mem_singleton.mp m))]) ⟨S.congr fun x _=>(if_neg List.not_mem_nil).symm,Kg.refl _ _⟩
 rw [List.take_length] at this
 exact this
theorem b3t (q:Rw) (x:b9):byN (R' K q) x = (byN K.R x).filter (a0T q):=by
 unfold byN
 rw [List.filter_filter,List.filter_filter]
 exact List.filter_congr fun _ _=>Bool.and_comm _ _
theorem b2S (b:Sb) (ps:List b9):a1z b ps = (ps.map b.ν).map .int:=(List.map_map ..).symm
theorem b4Q (s:Sh h o w r B K dd) (k:Rok w r m K) (hB:o + 7≤B) {q:Rw} (hq:q∈K.R) (c1:∀ t∈q.parts,cT K.R t≠1) :
  ∃ h',a9 prog (n + 4) 43 [.ref o,.str q.name,.int q.ver] h = .ok .none h'∧Sh h' o w r B (drK K q) dd∧h.length≤h'.length:=by
 have hx:=k.nm q hq
 obtain ⟨h1,h2,m3,e1,m7,e2,G2⟩:=a1n (n:=n + 1) s k hq
 have s2:=s.grow G2
 have a7:=C9 s2.inst
 have ix:=s2.idx hx
 obtain ⟨dB,ep,di⟩:=s2.inner _ hx
 have kd:=U8 di
 have px:∀ x∈byN K.R q.name,x≠q→a0T q x = true:=fun x hx=>a5c k hq (o4.mp hx).1
 have po:=b7c (v:=.int q.ver) di (a8X _) (Nat.lt_of_le_of_lt (V5 k _) (by decide)) (k.ndR.filter _) q ((w0 _ _).mpr rfl) (o4.mpr ⟨hq,rfl⟩) (fun x hx z=>k.uniq x (o4.mp hx).1 q hq (o4.mp hx).2 (Int.ofNat.inj ((w0 _ _).mp z))) (a0T q) (a0R q) px
 have K3:=Kg.set (S:=fun l=>l = dd q.name) h2 (dd q.name) (.dict (some (ep + 1)) (vE K.b ((byN K.R q.name).filter (a0T q)))) rfl
 have d3:=B7 (x:=.dict (some (ep + 1)) (vE K.b ((byN K.R q.name).filter (a0T q)))) di
 have po:bmA Bm.pop (.ref (dd q.name)) [.int q.ver] h2 = .ok (.tup (a1z K.b q.parts)) (h2.set (dd q.name) (.dict (some (ep + 1)) (vE K.b ((byN K.R q.name).filter (a0T q))))):=po
 generalize h2.set (dd q.name) (.dict (some (ep + 1)) (vE K.b ((byN K.R q.name).filter (a0T q)))) = h3 at po K3 d3
 have ne:∀ l,l≤o + 6→¬ l = dd q.name:=fun l hl z=>by lia
 have i3:=K3.get s2.inst (ne _ (by lia))
 have S3:=s2.st.keep K3 fun l hl=>ne l (Nat.le_trans hl.2 (by lia))
 rw [b2S] at po
 obtain ⟨h4,a4,e4,G4,l4,d4⟩:=b0r (n:=n + 2) (h:=h3) (ns:=q.parts.map K.b.ν) (by rw [List.length_map];exact k.pl hq)
 have on:∀ i∈b3n (q.parts.map K.b.ν),∃ t∈K.b.T,K.b.ν t = i∧cT K.R t≠1:=fun i hi=>by
  obtain ⟨t,ht,e⟩:=List.mem_map.mp ((A8.mp hi).elim (fun z=>nomatch z) id)
  exact ⟨t,k.parts q hq t ht,e,c1 t ht⟩
 have len3:o + 6 < h3.length:=by
  obtain ⟨_,e⟩:=s2.last
  exact a3j (K3.get e (ne _ (Nat.le_refl _)))
 obtain ⟨h5,y,e5,S5,K5⟩:=b0l (n:=n) (nm:=.str q.name) (nu:=.int q.ver) (x3:=some (.tup ((q.parts.map K.b.ν).map .int))) (G4.get i3) rfl k.nu (by have:=k.tl;lia) (S3.keep (S:=fun _=>False) (Kg.of G4) fun _ _=>id) (P0 _ _ List.nodup_nil) on d4 (by lia)
 have nin:∀ x∈K.NM,¬ z9 o (dd x):=fun x hx z=>by
  have:=(s.inner x hx).1
  have:=z.2
  lia
 have S6:St h5 o K.b (cT (R' K q)):=S5.congr fun t ht=>by
  unfold cF
  rw [a6Q k hq t]
  by_cases z:t∈q.parts
  ·rw [if_pos (A8.mpr (.inr (List.mem_map.mpr ⟨t,z,rfl⟩))),if_pos z];exact Int.add_sub_cancel _ _
  ·rw [if_neg fun y=>z ?_,if_neg z]
   ·exact Int.add_zero _
   ·obtain ⟨t',h1,e⟩:=List.mem_map.mp ((A8.mp y).elim (fun z=>nomatch z) id)
    exact k.nu.inj (k.parts q hq t' h1) ht e▸h1
 have s5:∀ x∈K.NM,B≤dd x∧∃ ep,h5[dd x]? = some (.dict (some ep) (vE K.b (byN (R' K q) x))):=fun x hx'=>by
  refine ⟨(s.inner x hx').1,?_⟩
  rw [b3t]
  by_cases z:x = q.name
  ·subst z
   exact ⟨ep + 1,K5.get (G4.get d3) (nin _ hx')⟩
  ·obtain ⟨_,ep2,e⟩:=s2.inner x hx'
   rw [List.filter_eq_self.mpr (show ∀ y∈byN K.R x,a0T q y = true from fun y hy=>decide_eq_true (.inl fun e=>z ((o4.mp hy).2.symm.trans e)))]
   exact ⟨ep2,K5.get (G4.get (K3.get e fun e=>z (s.inj x hx' _ hx e))) (nin _ hx')⟩
 have gt:∀ {l:Nat} {ob:AO},h2[l]? = some ob→l≤o + 6→¬ z9 o l→h5[l]? = some ob:=fun e z y=>K5.get (G4.get (K3.get e (ne _ z))) y
 refine ⟨h5,?_,⟨⟨gt s2.inst (by lia) fun z=>by have:=z.1;lia,s2.rows.imp fun _ e=>gt e (by lia) fun z=>by have:=z.2;lia,s2.last.imp fun _ e=>gt e (Nat.le_refl _) fun z=>by have:=z.2;lia,s5,s.inj⟩,S6⟩,Nat.le_trans (Nat.le_trans G2.1 K3.1) (Nat.le_trans G4.1 K5.1)⟩
 generalize (q.parts.map K.b.ν).map AV.int = V at *
 exact via [0,0,0,0,0,0,0,0,0,0] fun R=>R _ m3 _ _ e1 _ m7 _ _ e2 _ a7 _ ix kd _ _ po _ _ e4 _ _ e5
end Mine.PL
namespace Mine.PL
variable {n m:Nat} {h:Hp} {o w r B:Nat} {K:Bk} {dd:b9→Nat}
theorem b0G {q:Rw} (s:Sh h o w r B K dd) (k:Rok w r m K) (hB:o + 7≤B) (hBl:B≤h.length) (hm:m < 100) (hq:q∈K.R) (xl:q.text.length≤60) (w8:w≤8) (r1:1≤r) (r40:r≤40) :
  ∃ v,Sw (a9 prog (n + 5) 32 [.ref o,.str q.name,.int q.ver,.int 0,.int 0,.str [97]] h) v h o w r B K (K.put q.name (97 :: q.text) (i7 (97 :: q.text) w r)) dd:=by
 obtain ⟨h0,h1,m3,n1,m7,n2,G1⟩:=a1n (n:=n + 2) s k hq
 have s1:=s.grow G1
 have m8:=d7 (m:=8) (f:=33) s1.inst rfl
 obtain ⟨h2,e2,G2⟩:=N0 (n:=n) s1 k r1 hq
 have s2:=s1.grow G2
 have st:a9 prog (n + 4) 28 [.int 0,.int 0,.int q.text.length] h2 = .ok (.bool true) h2:=X3 (n:=n + 2) (h:=h2) (a:=0) (b:=0) (Nat.le_refl _) (Nat.zero_le _)
 have m4:=d7 (m:=4) (f:=18) s2.inst rfl
 obtain ⟨ys,e3⟩:=a1J (n:=n + 1) (o:=o) (h:=h2) (t:=[97]) (fun x hx=>by rw [List.mem_singleton.mp hx];exact .inr (by decide)) (by decide)
 have G3:d9 h2 (h2 ++ ys):=d9.app _ _
 generalize h2 ++ ys = h3 at e3 G3
 have s3:=s2.grow G3
 have G:=(G1.trans G2).trans G3
 have a6:=H7 s3.inst
 have g3:=a1f s3.st.inst
 have m5:=d7 (m:=5) (f:=20) s3.inst rfl
 have l1:D9 (.str q.text) .none (.int 0) h3 = .ok (.str []) h3:=R9 h3 q.text (b:=0) (Nat.zero_le _)
 have l2:D9 (.str q.text) (.int 0) .none h3 = .ok (.str q.text) h3:=Y5 h3 q.text (a:=0) (Nat.zero_le _)
 have A1:=o7 h3 [] [97] (by decide)
 have A2:=o7 h3 [97] q.text (Nat.le_trans (Nat.add_le_add_left xl 1) (by decide))
 obtain ⟨h4,dd',e4,S4,K4⟩:=b3W (n:=n) (x:=q.name) (t:=97 :: q.text) s3 k hB (Nat.le_trans hBl G.1) hm (Nat.le_trans (Nat.succ_le_succ xl) (by decide)) w8 r1 r40
 have a6':=H7 S4.inst
 have g4:=a1f S4.st.inst
 exact ⟨_,h4,dd',by exact via [0,0,0,0,0,0,1,0,0,0,0,0,0,0,0,0,0,0,0] fun R=>R _ m3 _ _ n1 _ m7 _ _ n2 _ m8 _ _ e2 _ _ st _ m4 _ _ e3 _ a6 _ g3 _ m5 _ _ l1 _ _ A1 _ _ l2 _ _ A2 _ _ e4 _ a6' _ g4,S4,K4.pre G⟩
end Mine.PL
namespace Mine.PL
variable {n m:Nat} {h:Hp} {o w r B i ln:Nat} {K:Bk} {dd:b9→Nat} {t x0:b9} {nms:List b9} {ns:List Int} {fu:Bool} {cl:Nat→List AV→Hp→Out AV} {x6 x7 x8 x9 x10:Option AV}
theorem of9 (hc:a9 prog 9 = cl) {f:Nat} {as:List AV} {o:Out AV} (e:a9 prog 9 f as h = o):cl f as h = o:=hc▸e
structure Pm (w r:Nat) (t x0:b9):Prop where
 w8:w≤8
 r1:1≤r
 r40:r≤40
 tl:t.length < 60
 tg:∀ c∈t,good c
 ok:s6 x0
noncomputable abbrev Q6:b9:=[116,111,108,100]
theorem a8I {v y z:AV} {c:Nat} (m11:L6 prog h v 11 = some 21) (Z:Rf (n + 1) 21 [v,y,z] h c) (c6:c = 6∨c = 7):Gv (a9 prog (n + 2) 51 [v,y,z] h) (.tup [.str (R3 c),.bool true]) h:=by
 obtain ⟨h1,e1,G1⟩:=Z
 obtain ⟨h2,e2,G2⟩:=a9c (n:=n) (h:=h1) c (by lia) (by lia)
 refine ⟨h2,?_,G1.trans G2⟩
 rcases c6 with rfl|rfl
 ·exact a5a [0] [0,0] fun R=>R _ m11 _ e1 _ _ e2
 ·exact a5a [0] [0,0] fun R=>R _ m11 _ e1 _ _ e2
theorem a8D {v y z u:AV} {h':Hp} (m11:L6 prog h v 11 = some 21) (e:a9 prog (n + 1) 21 [v,y,z] h = .ok u h'):a9 prog (n + 2) 51 [v,y,z] h = .ok (.tup [.str Q6,u]) h':=by
 exact via [0,0] fun R=>R _ m11 _ _ e
theorem b0F {v y z u a:AV} {h':Hp} (e:a9 prog (n + 1) 40 [v,y,z,u] h = .ok a h'):a9 prog (n + 2) 41 [v,y,z,u] h = .ok (.tup [.str Q6,a]) h':=by
 exact via [0] fun R=>R _ _ e
theorem a1Y (t:b9):j5 .ne (.str t) (.str t) h = some false:=by
 show (j5 .eq (.str t) (.str t) h).map _ = _
 rw [a2v,decide_eq_true rfl];rfl
theorem a2u (j:Int):a9 prog (n + 3) 45 [.tup [.str Q6,.int j],.tup [.str Q6,.int j]] h = .ok (.bool true) h :=
 a0O _ (Nat.le_trans (by simp:_≤2) (by decide)) fun x hx=>by
  simp only [List.mem_cons,List.not_mem_nil,or_false] at hx
  rcases hx with rfl|rfl
  ·exact N4 _
  ·exact a4x _
noncomputable abbrev LV (ns:List Int) (ln:Nat) (x0 t:b9) (fu:Bool) (x6 x7 x8 x9 x10:Option AV):Vs:=[some (.scr ns),some (.ref 0),some (.ref ln),some (.str x0),some (.str t),some (.bool fu),x6,x7,x8,x9,x10]
noncomputable abbrev a0o (W:b9) (p a v:Nat):AV:=.tup [.ref p,.ref a,.ref v,.str W]
noncomputable abbrev b5x (c:Nat):AV:=.tup [.str (R3 c),.bool true]
theorem b8i (hc:a9 prog 9 = cl) (P:Pm w r t x0) (J:Kp h w r i K dd t nms x0 ln) (i0:0 < i) {way:Int} (hw:a8C way) {D:b9} (hD:R3 (cls way) = D) {W:b9} (hW:wrT K w r = W) {p a v:Nat} (d1:h[p]? = some (.list (K.b.T.map (tri K)))) (d2:h[a]? = some (.list (o0 (nmS K)))) (d3:h[v]? = some (.list (a2U K x0))) :
  Nx (LV ns ln x0 t fu x6 (some (.int way)) (some (a0o W p a v)) (some (.tup [.str D,.bool true]))) (fun h' _=>d9 h h') (t5 (some (.fixed (ups 0 2))) (r6 ⟨prog,cl⟩ 10 (u8 q9.body 9)) (h,LV ns ln x0 t fu x6 (some (.int way)) (some (a0o W p a v)) (some (.tup [.str D,.bool true])) none)) :=
 R2 (J:=fun _ h' _=>d9 h h') (fun j h1 y hj G=>by
  have J1:=J.grow G
  obtain ⟨q,Y,qn,qt,qv⟩:=J1.rdy i0 P.r1 P.tl
  obtain ⟨h2,e2,G2⟩:=a0K (n:=7) (b6l (n:=0) Y hw) (b3R way).1 (b3R way).2
  rw [qn,qt,hD] at e2
  have b2:=a0m (n:=7) (h:=h2) D
  have J2:=J1.grow G2
  obtain ⟨h3,p',a',v',e3,f1,f2,f3,G3⟩:=a8O (n:=3) J2.s J2.k (J2.sml P.tl P.r1) P.ok P.w8 P.r1 P.r40
  have GG:=(G.trans G2).trans G3
  have b3:=a7L (n:=4) J.k f1 f2 f3 (GG.get d1) (GG.get d2) (GG.get d3) (t:=W)
  have J3:=J2.grow G3
  have m12:=d7 (m:=12) (f:=34) J3.s.inst rfl
  obtain ⟨h4,e4,G4⟩:=V4 (n:=4) J3.s J3.k P.r1 Y.hq
  rw [qn,qv,qt] at e4
  have b4:=N4 (n:=8) (h:=h4) t
  have e4:a9 prog 9 34 [.ref 0,.str x0,.int 1] h3 = .ok (.str t) h4:=e4
  rw [hW] at e3
  exact ⟨h4,some (.int j),by
   have e2:=of9 hc e2
   have b2:=of9 hc b2
   have e3:=of9 hc e3
   have b3:=of9 hc b3
   have e4:=of9 hc e4
   have b4:=of9 hc b4
   clear hc
   exact V8 [1,0,0,0,0,0,0] fun R=>R _ _ e2 _ _ b2 _ _ e3 _ _ b3 _ m12 _ _ e4 _ _ b4,GG.trans G4⟩) (d9.refl _)
theorem b9t (hc:a9 prog 9 = cl) (P:Pm w r t x0) (J:Kp h w r 1 K dd t nms x0 ln) {l:Nat} (d:h[l]? = some (.list [.int 33,.int 42])) {y:Option AV} :
  Nx (fun y=>LV ns ln x0 t false x6 y x8 x9 x10) (fun h' _=>d9 h h') (t5 (z5 h (.ref l)) (r6 ⟨prog,cl⟩ 7 (u8 q9.body 10)) (h,LV ns ln x0 t false x6 y x8 x9 x10)) :=
 Q0 (l:=[33,42]) (κ:=AV.int) (V:=fun _ y=>LV ns ln x0 t false x6 y x8 x9 x10) (J:=fun _ h' _=>d9 h h') d (fun _ _ _ G=>G.get d) (fun j v h1 y hv G=>by
  have J1:=J.grow G
  obtain ⟨q,Y,qn,qt,qv⟩:=J1.rdy (by decide) P.r1 P.tl
  have g:b4z K q.name 2:=fun p hp pn e=>by
   have:=J.k.ver p hp
   have:=J.g
   rw [pn,qn] at *
   lia
  have key:Rf 8 40 [.ref 0,.int v,.str q.name,.int 2] h1 3:=by
   have hv:=List.mem_of_getElem? hv
   rcases List.mem_cons.mp hv with rfl|hv
   ·exact j0 (n:=0) (by decide) (b7X (n:=0) Y (S8 J1.s J1.k g))
   ·rw [List.mem_singleton.mp hv]
    exact j0 (n:=0) (by decide) (y0 (n:=0) (by decide) (b6c (n:=0) Y 2 (S8 J1.s J1.k g)))
  obtain ⟨h2,e2,G2⟩:=a0K (n:=7) key (by decide) (by decide)
  rw [qn] at e2
  have c:j5 .ne (b5x 3) (.tup [.str [110,111,116,32,116,104,101,114,101],.bool true]) h2 = some false:=rfl
  have e2:=of9 hc e2
  exact ⟨h2,some (.int v),by exact V8 [0,0] fun R=>R _ _ e2 _ c,G.trans G2⟩) (d9.refl _)
theorem b5W {l:Nat} (d:h[l]? = some (.list [.int 33,.int 42])) {y:Option AV} :
  Nx (fun y=>LV ns ln x0 t true x6 y x8 x9 x10) (fun h' _=>h' = h) (t5 (z5 h (.ref l)) (r6 ⟨prog,cl⟩ 7 (u8 q9.body 10)) (h,LV ns ln x0 t true x6 y x8 x9 x10)) :=
 Q0 (l:=[33,42]) (κ:=AV.int) (V:=fun _ y=>LV ns ln x0 t true x6 y x8 x9 x10) (J:=fun _ h' _=>h' = h) d (fun _ _ _ G=>by rw [G];exact d) (fun j v h1 y hv G=>⟨h1,some (.int v),by exact V8 [] fun R=>R,G⟩) rfl
end Mine.PL
namespace Mine.PL
variable {h:Hp} {w r ln:Nat} {K:Bk} {dd:b9→Nat} {t x0:b9} {nms:List b9} {ns:List Int} {cl:Nat→List AV→Hp→Out AV} {x6 x7 x9 x10:Option AV}
noncomputable abbrev a3D:List AV:=[.tup [.str Q6,.int 2],b5x 7]
theorem a1X (P:Pm w r t x0):∀ c∈t ++ [120],good c:=fun c hc=>(List.mem_append.mp hc).elim (P.tg c) fun z=>by rw [List.mem_singleton.mp z];exact .inr (by decide)
theorem a5g (P:Pm w r t x0):(t ++ [120]).length≤60:=by rw [List.length_append];exact P.tl
inductive Nw (h':Hp) (w r m:Nat) (K:Bk) (x u:b9):Prop
 | mk (K':Bk) (dd':b9→Nat) (q:Rw):Sh h' 0 w r 7 K' dd'→Rok w r (m + 1) K'→(∀ p∈K.R,p∈K'.R)→q∈K'.R→q.name = x→q.ver = K.G x + 1→q.text = u→K'.G x = K.G x + 1→K'.b.T.length≤K.b.T.length + u.length→x∈K'.NM→Nw h' w r m K x u
theorem nw {m:Nat} (P:Pm w r t x0) (k:Rok w r m K) (hm:m < 100) (nm:x0∈K.NM) {u:b9} (ug:∀ c∈u,good c) (ul:u.length≤3000) (tt:K.b.T.length≤3000) (S:Sh h 0 w r 7 (K.put x0 u (i7 u w r)) dd):Nw h w r m K x0 u :=
 ⟨_,dd,X9 K x0 u (i7 u w r),S,k.put (x:=x0) (t:=u) P.ok ug ul (Nat.le_trans (Nat.add_le_add tt ul) (by decide)) P.r1 (Nat.le_trans hm (by decide)) (by rw [I8 nm];exact k.nlen),fun p hp=>List.mem_append_left _ hp,List.mem_append_right _ (List.mem_singleton.mpr rfl),rfl,rfl,rfl,if_pos rfl,Nat.le_trans (a0t _ _) (Nat.add_le_add_left (G0 u w P.r1) _),r9.mpr (.inr rfl)⟩
theorem b2G (hc:a9 prog 9 = cl) (P:Pm w r t x0) (J:Kp h w r 100 K dd t nms x0 ln) {p a v:Nat} :
  ∃ h',exs ⟨prog,cl⟩ (q9.body.drop 10) h (LV ns ln x0 t true x6 x7 (some (a0o (wrT K w r) p a v)) x9 x10) = .ret (.bool true) h':=by
 have n1:=f8 h [.int 33,.int 42] (by decide)
 have G1:d9 h (h ++ [.list [.int 33,.int 42]]):=d9.app _ _
 have d1:=f5 h (.list [.int 33,.int 42])
 generalize h ++ [AO.list [.int 33,.int 42]] = h1 at n1 G1 d1
 obtain ⟨h1',y,e1,q1⟩:=b5W (cl:=cl) (ns:=ns) (ln:=ln) (x0:=x0) (t:=t) (x6:=x6) (x8:=some (a0o (wrT K w r) p a v)) (x9:=x9) (x10:=x10) (y:=x7) d1
 rw [q1] at e1
 have n2:=f8 h1 a3D (by decide)
 have G2:d9 h1 (h1 ++ [.list a3D]):=d9.app _ _
 have i2:=g7 (h1 ++ [.list a3D]) (f5 h1 (.list a3D)) (i:=1) (k:=1) rfl rfl
 generalize h1 ++ [AO.list a3D] = h2 at n2 G2 i2
 have J2:=J.grow (G1.trans G2)
 have li:1000≤lim:=by decide
 have tl:=P.tl
 have ad:∀ h,M2 .add (.str t) (.str [120]) h = .ok (.str (t ++ [120])) h:=fun h=>o7 h t [120] (by show _ + 1≤_;lia)
 have m11:=d7 (m:=11) (f:=21) J2.s.inst rfl
 obtain ⟨h3,e3,G3⟩:=a8I (n:=7) m11 (a2G (n:=4) J2.s P.ok (a1X P) (Nat.le_trans (a5g P) (by decide)) fun h' G=>a6f (n:=5) (J2.s.grow G) J2.k rfl (Nat.le_trans (a5g P) (by decide))) (.inr rfl)
 have b3:=a0m (n:=7) (h:=h3) (R3 7)
 have J3:=J2.grow G3
 obtain ⟨q,Y,qn,qt,qv⟩:=J3.rdy (by decide) P.r1 P.tl
 obtain ⟨h4,e4,G4⟩:=a0K (n:=7) (j0 (n:=0) (by decide) (y0 (n:=0) (by decide) (a9L (n:=0) Y rfl))) (by decide) (by decide)
 rw [qn] at e4
 have c4:j5 .ne (b5x 7) (.tup [.str [116,111,111,32,109,97,110,121],.bool true]) h4 = some false:=rfl
 have J4:=J3.grow G4
 obtain ⟨h5,e5,G5⟩:=a9h (n:=4) J4.s J4.k (J4.sml P.tl P.r1) P.w8 P.r1 P.r40
 have c5:=a1Y (h:=h5) (wrT K w r)
 have J5:=J4.grow G5
 have g:=J.g
 obtain ⟨q7,hq7,n7,v7⟩:=J.all 7 (by decide) (by lia)
 have hq1:q∈R' K q7:=List.mem_filter.mpr ⟨Y.hq,decide_eq_true (.inr (by rw [qv,v7];decide))⟩
 have pc:∀ {t},t∈q7.parts→t∈q.parts:=fun ht=>by rw [J.pcs Y.hq,← J.pcs hq7];exact ht
 obtain ⟨h6,e6,S6,l6⟩:=b4Q (n:=5) J5.s J5.k (Nat.le_refl _) hq7 fun t ht e=>by
  have:=a6Q J.k hq7 t
  have:=b7f hq1 (pc ht)
  rw [if_pos ht] at *
  lia
 have m21:=d7 (m:=21) (f:=43) J5.s.inst rfl
 rw [n7,v7] at e6
 have k6:=J.k.drop (m:=99) hq7 (fun t ht=>by
  obtain ⟨q',hq',e⟩:=J.k.tin t ht
  exact ⟨q,hq1,by rw [J.pcs Y.hq,← J.pcs hq'];exact e⟩) fun x=>by
  by_cases z:x = x0
  ·rw [z];lia
  ·have:=J.gy x z;lia
 have hl:7≤h6.length:=Nat.le_trans (Nat.le_trans J5.l7 (Nat.le_of_lt (a3j J5.l))) l6
 have tx:(t ++ [120]).length≤3000:=Nat.le_trans (a5g P) (by decide)
 obtain ⟨h7,_,e7,S7,_⟩:=a1T (n:=3) S6 k6 (Nat.le_refl _) hl (by decide) P.ok (a1X P) tx P.w8 P.r1 P.r40
 obtain ⟨K7,dd7,q8,S7,k7,_,hq8,n8,v8,t8,_,_,_⟩:=nw P k6 (by decide) (by rw [← n7];exact J.k.nm q7 hq7) (a1X P) tx (Nat.le_trans (J.few P.tl P.r1) (by decide)) S7
 have g6:(drK K q7).G x0 = 25:=g
 rw [g6] at e7 v8
 have e7:=a8D (n:=7) (d7 (m:=11) (f:=21) S6.inst rfl) e7
 have b7:=a2u (n:=6) (h:=h7) 26
 have m12:=d7 (m:=12) (f:=34) S7.inst rfl
 obtain ⟨h8,e8,_⟩:=V4 (n:=4) S7 k7 P.r1 hq8
 rw [n8,v8,t8] at e8
 have c8:j5 .eq (.str (t ++ [120])) (.str (t ++ [120])) h8 = some true:=by rw [a2v,decide_eq_true rfl]
 have e6:a9 prog 9 43 [.ref 0,.str x0,.int 7] h5 = .ok .none h6:=e6
 have e7:a9 prog 9 51 [.ref 0,.str x0,.str (t ++ [120])] h6 = .ok (.tup [.str Q6,.int 26]) h7:=e7
 have e8:a9 prog 9 34 [.ref 0,.str x0,.int 26] h7 = .ok (.str (t ++ [120])) h8:=e8
 have i5:w4 (a0o (wrT K w r) p a v) (.int 3) h5 = some (.str (wrT K w r)):=rfl
 generalize wrT K w r = W at *
 generalize t ++ [120] = U at *
 have e3:=of9 hc e3
 have b3:=of9 hc b3
 have e4:=of9 hc e4
 have e5:=of9 hc e5
 have e6:=of9 hc e6
 have e7:=of9 hc e7
 have b7:=of9 hc b7
 have e8:=of9 hc e8
 clear hc
 exact ⟨h8,by exact J8 [0,0,0,1,0,0,0,2,0,0,0,0,0,0,0,0,0,0,0,0,0] fun R=>R _ _ n1 _ _ e1 _ _ n2 _ i2 _ _ (ad _) _ _ e3 _ _ b3 _ _ e4 _ c4 _ _ e5 _ i5 _ c5 _ m21 _ _ e6 _ _ (ad _) _ _ e7 _ _ b7 _ m12 _ _ e8 _ _ (ad _) _ c8⟩
end Mine.PL
namespace Mine.PL
variable {h:Hp} {w r ln:Nat} {K:Bk} {dd:b9→Nat} {t x0:b9} {nms:List b9} {ns:List Int} {cl:Nat→List AV→Hp→Out AV} {x6 x7 x8 x9 x10:Option AV}
theorem b5t {v y z u:AV} {h':Hp} (e:a9 prog 6 48 [v,.int 42,y,z] h = .ok u h'):a9 prog 9 41 [v,.int 42,y,z] h = .ok (.tup [.str Q6,u]) h':=by
 have e1:a9 prog 7 49 [v,.int 42,y,z] h = .ok u h':=by exact via [1] fun R=>R _ _ e
 have e2:a9 prog 8 40 [v,.int 42,y,z] h = .ok u h':=by exact via [9] fun R=>R _ _ e1
 exact b0F e2
theorem b3Y {m:Nat} (hc:a9 prog 9 = cl) (P:Pm w r t x0) (s:Sh h 0 w r 7 K dd) (k:Rok w r m K) (hm:m < 100) (hl:7≤h.length) (nm:x0∈K.NM) (g:K.G x0 = 3) (tt:K.b.T.length≤3000) :
  ∃ h',exs ⟨prog,cl⟩ (q9.body.drop 18) h (LV ns ln x0 t false x6 x7 x8 x9 x10) = .ret (.bool true) h':=by
 have mu:∀ h,M2 .mul (.str [97]) (.int 3000) h = .ok (.str (rep (3000:Int).toNat [97])) h:=fun h=>K8 h [97] 3000 (by decide) (by decide) (by decide)
 have rm:∀ c∈rep (3000:Int).toNat [97],good c:=fun c hc=>by rw [List.mem_singleton.mp (L5 hc)];exact .inr (by decide)
 have rl:=P6 (3000:Int).toNat 97
 generalize rep (3000:Int).toNat [97] = u at mu rm rl
 have rl:u.length≤3000:=Nat.le_of_eq rl
 have m11:=d7 (m:=11) (f:=21) s.inst rfl
 obtain ⟨h1,_,e1,S1,_⟩:=a1T (n:=4) s k (Nat.le_refl _) hl hm P.ok rm rl P.w8 P.r1 P.r40
 obtain ⟨K1,dd1,q1,S1,k1,_,hq1,n1,v1,t1,_,_,_⟩:=nw P k hm nm rm rl tt S1
 have mv:∀ h,M2 .mul (.str [98]) (.int 3001) h = .ok (.str (rep (3001:Int).toNat [98])) h:=fun h=>K8 h [98] 3001 (by decide) (by decide) (by decide)
 have rm:∀ c∈rep (3001:Int).toNat [98],good c:=fun c hc=>by rw [List.mem_singleton.mp (L5 hc)];exact .inr (by decide)
 have rl:=P6 (3001:Int).toNat 98
 generalize rep (3001:Int).toNat [98] = z at mv rm rl
 have rl:z.length = 3001:=rl
 obtain ⟨h2,e2,G2⟩:=a8I (n:=7) (d7 (m:=11) (f:=21) S1.inst rfl) (a2G (n:=4) (t:=z) (c:=6) S1 P.ok rm (by rw [rl];decide) fun h' _=>a3i (by rw [rl];decide)) (.inl rfl)
 have c2:j5 .eq (b5x 6) (.tup [.str [116,111,111,32,108,111,110,103],.bool true]) h2 = some true:=rfl
 have S2:=S1.grow G2
 have m12:=d7 (m:=12) (f:=34) S2.inst rfl
 obtain ⟨h3,e3,_⟩:=V4 (n:=4) S2 k1 P.r1 hq1
 rw [n1,v1,t1,g] at e3
 have c3:j5 .eq (.str u) (.str u) h3 = some true:=by rw [a2v,decide_eq_true rfl]
 have e3:a9 prog 9 34 [.ref 0,.str x0,.int 4] h2 = .ok (.str u) h3:=e3
 have e1:=of9 hc e1
 have e2:=of9 hc e2
 have e3:=of9 hc e3
 clear hc
 exact ⟨h3,by exact J8 [0,0,0,0,0,0,0,0,0,0] fun R=>R _ m11 _ _ (mu _) _ _ e1 _ _ (mv _) _ _ e2 _ c2 _ m12 _ _ e3 _ _ (mu _) _ c3⟩
theorem b4C (hc:a9 prog 9 = cl) (P:Pm w r t x0) (J:Kp h w r 1 K dd t nms x0 ln) :
  ∃ h',exs ⟨prog,cl⟩ (q9.body.drop 10) h (LV ns ln x0 t false x6 x7 x8 x9 x10) = .ret (.bool true) h':=by
 have n1:=f8 h [.int 33,.int 42] (by decide)
 have G1:d9 h (h ++ [.list [.int 33,.int 42]]):=d9.app _ _
 have d1:=f5 h (.list [.int 33,.int 42])
 generalize h ++ [AO.list [.int 33,.int 42]] = h0 at n1 G1 d1
 obtain ⟨h1,y,e1,G1'⟩:=b9t (ns:=ns) (ln:=ln) (x6:=x6) (x8:=x8) (x9:=x9) (x10:=x10) (y:=x7) hc P (J.grow G1) d1
 have n2:=f8 h1 a3D (by decide)
 have G2:d9 h1 (h1 ++ [.list a3D]):=d9.app _ _
 have i2:=g7 (h1 ++ [.list a3D]) (f5 h1 (.list a3D)) (i:=0) (k:=0) rfl rfl
 generalize h1 ++ [AO.list a3D] = h2 at n2 G2 i2
 have J2:=J.grow ((G1.trans G1').trans G2)
 have li:1000≤lim:=by decide
 have tl:=P.tl
 have ad:∀ h,M2 .add (.str t) (.str [120]) h = .ok (.str (t ++ [120])) h:=fun h=>o7 h t [120] (by show _ + 1≤_;lia)
 have ad1:∀ h,M2 .add (.str [97]) (.str t) h = .ok (.str (97 :: t)) h:=fun h=>o7 h [97] t (by show 1 + _≤_;lia)
 have ad2:∀ h,M2 .add (.str (97 :: t)) (.str [120]) h = .ok (.str (97 :: (t ++ [120]))) h:=fun h=>o7 h (97 :: t) [120] (by rw [List.length_cons];show _ + 1≤_;lia)
 have tx:=a5g P
 have tg:=a1X P
 generalize t ++ [120] = U at ad ad2 tx tg
 have g:K.G x0 = 1:=J.g
 have few:=J.few P.tl P.r1
 obtain ⟨q,hq,qn,qv⟩:=J.all 1 (Nat.le_refl _) (Nat.le_of_eq g.symm)
 have nm:x0∈K.NM:=by rw [← qn];exact J.k.nm q hq
 have hl:=Nat.le_trans J2.l7 (Nat.le_of_lt (a3j J2.l))
 have m11:=d7 (m:=11) (f:=21) J2.s.inst rfl
 obtain ⟨h3,_,e3,S3,M3⟩:=a1T (n:=3) J2.s J2.k (Nat.le_refl _) hl (by decide) P.ok tg (Nat.le_trans tx (by decide)) P.w8 P.r1 P.r40
 obtain ⟨K3,dd3,q2,S3,k3,_,hq2,qn2,v2,t2,g3,T3,nm3⟩:=nw P J2.k (by decide) nm tg (Nat.le_trans tx (by decide)) (by lia) S3
 rw [g] at e3 v2 g3
 have e3:=a8D (n:=7) m11 e3
 have e3:a9 prog 9 51 [.ref 0,.str x0,.str U] h2 = .ok (.tup [.str Q6,.int 2]) h3:=e3
 have b3:=a2u (n:=6) (h:=h3) 2
 have hl3:=Nat.le_trans hl M3.kg.1
 obtain ⟨h4,l4,f4,i4,G4⟩:=a7X (h:=h3) (i:=42) rfl
 have s4:=S3.grow G4
 have hl4:=Nat.le_trans hl3 G4.1
 obtain ⟨u,h5,_,e5,S5,M5⟩:=b0G (n:=0) s4 k3 (Nat.le_refl _) hl4 (by decide) hq2 (by rw [t2];exact tx) P.w8 P.r1 P.r40
 rw [qn2,t2] at S5
 rw [qn2,v2] at e5
 have e5:a9 prog 5 32 [.ref 0,.str x0,.int 2,.int 0,.int 0,.str [97]] h4 = .ok u h5:=e5
 have m20:=d7 (m:=20) (f:=32) s4.inst rfl
 have e5:a9 prog 6 48 [.ref 0,.int 42,.str x0,.int 2] h3 = .ok u h5:=by exact via [0,0,4,0] fun R=>R _ _ f4 _ i4 _ m20 _ _ e5
 have e5:=b5t e5
 obtain ⟨K5,dd5,q3,S5,k5,old5,hq3,n3,v3,t3,g5,T5,nm5⟩:=nw P k3 (by decide) nm3 (fun c hc=>(List.mem_cons.mp hc).elim (fun z=>by rw [z];exact .inr (by decide)) (tg c)) (by rw [List.length_cons];lia) (by lia) S5
 rw [g3] at v3 g5
 rw [List.length_cons] at T5
 have hl5:=Nat.le_trans hl4 M5.kg.1
 have m12:=d7 (m:=12) (f:=34) S5.inst rfl
 obtain ⟨h6,e6,G6⟩:=V4 (n:=4) S5 k5 P.r1 hq3
 rw [n3,v3,t3] at e6
 have e6:a9 prog 9 34 [.ref 0,.str x0,.int 3] h5 = .ok (.str (97 :: U)) h6:=e6
 have c6:=a1Y (h:=h6) (97 :: U)
 have S6:=S5.grow G6
 have m12':=d7 (m:=12) (f:=34) S6.inst rfl
 obtain ⟨h7,e7,G7⟩:=V4 (n:=4) S6 k5 P.r1 (old5 q2 hq2)
 rw [qn2,v2,t2] at e7
 have e7:a9 prog 9 34 [.ref 0,.str x0,.int 2] h6 = .ok (.str U) h7:=e7
 have c7:=a1Y (h:=h7) U
 have S7:=S6.grow G7
 have ce:=C8 (n:=8) (h:=h7) ns 7
 have md:=mod_int h7 (j9 ns 7) 6 (by decide)
 have i5:w4 (.tup [.str Q6,u]) (.int 0) h5 = some (.str Q6):=rfl
 have c5:=a1Y (h:=h5) Q6
 by_cases z:j9 ns 7 % 6 = 1
 ·obtain ⟨h8,e8⟩:=b3Y (ns:=ns) (ln:=ln) (x6:=x6) (x7:=y) (x8:=x8) (x9:=some (.tup [.str Q6,.int 2])) (x10:=x10) hc P S7 k5 (by decide) (Nat.le_trans hl5 (Nat.le_trans G6.1 G7.1)) nm5 g5 (by lia)
  have c8:j5 .ne (.int (j9 ns 7 % 6)) (.int 1) h7 = some false:=b4Y z
  have e3:=of9 hc e3
  have b3:=of9 hc b3
  have e5:=of9 hc e5
  have e6:=of9 hc e6
  have e7:=of9 hc e7
  have ce:=of9 hc ce
  clear hc
  generalize j9 ns 7 = c at *
  exact ⟨h8,by exact J8 [0,0,0,1,0,0,0,2,0,0,0,0,0,0,0,0,0,0,0,0,0,0,1000] fun R=>R _ _ n1 _ _ e1 _ _ n2 _ i2 _ _ (ad _) _ _ e3 _ _ b3 _ _ e5 _ i5 _ c5 _ m12 _ _ e6 _ _ (ad1 _) _ _ (ad2 _) _ c6 _ m12' _ _ e7 _ _ (ad _) _ c7 _ _ ce _ _ md _ c8 _ _ e8⟩
 ·have m12'':=d7 (m:=12) (f:=34) S7.inst rfl
  obtain ⟨h8,e8,_⟩:=V4 (n:=4) S7 k5 P.r1 (old5 q2 hq2)
  rw [qn2,v2,t2] at e8
  have e8:a9 prog 9 34 [.ref 0,.str x0,.int 2] h7 = .ok (.str U) h8:=e8
  have c8:j5 .ne (.int (j9 ns 7 % 6)) (.int 1) h7 = some true:=b8f z
  have c9:j5 .eq (.str U) (.str U) h8 = some true:=by rw [a2v,decide_eq_true rfl]
  have e3:=of9 hc e3
  have b3:=of9 hc b3
  have e5:=of9 hc e5
  have e6:=of9 hc e6
  have e7:=of9 hc e7
  have ce:=of9 hc ce
  have e8:=of9 hc e8
  clear hc
  generalize j9 ns 7 = c at *
  exact ⟨h8,by exact J8 [0,0,0,1,0,0,0,2,0,0,0,0,0,0,0,0,0,0,0,0,0,0,0,0,0,0] fun R=>R _ _ n1 _ _ e1 _ _ n2 _ i2 _ _ (ad _) _ _ e3 _ _ b3 _ _ e5 _ i5 _ c5 _ m12 _ _ e6 _ _ (ad1 _) _ _ (ad2 _) _ c6 _ m12' _ _ e7 _ _ (ad _) _ c7 _ _ ce _ _ md _ c8 _ m12'' _ _ e8 _ _ (ad _) _ c9⟩
end Mine.PL
namespace Mine.PL
variable {h:Hp} {w r ln i:Nat} {K:Bk} {dd:b9→Nat} {t x0:b9} {nms:List b9} {ns:List Int} {fu:Bool} {cl:Nat→List AV→Hp→Out AV} {x6:Option AV}
inductive La (cl:Nat→List AV→Hp→Out AV) (ns:List Int):Prop
 | mk (w r ln:Nat) (t x0:b9) (nms:List b9) (fu:Bool) (h:Hp):exs ⟨prog,cl⟩ (q9.body.take 5) [] (some (.scr ns) :: List.replicate 10 none) = .next h (lV ns ln x0 t fu none)→Pm w r t x0→Kp h w r 0 K0 (fun _=>0) t nms x0 ln→nms.length = 7→nms[0]? = some x0→(∀ k,1≤k→k < 4→nms[k]?≠nms[0]?)→(∀ x∈nms,s6 x)→La cl ns
theorem b8s (hc:a9 prog 9 = cl) (ns:List Int):La cl ns:=by
 have ce:∀ k h,cl 27 [.scr ns,.int (k:Nat)] h = .ok (.int (j9 ns k)) h:=fun k h=>of9 hc (C8 (n:=8) ns k)
 obtain ⟨w,ew,w1,w8⟩:=b3i (n:=8) (h:=[]) (j9 ns 0)
 obtain ⟨r,er,r1,r40⟩:=b1R (n:=8) (h:=[]) (j9 ns 1)
 have nw:b1q ⟨prog,cl⟩ 1 [.int w,.int r] [] = .ok (.ref 0) (a2s 0 w r):=hc▸b0Y (n:=5) w1 w8 r1 r40
 have s0:=sh0 (w:=w) (r:=r)
 have l0:(a2s 0 w r).length = 7:=rfl
 generalize a2s 0 w r = h0 at nw s0 l0
 obtain ⟨h1,ln,nms,e1,G1,d1,n7,ok,l1,ne⟩:=b4a (n:=8) (h:=h0) (j9 ns 2)
 have n0:0 < nms.length:=by rw [n7];decide
 have f0:=List.getElem?_eq_getElem n0
 have ix:w4 (.ref ln) (.int 0) h1 = some (.str nms[0]):=g7 h1 d1 (k:=0) (g9 (k:=0) (by rw [List.length_map];exact n0)) (by rw [List.getElem?_map,f0];rfl)
 have ok0:=ok _ (List.getElem_mem n0)
 generalize nms[0] = x0 at f0 ix ok0
 have md:=mod_int h1 (j9 ns 4) 60 (by decide)
 have z0:=Int.emod_nonneg (j9 ns 4) (b:=60) (by decide)
 have z1:=Int.emod_lt_of_pos (j9 ns 4) (b:=60) (by decide)
 obtain ⟨t,et,tg,tl⟩:=b4k (n:=7) (h:=h1) (j9 ns 3) (j9 ns 4 % 60) z0 (by lia)
 have tl:t.length < 60:=by lia
 have G2:d9 h1 (h1 ++ [.list [.int 2,.int 95,.int 95,.int 1]]):=d9.app _ _
 generalize h1 ++ [AO.list [.int 2,.int 95,.int 95,.int 1]] = h2 at et G2
 have md5:=mod_int h2 (j9 ns 5) 6 (by decide)
 have c5:=b1F h2 (j9 ns 5 % 6) 1
 have c0:cl 27 [.scr ns,.int 0] [] = _:=ce 0 []
 have c1:cl 27 [.scr ns,.int 1] [] = _:=ce 1 []
 have c2:cl 27 [.scr ns,.int 2] h0 = _:=ce 2 h0
 have c3:cl 27 [.scr ns,.int 3] h1 = _:=ce 3 h1
 have c4:cl 27 [.scr ns,.int 4] h1 = _:=ce 4 h1
 have c6:cl 27 [.scr ns,.int 5] h2 = _:=ce 5 h2
 have ew:=of9 hc ew
 have er:=of9 hc er
 have e1:=of9 hc e1
 have et:=of9 hc et
 clear hc
 refine ⟨w,r,ln,t,x0,nms,decide (j9 ns 5 % 6 = 1),h2,?_,⟨w8,r1,r40,tl,tg,ok0⟩,⟨s0.grow (G1.trans G2),b9p,fun _ h=>(nomatch h),fun _ h=>(nomatch h),G2.get d1,l0▸l1,fun v v1 hv=>absurd hv (Nat.not_le.mpr v1),rfl,fun _ _=>Nat.le_refl _⟩,n7,f0,ne,ok⟩
 generalize j9 ns 0 = a0 at *
 generalize j9 ns 1 = a1 at *
 generalize j9 ns 2 = a2 at *
 generalize j9 ns 3 = a3 at *
 generalize j9 ns 4 = a4 at *
 generalize j9 ns 5 = a5 at *
 exact J8 [0,0,0,0,0,0,0,0,0,0,0,0,0,0,0] fun R=>R _ _ c0 _ _ ew _ _ c1 _ _ er _ _ nw _ _ c2 _ _ e1 _ ix _ _ c3 _ _ c4 _ _ md _ _ et _ _ c6 _ _ md5 _ c5
noncomputable abbrev cnt (fu:Bool):Nat:=if fu then 100 else 1
theorem b7K (hc:a9 prog 9 = cl) (P:Pm w r t x0) (J:Kp h w r 0 K dd t nms x0 ln) (n7:nms.length = 7) (f0:nms[0]? = some x0) (ne:∀ k,1≤k→k < 4→nms[k]?≠nms[0]?) (ok:∀ x∈nms,s6 x) :
  ∃ h' y K' dd',exs ⟨prog,cl⟩ ((q9.body.drop 5).take 1) h (lV ns ln x0 t fu none) = .next h' (lV ns ln x0 t fu y)∧Kp h' w r (cnt fu) K' dd' t nms x0 ln:=by
 have n1:=f8 h [.int 1,.int 100] (by decide)
 have G1:d9 h (h ++ [.list [.int 1,.int 100]]):=d9.app _ _
 have d1:=f5 h (.list [.int 1,.int 100])
 generalize h ++ [AO.list [.int 1,.int 100]] = h1 at n1 G1 d1
 obtain ⟨h2,y,e2,K2,dd2,J2⟩:=b0o (n:=4) (ns:=ns) (fu:=fu) (c:=cnt fu) (J.grow G1) (by cases fu<;>decide) n7 f0 ne ok P.tg P.tl P.w8 P.r1 P.r40
 refine ⟨h2,y,K2,dd2,?_,J2⟩
 cases fu with
 | true =>
  have i1:=g7 h1 d1 (i:=1) (k:=1) rfl rfl
  have e2:t5 (z5 h1 (.rng 0 100)) (r6 ⟨prog,cl⟩ 6 (u8 q9.body 5)) (h1,lV ns ln x0 t true none) = .next h2 (lV ns ln x0 t true y):=hc▸e2
  have r1:=M4 h1 100 (by decide) (by decide)
  exact J8 [0,1,0,0] fun R=>R _ _ n1 _ i1 _ _ r1 _ _ e2
 | false =>
  have i1:=g7 h1 d1 (i:=0) (k:=0) rfl rfl
  have e2:t5 (z5 h1 (.rng 0 1)) (r6 ⟨prog,cl⟩ 6 (u8 q9.body 5)) (h1,lV ns ln x0 t false none) = .next h2 (lV ns ln x0 t false y):=hc▸e2
  have r1:=M4 h1 1 (by decide) (by decide)
  exact J8 [0,1,0,0] fun R=>R _ _ n1 _ i1 _ _ r1 _ _ e2
theorem b7n (c:Int) (b:Bool) (hb:b = decide (c % 42 > 32)):∃ (h1:Hp) (l:Nat) (j k:Int),newList [.int (c % 33),.int (34 + c / 42 % 8)] h = .ok (.ref l) h1∧biA .int [.bool b] h1 = .ok (.int k) h1∧w4 (.ref l) (.int k) h1 = some (.int j)∧a8C j∧d9 h h1:=by
 refine ⟨_,_,if b then 34 + c / 42 % 8 else c % 33,if b then 1 else 0,f8 h _ (Nat.le_trans (by simp:_≤2) (by decide)),?_,?_,?_,d9.app _ _⟩
 ·cases b<;>rfl
 ·have d:=f5 h (.list [.int (c % 33),.int (34 + c / 42 % 8)])
  cases b with
  | true=>exact g7 _ d (i:=1) (k:=1) rfl rfl
  | false=>exact g7 _ d (i:=0) (k:=0) rfl rfl
 ·unfold a8C
  cases b with
  | true=>show 0≤34 + c / 42 % 8∧_;lia
  | false=>show 0≤c % 33∧_;lia
theorem b8L (hc:a9 prog 9 = cl) (P:Pm w r t x0) (J:Kp h w r i K dd t nms x0 ln) (i0:0 < i) :
  ∃ h' x7 p a v x9 y,exs ⟨prog,cl⟩ ((q9.body.drop 6).take 4) h (LV ns ln x0 t fu x6 none none none none) = .next h' (LV ns ln x0 t fu x6 x7 (some (a0o (wrT K w r) p a v)) x9 y)∧d9 h h':=by
 have ce:∀ h,cl 27 [.scr ns,.int 6] h = .ok (.int (j9 ns 6)) h:=fun h=>of9 hc (C8 (n:=8) ns 6)
 generalize j9 ns 6 = c at ce
 obtain ⟨h1,l,way,k,n1,b1,i1,hw,G1⟩:=b7n (h:=h) c _ rfl
 have J1:=J.grow G1
 obtain ⟨h2,p,a,v,e2,d1,d2,d3,G2⟩:=a8O (n:=3) J1.s J1.k (J1.sml P.tl P.r1) P.ok P.w8 P.r1 P.r40
 generalize hW:wrT K w r = W at e2
 obtain ⟨h3,e3,G3⟩:=b4s (n:=8) (h:=h2) way
 generalize hD:R3 (cls way) = D at e3
 have J3:=(J1.grow G2).grow G3
 obtain ⟨h4,y,e4,G4⟩:=b8i (ns:=ns) (fu:=fu) (x6:=x6) hc P J3 i0 hw hD hW (G3.get d1) (G3.get d2) (G3.get d3)
 refine ⟨h4,some (.int way),p,a,v,some (.tup [.str D,.bool true]),y,?_,((G1.trans G2).trans G3).trans G4⟩
 have m1:=mod_int h c 33 (by decide)
 have m2:=a4Y h c 42 (by decide) (by decide)
 have m3:=mod_int h (c / 42) 8 (by decide)
 have m4:=mod_int h1 c 42 (by decide)
 have g4:=gt_int h1 (c % 42) 32
 have r2:=M4 h3 2 (by decide) (by decide)
 have e4:t5 (z5 h3 (.rng 0 2)) (r6 ⟨prog,cl⟩ 10 (u8 q9.body 9)) (h3,LV ns ln x0 t fu x6 (some (.int way)) (some (a0o W p a v)) (some (.tup [.str D,.bool true])) none) = .next h4 (LV ns ln x0 t fu x6 (some (.int way)) (some (a0o W p a v)) (some (.tup [.str D,.bool true])) y):=e4
 have e2:=of9 hc e2
 have e3:=of9 hc e3
 clear hc
 exact J8 [0,0,0,0,0,1,0,0,0,0,0,0,0,0,0] fun R=>R _ _ (ce _) _ _ m1 _ _ (ce _) _ _ m2 _ _ m3 _ _ n1 _ _ (ce _) _ _ m4 _ g4 _ _ b1 _ i1 _ _ e2 _ _ e3 _ _ r2 _ _ e4
theorem plain09 (ns:List Int):∃ h',a9 prog 10 53 [.scr ns] [] = .ok (.bool true) h':=by
 obtain ⟨cl,hc⟩:∃ cl,a9 prog 9 = cl:=⟨_,rfl⟩
 obtain ⟨w,r,ln,t,x0,nms,fu,h1,e1,P,J1,n7,f0,ne,ok⟩:=b8s hc ns
 obtain ⟨h2,y,K2,dd2,e2,J2⟩:=b7K (ns:=ns) (fu:=fu) hc P J1 n7 f0 ne ok
 obtain ⟨h3,x7,p,a,v,x9,z,e3,G3⟩:=b8L (ns:=ns) (fu:=fu) (x6:=y) hc P J2 (by cases fu<;>decide)
 have J3:=J2.grow G3
 have e4:∃ h',exs ⟨prog,cl⟩ (q9.body.drop 10) h3 (LV ns ln x0 t fu y x7 (some (a0o (wrT K2 w r) p a v)) x9 z) = .ret (.bool true) h':=by
  cases fu with
  | true=>exact b2G hc P J3
  | false=>exact b4C hc P J3
 obtain ⟨h4,e4⟩:=e4
 refine ⟨h4,?_⟩
 have sp:q9.body = q9.body.take 5 ++ ((q9.body.drop 5).take 1 ++ ((q9.body.drop 6).take 4 ++ q9.body.drop 10)):=rfl
 have q:exs ⟨prog,cl⟩ q9.body [] (some (.scr ns) :: List.replicate 10 none) = .ret (.bool true) h4:=by
  rw [sp,H9,e1,F8,H9,e2,F8,H9,e3,F8,e4]
 subst hc
 exact congrArg (a7O _) q
end Mine.PL
open PySem PySem.W PyProof.Rows
set_option maxHeartbeats 8000000
namespace Mine
noncomputable def a0n:List Addr:=[2,3,15,17,18,20,21,22,25,26,27,30,31,32,39,40,41,42,45,52,53,54,57,64,65,66,69,76,77,78,81,88,89,90,93,100,101,102,105,112,113,114,117,124,125,126,129,136,137,138,141,143,144,146,147,148,150,151,153,154,155,158,159,160,163,164,165,167,168,170,171,179,181,182,184,185,186,188,189,191,192,193,195,196,198,199,200,202,203,205,206,207,209,210,212,213,214,216,217,219,220,221,223,224,226,227,228,229,230,231,232,235,237,238,240,241,242,244,245,247,248,256,258,259,261,262,263,265,266,268,269,270,272,273,275,276,277,279,280,282,283,284,287,288,289,291,292,294,295,296,298,299,301,302,303,305,306,308,309,310,312,313,315,316,317,320,321,322,324,325,327,328,329,331,332,334,335,336,338,339,341,342,343,346,347,348,351,352,353,355,356,358,359,360,363,364,365,368,369,370,371,372,373,374,377,379,380,382,383,384,387,388,389,391,392,394,395,396,398,399,401,402,403,405,406,408,409,410,412,413,415,416,417,419,420,422,423,431,433,434,436,437,438,440,441,443,444,445,448,449,450,452,453,455,456,457,459,460,462,463,464,466,467,469,470,471,473,474,476,477,478,480,481,483,484,485,487,488,490,491,492,494,495,497,498,499,501,502,504,505,506,508,509,511,512]
noncomputable def w7 (h:Heap):List Addr→Frag
 | []=>[]
 | a :: r=>match h.get? a with
  | some o=>(a,o) :: w7 h r
  | none=>w7 h r
theorem a1b (h:Heap):∀ as:List Addr,(w7 h as).In h
 | [],a,o,e=>nomatch e
 | b :: r,a,o,e=>by
  unfold w7 at e
  cases q:h.get? b with
  | none=>rw [q] at e;exact a1b h r a o e
  | some x =>
   rw [q] at e
   simp only [List.lookup] at e
   split at e
   ·rename_i z;cases e;rw [beq_iff_eq.mp z];exact q
   ·exact a1b h r a o e
noncomputable def a4M (K:Frag):Bool:=match nsIn K mainGlobals "law" with
 | some (some (.ref a))=>a == Z9 K prog 53
 | _=>false
theorem b2i {K:Frag} (h:a4M K = true):nsIn K mainGlobals "law" = some (some (.ref (Z9 K prog 53))):=by
 unfold a4M at h
 split at h
 ·rename_i q;rw [q,beq_iff_eq.mp h]
 ·cases h
noncomputable def b3P (K:Frag):Bool:=t7 K prog 0 prog.fns && a9Y K prog && (a4M K && M8 K prog 53)
noncomputable def hook09:Hook:=⟨Bool×List (Option FuncBody),fun s=>(b3P (w7 s.heap a0n),Z1 (w7 s.heap a0n) prog 0 prog.fns),fun _=>(true,a8r prog prog.fns),fun _ h=>∃ K:Frag,K.In h∧b3P K = true∧Z1 K prog 0 prog.fns = a8r prog prog.fns,
 fun _ s e=>⟨_,a1b s.heap a0n,congrArg Prod.fst e,congrArg Prod.snd e⟩,fun _ _ _ ⟨K,X,e⟩ k=>⟨K,X.keeps k,e⟩⟩
noncomputable def q09:Program:=PySem.W.view PySem.Challenge.rw_uf020013_09.prog [55]
noncomputable def loose09:List Str:=(["weight","cuts","pieces","pieces_cutting","ShelfError","NoSize","NoName","NotThere","NoPlace","NoText","TooLong","TooMany","NoNote","LETTERS","PERCENT","MOST_LETTERS","MOST_WIDTH","MOST_REACH","is_number","is_sign","is_text","is_name","are_sizes","Stock","MOST_SIGNS","MOST_VERSIONS","is_stretch","each_once","Shelf","hidden","written","_law_cell_at","_law_whole","_law_sign_by","_law_text_by","_law_alike","_law_size_by","_law_width_by","_law_reach_by","_law_names_by","_law_word_of","_law_call","_law_last_call","_law_far_call","_law_word","_law_answer","_law_many","_law_held"]:List String).map Str.ofString
theorem said09:PySem.Challenge.rw_uf020013_09.wellSaid = true:=by kernel_rfl
theorem b8u:∀ w:World,(fun os=>(a1I Challenge.rw_uf020013_09.row.prog 4300 w os).map fun s =>
   ((staticsOk (importedModules Challenge.rw_uf020013_09.row.prog.main.body) (boot_heap w.params) s.abs.heap && namesBound Challenge.rw_uf020013_09.row.prog s.abs.heap && gensDone s.abs && laidKept (boot_heap w.params) s.abs.heap),openSeen q09 loose09 (importedModules Challenge.rw_uf020013_09.row.prog.main.body) (fun s=>xlAt q09 [] s && recOk (RowW.records Challenge.rw_uf020013_09.row.toRowW) s) true s.abs)) = fun _=>some (true,openGood q09 loose09):=fun w=>by kernel_rfl
theorem a4e {K:Frag} {P:Pr} {b:List Fn}:∀ {a:List Fn} {i:Nat},t7 K P i a = true→t7 K P (i + a.length) b = true→t7 K P i (a ++ b) = true
 | [],_,_,h=>h
 | f :: a,i,h,h'=>by
  have h:=Bool.and_eq_true_iff.mp (show ((f.body.isEmpty || b3z K P i f) && t7 K P (i + 1) a) = true from h)
  exact Bool.and_eq_true_iff.mpr ⟨h.1,a4e h.2 (by rw [Nat.add_assoc,Nat.add_comm 1];exact h')⟩
theorem T8 {K:Frag} {P:Pr} {l:List Fn} {i:Nat} (k:Nat) (h1:t7 K P i (l.take k) = true) (h2:t7 K P (i + (l.take k).length) (l.drop k) = true):t7 K P i l = true:=by
 have:=a4e h1 h2
 rw [List.take_append_drop] at this;exact this
theorem b6W {K:Frag} (h0:t7 K prog 0 (prog.fns.take 13) = true) (h1:t7 K prog 13 ((prog.fns.drop 13).take 13) = true) (h2:t7 K prog 26 (((prog.fns.drop 13).drop 13).take 10) = true) (h3:t7 K prog 36 ((((prog.fns.drop 13).drop 13).drop 10).take 6) = true) (h4:t7 K prog 42 (((((prog.fns.drop 13).drop 13).drop 10).drop 6).take 5) = true) (h5:t7 K prog 47 (((((prog.fns.drop 13).drop 13).drop 10).drop 6).drop 5) = true) (ha:(a9Y K prog && (a4M K && M8 K prog 53)) = true):b3P K = true :=
 have a:=Bool.and_eq_true_iff.mp ha
 Bool.and_eq_true_iff.mpr ⟨Bool.and_eq_true_iff.mpr ⟨(T8 13 h0 (T8 13 h1 (T8 10 h2 (T8 6 h3 (T8 5 h4 h5))))),a.1⟩,a.2⟩
theorem b6f (w:World):(fun os=>(a1I Challenge.rw_uf020013_09.row.prog 4300 w os).map fun s=>t7 (w7 s.abs.heap a0n) prog 0 (prog.fns.take 13)) = fun _=>some true:=by kernel_rfl
theorem b6b (w:World):(fun os=>(a1I Challenge.rw_uf020013_09.row.prog 4300 w os).map fun s=>t7 (w7 s.abs.heap a0n) prog 13 ((prog.fns.drop 13).take 13)) = fun _=>some true:=by kernel_rfl
theorem b6o (w:World):(fun os=>(a1I Challenge.rw_uf020013_09.row.prog 4300 w os).map fun s=>t7 (w7 s.abs.heap a0n) prog 26 (((prog.fns.drop 13).drop 13).take 10)) = fun _=>some true:=by kernel_rfl
theorem b6v (w:World):(fun os=>(a1I Challenge.rw_uf020013_09.row.prog 4300 w os).map fun s=>t7 (w7 s.abs.heap a0n) prog 36 ((((prog.fns.drop 13).drop 13).drop 10).take 6)) = fun _=>some true:=by kernel_rfl
theorem b6t (w:World):(fun os=>(a1I Challenge.rw_uf020013_09.row.prog 4300 w os).map fun s=>t7 (w7 s.abs.heap a0n) prog 42 (((((prog.fns.drop 13).drop 13).drop 10).drop 6).take 5)) = fun _=>some true:=by kernel_rfl
theorem b7B (w:World):(fun os=>(a1I Challenge.rw_uf020013_09.row.prog 4300 w os).map fun s=>t7 (w7 s.abs.heap a0n) prog 47 (((((prog.fns.drop 13).drop 13).drop 10).drop 6).drop 5)) = fun _=>some true:=by kernel_rfl
theorem b7G (w:World):(fun os=>(a1I Challenge.rw_uf020013_09.row.prog 4300 w os).map fun s=>a9Y (w7 s.abs.heap a0n) prog && (a4M (w7 s.abs.heap a0n) && M8 (w7 s.abs.heap a0n) prog 53)) = fun _=>some true:=by kernel_rfl
theorem b7I (w:World):(fun os=>(a1I Challenge.rw_uf020013_09.row.prog 4300 w os).map fun s=>(Z1 (w7 s.abs.heap a0n) prog 0 prog.fns).take 30) = fun _=>some ((a8r prog prog.fns).take 30):=by kernel_rfl
theorem b8Q (w:World):(fun os=>(a1I Challenge.rw_uf020013_09.row.prog 4300 w os).map fun s=>(Z1 (w7 s.abs.heap a0n) prog 0 prog.fns).drop 30) = fun _=>some ((a8r prog prog.fns).drop 30):=by kernel_rfl
theorem b5Z {α:Type} {a b:List α} {k:Nat} (h:a.take k = b.take k) (h2:a.drop k = b.drop k):a = b:=by rw [← List.take_append_drop k a,h,h2,List.take_append_drop]
theorem left09:LeftO Challenge.rw_uf020013_09.row.prog q09 loose09 (fun s=>xlAt q09 [] s && recOk (RowW.records Challenge.rw_uf020013_09.row.toRowW) s) (Hook.obs hook09) (Hook.val hook09) 4300 :=
 a4O rfl rfl (fun _=>rfl) b8u fun w _ _ e=>Prod.ext (b6W (a5q (b6f w) e) (a5q (b6b w) e) (a5q (b6o w) e) (a5q (b6v w) e) (a5q (b6t w) e) (a5q (b7B w) e) (a5q (b7G w) e)) (b5Z (a5q (b7I w) e) (a5q (b8Q w) e))
theorem walk09 (d:DefRec) (kwd:List (Str×Expr)) (hn:d.name = Str.ofString "law"):WalkO q09 loose09 (XL q09 []) hook09.says Challenge.rw_uf020013_09.row.toRowW d kwd fun f vs=>call f vs:=by
 intro w s₀ s₁ mg mb G Y fa o pm cd doc dV kV ho hd hcd hD hmg hg args vals as hpre hlay hrd hwl hlo
 obtain ⟨K,KX,hK,hbd⟩:=Y
 have hK:(t7 K prog 0 prog.fns && a9Y K prog && (a4M K && M8 K prog 53)) = true:=hK
 obtain ⟨hK,hl⟩:=Bool.and_eq_true_iff.mp hK
 obtain ⟨hf,hB⟩:=Bool.and_eq_true_iff.mp hK
 obtain ⟨hl,h1l⟩:=Bool.and_eq_true_iff.mp hl
 refine Ground.open G ?_
 intro T B D TE TW
 wrow_args hpre hlay hrd hwl hlo
 rename_i hL hra hw1 hr0 hI hra2 hc1 hc2
 refine Mine.law_call (P:=Mine.prog) (lw:=53) (n:=9) KX (topRead_of T) hf hbd hB h1l hmg (hn▸b2i hl) hL hI ?hn (by decide) rfl (Mine.PL.plain09 _) ?hR
 case hn=>show _≤16777216;omega
 case hR =>
  intro s' hk hos hgs
  refine' GoodW.toG ⟨.inl ⟨_,_,_,rfl,raisesW_false (by wrow_none_raised),.bool true,postW_of ?hsh ?hva ?hen,unshared_nil⟩,hk,hos,hgs.trans hg⟩
  case hsh=>o_shape
  case hva=>wtm_val
  case hen=>w_fin
end Mine
theorem PySem.Challenge.cw_uf020013_09_holds : PySem.Challenge.rw_uf020013_09.Holds := by
 w_on
 refine holds_law Mine.said09 fun said=>?_
 refine holds_open (q:=Mine.q09) (loose:=Mine.loose09) (Xt:=fun s=>xlAt Mine.q09 [] s && recOk (RowW.records Challenge.rw_uf020013_09.row.toRowW) s) (XP:=XL Mine.q09 []) (Yf:=Hook.obs Mine.hook09) (Ya:=Hook.val Mine.hook09) (YP:=Hook.says Mine.hook09) (N:=4300) Mine.left09 (Hook.of Mine.hook09) (Hook.keeps Mine.hook09) (fun s e=>xl_of s (Bool.and_eq_true_iff.mp e).1) XL.keeps (by rfl) (by rfl) (by rfl) (fun s e=>recFacts_of (Bool.and_eq_true_iff.mp e).2) (by rfl) said (by decide +kernel) ⟨rfl,rfl,rfl,rfl,rfl,by decide +kernel⟩ ?hw ?hc
 case hw=>w_witness2
 case hc=>exact Mine.walk09 _ _ rfl
