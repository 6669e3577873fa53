import PyProof.Rows.All
import Wide.All
import OpenK.AllK
import Wide.FinOn
import HandS.ForMost
import HandS.ForExc
import HandS.Wide
import HandS.TupAny
import HandS.Flow
import HandS.IsInst
import HandS.Zip
import HandS.GenList
import KE.KDictZip
import KE.GoesZip
import KE.GoesMore
import HandS.SetFor
import HandS.Strs
import HandS.Style
import HandS.List
import HandS.WordsDict
import HandS.SortInts
import HandS.More
import HandS.ExcOwn
import HandS.DictComp
import HandS.Defaults
import KE.KStateDown
import HandS.Head0
import HandS.Head1
import HandS.Head2
import HandS.HeadEnd
import HandS.EndBits
import HandS.HeadHook1
import HandS.HeadHook2
import HandS.HeadHook4
import PySem.Challenge.RW_headswaps_k01_forms_of_any_values
set_option Elab.async false
set_option linter.all false
/-! Mi1: a small interpreter of the used part of Python over plain data. -/
namespace Mi
open PySem

/-- a value of the code: plain data, or the n-th cell of the store -/
inductive D where
  | p (v : PyData)
  | r (n : Nat)

/-- a key of a dict -/
abbrev Ky := Sum Int Str
/-- a cell of the store -/
inductive Cell where
  | lst (xs : List D)
  | dic (kvs : List (Ky × D))
  | ins (c : Str) (fs : List (Str × D))
  | dead

abbrev Store := List Cell
abbrev Env := List (Option D)
abbrev Flds := List (Str × PyData)

/-- what comes of an expression -/
inductive R (α : Type) where
  | ok (a : α) (st : Store)
  | ex (c : Str) (fs : Flds) (st : Store)
  | bad

def R.bind {α β : Type} (m : R α) (f : α → Store → R β) : R β := match m with
  | .ok a st => f a st
  | .ex c fs st => .ex c fs st
  | .bad => .bad

/-- what comes of a statement -/
inductive S where
  | nx (e : Env) (st : Store)
  | rt (v : D) (st : Store)
  | bk (e : Env) (st : Store)
  | ct (e : Env) (st : Store)
  | ex (c : Str) (fs : Flds) (e : Env) (st : Store)
  | bad

def R.toS {α : Type} (m : R α) (e : Env) (f : α → Store → S) : S := match m with
  | .ok a st => f a st
  | .ex c fs st => .ex c fs e st
  | .bad => .bad

def S.seq (m : S) (f : Env → Store → S) : S := match m with
  | .nx e st => f e st
  | r => r

/-! ### code -/
inductive TG where
  | nm (i : Nat)
  | tp (ts : List TG)

/-- built-in functions, methods -/
inductive Bf where
  | len | abs | int | list | tuple | all | any | sorted | sset
  deriving DecidableEq
inductive Mf where
  | append | extend
  deriving DecidableEq
/-- the classes that are asked for -/
inductive Ty where
  | none | bool | int | str | list | tuple | dict
  deriving DecidableEq
def Ty.nm : Ty → String
  | .none => "NoneType"
  | .bool => "bool"
  | .int => "int"
  | .str => "str"
  | .list => "list"
  | .tuple => "tuple"
  | .dict => "dict"
/-- a value of the first class is one of the second -/
def Ty.sub : Ty → Ty → Bool
  | .bool, .int => true
  | a, b => decide (a = b)

mutual
inductive C where
  | var (i : Nat)
  | cst (v : PyData)
  | glo (x : Str)
  | bin (m : Bool) (op : Operator) (a b : C)
  | neg (a : C)
  | cmp (op : CmpOp) (a b : C)
  | chn (o1 o2 : CmpOp) (a b c : C)
  | andC (a b : C)
  | orC (a b : C)
  | notC (a : C)
  | ifC (c : Q) (a b : C)
  | tup (es : Cs)
  | lst (m : Bool) (es : Cs)
  | call (f : Str) (es : Cs)
  | blt (m : Bool) (f : Bf) (es : Cs)
  | isi (a : C) (ts : List Ty)
  | mth (m : Bool) (o : C) (f : Mf) (es : Cs)
  | idx (a b : C)
  | sli (m : Bool) (a : C) (lo hi : Oc)
  | rev (m : Bool) (a : C)
  | lc (m : Bool) (own : List Nat) (elt : C) (tg : TG) (it : I) (ifs : Q)
  | dc (own : List Nat) (k v : C) (tg : TG) (it : I) (ifs : Q)
  | lzip (m : Bool) (a b : C)
inductive Q where
  | yes
  | val (a : C)
  | both (a b : Q)
  | eith (a b : Q)
  | neg (a : Q)
inductive Cs where
  | nil
  | cons (a : C) (as : Cs)
inductive Oc where
  | no
  | so (a : C)
inductive I where
  | val (a : C)
  | rng (a b : C)
  | zip (a b : C)
  | enu (a : C) (n : Int)
end

inductive B where
  | set (i : Nat) (a : C)
  | par (i j : Nat) (a b : C)
  | tgt (g : TG) (a : C)
  | aug (i : Nat) (op : Operator) (a : C)
  | six (o i a : C)
  | aix (o i : C) (op : Operator) (a : C)
  | exp (a : C)
  | ret (a : C)
  | ife (c : Q) (a b : List B)
  | whl (c : Q) (b : List B)
  | for_ (g : TG) (it : I) (b : List B)
  | nop | brk | ctn

/-! ### views -/
def pures : List D → Option (List PyData)
  | [] => some []
  | .p v :: ds => (pures ds).map (v :: ·)
  | .r _ :: _ => none
/-- the n-th cell, a list -/
def cellL (st : Store) (n : Nat) : Option (List D) := match st[n]? with
  | some (.lst xs) => some xs
  | _ => none
theorem cellL_some {st : Store} {n : Nat} {xs : List D} (h : cellL st n = some xs) : st[n]? = some (.lst xs) := by
  unfold cellL at h
  split at h
  · rename_i q; rw [q, Option.some.inj h]
  · cases h
/-- the n-th cell, a dict -/
def cellD (st : Store) (n : Nat) : Option (List (Ky × D)) := match st[n]? with
  | some (.dic kvs) => some kvs
  | _ => none
theorem cellD_some {st : Store} {n : Nat} {kvs : List (Ky × D)} (h : cellD st n = some kvs) : st[n]? = some (.dic kvs) := by
  unfold cellD at h
  split at h
  · rename_i q; rw [q, Option.some.inj h]
  · cases h
def keyD : D → Option Ky
  | .p (.int i) => some (.inl i)
  | .p (.str s) => some (.inr s)
  | _ => none
def putD (kvs : List (Ky × D)) (k : Ky) (v : D) : List (Ky × D) :=
  if (kvs.any fun p => decide (p.1 = k)) = true then kvs.map (fun p => if p.1 = k then (p.1, v) else p) else kvs ++ [(k, v)]
def putAll (kvs ps : List (Ky × D)) : List (Ky × D) := ps.foldl (fun a p => putD a p.1 p.2) kvs
/-- the items of a list -/
def asL (d : D) (st : Store) : Option (List D) := match d with
  | .p (.list xs) => some (xs.map D.p)
  | .r n => cellL st n
  | _ => none
def asT (d : D) : Option (List PyData) := match d with
  | .p (.tuple xs) => some xs
  | _ => none
/-- the items of a list or a tuple -/
def asQ (d : D) (st : Store) : Option (List D) := match d with
  | .p (.tuple xs) => some (xs.map D.p)
  | d => asL d st
/-- the data of a value -/
def asV (d : D) (st : Store) : Option PyData := match d with
  | .p v => some v
  | .r n => (cellL st n).bind fun xs => (pures xs).map .list
def LIM : Nat := 1000000
abbrev O := Option (D × Store)
def O.toR (o : O) : R D := match o with
  | some (v, st) => .ok v st
  | none => .bad
def fin (m : Bool) (ds : List D) (st : Store) : O :=
  if ds.length ≤ LIM then
    if m then some (.r st.length, st ++ [.lst ds])
    else (pures ds).map fun vs => (.p (.list vs), st)
  else none
def finT (ds : List D) (st : Store) : O := (pures ds).bind fun vs => if vs.length ≤ LIM then some (.p (.tuple vs), st) else none
def finD (ps : List (Ky × D)) (st : Store) : O := if ps.length ≤ LIM then some (.r st.length, st ++ [.dic (putAll [] ps)]) else none
def bl (b : Bool) : D := .p (.bool b)
def nt (i : Int) : D := .p (.int i)
def tx (s : Str) : D := .p (.str s)
def nn : D := .p .none
def sign (c : Nat) : PyData := .str ⟨#[c]⟩
def signs (s : Str) : List PyData := s.cps.toList.map sign

/-! ### operations -/
def small (i : Int) : Bool := decide (-(2 ^ 64) < i) && decide (i < 2 ^ 64)
def mulOk (i j : Int) : Bool := small i || small j || decide (i.natAbs.log2 + j.natAbs.log2 < 1000000)
def binI (op : Operator) (i j : Int) : Option Int := match op with
  | .Add => some (i + j)
  | .Sub => some (i - j)
  | .Mult => if mulOk i j then some (i * j) else none
  | .FloorDiv => if 0 < j ∧ j.natAbs.log2 < 9000 then some (i / j) else none
  | .Mod => if 0 < j then some (i % j) else none
  | .Pow => if 0 ≤ j ∧ j ≤ 1000000 ∧ i.natAbs < 2 ^ 64 then some (i ^ j.toNat) else none
  | _ => none
def catL (m : Bool) (x y : D) (st : Store) : O :=
  (asL x st).bind fun xs => (asL y st).bind fun ys => fin m (xs ++ ys) st
def binop (m : Bool) (op : Operator) (x y : D) (st : Store) : O := match x, y with
  | .p (.int i), .p (.int j) => (binI op i j).map fun k => (nt k, st)
  | .p (.tuple xs), .p (.tuple ys) => match op with
    | .Add => if xs.length + ys.length ≤ LIM then some (.p (.tuple (xs ++ ys)), st) else none
    | _ => none
  | x, y => match op with
    | .Add => catL m x y st
    | _ => none
def flat : PyData → Bool
  | .none => true
  | .bool _ => true
  | .int _ => true
  | .str _ => true
  | _ => false
def eqOp (x y : D) (st : Store) : Option Bool := match asV x st, asV y st with
  | some u, some v => if (flat u && flat v) || (SeqAt.shaped u && SeqAt.shaped v) then some (PyData.eqv u v) else none
  | _, _ => none
def subT (a b : Str) : Bool := !(Builtin.Str.occurrences b a 0 b.length 1).isEmpty
def inOp (x y : D) (st : Store) : Option Bool := match x, y with
  | .p (.str a), .p (.str b) => some (subT a b)
  | .p u, y => match asQ y st with
    | some ds => match pures ds with
      | some vs => if flat u && vs.all flat then some (vs.any fun v => PyData.eqv v u) else none
      | none => none
    | none => none
  | _, _ => none
def isNone (x : D) : Bool := match x with
  | .p .none => true
  | _ => false
def cmpI (op : CmpOp) (i j : Int) : Option Bool := match op with
  | .Lt => some (decide (i < j))
  | .LtE => some (decide (i ≤ j))
  | .Gt => some (decide (j < i))
  | .GtE => some (decide (j ≤ i))
  | _ => none
def ints2 (x y : D) : Option (Int × Int) := match x, y with
  | .p (.int i), .p (.int j) => some (i, j)
  | _, _ => none
def cmpB (op : CmpOp) (x y : D) (st : Store) : Option Bool := match op with
  | .Eq => eqOp x y st
  | .NotEq => (eqOp x y st).map (!·)
  | .In => inOp x y st
  | .NotIn => (inOp x y st).map (!·)
  | .Is => if isNone y then some (isNone x) else none
  | .IsNot => if isNone y then some (!isNone x) else none
  | op => (ints2 x y).bind fun p => cmpI op p.1 p.2
def cmpop (op : CmpOp) (x y : D) (st : Store) : O := (cmpB op x y st).map fun b => (bl b, st)
def truth (x : D) (st : Store) : Option Bool := match x with
  | .p .none => some false
  | .p (.bool b) => some b
  | .p (.int i) => some (i != 0)
  | .p (.str s) => if s.length ≤ LIM then some ((s.length : Int) != 0) else none
  | .p (.tuple xs) => some (!xs.isEmpty)
  | x => match asL x st with
    | some xs => some (!xs.isEmpty)
    | none => none
def tyOf (x : D) (st : Store) : Option Ty := match x with
  | .p .none => some .none
  | .p (.bool _) => some .bool
  | .p (.int _) => some .int
  | .p (.str _) => some .str
  | .p (.tuple _) => some .tuple
  | .p (.list _) => some .list
  | .p (.dict _) => some .dict
  | .r n => (cellL st n).map fun _ => .list
def anyTy (x : D) (st : Store) (ts : List Ty) : Option Bool := (tyOf x st).map fun t => ts.any t.sub
def cut {α : Type} (xs : List α) (lo hi : Option Int) : List α := (xs.drop (HT.sIx xs.length 0 lo)).take (HT.sIx xs.length xs.length hi - HT.sIx xs.length 0 lo)
def slice (m : Bool) (x : D) (lo hi : Option Int) (st : Store) : O := match x with
  | .p (.tuple xs) => some (.p (.tuple (cut xs lo hi)), st)
  | x => (asL x st).bind fun ds => fin m (cut ds lo hi) st
def revS (m : Bool) (x : D) (st : Store) : O := match x with
  | .p (.tuple xs) => some (.p (.tuple xs.reverse), st)
  | x => (asL x st).bind fun ds => fin m ds.reverse st
def index (x y : D) (st : Store) : O := match y with
  | .p (.int i) => match x with
    | .p (.str s) => if s.length ≤ LIM then (L2.atI s.cps.toList i).map fun c => (D.p (sign c), st) else none
    | x => (asQ x st).bind fun ds => (L2.atI ds i).map fun d => (d, st)
  | _ => none
def setIx (o i v : D) (st : Store) : Option Store := match o, i with
  | .r n, .p (.int k) => (cellL st n).bind fun ds => (L2.ixN ds.length k).map fun j => st.set n (.lst (ds.set j v))
  | _, _ => none
/-- o[i], the place not below nought -/
def getIx (o i : D) (st : Store) : Option D := match i with
  | .p (.int k) => if 0 ≤ k then (asL o st).bind fun ds => ds[k.toNat]? else none
  | _ => none
/-- op= of ints -/
def augI (op : Operator) (x y : D) : Option Int := (ints2 x y).bind fun p => match op with
  | .Add => some (p.1 + p.2)
  | .Sub => some (p.1 - p.2)
  | .Mod => if 0 < p.2 then some (p.1 % p.2) else none
  | .RShift => if 0 ≤ p.2 then some (p.1 / 2 ^ p.2.toNat) else none
  | _ => none
def asInts : List D → Option (List Int)
  | [] => some []
  | .p (.int i) :: ds => (asInts ds).map (i :: ·)
  | _ => none
def asBools : List D → Option (List Bool)
  | [] => some []
  | .p (.bool b) :: ds => (asBools ds).map (b :: ·)
  | _ => none
/-- ints in rising order -/
def sortI (xs : List Int) : List Int := xs.mergeSort fun a b => decide (a ≤ b)
def insU (x : Int) : List Int → List Int
  | [] => [x]
  | y :: ys => if x < y then x :: y :: ys else if x = y then y :: ys else y :: insU x ys
/-- each once, in rising order -/
def uniqI (xs : List Int) : List Int := xs.foldr insU []
def keysI : List (Ky × D) → Option (List Int)
  | [] => some []
  | (.inl i, _) :: r => (keysI r).map (i :: ·)
  | _ => none
def lenOf (x : D) (st : Store) : Option Int := match x with
  | .p (.str s) => if s.length ≤ LIM then some (s.length : Int) else none
  | .r n => match st[n]? with
    | some (.lst xs) => some (xs.length : Int)
    | some (.dic kvs) => some (kvs.length : Int)
    | _ => none
  | x => (asQ x st).map fun xs => (xs.length : Int)
def intOf (x : D) : Option Int := match x with
  | .p (.int i) => some i
  | _ => none
/-- the ints of a list, of a dict's keys, in rising order -/
def ordOf (x : D) (st : Store) : Option (List Int) := match x with
  | .r n => match st[n]? with
    | some (.lst xs) => (asInts xs).map sortI
    | some (.dic kvs) => (keysI kvs).bind fun ns => if ns.length < 64 then some (sortI ns) else none
    | _ => none
  | x => ((asL x st).bind asInts).map sortI
def zipOf (x y : D) (st : Store) : Option (List D × List D) := match x, y with
  | .p (.tuple xs), .p (.tuple ys) => some (xs.map D.p, ys.map D.p)
  | x, y => (asL x st).bind fun xs => (asL y st).map fun ys => (xs, ys)
/-- list(zip(x, y)), of one length -/
def lzip (m : Bool) (x y : D) (st : Store) : O := (zipOf x y st).bind fun p => (pures p.1).bind fun xs => (pures p.2).bind fun ys =>
  if xs.length = ys.length then fin m ((xs.zip ys).map fun q => D.p (.tuple [q.1, q.2])) st else none
def builtin (m : Bool) (f : Bf) (ds : List D) (st : Store) : O := match f, ds with
  | .len, [x] => (lenOf x st).map fun n => (nt n, st)
  | .abs, [x] => (intOf x).map fun i => (nt (if i < 0 then -i else i), st)
  | .int, [x] => (intOf x).map fun i => (nt i, st)
  | .list, [x] => (asQ x st).bind fun xs => fin m xs st
  | .tuple, [x] => (asQ x st).bind fun xs => finT xs st
  | .all, [x] => ((asL x st).bind asBools).map fun bs => (bl (bs.all id), st)
  | .any, [x] => ((asL x st).bind asBools).map fun bs => (bl (bs.any id), st)
  | .sorted, [x] => (ordOf x st).bind fun ns => fin m (ns.map nt) st
  | .sset, [x] => ((asQ x st).bind asInts).bind fun ns => if ns.length < 64 then fin m ((uniqI ns).map nt) st else none
  | _, _ => none
/-- the receiver is of the method's class -/
def recvOk (_f : Mf) (x : D) (st : Store) : Bool := (asL x st).isSome
def method (_m : Bool) (f : Mf) (x : D) (ds : List D) (st : Store) : O := match f, x, ds with
  | .append, .r n, [v] => (cellL st n).bind fun xs => if xs.length < LIM then some (nn, st.set n (.lst (xs ++ [v]))) else none
  | .extend, .r n, [v] => (cellL st n).bind fun xs => (asL v st).bind fun ys => if xs.length + ys.length ≤ LIM then some (nn, st.set n (.lst (xs ++ ys))) else none
  | _, _, _ => none

/-! ### targets -/
mutual
def asg : TG → D → Env → Option Env
  | .nm i, d, e => if i < e.length then some (e.set i (some d)) else none
  | .tp ts, .p (.tuple xs), e => if xs.length = ts.length then asgs ts xs e else none
  | .tp _, _, _ => none
def asgs : List TG → List PyData → Env → Option Env
  | [], [], e => some e
  | t :: ts, x :: xs, e => match asg t (.p x) e with
    | some e1 => asgs ts xs e1
    | none => none
  | _, _, _ => none
end

/-! ### what is walked -/
inductive Src where
  | xs (l : List D)
  | rf (n : Nat)
/-- none: it is no list any longer; some none: the end -/
def Src.get (s : Src) (st : Store) (i : Nat) : Option (Option D) := match s with
  | .xs l => some l[i]?
  | .rf n => (cellL st n).map fun l => l[i]?
def Src.size (s : Src) (st : Store) : Nat := match s with
  | .xs l => l.length
  | .rf n => ((cellL st n).map List.length).getD 0
def srcOf (d : D) (st : Store) : Option Src := match d with
  | .p (.list xs) => some (.xs (xs.map D.p))
  | .p (.tuple xs) => some (.xs (xs.map D.p))
  | .p (.str s) => some (.xs ((signs s).map D.p))
  | .r n => (cellL st n).map fun _ => .rf n
  | _ => none
def upto (a b : Int) : List D := (List.range (b - a).toNat).map fun i => nt (a + (i : Nat))
def numbered (n : Int) (xs : List PyData) : List D := xs.zipIdx.map fun p => D.p (.tuple [.int (n + (p.2 : Nat)), p.1])
def zipped (xs ys : List PyData) : List D := (xs.zip ys).map fun p => D.p (.tuple [p.1, p.2])

def R.noex {α : Type} (r : R α) : R α := match r with
  | .ex _ _ _ => .bad
  | r => r
/-- a comprehension's turns -/
def lcGo {α : Type} (get : Store → Nat → Option (Option D)) (step : D → Store → R (Option α)) : Nat → Nat → Store → R (List α)
  | k, i, st => match get st i with
    | none => .bad
    | some none => .ok [] st
    | some (some x) => match k with
      | 0 => .bad
      | k + 1 => (step x st).bind fun o st => (lcGo get step k (i + 1) st).bind fun r st => .ok (o.toList ++ r) st

/-- a for's turns -/
def forGo (get : Store → Nat → Option (Option D)) (g : TG) (b : Env → Store → S) : Nat → Nat → Env → Store → S
  | k, i, e, st => match get st i with
    | none => .bad
    | some none => .nx e st
    | some (some x) => match k with
      | 0 => .bad
      | k + 1 => match asg g x e with
        | none => .bad
        | some e1 => match b e1 st with
          | .nx e2 st2 => forGo get g b k (i + 1) e2 st2
          | .ct e2 st2 => forGo get g b k (i + 1) e2 st2
          | .bk e2 st2 => .nx e2 st2
          | r => r

/-- a while's turns, as far as n goes -/
def whN (c : Env → Store → R Bool) (b : Env → Store → S) : Nat → Env → Store → Option S
  | 0, _, _ => none
  | n + 1, e, st => match c e st with
    | .ok true st1 => match b e st1 with
      | .nx e2 st2 => whN c b n e2 st2
      | .ct e2 st2 => whN c b n e2 st2
      | .bk e2 st2 => some (.nx e2 st2)
      | r => some r
    | .ok false st1 => some (.nx e st1)
    | .ex k fs st1 => some (.ex k fs e st1)
    | .bad => some .bad
open Classical in
noncomputable def wh (c : Env → Store → R Bool) (b : Env → Store → S) (e : Env) (st : Store) : S :=
  if h : ∃ n r, whN c b n e st = some r then h.choose_spec.choose else .bad

/-- what the code leans on: the defs that it may call, the module's plain constants -/
structure Tab where
  fn : Str → List D → Store → R D
  glo : Str → Option PyData

def wipeE (e : Env) : List Nat → Env
  | [] => e
  | v :: vs => (wipeE e vs).set v none

variable (T : Tab)
mutual
def ev : C → Env → Store → R D
  | .var i, e, st => match e[i]? with
    | some (some d) => .ok d st
    | _ => .bad
  | .cst v, _, st => .ok (.p v) st
  | .glo x, _, st => match T.glo x with
    | some v => .ok (.p v) st
    | none => .bad
  | .bin m op a b, e, st => (ev a e st).bind fun x st => (ev b e st).bind fun y st => (binop m op x y st).toR
  | .neg a, e, st => (ev a e st).bind fun x st => match x with
    | .p (.int i) => .ok (nt (-i)) st
    | _ => .bad
  | .cmp op a b, e, st => (ev a e st).bind fun x st => (ev b e st).bind fun y st => (cmpop op x y st).toR
  | .chn o1 o2 a b c, e, st => (ev a e st).bind fun x st => (ev b e st).bind fun y st => match cmpB o1 x y st with
    | some true => (ev c e st).bind fun z st => (cmpop o2 y z st).toR
    | some false => .ok (bl false) st
    | none => .bad
  | .andC a b, e, st => (ev a e st).bind fun x st => match truth x st with
    | some true => ev b e st
    | some false => .ok x st
    | none => .bad
  | .orC a b, e, st => (ev a e st).bind fun x st => match truth x st with
    | some true => .ok x st
    | some false => ev b e st
    | none => .bad
  | .notC a, e, st => (ev a e st).bind fun x st => match truth x st with
    | some b => .ok (bl !b) st
    | none => .bad
  | .ifC c a b, e, st => (evT c e st).bind fun k st => if k then ev a e st else ev b e st
  | .tup es, e, st => (evs es e st).bind fun ds st => (finT ds st).toR
  | .lst m es, e, st => (evs es e st).bind fun ds st => (fin m ds st).toR
  | .call f es, e, st => (evs es e st).bind fun ds st => T.fn f ds st
  | .blt m f es, e, st => (evs es e st).bind fun ds st => (builtin m f ds st).toR
  | .isi a ts, e, st => (ev a e st).bind fun x st => match anyTy x st ts with
    | some b => .ok (bl b) st
    | none => .bad
  | .mth m o f es, e, st => (ev o e st).bind fun x st => if recvOk f x st then (evs es e st).bind fun ds st => (method m f x ds st).toR else .bad
  | .idx a b, e, st => (ev a e st).bind fun x st => (ev b e st).bind fun y st => (index x y st).toR
  | .sli m a lo hi, e, st => (ev a e st).bind fun x st => (evO lo e st).bind fun l st => (evO hi e st).bind fun h st => (slice m x l h st).toR
  | .rev m a, e, st => (ev a e st).bind fun x st => (revS m x st).toR
  | .lc m own elt g it ifs, e, st => (evI it e st).bind fun src st => (lcGo src.get (fun x st => match asg g x (wipeE e own) with
      | some e1 => ((evT ifs e1 st).bind fun k st => if k then (ev elt e1 st).bind fun d st => .ok (some d) st else .ok none st).noex
      | none => .bad) (src.size st) 0 st).bind fun ds st => (fin m ds st).toR
  | .dc own kc vc g it ifs, e, st => (evI it e st).bind fun src st => (lcGo src.get (fun x st => match asg g x (wipeE e own) with
      | some e1 => ((evT ifs e1 st).bind fun b st => if b then (ev kc e1 st).bind fun k st => (ev vc e1 st).bind fun v st => match keyD k with
          | some k => .ok (some (k, v)) st
          | none => .bad
        else .ok none st).noex
      | none => .bad) (src.size st) 0 st).bind fun ps st => (finD ps st).toR
  | .lzip m a b, e, st => (ev a e st).bind fun x st => (ev b e st).bind fun y st => (lzip m x y st).toR
/-- a test -/
def evT : Q → Env → Store → R Bool
  | .yes, _, st => .ok true st
  | .val a, e, st => (ev a e st).bind fun x st => match truth x st with
    | some b => .ok b st
    | none => .bad
  | .both a b, e, st => (evT a e st).bind fun k st => if k then evT b e st else .ok false st
  | .eith a b, e, st => (evT a e st).bind fun k st => if k then .ok true st else evT b e st
  | .neg a, e, st => (evT a e st).bind fun k st => .ok (!k) st
def evs : Cs → Env → Store → R (List D)
  | .nil, _, st => .ok [] st
  | .cons a as, e, st => (ev a e st).bind fun d st => (evs as e st).bind fun ds st => .ok (d :: ds) st
/-- a slice's bound -/
def evO : Oc → Env → Store → R (Option Int)
  | .no, _, st => .ok none st
  | .so a, e, st => (ev a e st).bind fun x st => match x with
    | .p (.int i) => .ok (some i) st
    | _ => .bad
def evI : I → Env → Store → R Src
  | .val a, e, st => (ev a e st).bind fun x st => match srcOf x st with
    | some s => .ok s st
    | none => .bad
  | .rng a b, e, st => (ev a e st).bind fun x st => (ev b e st).bind fun y st => match ints2 x y with
    | some ij => if -(2 ^ 62) ≤ ij.1 ∧ ij.1 < 2 ^ 62 ∧ -(2 ^ 62) ≤ ij.2 ∧ ij.2 < 2 ^ 62 then .ok (.xs (upto ij.1 ij.2)) st else .bad
    | none => .bad
  | .zip a b, e, st => (ev a e st).bind fun x st => (ev b e st).bind fun y st => match x, y with
    | .p (.list xs), .p (.list ys) => .ok (.xs (zipped xs ys)) st
    | .p (.tuple xs), .p (.tuple ys) => .ok (.xs (zipped xs ys)) st
    | _, _ => .bad
  | .enu a n, e, st => (ev a e st).bind fun x st => match x with
    | .p (.list xs) => .ok (.xs (numbered n xs)) st
    | _ => .bad
end

mutual
/-- a statement -/
noncomputable def ex : B → Env → Store → S
  | .set i a, e, st => (ev T a e st).toS e fun x st => if i < e.length then .nx (e.set i (some x)) st else .bad
  | .par i j a b, e, st => (ev T a e st).toS e fun x st => (ev T b e st).toS e fun y st => if i < e.length ∧ j < e.length ∧ i ≠ j then .nx ((e.set i (some x)).set j (some y)) st else .bad
  | .tgt g a, e, st => (ev T a e st).toS e fun x st => match asg g x e with
    | some e1 => .nx e1 st
    | none => .bad
  | .aug i op a, e, st => match e[i]? with
    | some (some x) => (ev T a e st).toS e fun y st => match augI op x y with
      | some z => .nx (e.set i (some (nt z))) st
      | none => .bad
    | _ => .bad
  | .six o i a, e, st => (ev T a e st).toS e fun v st => (ev T o e st).toS e fun x st => (ev T i e st).toS e fun k st => match setIx x k v st with
    | some st => .nx e st
    | none => .bad
  | .aix o i op a, e, st => (ev T o e st).toS e fun x st => (ev T i e st).toS e fun k st => match getIx x k st with
    | some old => (ev T a e st).toS e fun y st => match augI op old y with
      | some z => match setIx x k (nt z) st with
        | some st => .nx e st
        | none => .bad
      | none => .bad
    | none => .bad
  | .exp a, e, st => (ev T a e st).toS e fun _ st => .nx e st
  | .ret a, e, st => (ev T a e st).toS e fun v st => .rt v st
  | .ife c a b, e, st => (evT T c e st).toS e fun k st => if k then exs a e st else exs b e st
  | .whl c b, e, st => wh (evT T c) (exs b) e st
  | .for_ g it b, e, st => (evI T it e st).toS e fun src st => forGo src.get g (exs b) (src.size st) 0 e st
  | .nop, e, st => .nx e st
  | .brk, e, st => .bk e st
  | .ctn, e, st => .ct e st
noncomputable def exs : List B → Env → Store → S
  | [], e, st => .nx e st
  | b :: bs, e, st => (ex b e st).seq (exs bs)
end

/-- how a def is run: pure: no cells go in, none come out; foot: the first argument is a cell, of plain data, the others are plain -/
inductive Mode where
  | pure | foot
structure Def where
  ps : Nat
  ns : Nat
  mode : Mode
  body : List B
def startE (n : Nat) (ds : List D) : Env := ds.map some ++ List.replicate (n - ds.length) none
/-- a cell of plain data -/
def isP : D → Bool
  | .p _ => true
  | _ => false
def plain (c : Cell) : Bool := match c with
  | .lst ds => (pures ds).isSome
  | .dic kvs => kvs.all fun q => isP q.2
  | _ => false
/-- the cell that went in, written back -/
def back (n : Nat) (st st1 : Store) : Option Store := match st1[0]? with
  | some c => if plain c then some (st.set n c) else none
  | none => none
/-- no cells went in -/
def leave (r : S) (st : Store) : R D := match r with
  | .nx _ _ => .ok nn st
  | .rt (.p v) _ => .ok (.p v) st
  | .rt (.r k) st1 => match st1[k]? with
    | some c => if plain c then .ok (.r st.length) (st ++ [c]) else .bad
    | none => .bad
  | .ex c fs _ _ => .ex c fs st
  | _ => .bad
/-- the n-th cell went in -/
def leaveF (n : Nat) (r : S) (st : Store) : R D := match r with
  | .nx _ st1 => match back n st st1 with
    | some st2 => .ok nn st2
    | none => .bad
  | .rt (.p v) st1 => match back n st st1 with
    | some st2 => .ok (.p v) st2
    | none => .bad
  | .ex c fs _ st1 => match back n st st1 with
    | some st2 => .ex c fs st2
    | none => .bad
  | _ => .bad
noncomputable def callD (d : Def) (ds : List D) (st : Store) : R D :=
  if ds.length = d.ps ∧ d.ps ≤ d.ns then match d.mode with
    | .pure => match pures ds with
      | some _ => leave (exs T d.body (startE d.ns ds) []) st
      | none => .bad
    | .foot => match ds with
      | .r n :: rest => match st[n]?, pures rest with
        | some c, some _ => if plain c then leaveF n (exs T d.body (startE d.ns (.r 0 :: rest)) [c]) st else .bad
        | _, _ => .bad
      | _ => .bad
  else .bad
/-- the defs by level -/
noncomputable def fnAt (prog : Str → Option Def) (glo : Str → Option PyData) : Nat → Str → List D → Store → R D
  | 0, _, _, _ => .bad
  | n + 1, f, ds, st => match prog f with
    | some d => callD ⟨fnAt prog glo n, glo⟩ d ds st
    | none => .bad
end Mi

set_option Elab.async false
set_option linter.all false
set_option maxRecDepth 100000
set_option maxHeartbeats 1000000
/-! Mi2: how the interpreter's values stand in the model's heap, over the hand layer. -/
namespace Mi
open PySem PySem.Spec PyProof.Rows L2

/-- a list that nobody writes any more -/
def FzL (H : Hp) (a : Addr) (vs : List V) : Prop := ∃ o, H a = some (.frz o (.lst vs))
section
variable (K : PySem.W.Frag)
mutual
inductive RP (H : Hp) : PyData → V → Prop
  | non : RP H .none .non
  | bl (b : Bool) : RP H (.bool b) (.bl b)
  | int (i : Int) : RP H (.int i) (.int i)
  | str (x : Str) : RP H (.str x) (.str x)
  | lst {a : Addr} {vs : List V} {xs : List PyData} : FzL H a vs → RPs H xs vs → RP H (.list xs) (.ref a)
  | tup {a : Addr} {vs : List V} {xs : List PyData} : SqT K H a vs → RPs H xs vs → RP H (.tuple xs) (.ref a)
inductive RPs (H : Hp) : List PyData → List V → Prop
  | nil : RPs H [] []
  | cons {x : PyData} {v : V} {xs : List PyData} {vs : List V} : RP H x v → RPs H xs vs → RPs H (x :: xs) (v :: vs)
end
def RD (as : List Addr) (H : Hp) (d : D) (x : V) : Prop := match d with
  | .p v => RP K H v x
  | .r n => ∃ a, as[n]? = some a ∧ x = .ref a
abbrev RDs (as : List Addr) (H : Hp) : List D → List V → Prop := Paired (RD K as H)
def RC (as : List Addr) (H : Hp) (c : Cell) (a : Addr) : Prop := match c with
  | .lst ds => ∃ vs, H a = some (.lst vs) ∧ RDs K as H ds vs
  | .dic kvs => ∃ ws, H a = some (.dK ws) ∧ Paired (fun (p : Ky × D) (q : Key × V) => p.1 = q.1 ∧ RD K as H p.2 q.2) kvs ws
  | .ins _ _ => False
  | .dead => True
structure RS (as : List Addr) (H : Hp) (st : Store) : Prop where
  len : st.length = as.length
  inj : ∀ (i j : Nat) (a : Addr), as[i]? = some a → as[j]? = some a → i = j
  live : ∀ (i : Nat) (a : Addr), as[i]? = some a → H a ≠ none
  cell : ∀ (i : Nat) (c : Cell) (a : Addr), st[i]? = some c → as[i]? = some a → RC K as H c a
def RE (as : List Addr) (H : Hp) (e : Env) (g : List (Option V)) : Prop :=
  e.length = g.length ∧ ∀ (i : Nat) (d : D), e[i]? = some (some d) → ∃ x, g[i]? = some (some x) ∧ RD K as H d x
end

/-- tuples and frozen lists stay -/
structure Keep (H H' : Hp) : Prop where
  tups : ∀ b xs, H b = some (.tup xs) → H' b = some (.tup xs)
  frzs : ∀ b o u, H b = some (.frz o u) → H' b = some (.frz o u)
/-- what grows -/
structure Ext (as : List Addr) (H : Hp) (bs : List Addr) (H' : Hp) : Prop where
  pre : ∃ more, bs = as ++ more ∧ ∀ p ∈ more, H p = none
  tups : ∀ b xs, H b = some (.tup xs) → H' b = some (.tup xs)
  frzs : ∀ b o u, H b = some (.frz o u) → H' b = some (.frz o u)
  frm : ∀ b o, H b = some o → b ∉ as → H' b = some o
  kp : ∀ b, H' b = none → H b = none
theorem Ext.refl {as : List Addr} {H : Hp} : Ext as H as H := ⟨⟨[], by simp, by simp⟩, fun _ _ h => h, fun _ _ _ h => h, fun _ _ h _ => h, fun _ h => h⟩
theorem Ext.trans {as bs cs : List Addr} {H H1 H2 : Hp} (a : Ext as H bs H1) (b : Ext bs H1 cs H2) : Ext as H cs H2 := by
  obtain ⟨m1, e1, n1⟩ := a.pre
  obtain ⟨m2, e2, n2⟩ := b.pre
  refine ⟨⟨m1 ++ m2, by rw [e2, e1, List.append_assoc], fun p hp => ?_⟩, fun c xs h => b.tups c xs (a.tups c xs h), fun c o u h => b.frzs c o u (a.frzs c o u h), fun c o h hc => ?_, fun c h => a.kp c (b.kp c h)⟩
  · rcases List.mem_append.mp hp with q | q
    · exact n1 p q
    · exact a.kp p (n2 p q)
  · refine b.frm c o (a.frm c o h hc) fun hb => ?_
    rw [e1] at hb
    rcases List.mem_append.mp hb with q | q
    · exact hc q
    · rw [n1 c q] at h; cases h
theorem Ext.keep {as bs : List Addr} {H H' : Hp} (x : Ext as H bs H') : Keep H H' := ⟨x.tups, x.frzs⟩
theorem upd_none {H : Hp} {a : Addr} {o : HO} {b : Addr} (h : upd H a o b = none) : H b = none := by
  by_cases q : b = a
  · rw [q, upd_same] at h; cases h
  · rw [upd_ne q] at h; exact h
theorem Ext.at_ {as bs : List Addr} {H H' : Hp} (x : Ext as H bs H') {i : Nat} {a : Addr} (h : as[i]? = some a) : bs[i]? = some a := by
  obtain ⟨m, e, _⟩ := x.pre
  rw [e, List.getElem?_append_left (List.getElem?_eq_some_iff.mp h).1]
  exact h

section
variable {K : PySem.W.Frag} {as bs : List Addr} {H H' : Hp}
theorem FzL.rd {a : Addr} {vs : List V} (h : FzL H a vs) : Rd H a (.lst vs) := .inr h
theorem FzL.sq {a : Addr} {vs : List V} (h : FzL H a vs) : SqL K H a vs := .inl h.rd
theorem FzL.keep (x : Keep H H') {a : Addr} {vs : List V} (h : FzL H a vs) : FzL H' a vs := h.imp fun o q => x.frzs _ _ _ q
theorem sqT_keep (x : Keep H H') {a : Addr} {vs : List V} (h : SqT K H a vs) : SqT K H' a vs := by
  rcases h with (h | ⟨o, h⟩) | h
  · exact .inl (.inl (x.tups _ _ h))
  · exact .inl (.inr ⟨o, x.frzs _ _ _ h⟩)
  · exact .inr h
mutual
theorem RP.keep (x : Keep H H') : ∀ {v : PyData} {u : V}, RP K H v u → RP K H' v u
  | _, _, .non => .non
  | _, _, .bl b => .bl b
  | _, _, .int i => .int i
  | _, _, .str s => .str s
  | _, _, .lst h t => .lst (h.keep x) (RPs.keep x t)
  | _, _, .tup h t => .tup (sqT_keep x h) (RPs.keep x t)
theorem RPs.keep (x : Keep H H') : ∀ {v : List PyData} {u : List V}, RPs K H v u → RPs K H' v u
  | _, _, .nil => .nil
  | _, _, .cons h t => .cons (RP.keep x h) (RPs.keep x t)
end
theorem RP.ext (x : Ext as H bs H') {v : PyData} {u : V} (h : RP K H v u) : RP K H' v u := RP.keep x.keep h
theorem RPs.ext (x : Ext as H bs H') {v : List PyData} {u : List V} (h : RPs K H v u) : RPs K H' v u := RPs.keep x.keep h
theorem RD.keep (x : Keep H H') {d : D} {u : V} (h : RD K as H d u) : RD K as H' d u := by
  cases d with
  | p v => exact RP.keep x h
  | r n => exact h
theorem RDs.keep (x : Keep H H') {ds : List D} {us : List V} (h : RDs K as H ds us) : RDs K as H' ds us := Paired.mapP h fun _ _ q => q.keep x
theorem RD.ext (x : Ext as H bs H') {d : D} {u : V} (h : RD K as H d u) : RD K bs H' d u := by
  cases d with
  | p v => exact RP.ext x h
  | r n =>
    obtain ⟨a, h1, h2⟩ := h
    exact ⟨a, x.at_ h1, h2⟩
theorem RDs.ext (x : Ext as H bs H') {ds : List D} {us : List V} (h : RDs K as H ds us) : RDs K bs H' ds us := Paired.mapP h fun _ _ q => q.ext x
theorem RE.ext (x : Ext as H bs H') {e : Env} {g : List (Option V)} (h : RE K as H e g) : RE K bs H' e g :=
  ⟨h.1, fun i d q => let ⟨y, h1, h2⟩ := h.2 i d q; ⟨y, h1, h2.ext x⟩⟩
theorem RE.get {e : Env} {g : List (Option V)} (h : RE K as H e g) {i : Nat} {d : D} (q : e[i]? = some (some d)) : ∃ x, g[i]? = some (some x) ∧ RD K as H d x := h.2 i d q
theorem RE.set {e : Env} {g : List (Option V)} (h : RE K as H e g) {i : Nat} {d : D} {x : V} (q : RD K as H d x) : RE K as H (e.set i (some d)) (g.set i (some x)) := by
  refine ⟨by simp [h.1], fun j d' hj => ?_⟩
  by_cases hij : i = j
  · subst hij
    have hl : i < e.length := by
      have := (List.getElem?_eq_some_iff.mp hj).1
      simpa using this
    rw [List.getElem?_set_self hl] at hj
    cases hj
    exact ⟨x, List.getElem?_set_self (by rw [← h.1]; exact hl), q⟩
  · rw [List.getElem?_set_ne hij] at hj
    obtain ⟨y, h1, h2⟩ := h.2 j d' hj
    exact ⟨y, by rw [List.getElem?_set_ne hij]; exact h1, h2⟩
theorem RPs.toD {xs : List PyData} {vs : List V} (h : RPs K H xs vs) : RDs K as H (xs.map D.p) vs := by
  induction xs generalizing vs with
  | nil => cases h; exact .nil
  | cons x xs ih => cases h with
    | cons h1 h2 => exact .cons h1 (ih h2)
theorem pures_rep : ∀ {ds : List D} {vs : List V} {ys : List PyData}, RDs K as H ds vs → pures ds = some ys → RPs K H ys vs
  | [], _, _, h, e => by
    cases h
    cases (Option.some.inj e)
    exact .nil
  | .p v :: ds, _, ys, h, e => by
    cases h with
    | cons h1 h2 =>
      unfold pures at e
      cases q : pures ds with
      | none => rw [q] at e; cases e
      | some zs =>
        rw [q] at e
        cases (Option.some.inj e)
        exact .cons h1 (pures_rep h2 q)
  | .r n :: ds, _, ys, _, e => by
    unfold pures at e
    cases e
theorem pures_length : ∀ {ds : List D} {ys : List PyData}, pures ds = some ys → ys.length = ds.length
  | [], _, e => by cases (Option.some.inj e); rfl
  | .p v :: ds, ys, e => by
    unfold pures at e
    cases q : pures ds with
    | none => rw [q] at e; cases e
    | some zs =>
      rw [q] at e
      cases (Option.some.inj e)
      simp [pures_length q]
  | .r n :: ds, _, e => by
    unfold pures at e
    cases e
theorem pures_eq : ∀ {ds : List D} {ys : List PyData}, pures ds = some ys → ds = ys.map D.p
  | [], _, e => by cases (Option.some.inj e); rfl
  | .p v :: ds, ys, e => by
    unfold pures at e
    cases q : pures ds with
    | none => rw [q] at e; cases e
    | some zs =>
      rw [q] at e
      cases (Option.some.inj e)
      simp [pures_eq q]
  | .r n :: ds, _, e => by
    unfold pures at e
    cases e
theorem pures_map (ys : List PyData) : pures (ys.map D.p) = some ys := by
  induction ys with
  | nil => rfl
  | cons y ys ih => simp [pures, ih]
theorem paired_append {α β : Type} {F : α → β → Prop} : ∀ {l1 l2 : List α} {r1 r2 : List β}, Paired F l1 r1 → Paired F l2 r2 → Paired F (l1 ++ l2) (r1 ++ r2)
  | _, _, _, _, .nil, k => k
  | _, _, _, _, .cons r t, k => .cons r (paired_append t k)
theorem RPs.append : ∀ {xs ys : List PyData} {vs ws : List V}, RPs K H xs vs → RPs K H ys ws → RPs K H (xs ++ ys) (vs ++ ws)
  | _, _, _, _, .nil, k => k
  | _, _, _, _, .cons r t, k => .cons r (RPs.append t k)
theorem RPs.length {xs : List PyData} {vs : List V} (h : RPs K H xs vs) : xs.length = vs.length := by
  induction xs generalizing vs with
  | nil => cases h; rfl
  | cons x xs ih => cases h with
    | cons h1 h2 => simp [ih h2]
/-- a list: it is to be read -/
theorem asL_rep {st : Store} {d : D} {x : V} {ds : List D} (rs : RS K as H st) (h : RD K as H d x) (e : asL d st = some ds) : ∃ a vs, x = .ref a ∧ Rd H a (.lst vs) ∧ RDs K as H ds vs := by
  cases d with
  | p v => cases v with
    | list xs =>
      cases h with
      | lst h1 h2 =>
        cases (Option.some.inj e)
        exact ⟨_, _, rfl, h1.rd, h2.toD⟩
    | _ => cases e
  | r n =>
    obtain ⟨a, h1, h2⟩ := h
    obtain ⟨vs, h3, h4⟩ := rs.cell n _ a (cellL_some e) h1
    exact ⟨a, vs, h2, .inl h3, h4⟩
theorem asQ_rep {st : Store} {d : D} {x : V} {ds : List D} (rs : RS K as H st) (h : RD K as H d x) (e : asQ d st = some ds) : ∃ a vs, x = .ref a ∧ (SqL K H a vs ∨ SqT K H a vs) ∧ RDs K as H ds vs := by
  cases d with
  | p v => cases v with
    | tuple xs =>
      cases h with
      | tup h1 h2 =>
        cases (Option.some.inj e)
        exact ⟨_, _, rfl, .inr h1, h2.toD⟩
    | list xs =>
      obtain ⟨a, vs, h1, h2, h3⟩ := asL_rep rs h (show asL (.p (.list xs)) st = some ds from e)
      exact ⟨a, vs, h1, .inl (.inl h2), h3⟩
    | _ => cases e
  | r n =>
    obtain ⟨a, vs, h1, h2, h3⟩ := asL_rep rs h (show asL (.r n) st = some ds from e)
    exact ⟨a, vs, h1, .inl (.inl h2), h3⟩
/-! the layer's deep data -/
mutual
theorem RP.dp : ∀ {v : PyData} {u : V}, RP K H v u → Dp K H u v
  | _, _, .non => .non
  | _, _, .bl b => .bl b
  | _, _, .int i => .int i
  | _, _, .str s => .str s
  | _, _, .lst h t => .lst h.sq (RPs.dp t)
  | _, _, .tup h t => .tup h (RPs.dp t)
theorem RPs.dp : ∀ {v : List PyData} {u : List V}, RPs K H v u → DpAll K H u v
  | _, _, .nil => .nil
  | _, _, .cons h t => .cons (RP.dp h) (RPs.dp t)
end
theorem asV_rep {st : Store} {d : D} {x : V} {v : PyData} (rs : RS K as H st) (h : RD K as H d x) (e : asV d st = some v) : Dp K H x v := by
  cases d with
  | p w =>
    cases (Option.some.inj e)
    exact RP.dp h
  | r n =>
    obtain ⟨a, h1, h2⟩ := h
    have e' : ((cellL st n).bind fun xs => (pures xs).map PyData.list) = some v := e
    obtain ⟨xs, q, e2⟩ := Option.bind_eq_some_iff.mp e'
    obtain ⟨ys, q2, e3⟩ := Option.map_eq_some_iff.mp e2
    obtain ⟨vs, h3, h4⟩ := rs.cell n _ a (cellL_some q) h1
    subst h2
    subst e3
    exact .lst (SqL.of h3) (RPs.dp (pures_rep h4 q2))

/-! ### the store grows, is written -/
theorem RD.more {ps : List Addr} {d : D} {u : V} (h : RD K as H d u) : RD K (as ++ ps) H d u := by
  cases d with
  | p v => exact h
  | r n =>
    obtain ⟨a, h1, h2⟩ := h
    exact ⟨a, by rw [List.getElem?_append_left (List.getElem?_eq_some_iff.mp h1).1]; exact h1, h2⟩
theorem RC.off {c : Cell} {a : Addr} (h : RC K as H c a) (x : Keep H H') (e : H' a = H a) : RC K as H' c a := by
  cases c with
  | lst es =>
    obtain ⟨us, q1, q2⟩ := h
    exact ⟨us, by rw [e]; exact q1, q2.keep x⟩
  | dic kvs =>
    obtain ⟨us, q1, q2⟩ := h
    exact ⟨us, by rw [e]; exact q1, Paired.mapP q2 fun _ _ z => ⟨z.1, z.2.keep x⟩⟩
  | ins _ _ => exact h
  | dead => trivial
theorem RC.more {ps : List Addr} {c : Cell} {a : Addr} (h : RC K as H c a) : RC K (as ++ ps) H c a := by
  cases c with
  | lst es =>
    obtain ⟨us, q1, q2⟩ := h
    exact ⟨us, q1, Paired.mapP q2 fun _ _ z => z.more⟩
  | dic kvs =>
    obtain ⟨us, q1, q2⟩ := h
    exact ⟨us, q1, Paired.mapP q2 fun _ _ z => ⟨z.1, z.2.more⟩⟩
  | ins _ _ => exact h
  | dead => trivial
theorem RC.ext (x : Ext as H bs H') {c : Cell} {a : Addr} (h : RC K as H c a) (e : H' a = H a) : RC K bs H' c a := by
  obtain ⟨m, rfl, _⟩ := x.pre
  exact (h.off x.keep e).more
/-- the heap changes beside the store -/
theorem RS.off {st : Store} (rs : RS K as H st) (x : Keep H H') (same : ∀ b ∈ as, H' b = H b) : RS K as H' st :=
  ⟨rs.len, rs.inj, fun i a hi => by rw [same a (List.mem_of_getElem? hi)]; exact rs.live i a hi, fun i c a hc hi => (rs.cell i c a hc hi).off x (same a (List.mem_of_getElem? hi))⟩
/-- an object that stands becomes a cell -/
theorem RS.take {st : Store} {p : Addr} {c0 : Cell} {o : HO} (rs : RS K as H st) (hp : H p = some o) (hn : p ∉ as) (h : RC K as H c0 p) : RS K (as ++ [p]) H (st ++ [c0]) := by
  have split : ∀ (i : Nat) (a : Addr), (as ++ [p])[i]? = some a → (i < as.length ∧ as[i]? = some a) ∨ (i = as.length ∧ a = p) := fun i a hi => by
    by_cases h1 : i < as.length
    · rw [List.getElem?_append_left h1] at hi
      exact .inl ⟨h1, hi⟩
    · rw [List.getElem?_append_right (by omega)] at hi
      have hz : i - as.length = 0 := by
        have := (List.getElem?_eq_some_iff.mp hi).1
        simpa using this
      rw [hz] at hi
      exact .inr ⟨by omega, by simpa using hi.symm⟩
  have ne : ∀ (i : Nat) (a : Addr), as[i]? = some a → a ≠ p := fun i a q z => hn (by rw [← z]; exact List.mem_of_getElem? q)
  refine ⟨by simp [rs.len], fun i j a hi hj => ?_, fun i a hi => ?_, fun i c a hc hi => ?_⟩
  · rcases split i a hi with ⟨_, h1⟩ | ⟨h1, e1⟩ <;> rcases split j a hj with ⟨_, h2⟩ | ⟨h2, e2⟩
    · exact rs.inj i j a h1 h2
    · exact absurd e2 (ne i a h1)
    · exact absurd e1 (ne j a h2)
    · omega
  · rcases split i a hi with ⟨_, h1⟩ | ⟨_, e1⟩
    · exact rs.live i a h1
    · rw [e1, hp]; exact fun z => by cases z
  · rcases split i a hi with ⟨h0, h1⟩ | ⟨h1, e1⟩
    · rw [List.getElem?_append_left (by rw [rs.len]; exact h0)] at hc
      exact (rs.cell i c a hc h1).more
    · rw [List.getElem?_append_right (by rw [rs.len]; omega), rs.len, h1] at hc
      have e2 : c0 = c := by simpa using hc
      subst e1
      subst e2
      exact h.more
/-- a list that stands becomes a cell -/
theorem RS.adopt {st : Store} {p : Addr} {ds : List D} {vs : List V} (rs : RS K as H st) (hp : H p = some (.lst vs)) (hn : p ∉ as) (h : RDs K as H ds vs) : RS K (as ++ [p]) H (st ++ [.lst ds]) :=
  rs.take (c0 := .lst ds) hp hn ⟨vs, hp, h⟩
theorem Keep.new {p : Addr} {o : HO} (hp : H p = none) : Keep H (upd H p o) := ⟨fun b xs q => by rw [upd_ne (ne_of_none q hp)]; exact q, fun b o u q => by rw [upd_ne (ne_of_none q hp)]; exact q⟩
/-- a new object beside the store -/
theorem Ext.lay {p : Addr} {o : HO} (hp : H p = none) : Ext as H as (upd H p o) :=
  ⟨⟨[], by simp, by simp⟩, (Keep.new hp).tups, (Keep.new hp).frzs, fun b u q _ => by rw [upd_ne (ne_of_none q hp)]; exact q, fun b q => upd_none q⟩
theorem RS.lay {st : Store} {p : Addr} {o : HO} (rs : RS K as H st) (hp : H p = none) : RS K as (upd H p o) st :=
  rs.off (Keep.new hp) fun b hb => upd_ne fun z => by
    obtain ⟨i, hi⟩ := List.mem_iff_getElem?.mp hb
    exact rs.live i b hi (by rw [z]; exact hp)
theorem RS.not_mem {st : Store} {p : Addr} (rs : RS K as H st) (hp : H p = none) : p ∉ as := fun hb => by
  obtain ⟨i, hi⟩ := List.mem_iff_getElem?.mp hb
  exact rs.live i p hi hp
theorem RS.push {st : Store} {p : Addr} {ds : List D} {vs : List V} (rs : RS K as H st) (hp : H p = none) (h : RDs K as H ds vs) :
    Ext as H (as ++ [p]) (upd H p (.lst vs)) ∧ RS K (as ++ [p]) (upd H p (.lst vs)) (st ++ [.lst ds]) :=
  ⟨⟨⟨[p], rfl, fun q hq => by simp at hq; rw [hq]; exact hp⟩, (Keep.new hp).tups, (Keep.new hp).frzs, fun b o q _ => by rw [upd_ne (ne_of_none q hp)]; exact q, fun b q => upd_none q⟩,
    (rs.lay hp).adopt upd_same (rs.not_mem hp) (h.keep (Keep.new hp))⟩
/-- the list in the n-th cell is written -/
theorem RS.write {st : Store} {n : Nat} {a : Addr} {xs ds : List D} {ws vs : List V} (rs : RS K as H st) (ha : as[n]? = some a) (hc : st[n]? = some (.lst xs)) (ho : H a = some (.lst ws)) (h : RDs K as H ds vs) :
    Ext as H as (upd H a (.lst vs)) ∧ RS K as (upd H a (.lst vs)) (st.set n (.lst ds)) := by
  have x : Ext as H as (upd H a (.lst vs)) := ⟨⟨[], by simp, by simp⟩, fun b xs q => by rw [upd_ne (ne_of q ho (fun z => by cases z))]; exact q, fun b o u q => by rw [upd_ne (ne_of q ho (fun z => by cases z))]; exact q,
    fun b o q hb => by rw [upd_ne (fun z => hb (by rw [z]; exact List.mem_of_getElem? ha))]; exact q, fun b q => upd_none q⟩
  refine ⟨x, by simp [rs.len], rs.inj, fun i b hi => ?_, fun i c b hc' hi => ?_⟩
  · by_cases hb : b = a
    · rw [hb, upd_same]; exact fun z => by cases z
    · rw [upd_ne hb]; exact rs.live i b hi
  · by_cases hin : n = i
    · subst hin
      rw [ha] at hi
      cases hi
      rw [List.getElem?_set_self (List.getElem?_eq_some_iff.mp hc).1] at hc'
      cases hc'
      exact ⟨vs, upd_same, h.ext x⟩
    · rw [List.getElem?_set_ne hin] at hc'
      exact (rs.cell i c b hc' hi).ext x (upd_ne fun z => hin (rs.inj n i a ha (by rw [← z]; exact hi)))
end
end Mi

set_option Elab.async false
set_option linter.all false
set_option maxRecDepth 100000
set_option maxHeartbeats 1000000
/-! Mi3: what an operation hands on; the operations on values. -/
namespace Mi
open PySem PySem.Spec PyProof.Rows L2

section
variable {X : Cx} {pn : List (Addr × Obj)} {g : List (Option V)} {H : Hp} {s : Shared}
theorem rd_list (I : Inv X pn g H s) {a : Addr} {vs : List V} (h : Rd H a (.lst vs)) :
    ∃ (its : List Value) (n : Nat), Vals vs its ∧ s.heap.get? a = some { cls := .type "list", data := .seq its.toArray n } ∧ vs.length ≤ sizeLine := by
  obtain ⟨z, its, n, r, e⟩ := h.ok I.hok
  exact ⟨its, n, r, e, z⟩

/-- a new list is left as it is, or frozen -/
def FZ (m : Bool) (Q : VK) : VK := fun x H => if m then Q x H else ∃ a vs, x = .ref a ∧ H a = some (.lst vs) ∧ ∀ o, Q x (upd H a (.frz o (.lst vs)))
theorem unfz {m : Bool} {Q : VK} {u : Value} (h : EP X pn g (FZ m Q) u s) : EP X pn g Q u s := by
  cases m with
  | true => exact h
  | false =>
    obtain ⟨x, H1, I1, r, a, vs, rfl, hl, q⟩ := h
    obtain ⟨z, its, n, rv, e⟩ := I1.hok a _ hl
    have I2 := Inv.write (x := a) (e := a) (o := .frz { cls := .type "list", data := .seq its.toArray n } (.lst vs)) (h' := s.heap) (t' := s.toks) I1 (by rw [hl]; trivial) (.inl rfl) (fun _ _ _ q => q) ⟨_, e⟩ ⟨e, z, its, n, rv, e⟩
    exact ⟨_, _, I2, r, q _⟩
theorem PE.unfz {e : PySem.Expr} {t : TE} {m : Bool} (h : PE X e t) : PE X e (fun g H Q => t g H (FZ m Q)) :=
  ⟨fun pn s g H Q I q => thn (h.run pn s g H _ I q) fun _ _ k => Mi.unfz k⟩
theorem PE.imp {e : PySem.Expr} {t t' : TE} (h : PE X e t) (k : ∀ g H Q, t' g H Q → t g H Q) : PE X e t' := ⟨fun pn s g H Q I q => h.run pn s g H Q I (k g H Q q)⟩
theorem PT.imp {e : PySem.Expr} {t t' : TT} (h : PT X e t) (k : ∀ g H Q, t' g H Q → t g H Q) : PT X e t' := ⟨fun pn s g H Q I q => h.run pn s g H Q I (k g H Q q)⟩
end

/-! ### what is handed on -/
section
variable (K : PySem.W.Frag)
def DV (as : List Addr) (H : Hp) (o : O) (Q : VK) : Prop := match o with
  | some (v, st) => ∀ bs H', Ext as H bs H' → RS K bs H' st → ∀ x, RD K bs H' v x → Q x H'
  | none => False
abbrev XR := Str → Flds → Value → Option Addr → Hp → Prop
def DG {α β : Type} (xr : XR) (W : WX) (rel : List Addr → Hp → α → β → Prop) (g : List (Option V)) (as : List Addr) (H : Hp) (r : R α) (Q : β → Hp → Prop) : Prop := match r with
  | .ok v st => ∀ bs H', Ext as H bs H' → RS K bs H' st → ∀ x, rel bs H' v x → Q x H'
  | .ex c fs st => ∀ bs H', Ext as H bs H' → RS K bs H' st → ∀ cls d, xr c fs cls d H' → W cls d g H'
  | .bad => False
end
section
variable {K : PySem.W.Frag} {xr : XR} {W : WX} {g : List (Option V)} {as bs : List Addr} {H H' : Hp} {α β γ δ : Type} {rel : List Addr → Hp → α → β → Prop} {rel' : List Addr → Hp → γ → δ → Prop}
theorem DG.mono {r : R α} {Q Q' : β → Hp → Prop} (h : DG K xr W rel g as H r Q) (k : ∀ x H, Q x H → Q' x H) : DG K xr W rel g as H r Q' := by
  cases r with
  | ok v st => exact fun bs H' e rs x q => k x H' (h bs H' e rs x q)
  | ex c fs st => exact h
  | bad => exact h
theorem DG.base {r : R α} {Q : β → Hp → Prop} (e : Ext as H bs H') (h : DG K xr W rel g as H r Q) : DG K xr W rel g bs H' r Q := by
  cases r with
  | ok v st => exact fun cs H2 e2 rs x q => h cs H2 (e.trans e2) rs x q
  | ex c fs st => exact fun cs H2 e2 rs c d q => h cs H2 (e.trans e2) rs c d q
  | bad => exact h
theorem DG.thn {m : R α} {f : α → Store → R γ} {Q : δ → Hp → Prop} (h : DG K xr W rel' g as H (m.bind f) Q) :
    DG K xr W rel g as H m (fun x H' => ∃ v bs st, Ext as H bs H' ∧ RS K bs H' st ∧ rel bs H' v x ∧ DG K xr W rel' g bs H' (f v st) Q) := by
  cases m with
  | ok v st => exact fun bs H' e rs x q => ⟨v, bs, st, e, rs, q, DG.base e h⟩
  | ex c fs st => exact h
  | bad => exact h
theorem DV.of {o : O} {Q : VK} (h : DG K xr W (RD K) g as H o.toR Q) : DV K as H o Q := by
  cases o with
  | none => exact h
  | some p => exact h
theorem DV.base {o : O} {Q : VK} (e : Ext as H bs H') (h : DV K as H o Q) : DV K bs H' o Q := by
  cases o with
  | none => exact h
  | some p => exact fun cs H2 e2 rs x q => h cs H2 (e.trans e2) rs x q
/-- a plain value comes, nothing changes -/
theorem DV.now {v : D} {st : Store} {Q : VK} (h : DV K as H (some (v, st)) Q) (rs : RS K as H st) {x : V} (r : RD K as H v x) : Q x H := h as H .refl rs x r
theorem lim_line : LIM ≤ sizeLine := by rw [sizeLine_eq]; decide
/-- a list that stands beside the store is handed on -/
theorem fin_at {m : Bool} {ds : List D} {vs : List V} {st : Store} {Q : VK} {cs : List Addr} {H1 : Hp} {p : Addr} (h : DV K as H (fin m ds st) Q) (x : Ext as H cs H1) (rs : RS K cs H1 st) (hn : H p = none) (hc : p ∉ cs) (hp : H1 p = some (.lst vs)) (r : RDs K cs H1 ds vs) : FZ m Q (.ref p) H1 := by
  unfold fin at h
  split at h
  · cases m with
    | true =>
      obtain ⟨more, e, nw⟩ := x.pre
      refine h (cs ++ [p]) H1 ⟨⟨more ++ [p], by rw [e]; simp, fun q hq => ?_⟩, x.tups, x.frzs, x.frm, x.kp⟩ (rs.adopt hp hc r) _ ⟨p, ?_, rfl⟩
      · rcases List.mem_append.mp hq with hq | hq
        · exact nw q hq
        · simp at hq; rw [hq]; exact hn
      · rw [rs.len]; simp
    | false =>
      rw [if_neg (by simp)] at h
      cases q : pures ds with
      | none => rw [q] at h; exact h.elim
      | some ys =>
        rw [q] at h
        refine ⟨p, vs, rfl, hp, fun o => ?_⟩
        have k : Keep H1 (upd H1 p (.frz o (.lst vs))) := ⟨fun b xs q => by rw [upd_ne (ne_of q hp (fun z => by cases z))]; exact q, fun b o u q => by rw [upd_ne (ne_of q hp (fun z => by cases z))]; exact q⟩
        have e : Ext as H cs (upd H1 p (.frz o (.lst vs))) :=
          ⟨x.pre, fun b xs q => k.tups _ _ (x.tups b xs q), fun b o u q => k.frzs _ _ _ (x.frzs b o u q), fun b u q hb => by rw [upd_ne (ne_of_none q hn)]; exact x.frm b u q hb, fun b q => x.kp b (upd_none q)⟩
        exact h _ _ e (rs.off k fun b hb => upd_ne fun z => hc (by rw [← z]; exact hb)) _ (.lst ⟨o, upd_same⟩ (RPs.keep k (pures_rep r q)))
  · exact h.elim
theorem fin_len {m : Bool} {ds : List D} {st : Store} {Q : VK} (h : DV K as H (fin m ds st) Q) : ds.length ≤ LIM := by
  unfold fin at h
  split at h
  · assumption
  · exact h.elim
/-- a new list -/
theorem fin_new {m : Bool} {ds : List D} {vs : List V} {st : Store} {Q : VK} (h : DV K as H (fin m ds st) Q) (rs : RS K as H st) (r : RDs K as H ds vs) : vs.length ≤ sizeLine ∧ ∀ p, H p = none → FZ m Q (.ref p) (upd H p (.lst vs)) :=
  ⟨by have := fin_len h; have := lim_line; rw [← Paired.length r]; omega, fun p hp => fin_at h (.lay hp) (rs.lay hp) hp (rs.not_mem hp) upd_same (r.keep (Keep.new hp))⟩
/-- a new tuple -/
theorem tup_new {ys : List PyData} {vs : List V} {st : Store} {Q : VK} (h : DV K as H (some (.p (.tuple ys), st)) Q) (rs : RS K as H st) (r : RPs K H ys vs) (p : Addr) (hp : H p = none) : Q (.ref p) (upd H p (.tup vs)) :=
  h _ _ (.lay hp) (rs.lay hp) _ (.tup (SqT.of upd_same) (RPs.keep (Keep.new hp) r))
theorem rp_int {i : Int} {x : V} (h : RP K H (.int i) x) : x = .int i := by cases h; rfl
theorem rp_str {i : Str} {x : V} (h : RP K H (.str i) x) : x = .str i := by cases h; rfl
theorem rp_bool {i : Bool} {x : V} (h : RP K H (.bool i) x) : x = .bl i := by cases h; rfl
theorem rp_none {x : V} (h : RP K H .none x) : x = .non := by cases h; rfl
theorem rp_tup {ys : List PyData} {x : V} (h : RP K H (.tuple ys) x) : ∃ a vs, x = .ref a ∧ SqT K H a vs ∧ RPs K H ys vs := by
  cases h with
  | tup h1 h2 => exact ⟨_, _, rfl, h1, h2⟩
end

/-! ### two operands -/
/-- by values: the operands stand, and the operation's outcome is wanted -/
def rB (K : PySem.W.Frag) (f : D → D → Store → O) : R2 := fun x y H Q => ∃ as st a b, RS K as H st ∧ RD K as H a x ∧ RD K as H b y ∧ DV K as H (f a b st) Q
section
variable {X : Cx}
theorem s_add_lists (m : Bool) : OpR X (binaryOp .Add) (rB X.K (catL m)) := by
  intro pn s g H x y v u Q I rx ry ⟨as, st, a, b, rs, ra, rb, h⟩
  unfold catL at h
  cases ea : asL a st with
  | none => rw [ea] at h; exact h.elim
  | some xs =>
    cases eb : asL b st with
    | none => rw [ea, eb] at h; exact h.elim
    | some ys =>
      rw [ea, eb] at h
      obtain ⟨p, vs, rfl, h1, h2⟩ := asL_rep rs ra ea
      obtain ⟨q, ws, rfl, h3, h4⟩ := asL_rep rs rb eb
      obtain ⟨hz, fin⟩ := fin_new h rs (paired_append h2 h4)
      obtain ⟨its, n, r1, e1, z1⟩ := rd_list I h1
      obtain ⟨its2, n2, r2, e2, z2⟩ := rd_list I h3
      cases rx
      cases ry
      have hz' : its.toArray.size + its2.toArray.size ≤ sizeLine := by
        rw [List.size_toArray, List.size_toArray, ← r1.length, ← r2.length]
        simpa using hz
      refine PySem.P.add_list e1 e2 (unfz (m := m) ?_) hz'
      have et : its.toArray ++ its2.toArray = (its ++ its2).toArray := by simp
      rw [et]
      exact ⟨.ref _, _, I.lnew (t' := s.toks) (r1.append r2) hz, rfl, fin _ I.fresh⟩
theorem opI_of {op : Operator} {C : Int → Int → Prop} {f : Int → Int → V} {m : Bool} {i j k : Int} {as : List Addr} {st : Store} (ho : OpR X (binaryOp op) (rI C f)) {pn : List (Addr × Obj)} {s : Shared} {g : List (Option V)} {H : Hp} {x y : V} {v u : Value} {Q : VK}
    (I : Inv X pn g H s) (rx : RelV x v) (ry : RelV y u) (rs : RS X.K as H st) (hx : x = .int i) (hy : y = .int j) (hc : C i j) (hf : f i j = .int k) (h : DV X.K as H (some (nt k, st)) Q) :
    wpAny (model X.prog X.w) X.A (binaryOp op v u) (EP X pn g Q) X.xe s :=
  ho pn s g H x y v u Q I rx ry ⟨i, j, hx, hy, hc, by rw [hf]; exact h.now rs (.int k)⟩
theorem small_iff {i : Int} : small i = true ↔ -(2 ^ 64) < i ∧ i < 2 ^ 64 := by unfold small; simp
theorem s_int (m : Bool) (op : Operator) {pn : List (Addr × Obj)} {s : Shared} {g : List (Option V)} {H : Hp} {v u : Value} {Q : VK} {i j k : Int} {as : List Addr} {st : Store}
    (I : Inv X pn g H s) (rx : RelV (.int i) v) (ry : RelV (.int j) u) (rs : RS X.K as H st) (hk : binI op i j = some k) (h : DV X.K as H (some (nt k, st)) Q) :
    wpAny (model X.prog X.w) X.A (binaryOp op v u) (EP X pn g Q) X.xe s := by
  have fin : Q (.int k) H := h.now rs (.int k)
  cases op <;> try (cases hk; done)
  · cases (Option.some.inj hk)
    exact op_add pn s g H _ _ v u Q I rx ry ⟨i, j, rfl, rfl, fin⟩
  · cases (Option.some.inj hk)
    exact op_sub pn s g H _ _ v u Q I rx ry ⟨i, j, rfl, rfl, fin⟩
  · have hk : (if mulOk i j then some (i * j) else none) = some k := hk
    split at hk
    · rename_i hc
      cases (Option.some.inj hk)
      unfold mulOk at hc
      simp only [Bool.or_eq_true, decide_eq_true_eq] at hc
      rcases hc with (hc | hc) | hc
      · exact op_mul pn s g H _ _ v u Q I rx ry ⟨i, j, rfl, rfl, .inl (small_iff.mp hc), fin⟩
      · exact op_mul pn s g H _ _ v u Q I rx ry ⟨i, j, rfl, rfl, .inr (small_iff.mp hc), fin⟩
      · exact op_mulW pn s g H _ _ v u Q I rx ry ⟨i, j, rfl, rfl, hc, fin⟩
    · cases hk
  · have hk : (if 0 < j then some (i % j) else none) = some k := hk
    split at hk
    · rename_i hc
      cases (Option.some.inj hk)
      exact op_mod pn s g H _ _ v u Q I rx ry ⟨i, j, rfl, rfl, hc, fin⟩
    · cases hk
  · have hk : (if 0 ≤ j ∧ j ≤ 1000000 ∧ i.natAbs < 2 ^ 64 then some (i ^ j.toNat) else none) = some k := hk
    split at hk
    · rename_i hc
      cases (Option.some.inj hk)
      exact op_pow pn s g H _ _ v u Q I rx ry ⟨i, j, rfl, rfl, hc, fin⟩
    · cases hk
  · have hk : (if 0 < j ∧ j.natAbs.log2 < 9000 then some (i / j) else none) = some k := hk
    split at hk
    · rename_i hc
      cases (Option.some.inj hk)
      exact op_fdivW pn s g H _ _ v u Q I rx ry ⟨i, j, rfl, rfl, hc, fin⟩
    · cases hk
theorem s_bin (m : Bool) (op : Operator) : OpR X (binaryOp op) (rB X.K (binop m op)) := by
  intro pn s g H x y v u Q I rx ry ⟨as, st, a, b, rs, ra, rb, h⟩
  unfold binop at h
  split at h
  · rename_i i j
    cases hk : binI op i j with
    | none => rw [hk] at h; exact h.elim
    | some k =>
      rw [hk] at h
      cases rp_int ra
      cases rp_int rb
      exact s_int m op I rx ry rs hk h
  · rename_i xs ys
    split at h
    · split at h
      · rename_i hz
        obtain ⟨p, vs, rfl, h1, h2⟩ := rp_tup ra
        obtain ⟨q, ws, rfl, h3, h4⟩ := rp_tup rb
        have l1 := h2.length
        have l2 := h4.length
        refine op_catA pn s g H _ _ v u Q I rx ry ⟨p, q, vs, ws, rfl, rfl, h1, h3, by have := lim_line; omega, fun e => ?_, fun _ e => ?_, fun _ _ r hr => tup_new h rs (RPs.append h2 h4) r hr⟩
        · have : xs = [] := by
            rw [e] at l1
            exact List.eq_nil_of_length_eq_zero l1
          subst this
          exact h.now rs (.tup h3 h4)
        · have : ys = [] := by
            rw [e] at l2
            exact List.eq_nil_of_length_eq_zero l2
          subst this
          rw [List.append_nil] at h
          exact h.now rs (.tup h1 h2)
      · exact h.elim
    · exact h.elim
  · split at h
    · exact s_add_lists m pn s g H x y v u Q I rx ry ⟨as, st, _, _, rs, ra, rb, h⟩
    · exact h.elim
end
end Mi

set_option Elab.async false
set_option linter.all false
set_option maxRecDepth 100000
set_option maxHeartbeats 1000000
/-! MiZ: list(zip(a, b)). -/
namespace Mi
open PySem PySem.Spec PyProof.Rows L2
section
variable {P : Program} {w : World} {A : Around} {E : Value → Shared → Prop} {s : Shared} {z TI TO p q Tm : Addr} {fp fq : List Addr} {n i : Nat} {U V' : Nat → Value → Prop} {Su Sv : Nat → Heap → Prop} {f : Bool} {om : Obj}
/-- next of a zip whose last tuple is still held by another -/
theorem zh_item {Q : Value → Shared → Prop} (S : ZipSep2 z TI TO p q fp fq) (D1 : Draws P w A p fp n U Su) (D2 : Draws P w A q fq n V' Sv)
    (hz : IsZipHeld s.heap z TI TO Tm f) (hm : s.heap.get? Tm = some om) (hI : IsTupOf2 s.heap TI (.ref p) (.ref q)) (s1 : Su i s.heap) (s2 : Sv i s.heap) (hl : i < n)
    (go : ∀ x y h' tk, U i x → V' i y → IsZipHeld h' z TI TO Tm true → Su (i + 1) h' → Sv (i + 1) h' → h'.get? s.heap.objs.size = some { cls := .type "tuple", data := .seq #[x, y] } →
      (∀ c o, c ≠ z → c ≠ p → c ≠ q → s.heap.get? c = some o → h'.get? c = some o) → Q (.ref s.heap.objs.size) { s with heap := h', toks := tk }) :
    wpAny (model P w) A (Builtin.«zip.__next__» ⟨[.ref z], []⟩) (fun fin s' => ∃ v, fin = .done (.ret v) ∧ Q v s') E s := by
  obtain ⟨hp0, gn, dr, tk0, osx⟩ := s
  show wpAny _ _ (field (.ref z) 2 >>= _) _ _ _
  refine wpAny_bind (wpAny_field hz rfl (x := .bool false) rfl ?_)
  show wpAny _ _ (field (.ref z) 3 >>= _) _ _ _
  refine wpAny_bind (wpAny_field hz rfl (x := .ref TI) rfl ?_)
  refine wpAny_bind (wpAny_seqItems hI rfl ?_)
  show wpAny _ _ (Builtin.SmallTypes.ownedTupleIsFree (.ref z) >>= _) _ _ _
  refine wpAny_bind (wpAny_tupleHeld_zip hz hm fun ha za sa => ?_)
  replace sa : Heap.SameBut z hp0 ha := sa
  simp only [Bool.false_eq_true, if_false]
  refine wpAny_bind ?_
  rw [← Array.forIn_toList]
  simp only [List.forIn_cons, List.forIn_nil]
  refine wpAny_bind (wpAny_bind (wpAny_holding ?_))
  show wpAny _ _ (Builtin.SmallTypes.nextOf (.ref p) >>= _) _ _ _
  refine wpAny_bind (D1.item i _ _ _ hl (D1.over s1 sa S.zf1) fun x hb tb hx sb kb => wpAny_pure ?_)
  replace kb : Heap.SameBut p ha hb := kb
  refine wpAny_pure ?_
  refine wpAny_bind (wpAny_bind (wpAny_holding ?_))
  show wpAny _ _ (Builtin.SmallTypes.nextOf (.ref q) >>= _) _ _ _
  refine wpAny_bind (D2.item i _ _ _ hl (D2.over (D2.over s2 sa S.zf2) kb S.sep1_2) fun y hc tc hy sc kc => wpAny_pure ?_)
  replace kc : Heap.SameBut q hb hc := kc
  refine wpAny_pure (wpAny_pure ?_)
  show wpAny _ _ (newTuple [x, y] >>= _) _ _ _
  refine wpAny_bind (wpAny_newTuple ?_)
  have size : hc.objs.size = hp0.objs.size := by rw [kc.1, kb.1, sa.1]
  have zc : IsZipHeld hc z TI TO Tm true := kc.extBut _ _ S.zi2 (kb.extBut _ _ S.zi1 za)
  have keep : ∀ c o, c ≠ z → c ≠ p → c ≠ q → hp0.get? c = some o → hc.get? c = some o := fun c o c1 c2 c3 e => kc.extBut _ _ c3 (kb.extBut _ _ c2 (sa.extBut _ _ c1 e))
  have up : ∀ c o, hc.get? c = some o → (hc.push { cls := .type "tuple", data := .seq #[x, y] }).get? c = some o := fun c o e => Heap.get?_push_of_some _ e
  refine wpAny_pure ⟨_, rfl, ?_⟩
  show Q (.ref hc.objs.size) _
  have new : (hc.push { cls := .type "tuple", data := .seq #[x, y] }).get? hc.objs.size = some { cls := .type "tuple", data := .seq #[x, y] } := Heap.get?_push_size _ rfl
  rw [size] at new ⊢
  exact go x y _ _ hx hy (up _ _ zc) (D1.frame _ _ _ (D1.over sb kc S.sep2_1) fun b _ o e => up b o e) (D2.frame _ _ _ sc fun b _ o e => up b o e) new fun c o c1 c2 c3 e => up c o (keep c o c1 c2 c3 e)
theorem zh_end {Q : Fin → Shared → Prop} (S : ZipSep2 z TI TO p q fp fq) (D1 : Draws P w A p fp n U Su)
    (hz : IsZipHeld s.heap z TI TO Tm f) (hm : s.heap.get? Tm = some om) (hI : IsTupOf2 s.heap TI (.ref p) (.ref q)) (s1 : Su n s.heap)
    (go : ∀ h' tk e, (∀ c o, c ≠ z → c ≠ p → s.heap.get? c = some o → h'.get? c = some o) → (∃ o, h'.get? e = some o ∧ o.cls = .type "StopIteration") → E (.ref e) { s with heap := h', toks := tk }) :
    wpAny (model P w) A (Builtin.«zip.__next__» ⟨[.ref z], []⟩) Q E s := by
  obtain ⟨hp0, gn, dr, tk0, osx⟩ := s
  show wpAny _ _ (field (.ref z) 2 >>= _) _ _ _
  refine wpAny_bind (wpAny_field hz rfl (x := .bool false) rfl ?_)
  show wpAny _ _ (field (.ref z) 3 >>= _) _ _ _
  refine wpAny_bind (wpAny_field hz rfl (x := .ref TI) rfl ?_)
  refine wpAny_bind (wpAny_seqItems hI rfl ?_)
  show wpAny _ _ (Builtin.SmallTypes.ownedTupleIsFree (.ref z) >>= _) _ _ _
  refine wpAny_bind (wpAny_tupleHeld_zip hz hm fun ha za sa => ?_)
  replace sa : Heap.SameBut z hp0 ha := sa
  simp only [Bool.false_eq_true, if_false]
  refine wpAny_bind ?_
  rw [← Array.forIn_toList]
  simp only [List.forIn_cons, List.forIn_nil]
  refine wpAny_bind (wpAny_bind (wpAny_holding ?_))
  show wpAny _ _ (Builtin.SmallTypes.nextOf (.ref p) >>= _) _ _ _
  refine wpAny_bind (D1.done _ _ _ (D1.over s1 sa S.zf1) fun hb e kb he => ?_)
  replace kb : Heap.ExtBut p ha hb := kb
  exact go hb tk0 e (fun c o c1 c2 x => kb _ _ c2 (sa.extBut _ _ c1 x)) he
theorem zn_item {Q : Option Value → Shared → Prop} (S : ZipSep2 z TI TO p q fp fq) (D1 : Draws P w A.in1 p fp n U Su) (D2 : Draws P w A.in1 q fq n V' Sv)
    (hz : IsZipHeld s.heap z TI TO Tm f) (hm : s.heap.get? Tm = some om) (hI : IsTupOf2 s.heap TI (.ref p) (.ref q)) (s1 : Su i s.heap) (s2 : Sv i s.heap) (hl : i < n)
    (go : ∀ x y h' tk, U i x → V' i y → IsZipHeld h' z TI TO Tm true → Su (i + 1) h' → Sv (i + 1) h' → h'.get? s.heap.objs.size = some { cls := .type "tuple", data := .seq #[x, y] } →
      (∀ c o, c ≠ z → c ≠ p → c ≠ q → s.heap.get? c = some o → h'.get? c = some o) → Q (some (.ref s.heap.objs.size)) { s with heap := h', toks := tk }) :
    wpAny (model P w) A (pyNext (.ref z)) Q E s := by
  have ty : s.TypeIs (.ref z) "zip" := ⟨_, hz, rfl⟩
  unfold pyNext
  exact wpAny_bind (wpAny_attempt (wpAny_callSpecial?_slot (name := Str.ofString "__next__") ty PySem.F.slot_zip_next
    (wpAny_call_entry PySem.F.slot_zip_next ty PySem.F.entry_zip_next (zh_item S D1 D2 hz hm hI s1 s2 hl fun x y h' tk a1 a2 a3 a4 a5 a6 a7 => wpAny_pure (go x y h' tk a1 a2 a3 a4 a5 a6 a7)) (PySem.F.args_zip_next_1 _))))
theorem zn_end {Q : Option Value → Shared → Prop} (S : ZipSep2 z TI TO p q fp fq) (D1 : Draws P w A.in1 p fp n U Su)
    (hz : IsZipHeld s.heap z TI TO Tm f) (hm : s.heap.get? Tm = some om) (hI : IsTupOf2 s.heap TI (.ref p) (.ref q)) (s1 : Su n s.heap)
    (go : ∀ h' tk, (∀ c o, c ≠ z → c ≠ p → s.heap.get? c = some o → h'.get? c = some o) → Q none { s with heap := h', toks := tk }) :
    wpAny (model P w) A (pyNext (.ref z)) Q E s := by
  have ty : s.TypeIs (.ref z) "zip" := ⟨_, hz, rfl⟩
  unfold pyNext
  refine wpAny_bind (wpAny_attempt (wpAny_callSpecial?_slot (name := Str.ofString "__next__") ty PySem.F.slot_zip_next
    (wpAny_call_entry PySem.F.slot_zip_next ty PySem.F.entry_zip_next (zh_end S D1 hz hm hI s1 fun h' tk e k he => ?_) (PySem.F.args_zip_next_1 _))))
  obtain ⟨o, ho, hc⟩ := he
  exact wpAny_bind (wpAny_isInstance (T := "StopIteration") (b := true) ⟨o, ho, hc⟩ isSubtype_stop (wpAny_pure (go _ _ k)))
end
/-- list.extend.loop: one turn, the end -/
theorem xl_turn {P : Program} {w : World} {A : Around} {R : Result → Shared → Prop} {S it : Addr} {res : Value} {s : Shared}
    (h : wpAny (model P w) A.in1 (pyNext (.ref it)) (fun r s1 => match r with
      | none => R (.ok (.ret res)) s1
      | some v => ∃ acc c, s1.heap.get? S = some (lstObj acc c) ∧ acc.size < sizeLine ∧ codeAny (model P w) A (.builtin "list.extend.loop" ⟨[.ref S, .ref it, res], []⟩) R { s1 with heap := s1.heap.update S (Obj.mapSeq (·.push v)) }) (fun e s1 => R (.error e) s1) s) :
    codeAny (model P w) A (.builtin "list.extend.loop" ⟨[.ref S, .ref it, res], []⟩) R s := by
  refine codeAny_builtin F.entry_extend_loop ?_
  rw [Around.under_plainId F.plain_extend_loop _]
  show wpAny _ A.in1 (pyNext (.ref it) >>= _) _ _ s
  refine wpAny_bind (wpAny_mono h (fun r s1 hr => ?_) fun _ _ z => z)
  cases r with
  | none => exact wpAny_pure hr
  | some v =>
    obtain ⟨acc, c, e, lt, k⟩ := hr
    show wpAny _ A.in1 (updateSeq S (·.push v) >>= _) _ _ _
    exact wpAny_bind (wpAny_updateSeq e rfl (wpAny_pure ⟨plainId_quiet F.plain_extend_loop _, k⟩) (Nat.le_of_lt lt) (by show (acc.push v).size ≤ sizeLine + 1; rw [Array.size_push]; omega))

section
variable {X : Cx} {pn : List (Addr × Obj)} {g : L2.St} {xs ys : List V} {N a b n : Nat} {U V' : Nat → Value → Prop} {Su Sv : Nat → Heap → Prop} {B : Around}
/-- what is handed out stands in the heap -/
def PZ (xs ys : List V) (H : Hp) (vs : List V) : Prop := ∀ (j : Nat) (T : V), vs[j]? = some T → ∃ (t : Addr) (x y : V), T = V.ref t ∧ H t = some (.tup [x, y]) ∧ xs[j]? = some x ∧ ys[j]? = some y
theorem PZ.keep {H H' : Hp} {vs : List V} (h : PZ xs ys H vs) (k : ∀ b ws, H b = some (.tup ws) → H' b = some (.tup ws)) : PZ xs ys H' vs := fun j T e => by
  obtain ⟨t, x, y, h1, h2, h3, h4⟩ := h j T e
  exact ⟨t, x, y, h1, k _ _ h2, h3, h4⟩
theorem PZ.more {H : Hp} {vs : List V} {t : Addr} {x y : V} (h : PZ xs ys H vs) (h2 : H t = some (.tup [x, y])) (h3 : xs[vs.length]? = some x) (h4 : ys[vs.length]? = some y) : PZ xs ys H (vs ++ [.ref t]) := fun j T e => by
  by_cases hj : j < vs.length
  · rw [List.getElem?_append_left hj] at e
    exact h j T e
  · have lj : j < (vs ++ [V.ref t]).length := (List.getElem?_eq_some_iff.mp e).1
    have ej : j = vs.length := by simp at lj; omega
    subst ej
    rw [List.getElem?_append_right (Nat.le_refl _), Nat.sub_self] at e
    cases e
    exact ⟨t, x, y, rfl, h2, h3, h4⟩
/-- the list gets one more -/
theorem zl_push {s1 : Shared} {H : Hp} {vs : List V} {t : Addr} {x y : V} (I : Inv X pn g H s1) (hS : H (N + 5) = some (.lst vs)) (hz : PZ xs ys H vs) (ht : H t = some (.tup [x, y])) (h3 : xs[vs.length]? = some x) (h4 : ys[vs.length]? = some y) (hl : vs.length < sizeLine) :
    ∃ acc c, s1.heap.get? (N + 5) = some (lstObj acc c) ∧ acc.size < sizeLine ∧ Inv X pn g (upd H (N + 5) (.lst (vs ++ [.ref t]))) { s1 with heap := s1.heap.update (N + 5) (Obj.mapSeq (·.push (.ref t))) } ∧ PZ xs ys (upd H (N + 5) (.lst (vs ++ [.ref t]))) (vs ++ [.ref t]) := by
  obtain ⟨z1, its, m, r, len, e⟩ := I.lstM hS
  refine ⟨its.toArray, m, e, by simp; omega, ?_, ?_⟩
  · exact I.lset (t' := s1.toks) (its' := its ++ [.ref t]) hS e (by simp) (r.append (.cons (show RelV (V.ref t) (Value.ref t) from rfl) Paired.nil)) (by simp; omega)
  · exact (hz.more ht h3 h4).keep fun c ws q => by rw [upd_ne (ne_of q hS (fun z => by cases z))]; exact q
theorem zl_held (S : ZipSep2 (N + 4) (N + 2) (N + 3) N (N + 1) [N, a] [N + 1, b]) (D1 : Draws X.prog X.w B.in1.in1 N [N, a] n U Su) (D2 : Draws X.prog X.w B.in1.in1 (N + 1) [N + 1, b] n V' Sv) (ha : a < N) (hb : b < N)
    (hU : ∀ i u, U i u → ∃ x, xs[i]? = some x ∧ RelV x u) (hV : ∀ i u, V' i u → ∃ x, ys[i]? = some x ∧ RelV x u) (hn : n ≤ sizeLine) {R : Result → Shared → Prop} {H0 : Hp} {Tm : Addr} {om : Obj}
    (hT : N + 5 < Tm) (fin : ∀ H s vs, Inv X pn g H s → (∀ c u, H0 c = some u → H c = some u) → H (N + 5) = some (.lst vs) → vs.length = n → PZ xs ys H vs → R (.ok (.ret .none)) s) :
    ∀ (k i : Nat) (s : Shared) (H : Hp) (vs : List V) (f : Bool), i + k = n → Inv X pn g H s → N + 5 < s.heap.objs.size → (∀ c, N ≤ c → c < N + 5 → FpOk X pn H c) → H0 (N + 5) = none → (∀ c u, H0 c = some u → H c = some u) → H (N + 5) = some (.lst vs) → vs.length = i → PZ xs ys H vs →
      IsZipHeld s.heap (N + 4) (N + 2) (N + 3) Tm f → s.heap.get? Tm = some om → IsTupOf2 s.heap (N + 2) (.ref N) (.ref (N + 1)) → Su i s.heap → Sv i s.heap →
      codeAny (model X.prog X.w) B (.builtin "list.extend.loop" ⟨[.ref (N + 5), .ref (N + 4), .none], []⟩) R s
  | 0, i, s, H, vs, f, hi, I, hs, hf, h0, hk, hS, hl, hz, z1, z2, z3, s1, s2 => by
    have ei : i = n := by omega
    subst ei
    refine xl_turn (zn_end S D1 z1 z2 z3 s1 fun h' tk kp => ?_)
    refine fin H _ vs (I.turnedL (t' := tk) (ch := [N + 4, N]) (fun c o hc q => kp c o (fun e => hc (by simp [e])) (fun e => hc (by simp [e])) q) fun c hc => ?_) hk hS hl hz
    simp at hc
    rcases hc with rfl | rfl
    · exact hf _ (by omega) (by omega)
    · exact hf _ (by omega) (by omega)
  | k + 1, i, s, H, vs, f, hi, I, hs, hf, h0, hk, hS, hl, hz, z1, z2, z3, s1, s2 => by
    refine xl_turn (zn_item S D1 D2 z1 z2 z3 s1 s2 (by omega) fun u v h' tk hu hv zn t1 t2 nw kp => ?_)
    obtain ⟨x, hx, rx⟩ := hU i u hu
    obtain ⟨y, hy, ry⟩ := hV i v hv
    have ffp : ∀ c ∈ [N + 4, N, N + 1], FpOk X pn H c := fun c hc => by
      simp at hc
      rcases hc with rfl | rfl | rfl
      · exact hf _ (by omega) (by omega)
      · exact hf _ (by omega) (by omega)
      · exact hf _ (by omega) (by omega)
    have kp' : ∀ c o, c ∉ [N + 4, N, N + 1] → s.heap.get? c = some o → h'.get? c = some o := fun c o hc q => kp c o (fun e => hc (by simp [e])) (fun e => hc (by simp [e])) (fun e => hc (by simp [e])) q
    have fresh : H s.heap.objs.size = none := I.hok.fresh (Nat.le_refl _)
    have I1 : Inv X pn g (upd H s.heap.objs.size (.tup [x, y])) { s with heap := h', toks := tk } :=
      I.turnedNew (t' := tk) (ch := [N + 4, N, N + 1]) kp' ffp (Nat.le_refl _) ⟨by show 2 ≤ sizeLine; decide, [u, v], .cons rx (.cons ry .nil), ⟨_, nw, rfl, _, rfl⟩⟩
    have n1 : (N + 5 : Nat) ≠ s.heap.objs.size := Nat.ne_of_lt hs
    have n2 : s.heap.objs.size ≠ (N + 5 : Nat) := Nat.ne_of_gt hs
    have n3 : (N + 4 : Nat) ≠ N + 5 := by omega
    have n4 : (N + 2 : Nat) ≠ N + 5 := by omega
    have t1' : (Tm : Nat) ≠ N + 5 := Nat.ne_of_gt hT
    have t2' : (Tm : Nat) ≠ N + 4 := Nat.ne_of_gt (Nat.lt_of_le_of_lt (show N + 4 ≤ N + 5 by omega) hT)
    have t3' : (Tm : Nat) ≠ N := Nat.ne_of_gt (Nat.lt_of_le_of_lt (show N ≤ N + 5 by omega) hT)
    have t4' : (Tm : Nat) ≠ N + 1 := Nat.ne_of_gt (Nat.lt_of_le_of_lt (show N + 1 ≤ N + 5 by omega) hT)
    have hS1 : upd H s.heap.objs.size (.tup [x, y]) (N + 5) = some (.lst vs) := by rw [upd_ne n1]; exact hS
    have hz1 : PZ xs ys (upd H s.heap.objs.size (.tup [x, y])) vs := hz.keep fun c ws q => by rw [upd_ne (ne_of_none q fresh)]; exact q
    obtain ⟨acc, c, e1, e2, I2, hz2⟩ := zl_push (N := N) (xs := xs) (ys := ys) (t := s.heap.objs.size) (x := x) (y := y) I1 hS1 hz1 upd_same (by rw [hl]; exact hx) (by rw [hl]; exact hy) (by omega)
    refine ⟨acc, c, e1, e2, ?_⟩
    have oth : ∀ c o, c ≠ N + 5 → h'.get? c = some o → (h'.update (N + 5) (Obj.mapSeq (·.push (.ref s.heap.objs.size)))).get? c = some o := fun c o hc q => (Heap.get?_update_other _ _ (Ne.symm hc)).trans q
    refine zl_held S D1 D2 ha hb hU hV hn hT fin k (i + 1) _ _ _ true (by omega) I2 ?_ ?_ h0 ?_ upd_same (by simp [hl]) hz2 (oth _ _ n3 zn) (oth _ _ t1' (kp Tm om t2' t3' t4' z2)) (oth _ _ n4 (kp _ _ (show (N + 2 : Nat) ≠ N + 4 by omega) (show (N + 2 : Nat) ≠ N by omega) (show (N + 2 : Nat) ≠ N + 1 by omega) z3)) ?_ ?_
    · exact Nat.lt_trans hs (Heap.lt_size (oth _ _ n2 nw))
    · intro c h1 h2
      obtain ⟨q1, q2⟩ := hf c h1 h2
      refine ⟨?_, q2⟩
      have m1 : (c : Nat) ≠ N + 5 := by have : c < N + 5 := h2; omega
      have m2 : (c : Nat) ≠ s.heap.objs.size := Nat.ne_of_lt (Nat.lt_trans h2 hs)
      rw [upd_ne m1, upd_ne m2]
      exact q1
    · intro c w q
      rw [upd_ne (fun e => by rw [e, h0] at q; cases q), upd_ne (fun e => by
        have := hk c w q
        rw [e, fresh] at this; cases this)]
      exact hk c w q
    · refine D1.frame _ _ _ t1 fun c hc o q => oth c o ?_ q
      rcases List.mem_cons.mp hc with e | e
      · rw [e]; exact Nat.ne_of_lt (show N < N + 5 by omega)
      · rw [List.mem_singleton.mp e]; exact Nat.ne_of_lt (Nat.lt_of_lt_of_le ha (Nat.le_add_right _ _))
    · refine D2.frame _ _ _ t2 fun c hc o q => oth c o ?_ q
      rcases List.mem_cons.mp hc with e | e
      · rw [e]; exact Nat.ne_of_lt (show N + 1 < N + 5 by omega)
      · rw [List.mem_singleton.mp e]; exact Nat.ne_of_lt (Nat.lt_of_lt_of_le hb (Nat.le_add_right _ _))

/-- the first turn: the zip's own tuple is free -/
theorem zl_first (S : ZipSep2 (N + 4) (N + 2) (N + 3) N (N + 1) [N, a] [N + 1, b]) (D1 : Draws X.prog X.w B.in1.in1 N [N, a] n U Su) (D2 : Draws X.prog X.w B.in1.in1 (N + 1) [N + 1, b] n V' Sv) (ha : a < N) (hb : b < N)
    (hU : ∀ i u, U i u → ∃ x, xs[i]? = some x ∧ RelV x u) (hV : ∀ i u, V' i u → ∃ x, ys[i]? = some x ∧ RelV x u) (hn : n ≤ sizeLine) {R : Result → Shared → Prop} {H0 H : Hp} {s : Shared} {o1 o2 : Value}
    (fin : ∀ H s vs, Inv X pn g H s → (∀ c u, H0 c = some u → H c = some u) → H (N + 5) = some (.lst vs) → vs.length = n → PZ xs ys H vs → R (.ok (.ret .none)) s)
    (I : Inv X pn g H s) (hs : N + 5 < s.heap.objs.size) (hf : ∀ c, N ≤ c → c < N + 5 → FpOk X pn H c) (h0 : H0 (N + 5) = none) (hk : ∀ c u, H0 c = some u → H c = some u) (hS : H (N + 5) = some (.lst []))
    (z1 : IsZip s.heap (N + 4) (N + 2) (N + 3) .none) (z2 : IsTupOf2 s.heap (N + 3) o1 o2) (z3 : IsTupOf2 s.heap (N + 2) (.ref N) (.ref (N + 1))) (s1 : Su 0 s.heap) (s2 : Sv 0 s.heap) :
    codeAny (model X.prog X.w) B (.builtin "list.extend.loop" ⟨[.ref (N + 5), .ref (N + 4), .none], []⟩) R s := by
  have fp : ∀ c ∈ [N + 4, N + 3, N, N + 1], FpOk X pn H c := fun c hc => by
    simp at hc
    rcases hc with rfl | rfl | rfl | rfl
    · exact hf _ (by omega) (by omega)
    · exact hf _ (by omega) (by omega)
    · exact hf _ (by omega) (by omega)
    · exact hf _ (by omega) (by omega)
  by_cases h : n = 0
  · subst h
    refine xl_turn (wpAny_pyNext_zipD2_end S D1 D2 z1 z3 z2 s1 s2 (Nat.le_refl _) (Nat.le_refl _) (.inl rfl) fun h' tk kp => ?_)
    exact fin H _ [] (I.turnedL (t' := tk) (ch := [N + 4, N + 3, N, N + 1]) (fun c o hc q => kp c o (fun e => hc (by simp [e])) (fun e => hc (by simp [e])) (fun e => hc (by simp [e])) (fun e => hc (by simp [e])) q) fp) hk hS rfl fun j T e => by simp at e
  · refine xl_turn (wpAny_pyNext_zipD2_item S D1 D2 z1 z3 z2 s1 s2 (by omega) (by omega) fun u v h' tk hu hv zn to' t1 t2 nw hsz kp => ?_)
    obtain ⟨x, hx, rx⟩ := hU 0 u hu
    obtain ⟨y, hy, ry⟩ := hV 0 v hv
    have fresh : H s.heap.objs.size = none := I.hok.fresh (Nat.le_refl _)
    have I1 : Inv X pn g (upd H s.heap.objs.size (.tup [x, y])) { s with heap := h', toks := tk } :=
      I.turnedNew (t' := tk) (ch := [N + 4, N + 3, N, N + 1]) (fun c o hc q => kp c o (fun e => hc (by simp [e])) (fun e => hc (by simp [e])) (fun e => hc (by simp [e])) (fun e => hc (by simp [e])) q) fp (Nat.le_refl _)
        ⟨by show 2 ≤ sizeLine; decide, [u, v], .cons rx (.cons ry .nil), ⟨_, nw, rfl, _, rfl⟩⟩
    have n1 : (N + 5 : Nat) ≠ s.heap.objs.size := Nat.ne_of_lt hs
    have n2 : s.heap.objs.size ≠ (N + 5 : Nat) := Nat.ne_of_gt hs
    have n3 : (N + 4 : Nat) ≠ N + 5 := by omega
    have n4 : (N + 2 : Nat) ≠ N + 5 := by omega
    have hS1 : upd H s.heap.objs.size (.tup [x, y]) (N + 5) = some (.lst []) := by rw [upd_ne n1]; exact hS
    obtain ⟨acc, c, e1, e2, I2, hz2⟩ := zl_push (N := N) (xs := xs) (ys := ys) (t := s.heap.objs.size) (x := x) (y := y) I1 hS1 (fun j T e => by simp at e) upd_same hx hy (by show 0 < sizeLine; rw [sizeLine_eq]; decide)
    refine ⟨acc, c, e1, e2, ?_⟩
    have oth : ∀ c o, c ≠ N + 5 → h'.get? c = some o → (h'.update (N + 5) (Obj.mapSeq (·.push (.ref s.heap.objs.size)))).get? c = some o := fun c o hc q => (Heap.get?_update_other _ _ (Ne.symm hc)).trans q
    obtain ⟨m, rfl⟩ : ∃ m, n = m + 1 := ⟨n - 1, by omega⟩
    refine zl_held (Tm := s.heap.objs.size) (H0 := H0) S D1 D2 ha hb hU hV hn hs fin m 1 _ _ _ false (by omega) I2 (Nat.lt_trans hs (Heap.lt_size (oth _ _ n2 nw))) ?_ h0 ?_ upd_same rfl hz2 (oth _ _ n3 zn) (oth _ _ n2 nw) (oth _ _ n4 (kp _ _ (show (N + 2 : Nat) ≠ N + 4 by omega) (show (N + 2 : Nat) ≠ N + 3 by omega) (show (N + 2 : Nat) ≠ N by omega) (show (N + 2 : Nat) ≠ N + 1 by omega) z3)) ?_ ?_
    · intro c h1 h2
      obtain ⟨q1, q2⟩ := hf c h1 h2
      refine ⟨?_, q2⟩
      have m1 : (c : Nat) ≠ N + 5 := Nat.ne_of_lt h2
      have m2 : (c : Nat) ≠ s.heap.objs.size := Nat.ne_of_lt (Nat.lt_trans h2 hs)
      rw [upd_ne m1, upd_ne m2]
      exact q1
    · intro c w q
      rw [upd_ne (fun e => by rw [e, h0] at q; cases q), upd_ne (fun e => by
        have := hk c w q
        rw [e, fresh] at this; cases this)]
      exact hk c w q
    · refine D1.frame _ _ _ t1 fun c hc o q => oth c o ?_ q
      rcases List.mem_cons.mp hc with e | e
      · rw [e]; exact Nat.ne_of_lt (show N < N + 5 by omega)
      · rw [List.mem_singleton.mp e]; exact Nat.ne_of_lt (Nat.lt_of_lt_of_le ha (Nat.le_add_right _ _))
    · refine D2.frame _ _ _ t2 fun c hc o q => oth c o ?_ q
      rcases List.mem_cons.mp hc with e | e
      · rw [e]; exact Nat.ne_of_lt (show N + 1 < N + 5 by omega)
      · rw [List.mem_singleton.mp e]; exact Nat.ne_of_lt (Nat.lt_of_lt_of_le hb (Nat.le_add_right _ _))
theorem zip_no_len : typeLookup (.type "zip") "__len__" = pure none := by rw [typeLookup_type, builtinLookup_eq_fast]; kernel_rfl
theorem zip_no_hint : typeLookup (.type "zip") "__length_hint__" = pure none := by rw [typeLookup_type, builtinLookup_eq_fast]; kernel_rfl
/-- list(z), z a zip that has just been made -/
theorem call_list_zipped (S : ZipSep2 (N + 4) (N + 2) (N + 3) N (N + 1) [N, a] [N + 1, b]) (D1 : ∀ B : Around, B.handled = none → Draws X.prog X.w B N [N, a] n U Su) (D2 : ∀ B : Around, B.handled = none → Draws X.prog X.w B (N + 1) [N + 1, b] n V' Sv) (ha : a < N) (hb : b < N)
    (hU : ∀ i u, U i u → ∃ x, xs[i]? = some x ∧ RelV x u) (hV : ∀ i u, V' i u → ∃ x, ys[i]? = some x ∧ RelV x u) (hn : n ≤ sizeLine) {H : Hp} {s : Shared} {o1 o2 : Value} {Q : VK}
    (hh : X.A.handled = none) (I : Inv X pn g H s) (hs : s.heap.objs.size = N + 5) (hf : ∀ c, N ≤ c → c < N + 5 → FpOk X pn H c)
    (z1 : IsZip s.heap (N + 4) (N + 2) (N + 3) .none) (z2 : IsTupOf2 s.heap (N + 3) o1 o2) (z3 : IsTupOf2 s.heap (N + 2) (.ref N) (.ref (N + 1))) (s1 : Su 0 s.heap) (s2 : Sv 0 s.heap)
    (fin : ∀ H' T vs, H T = none → (∀ c u, H c = some u → H' c = some u) → (∀ c, H' c = none → H c = none) → H' T = some (.lst vs) → vs.length = n → PZ xs ys H' vs → Q (.ref T) H') :
    wpAny (model X.prog X.w) X.A (call (.type "list") [.ref (N + 4)]) (EP X pn g Q) X.xe s := by
  have zf : H (N + 5) = none := I.hok.fresh (by rw [hs]; exact Nat.le_refl _)
  refine callType_codes (Q₁ := fun obj s₁ => obj = .ref s.heap.objs.size ∧ s₁ = { s with heap := s.heap.push { cls := .type "list", data := .seq #[] } }) F.called_list (F.typeCall_list_1 _) F.entry_list_init
    (code_list_new _ ⟨rfl, rfl⟩) fun obj sx hx => ?_
  obtain ⟨rfl, rfl⟩ := hx
  have e0 : (s.heap.push { cls := .type "list", data := .seq #[] }).get? s.heap.objs.size = some { cls := .type "list", data := .seq #[] } := Heap.get?_push_size _ rfl
  refine ⟨⟨_, e0, rfl⟩, F.args_list_init_2 _ _, ?_⟩
  have I0 : Inv X pn g (upd H (N + 5) (.lst [])) { s with heap := s.heap.push { cls := .type "list", data := .seq #[] } } := by
    have := I.lnew (its := []) (ys := []) (t' := s.toks) .nil (Nat.zero_le _)
    rw [hs] at this
    exact this
  rw [hs] at e0 ⊢
  show wpAny _ X.A.in1.in1 (do let old ← Builtin.List.listItems (.ref (N + 5)); Builtin.List.listUpdate (.ref (N + 5)) (fun _ => #[]); letGo old.toList.reverse; Builtin.List.listExtendWith (.ref (N + 5)) (.ref (N + 4)) .none) _ _ _
  refine wpAny_bind ?_
  unfold Builtin.List.listItems
  refine wpAny_bind (wpAny_seqItems e0 rfl (wpAny_pure ?_))
  show wpAny _ X.A.in1.in1 (updateSeq (N + 5) (fun _ => #[]) >>= fun _ => letGo (#[] : Array Value).toList.reverse >>= fun _ => Builtin.List.listExtendWith (.ref (N + 5)) (.ref (N + 4)) .none) _ _ _
  refine wpAny_bind (wpAny_updateSeq e0 rfl ?_)
  have step : ∀ {sy : Shared} {its its' : List Value} {m : Nat} (f : Array Value → Array Value), Inv X pn g (upd H (N + 5) (.lst [])) sy → sy.heap.get? (N + 5) = some { cls := .type "list", data := .seq its.toArray m } → f its.toArray = its'.toArray →
      sy.heap.get? (N + 5) = some { cls := .type "list", data := .seq its.toArray m } := fun _ _ e _ => e
  have up : ∀ (h : Heap) (f : Obj → Obj), (∀ c o, c ≠ N + 5 → s.heap.get? c = some o → h.get? c = some o) → ∀ c o, c ≠ N + 5 → s.heap.get? c = some o → (h.update (N + 5) f).get? c = some o := fun h f q c o hc e =>
    (Heap.get?_update_other _ _ (Ne.symm hc)).trans (q c o hc e)
  have k0 : ∀ c o, c ≠ N + 5 → s.heap.get? c = some o → (s.heap.push { cls := .type "list", data := .seq #[] }).get? c = some o := fun c o _ e => Heap.get?_push_of_some _ e
  have k2 := up _ (Obj.mapSeq (fun _ => (#[] : Array Value))) k0
  have e2 := Heap.get?_update_self (Obj.mapSeq (fun _ => (#[] : Array Value))) e0 rfl
  have nz : (N + 4 : Nat) ≠ N + 5 := by omega
  refine wpAny_bind (wpAny_letGo ?_)
  unfold Builtin.List.listExtendWith
  have ty : ∀ {h : Heap}, (∀ c o, c ≠ N + 5 → s.heap.get? c = some o → h.get? c = some o) → ∀ {gn dr tk os}, Shared.TypeIs (⟨h, gn, dr, tk, os⟩ : Shared) (.ref (N + 4)) "zip" := fun q => ⟨_, q _ _ nz z1, rfl⟩
  refine wpAny_bind (wpAny_typeOf (ty k2) ?_)
  have hne : ((N + 5 : Addr) == (N + 4 : Addr)) = false := beq_false_of_ne (Ne.symm nz)
  have q1 : Builtin.List.listSameRef (.ref (N + 5)) (.ref (N + 4)) = false := hne
  have q2 : (Value.type "zip" == Value.type "list") = false := by decide
  have q3 : (Value.type "zip" == Value.type "tuple") = false := by decide
  simp only [q1, q2, q3, Bool.or_false, Bool.false_eq_true, if_false]
  refine wpAny_bind (wpAny_pyIter_zip (k2 _ _ nz z1) ?_)
  refine wpAny_bind (wpAny_holding ?_)
  unfold Builtin.List.listLengthHint
  refine wpAny_bind (wpAny_specialOf (ty k2) zip_no_len ?_)
  show wpAny _ X.A.in1.in1 (specialOf (Value.ref (N + 4)) (Str.ofString "__length_hint__") >>= _) _ _ _
  refine wpAny_bind (wpAny_specialOf (ty k2) zip_no_hint ?_)
  refine wpAny_pure ?_
  show wpAny _ X.A.in1.in1 (rule "list.extend.makes-room" >>= fun _ => Builtin.List.listTouch (.ref (N + 5)) >>= fun _ =>
    again (.builtin "list.extend.loop" ⟨[.ref (N + 5), .ref (N + 4), .none], []⟩)) _ _ _
  refine wpAny_bind (wpAny_rule ?_)
  refine wpAny_bind ?_
  show wpAny _ X.A.in1.in1 (updateSeq (N + 5) (·.push .none) >>= fun _ => updateSeq (N + 5) (·.pop)) _ _ _
  refine wpAny_bind (wpAny_updateSeq e2 rfl ?_)
  have e3 := Heap.get?_update_self (Obj.mapSeq (·.push Value.none)) e2 rfl
  refine wpAny_updateSeq (hz := by seq_fits) e3 rfl ?_
  have e4 := Heap.get?_update_self (Obj.mapSeq (·.pop)) e3 rfl
  have k4 := up _ (Obj.mapSeq (·.pop)) (up _ (Obj.mapSeq (·.push Value.none)) k2)
  refine wpAny_pure ⟨plainId_quiet F.plain_extend_loop _, ?_⟩
  have oth : ∀ c o, c ≠ N + 5 → (s.heap.push { cls := .type "list", data := .seq #[] }).get? c = some o → ((((s.heap.push { cls := .type "list", data := .seq #[] }).update (N + 5) (Obj.mapSeq (fun _ => (#[] : Array Value)))).update (N + 5) (Obj.mapSeq (·.push Value.none))).update (N + 5) (Obj.mapSeq (·.pop))).get? c = some o := fun c o hc e =>
    (Heap.get?_update_other _ _ (Ne.symm hc)).trans ((Heap.get?_update_other _ _ (Ne.symm hc)).trans ((Heap.get?_update_other _ _ (Ne.symm hc)).trans e))
  have I4 := I0.write (x := N + 5) (e := N + 5) (o := .lst []) (t' := s.toks) (by rw [upd_same]; trivial) (.inl rfl) oth ⟨_, e4⟩ ⟨Nat.zero_le _, [], _, .nil, e4⟩
  rw [upd_upd] at I4
  have hn1 : X.A.in1.in1.in1.handled = none := hh
  refine zl_first (H0 := H) (H := upd H (N + 5) (.lst [])) S (D1 _ hn1) (D2 _ hn1) ha hb hU hV hn (fun H' s' vs I' hk hS hl hz => ⟨rfl, .ref (N + 5), H', I', rfl, fin H' (N + 5) vs zf hk (fun c hc => ?_) hS hl hz⟩) I4 (Nat.lt_of_lt_of_le (Nat.lt_succ_self _) ?_) ?_ zf ?_ upd_same (k4 _ _ nz z1) (k4 _ _ (show (N + 3 : Nat) ≠ N + 5 by omega) z2) (k4 _ _ (show (N + 2 : Nat) ≠ N + 5 by omega) z3) ?_ ?_
  · cases e : H c with
    | none => rfl
    | some u => rw [hk c u e] at hc; cases hc
  · exact Heap.lt_size e4
  · intro c h1 h2
    obtain ⟨p1, p2⟩ := hf c h1 h2
    refine ⟨?_, p2⟩
    have m1 : (c : Nat) ≠ N + 5 := Nat.ne_of_lt h2
    rw [upd_ne m1]
    exact p1
  · intro c u q
    rw [upd_ne (fun e => by rw [e, zf] at q; cases q)]
    exact q
  · refine (D1 _ hn1).frame _ _ _ s1 fun c hc o q => k4 c o ?_ q
    rcases List.mem_cons.mp hc with e | e
    · rw [e]; exact Nat.ne_of_lt (show N < N + 5 by omega)
    · rw [List.mem_singleton.mp e]; exact Nat.ne_of_lt (Nat.lt_of_lt_of_le ha (Nat.le_add_right _ _))
  · refine (D2 _ hn1).frame _ _ _ s2 fun c hc o q => k4 c o ?_ q
    rcases List.mem_cons.mp hc with e | e
    · rw [e]; exact Nat.ne_of_lt (show N + 1 < N + 5 by omega)
    · rw [List.mem_singleton.mp e]; exact Nat.ne_of_lt (Nat.lt_of_lt_of_le hb (Nat.le_add_right _ _))

theorem sep_at (ha : a < N) (hb : b < N) : ZipSep2 (N + 4) (N + 2) (N + 3) N (N + 1) [N, a] [N + 1, b] := by
  have ha : (a : Nat) < N := ha
  have hb : (b : Nat) < N := hb
  have nm : ∀ {c u v : Nat}, c ≠ u → c ≠ v → c ∉ [u, v] := fun h1 h2 h => by
    simp at h
    rcases h with h | h
    · exact h1 h
    · exact h2 h
  have ia : N + 1 ≠ a := Nat.ne_of_gt (Nat.lt_succ_of_lt ha)
  have ib : N ≠ b := Nat.ne_of_gt hb
  exact ⟨show N + 2 ≠ N + 4 by omega, show N + 3 ≠ N + 4 by omega, show N + 2 ≠ N + 3 by omega, show N + 2 ≠ N by omega, List.mem_cons_self, nm (show N + 4 ≠ N by omega) (Nat.ne_of_gt (Nat.lt_of_lt_of_le ha (Nat.le_add_right N 4))), nm (show N + 3 ≠ N by omega) (Nat.ne_of_gt (Nat.lt_of_lt_of_le ha (Nat.le_add_right N 3))),
    show N + 2 ≠ N + 1 by omega, List.mem_cons_self, nm (show N + 4 ≠ N + 1 by omega) (Nat.ne_of_gt (Nat.lt_of_lt_of_le hb (Nat.le_add_right N 4))), nm (show N + 3 ≠ N + 1 by omega) (Nat.ne_of_gt (Nat.lt_of_lt_of_le hb (Nat.le_add_right N 3))), nm (show N ≠ N + 1 by omega) ib, nm (show N + 1 ≠ N by omega) ia⟩
theorem vals_at {vs : List V} {its : List Value} (r : Vals vs its) {i : Nat} {u : Value} (h : its.toArray[i]? = some u) : ∃ x, vs[i]? = some x ∧ RelV x u := by
  have h : its[i]? = some u := by simpa using h
  have li := (List.getElem?_eq_some_iff.mp h).1
  have lv : i < vs.length := by rw [r.length]; exact li
  obtain ⟨u', h2, r2⟩ := r.get (List.getElem?_eq_getElem lv)
  rw [h] at h2
  cases h2
  exact ⟨_, List.getElem?_eq_getElem lv, r2⟩
def tLZip (K : PySem.W.Frag) (ta : TA) : TE := fun g H Q => ta g H fun ws H1 => ∃ a b xs ys, ws = [.ref a, .ref b] ∧ ((SqL K H1 a xs ∧ SqL K H1 b ys) ∨ (SqT K H1 a xs ∧ SqT K H1 b ys)) ∧ xs.length = ys.length ∧ xs.length ≤ sizeLine ∧
  ∀ H' T vs, H1 T = none → (∀ c u, H1 c = some u → H' c = some u) → (∀ c, H' c = none → H1 c = none) → H' T = some (.lst vs) → vs.length = xs.length → PZ xs ys H' vs → Q (.ref T) H'
theorem pe_lzip {e1 e2 : PySem.Expr} {p p2 pos pos2 : Pos} {ta : TA} (hc : X.calm = true) (hl : Gl X "list") (ml : X.mg "list" = none) (hz : Gl X "zip") (mz : X.mg "zip" = none) (ha : PA X [e1, e2] ta)
    (hs1 : starEach [e1, e2] X.env = (false, eval e1 X.env) :: starEach [e2] X.env) (hs2 : starEach [e2] X.env = (false, eval e2 X.env) :: starEach [] X.env) :
    PE X (.Call (.Name "list" p) [.Call (.Name "zip" p2) [e1, e2] [] pos2] [] pos) (tLZip X.K ta) := by
  refine ⟨fun pins s g H Q I h => ?_⟩
  refine wpAny_Call_Name_kw (ld_blt I hl ml boot_list ?_ (by decide) (by decide))
  refine PyProof.Rows.callWith_type1 ?_ (by rfl) rfl
  show wpAny _ _ (spliced ((false, eval (.Call (.Name "zip" p2) [e1, e2] [] pos2) X.env) :: backTo pos (starEach [] X.env))) _ _ s
  refine Calls.spliced_cons ?_
  refine wpAny_Call_Name_kw (ld_blt I hz mz PyProof.Rows.boot_zip ?_ (by decide) (by decide))
  refine PyProof.Rows.callWith_type1 (thn (ha.run pos2 pins s g H _ I h) fun us s1 ⟨ws, H1, I1, r1, q1⟩ => ?_) hs1 (by rw [hs2]; rfl)
  obtain ⟨a, b, xs, ys, rfl, hx, len, lz, q⟩ := q1
  cases r1 with
  | cons r rr => cases rr with
    | cons r' rr =>
      cases rr
      cases r
      cases r'
      have fresh : ∀ c, s1.heap.objs.size ≤ c → FpOk X pins H1 c := fun c hle => I1.fpOk hle (I1.hok.fresh hle)
      have hd := I1.ok.hd hc
      rcases hx with ⟨h1, h2⟩ | ⟨h1, h2⟩
      · obtain ⟨its, rv, p1, _⟩ := I1.list h1
        obtain ⟨its2, rv2, p3, _⟩ := I1.list h2
        refine call_zip_2 p1.isList p3.isList fun h' z hTI hTO i1 i2 hsz hk => ?_
        refine Calls.spliced_nil ?_
        have I2 : Inv X pins g H1 { s1 with heap := h' } := I1.kept (t' := s1.toks) hk
        have n2 : its2.toArray.size = its.toArray.size := by simp; rw [← rv.length, ← rv2.length, len]
        have la : a < s1.heap.objs.size := p1.lt
        have lb : b < s1.heap.objs.size := p3.lt
        refine call_list_zipped (N := s1.heap.objs.size) (n := its.toArray.size) (xs := xs) (ys := ys) (sep_at la lb) (fun B hB => Draws.list hB _ a (Nat.ne_of_lt la) its.toArray) (fun B hB => n2 ▸ Draws.list hB _ b (Nat.ne_of_lt (Nat.lt_succ_of_lt lb)) its2.toArray)
          la lb (fun i u hu => vals_at rv hu) (fun i u hu => vals_at rv2 hu) (by simp; rw [← rv.length]; exact lz) hd I2 hsz (fun c h1 _ => fresh c h1) z hTO hTI ⟨i1, let ⟨o, e, c⟩ := p1.isList; ⟨o, hk _ o e, c⟩⟩ ⟨i2, let ⟨o, e, c⟩ := p3.isList; ⟨o, hk _ o e, c⟩⟩ fun H' T vs a1 a2 a3 a4 a5 a6 => q H' T vs a1 a2 a3 a4 (by rw [a5]; simp; exact rv.length.symm) a6
      · obtain ⟨its, rv, p1, _⟩ := I1.tuple h1
        obtain ⟨its2, rv2, p3, _⟩ := I1.tuple h2
        have t1 : s1.heap.IsTuple a its.toArray := p1
        have t2 : s1.heap.IsTuple b its2.toArray := p3
        refine RZ.call_zipT t1 t2 fun h' z hTI hTO i1 i2 hsz hk => ?_
        refine Calls.spliced_nil ?_
        have I2 : Inv X pins g H1 { s1 with heap := h' } := I1.kept (t' := s1.toks) hk
        have n2 : its2.toArray.size = its.toArray.size := by simp; rw [← rv.length, ← rv2.length, len]
        have la : a < s1.heap.objs.size := by obtain ⟨o1, ho1, _⟩ := id p1; exact Heap.lt_size ho1
        have lb : b < s1.heap.objs.size := by obtain ⟨o1, ho1, _⟩ := id p3; exact Heap.lt_size ho1
        refine call_list_zipped (N := s1.heap.objs.size) (n := its.toArray.size) (xs := xs) (ys := ys) (sep_at la lb) (fun B hB => Draws.tuple hB _ a (Nat.ne_of_lt la) its.toArray) (fun B hB => n2 ▸ Draws.tuple hB _ b (Nat.ne_of_lt (Nat.lt_succ_of_lt lb)) its2.toArray)
          la lb (fun i u hu => vals_at rv hu) (fun i u hu => vals_at rv2 hu) (by simp; rw [← rv.length]; exact lz) hd I2 hsz (fun c h1 _ => fresh c h1) z hTO hTI ⟨i1, t1.at fun o e => hk _ o e⟩ ⟨i2, t2.at fun o e => hk _ o e⟩ fun H' T vs a1 a2 a3 a4 a5 a6 => q H' T vs a1 a2 a3 a4 (by rw [a5]; simp; exact rv.length.symm) a6
end
end Mi

set_option Elab.async false
set_option linter.all false
set_option maxRecDepth 100000
set_option maxHeartbeats 4000000
/-! MiS: sorted(set(ints)). -/
namespace Mi
open PySem PySem.Spec PyProof.Rows L2
section
variable {P : Program} {w : World} {A : Around} {E : Value → Shared → Prop} {s : Shared}
/-- an empty set, as set() makes it -/
abbrev emptyS (w : World) : Obj := { cls := .type "set", dict := none, data := .set #[] 0 (.fresh 0 0 (!w.params.followText "set-order")) }
/-- set(a list of ints) -/
theorem call_set_lstI {l : Addr} {items : Array Value} (ns : List Int) {Q : Value → Shared → Prop} (hh : A.handled = none) (hl : s.heap.IsList l items) (hit : IntsAre items.toList ns) (hb : ns.length + 1 < scanBound)
    (h : ∀ (h' : Heap) (tk c : Nat), SetR w h' s.heap.objs.size (fun j => decide (j ∈ ns)) c → c ≤ ns.length → (∀ b o, s.heap.get? b = some o → h'.get? b = some o) → Q (.ref s.heap.objs.size) { s with heap := h', toks := tk }) :
    wpAny (model P w) A (call (.type "set") [.ref l]) Q E s := by
  have size : items.size = ns.length := by have := IntsAre.length hit; rwa [Array.length_toList] at this
  obtain ⟨c, tl, hmro⟩ := F.called_set.mro
  have made := F.called_set.made
  have sub := F.called_set.sub
  refine wpAny_call (codeAny_of_tree ?_)
  show wpAny _ _ (callAny (.type "set") _) _ _ _
  refine wpAny_pure ⟨Code.quiet_builtin _ (by decide +kernel), codeAny_builtin F.entry_type_call ?_⟩
  rw [Around.under_plain (weight_type_call_type "set" [.ref l] []) rfl]
  have nt := F.called_set.notType
  have cc := F.called_set.canCreate
  have tc := F.typeCall_set_1 (.ref l)
  repeat (any_goals (first | assumption | wp_step))
  refine codeAny_mono (code_set_led1 (.ref l) (E := E) (Q₁ := fun obj sx => obj = .ref s.heap.objs.size ∧ sx = { s with heap := s.heap.push (emptyS w) }) ⟨rfl, rfl⟩) fun r sx hr => ?_
  cases r with
  | error e => exact hr
  | ok fl =>
    cases fl with
    | ret obj =>
      obtain ⟨rfl, rfl⟩ := hr
      have eS : (s.heap.push (emptyS w)).get? s.heap.objs.size = some (emptyS w) := Heap.get?_push_size _ rfl
      have ty : Shared.TypeIs { s with heap := s.heap.push (emptyS w) } (.ref s.heap.objs.size) "set" := ⟨_, eS, rfl⟩
      have il := F.called_set.init.lookup
      have ib := F.called_set.init.bind (.ref s.heap.objs.size)
      repeat (any_goals (first | assumption | wp_step))
      refine codeAny_mono (codeAny_call_builtin (R := wants (fun r s2 => r = .none ∧ ∃ h' tk c, s2 = { s with heap := h', toks := tk } ∧ SetR w h' s.heap.objs.size (fun j => decide (j ∈ ns)) c ∧ c ≤ ns.length ∧
          (∀ b o, s.heap.get? b = some o → h'.get? b = some o)) E) F.called_set.init.plain F.entry_set_init (check_set_init_1 ty ?_)) fun r2 s2 hr2 => ?_
      · obtain ⟨ol, hol, hcl, nl, hdl⟩ := hl
        obtain ⟨ocls, odict, odata, oslots⟩ := ol
        simp only at hcl hdl
        subst hcl; subst hdl
        have hol2 : (s.heap.push (emptyS w)).get? l = some { cls := .type "list", dict := odict, data := .seq items nl, slots := oslots } := Heap.get?_push_of_some _ hol
        have no1 := F.sub_list_set
        have no2 := F.sub_list_frozenset
        have no3 : (Value.type "list" == Value.type "dict") = false := by decide
        have lst : (s.heap.push (emptyS w)).IsList l items := ⟨_, hol2, rfl, nl, rfl⟩
        unfold Builtin.«set.__init__» noKeywords Builtin.Frozenset.updateFrom
        generalize hPI : pyIter = PI
        wp_walk
        subst hPI
        refine wpAny_pyIter_list lst ?_
        refine wpAny_bind (wpAny_runValue ?_)
        have lt : l < s.heap.objs.size := Heap.lt_size hol
        have h3 : A.in1.in1.in1.handled = none := by simp [hh]
        have ne : l ≠ (s.heap.push (emptyS w)).objs.size := by rw [Heap.size_push]; exact Nat.ne_of_lt (Nat.lt_succ_of_lt lt)
        have out : s.heap.objs.size ∉ [(s.heap.push (emptyS w)).objs.size, l] := by
          rw [Heap.size_push]
          intro z
          simp at z
          exact Nat.ne_of_gt lt z
        have val : ∀ (i : Nat) (v : Value), items[i]? = some v → ∃ k t, ns[i]? = some k ∧ v = .int k t := fun i v hv => by
          have hi : i < ns.length := by rw [← size]; exact (Array.getElem?_eq_some_iff.mp hv).1
          obtain ⟨t, e⟩ := PyProof.Rows.IntsAre.int_at hit i v (by rw [Array.getElem?_toList]; exact hv)
          refine ⟨ns[i], t, List.getElem?_eq_getElem hi, ?_⟩
          rw [e, List.getD_eq_getElem?_getD, List.getElem?_eq_getElem hi] <;> rfl
        refine set_update_ints ((Walks.list h3 _ l ne items).toS) s.heap.objs.size out ns size hb val (items.size - 0) 0 _ (by omega) (Nat.zero_le _)
          ⟨⟨_, Heap.get?_push_size _ rfl, rfl, rfl⟩, lst.push _⟩ ?g0 ?gR
        case g0 =>
          have e2 : ((s.heap.push (emptyS w)).push { cls := .type "list_iterator", data := .fields #[.ref l, .int 0 0] }).get? s.heap.objs.size = some (emptyS w) := Heap.get?_push_of_some _ eS
          exact ⟨0, Nat.le_refl 0, setR_new_at e2⟩
        case gR =>
          intro sy cy my ly ry
          obtain ⟨hy, gy, dy, ty', oy⟩ := sy
          have eg : gy = s.gens := my.gens
          have ed : dy = s.drawn := my.drawn
          have eo : oy = s.os := my.os
          subst eg; subst ed; subst eo
          show wpAny _ _ _ _ _ _
          refine wpAny_pure ?_
          show wpAny _ _ (ret Value.none) _ _ _
          rw [size] at ly
          refine wpAny_pure ⟨rfl, hy, ty', cy, rfl, ry, ly, fun b o e => ?_⟩
          have b0 : b < s.heap.objs.size := Heap.lt_size e
          refine my.heap b o ?_ (Heap.get?_push_of_some _ (Heap.get?_push_of_some _ e))
          rw [Heap.size_push]
          intro z
          simp at z
          rcases z with z | z
          · exact Nat.ne_of_lt b0 z
          · exact Nat.ne_of_lt (Nat.lt_succ_of_lt b0) z
      · cases r2 with
        | error e => exact hr2
        | ok f2 =>
          cases f2 with
          | ret r =>
            obtain ⟨rfl, h', tk, c', rfl, q1, q2, q3⟩ := hr2
            repeat (any_goals (first | assumption | wp_step))
            exact h _ _ _ q1 q2 q3
          | _ => exact hr2.elim
    | _ => exact hr.elim
end
section
variable {X : Cx}
/-- set(a list or a tuple of ints) -/
def rSetQ (K : PySem.W.Frag) (w : World) : List V → Hp → VK → Prop := fun xs H Q => ∃ (l : Addr) (ns : List Int), xs = [.ref l] ∧ (SqL K H l (ns.map V.int) ∨ SqT K H l (ns.map V.int)) ∧ ns.length < 1000 ∧
  ∀ p c, H p = none → c ≤ ns.length → Q (.ref p) (upd H p (SetO w p (fun j => decide (j ∈ ns)) c))
theorem ints_vals : ∀ {ns : List Int} {us : List Value}, Vals (ns.map V.int) us → IntsAre us ns
  | [], _, .nil => .nil
  | n :: ns, _, .cons r t => by
    obtain ⟨k, rfl⟩ := r
    exact .cons n k (ints_vals t)
theorem cr_setQ (hc : X.calm = true) : CallR X (.type "set") (rSetQ X.K X.w) := by
  intro pins s g H xs us Q I r h
  obtain ⟨l, ns, rfl, hl, hn, q⟩ := h
  rw [Vals.ref1 r]
  have hb : ns.length + 1 < scanBound := by unfold scanBound; omega
  have fin : ∀ (h' : Heap) (tk c : Nat), SetR X.w h' s.heap.objs.size (fun j => decide (j ∈ ns)) c → c ≤ ns.length → (∀ b o, s.heap.get? b = some o → h'.get? b = some o) → EP X pins g Q (.ref s.heap.objs.size) { s with heap := h', toks := tk } :=
    fun h' tk c q1 q2 q3 => ⟨.ref _, upd H s.heap.objs.size (SetO X.w s.heap.objs.size (fun j => decide (j ∈ ns)) c), I.laid (t' := tk) q3 (Nat.le_refl _) (setO_new q1), rfl, q _ c (I.hok.fresh (Nat.le_refl _)) q2⟩
  rcases hl with hl | hl
  · obtain ⟨its, rv, p, _⟩ := I.list hl
    exact call_set_lstI ns (I.ok.hd hc) p.isList (by simpa using ints_vals rv) hb fin
  · obtain ⟨its, rv, p, _⟩ := I.tuple hl
    exact call_set_tupI ns (I.ok.hd hc) (show s.heap.IsTuple l its.toArray from p) (by simpa using ints_vals rv) hb fin
end
end Mi

set_option Elab.async false
set_option linter.all false
set_option maxRecDepth 100000
set_option maxHeartbeats 1000000
/-! MiR: x[::-1] of lists and tuples. -/
namespace Mi
open PySem PySem.Spec PyProof.Rows L2
theorem rev_adjust (n : Nat) : Builtin.Slice.sliceAdjust none none (-1) (n : Int) = ((n : Int) - 1, -1) := rfl
theorem rev_places (n : Nat) : Builtin.Slice.slicePlaces ((n : Int) - 1) (-1) (-1) = n := by
  unfold Builtin.Slice.slicePlaces
  rw [if_neg (by decide)]
  split
  · have e : -(-1 : Int) = 1 := rfl
    rw [e, Int.ediv_one]
    omega
  · omega
theorem rev_pick (xs : Array Value) : ((List.range xs.size).filterMap fun (k : Nat) => xs[(((xs.size : Int) - 1) + (k : Int) * (-1)).toNat]?).toArray = xs.toList.reverse.toArray := by
  apply congrArg
  apply List.ext_getElem?
  intro i
  have all : ∀ (m : Nat), m ≤ xs.size → ((List.range m).filterMap fun (k : Nat) => xs[(((xs.size : Int) - 1) + (k : Int) * (-1)).toNat]?) = xs.toList.reverse.take m := by
    intro m hm
    induction m with
    | zero => rfl
    | succ m ih =>
      rw [List.range_succ, List.filterMap_append, ih (by omega)]
      have hi : (((xs.size : Int) - 1) + (m : Int) * (-1)).toNat = xs.size - 1 - m := by omega
      have e : xs[xs.size - 1 - m]? = some (xs[xs.size - 1 - m]'(by omega)) := by simp <;> omega
      rw [List.filterMap_cons, hi, e]
      dsimp only
      rw [List.filterMap_nil]
      have len : m < xs.toList.reverse.length := by simp <;> omega
      rw [List.take_succ, List.getElem?_eq_getElem len, List.getElem_reverse]
      simp
  rw [all xs.size (Nat.le_refl _), List.take_of_length_le (by simp)]
section
variable {P : Program} {w : World} {A : Around} {E : Value → Shared → Prop} {s : Shared}
theorem getItem_rev {t sl : Addr} {items : Array Value} {vs : Value} {Q : Value → Shared → Prop} (ht : IsTup s.heap t items) (hs : s.heap.IsSliceOf sl .none .none vs) (ps : IsPart vs (some (-1)))
    (h : Q (.ref s.heap.objs.size) { s with heap := s.heap.push { cls := .type "tuple", data := .seq items.toList.reverse.toArray } }) (hz : items.size ≤ sizeLine) : wpAny (model P w) A (getItem (.ref t) (.ref sl)) Q E s := by
  obtain ⟨os, hos, hcs, hds⟩ := id hs
  have ty : s.TypeIs (.ref sl) "slice" := ⟨os, hos, hcs⟩
  unfold getItem
  try with_reducible refine wpAny_holding ?_
  first | refine wpAny_bind (wpAny_pure ?_) | skip
  refine wpAny_bind (wpAny_sequenceKey ht.typeIs (by decide) ?_)
  refine wpAny_bind (wpAny_callSpecial?_slot (name := Str.ofString "__getitem__") ht.typeIs PyProof.Rows.slot_tuple_getitem
    (wpAny_call_entry PyProof.Rows.slot_tuple_getitem ht.typeIs PyProof.Rows.entry_tuple_getitem ?_ (PyProof.Rows.args_tuple_getitem _ _)))
  show wpAny _ _ (Builtin.Tuple.tupleItemsOf (.ref t) >>= _) _ _ s
  refine wpAny_bind (PyProof.Rows.tupleItemsOf_ ht ?_)
  refine wpAny_bind (wpAny_typeOf ty ?_)
  rw [if_pos (by decide)]
  refine wpAny_bind (wpAny_mono (Q := fun r sx => r = ((items.size : Int) - 1, (-1 : Int), items.size) ∧ sx = s) ?_ (fun r sx hr => ?_) fun _ _ z => z)
  · unfold Builtin.Slice.sliceApplied Builtin.Slice.sliceFields
    refine wpAny_bind (wpAny_bind (wpAny_field hos hds (x := .none) rfl (wpAny_bind (wpAny_field hos hds (x := .none) rfl (wpAny_bind (wpAny_field hos hds (x := vs) rfl (wpAny_pure ?_)))))))
    refine wpAny_bind (HT.slicePart_ ps ?_)
    show wpAny _ _ (if ((-1 : Int) == 0) = true then _ else _) _ _ s
    rw [if_neg (by decide)]
    refine wpAny_bind (PyProof.Rows.slicePart_none (wpAny_bind (PyProof.Rows.slicePart_none (wpAny_bind (wpAny_pure ?_)))))
    show wpAny _ _ (pure ((items.size : Int) - 1, (-1 : Int), Builtin.Slice.slicePlaces ((items.size : Int) - 1) (-1) (-1))) _ _ s
    rw [rev_places]
    exact wpAny_pure ⟨rfl, rfl⟩
  · obtain ⟨rfl, rfl⟩ := hr
    show wpAny _ _ (if (((items.size : Int) - 1) == 0 && (-1 : Int) == 1 && items.size == items.size) = true then _ else _) _ _ _
    rw [if_neg (by simp), rev_pick]
    have fits : sizeOk (.seq items.toList.reverse.toArray) := by show items.toList.reverse.toArray.size ≤ sizeLine; simpa using hz
    exact wpAny_bind (m := Builtin.Tuple.tupleExact _) (wpAny_newObj_type (wpAny_pure ⟨_, rfl, wpAny_pure h⟩) fits)
end
def tRev (K : PySem.W.Frag) (te : TE) : TE := fun g H Q => te g H fun x H1 => ∃ a xs, x = .ref a ∧ ((SqL K H1 a xs ∧ ∀ p, H1 p = none → Q (.ref p) (upd H1 p (.lst xs.reverse))) ∨ (SqT K H1 a xs ∧ ∀ p, H1 p = none → Q (.ref p) (upd H1 p (.tup xs.reverse))))
theorem pe_rev {X : Cx} {e : PySem.Expr} {te : TE} {k : Nat} {p1 p2 p3 pos : Pos} (he : PE X e te) : PE X (.Subscript e (.Slice none none (some (.UnaryOp .USub (.Constant (.int 1) k p1) p2)) p3) pos) (tRev X.K te) := by
  refine ⟨fun pins s g H Q I h => ?_⟩
  refine Subscript_ (thn (he.run pins s g H _ I h) fun v s1 ⟨x, H1, I1, r1, q1⟩ => ?_)
  obtain ⟨a, xs, ex, q⟩ := q1
  subst ex
  cases r1
  have one : PO X (some (.UnaryOp .USub (.Constant (.int 1) k p1) p2)) (tPart (tUn (rU fun i => .int (-i)) (tC (.int 1)))) := po_some (pe_un un_neg pe_int)
  refine wpAny_Slice (thn (po_none.run pins s1 g H1 (fun o H2 => o = none ∧ H2 = H1) I1 ⟨rfl, rfl⟩) fun vl s2 ⟨l, H2, I2, pl, el, e2⟩ => ?_)
  subst el e2
  refine thn (po_none.run pins s2 g H2 (fun o H3 => o = none ∧ H3 = H2) I2 ⟨rfl, rfl⟩) fun vu s3 ⟨u, H3, I3, pu, eu, e3⟩ => ?_
  subst eu e3
  refine thn (one.run pins s3 g H3 (fun o H4 => o = some (-1) ∧ H4 = H3) I3 ⟨1, rfl, -1, rfl, rfl, rfl⟩) fun vs s4 ⟨o, H4, I4, ps, eo, e4⟩ => ?_
  subst eo e4
  have I5 : Inv X pins g H4 { s4 with heap := s4.heap.push { cls := .type "slice", data := .fields #[vl, vu, vs] } } := I4.kept (t' := s4.toks) fun b ob q => Heap.get?_push_of_some _ q
  show wpAny (model X.prog X.w) X.A (subscriptTail e (.Slice none none (some (.UnaryOp .USub (.Constant (.int 1) k p1) p2)) p3) (.ref a) (.ref s4.heap.objs.size)) (EP X pins g Q) X.xe { s4 with heap := s4.heap.push { cls := .type "slice", data := .fields #[vl, vu, vs] } }
  rcases q with ⟨hx, q⟩ | ⟨hx, q⟩
  · obtain ⟨its, r, ht, hz⟩ := I5.list hx
    have len := r.length
    refine tail_any (ops := [.ref a, .ref s4.heap.objs.size]) ht.isList.typeIs (PySem.slot_list_getitem.lookup) ?_ (by with_unfolding_all rfl)
    refine wpAny_getItem_list_slice ht.isList (Heap.IsSliceOf.new _ vl vu vs) pl pu ps (by decide) ?_ (by rw [List.size_toArray]; omega)
    rw [PySem.W.krv_pick]
    exact ⟨.ref _, _, I5.laid (t' := s4.toks) (o := .lst xs.reverse) (fun b ob q => Heap.get?_push_of_some _ q) (Nat.le_refl _) ⟨by rw [List.length_reverse]; exact hz, _, 0, r.reverse, Heap.get?_push_size _ rfl⟩, rfl, q _ (I5.hok.fresh (Nat.le_refl _))⟩
  · obtain ⟨its, r, ht, hz⟩ := I5.tuple hx
    have len := r.length
    refine tail_any (ops := [.ref a, .ref s4.heap.objs.size]) ht.typeIs (PyProof.Rows.slot_tuple_getitem.lookup) ?_ (by with_unfolding_all rfl)
    cases pl
    cases pu
    refine getItem_rev ht (Heap.IsSliceOf.new _ .none .none vs) ps ?_ (by rw [List.size_toArray]; omega)
    exact ⟨.ref _, _, I5.laid (t' := s4.toks) (o := .tup xs.reverse) (fun b ob q => Heap.get?_push_of_some _ q) (Nat.le_refl _) ⟨by rw [List.length_reverse]; exact hz, its.reverse, r.reverse, ⟨_, Heap.get?_push_size _ rfl, rfl, 0, by simp⟩⟩, rfl, q _ (I5.hok.fresh (Nat.le_refl _))⟩
end Mi

set_option Elab.async false
set_option linter.all false
set_option maxRecDepth 100000
set_option maxHeartbeats 1000000
/-! Mi4: comparisons, truth, classes, slices, places, built-ins, methods. -/
namespace Mi
open PySem PySem.Spec PyProof.Rows L2

section
variable {K : PySem.W.Frag} {as : List Addr} {H : Hp}
theorem dv_bool {o : Option Bool} {st : Store} {Q : VK} (h : DV K as H (o.map fun b => (bl b, st)) Q) (rs : RS K as H st) : ∃ b, o = some b ∧ Q (.bl b) H := by
  cases o with
  | none => exact h.elim
  | some b => exact ⟨b, rfl, h.now rs (.bl b)⟩
/-- both flat, or both of depth -/
theorem eqOp_some {x y : D} {st : Store} {b : Bool} (h : eqOp x y st = some b) : ∃ u v, asV x st = some u ∧ asV y st = some v ∧ ((flat u = true ∧ flat v = true) ∨ (SeqAt.shaped u = true ∧ SeqAt.shaped v = true)) ∧ b = PyData.eqv u v := by
  unfold eqOp at h
  split at h
  · rename_i u v e1 e2
    split at h
    · rename_i hc
      simp only [Bool.or_eq_true, Bool.and_eq_true] at hc
      exact ⟨u, v, e1, e2, hc, (Option.some.inj h).symm⟩
    · cases h
  · cases h
theorem flat_dp {u : PyData} {x : V} (h : Dp K H x u) (f : flat u = true) : (u = .none ∧ x = .non) ∨ (∃ b, u = .bool b ∧ x = .bl b) ∨ (∃ i, u = .int i ∧ x = .int i) ∨ (∃ s, u = .str s ∧ x = .str s) := by
  cases h with
  | non => exact .inl ⟨rfl, rfl⟩
  | bl b => exact .inr (.inl ⟨b, rfl, rfl⟩)
  | int i => exact .inr (.inr (.inl ⟨i, rfl, rfl⟩))
  | str s => exact .inr (.inr (.inr ⟨s, rfl, rfl⟩))
  | lst _ _ => cases f
  | tup _ _ => cases f
theorem shaped_flat {u : PyData} (f : flat u = true) (ns : ∀ s, u ≠ .str s) : SeqAt.shaped u = true := by
  cases u with
  | none => decide
  | bool b => cases b <;> decide
  | int i => rfl
  | str s => exact absurd rfl (ns s)
  | list _ => cases f
  | tuple _ => cases f
  | dict _ => cases f
/-- == of the data: by the flat rule or the deep one -/
theorem eq_ways {u v : PyData} {x y : V} {Q : VK} (hx : Dp K H x u) (hy : Dp K H y v) (c : (flat u = true ∧ flat v = true) ∨ (SeqAt.shaped u = true ∧ SeqAt.shaped v = true)) (q : Q (.bl (PyData.eqv u v)) H) :
    rEq x y H Q ∨ rEqD K x y H Q := by
  rcases c with ⟨fu, fv⟩ | ⟨su, sv⟩
  · rcases flat_dp hx fu with ⟨rfl, rfl⟩ | ⟨b, rfl, rfl⟩ | ⟨i, rfl, rfl⟩ | ⟨z, rfl, rfl⟩ <;>
    rcases flat_dp hy fv with ⟨rfl, rfl⟩ | ⟨b', rfl, rfl⟩ | ⟨i', rfl, rfl⟩ | ⟨z', rfl, rfl⟩ <;>
    first
      | exact .inl ⟨rfl, by rw [dec_str]; exact q⟩
      | exact .inl ⟨rfl, by simpa [PyData.eqv, dec_int, dec_bl, dec_str] using q⟩
      | exact .inr ⟨_, _, hx, hy, shaped_flat fu (fun _ z => by cases z), shaped_flat fv (fun _ z => by cases z), q⟩
  · exact .inr ⟨u, v, hx, hy, su, sv, q⟩
theorem ne_ways {u v : PyData} {x y : V} {Q : VK} (hx : Dp K H x u) (hy : Dp K H y v) (c : (flat u = true ∧ flat v = true) ∨ (SeqAt.shaped u = true ∧ SeqAt.shaped v = true)) (q : Q (.bl (!PyData.eqv u v)) H) :
    rNe x y H Q ∨ rNeD K x y H Q := by
  rcases c with ⟨fu, fv⟩ | ⟨su, sv⟩
  · rcases flat_dp hx fu with ⟨rfl, rfl⟩ | ⟨b, rfl, rfl⟩ | ⟨i, rfl, rfl⟩ | ⟨z, rfl, rfl⟩ <;>
    rcases flat_dp hy fv with ⟨rfl, rfl⟩ | ⟨b', rfl, rfl⟩ | ⟨i', rfl, rfl⟩ | ⟨z', rfl, rfl⟩ <;>
    first
      | exact .inl ⟨rfl, by rw [dec_str]; exact q⟩
      | exact .inl ⟨rfl, by simpa [PyData.eqv, dec_int, dec_bl, dec_str] using q⟩
      | exact .inr ⟨_, _, hx, hy, shaped_flat fu (fun _ z => by cases z), shaped_flat fv (fun _ z => by cases z), q⟩
  · exact .inr ⟨u, v, hx, hy, su, sv, q⟩
theorem flat_rp {u : PyData} {x : V} (h : RP K H u x) (f : flat u = true) : flatV x = true := by
  cases h with
  | lst _ _ => cases f
  | tup _ _ => cases f
  | _ => rfl
theorem flat_rps : ∀ {us : List PyData} {xs : List V}, RPs K H us xs → us.all flat = true → xs.all flatV = true
  | _, _, .nil, _ => rfl
  | _, _, .cons h t, f => by
    simp only [List.all_cons, Bool.and_eq_true] at f ⊢
    exact ⟨flat_rp h f.1, flat_rps t f.2⟩
theorem eqV_eqv {u v : PyData} {x y : V} (hu : RP K H u x) (hv : RP K H v y) (fu : flat u = true) (fv : flat v = true) : eqV x y = PyData.eqv u v := by
  rcases flat_dp hu.dp fu with ⟨rfl, rfl⟩ | ⟨b, rfl, rfl⟩ | ⟨i, rfl, rfl⟩ | ⟨z, rfl, rfl⟩ <;>
  rcases flat_dp hv.dp fv with ⟨rfl, rfl⟩ | ⟨b', rfl, rfl⟩ | ⟨i', rfl, rfl⟩ | ⟨z', rfl, rfl⟩ <;> rfl
theorem inV_any {u : PyData} {x : V} (hu : RP K H u x) (fu : flat u = true) : ∀ {us : List PyData} {xs : List V}, RPs K H us xs → us.all flat = true → inV x xs = us.any fun v => PyData.eqv v u
  | _, _, .nil, _ => rfl
  | _, _, .cons h t, f => by
    simp only [List.all_cons, Bool.and_eq_true] at f
    have := inV_any hu fu t f.2
    unfold inV at this ⊢
    simp only [List.any_cons]
    rw [this, eqV_eqv h hu f.1 fu]
end

section
variable {X : Cx}
theorem s_eq (hu : X.A.units + 66 < cLine) : OpR X (compareOp .Eq) (rB X.K (cmpop .Eq)) := by
  intro pn s g H x y v u Q I rx ry ⟨as, st, a, b, rs, ra, rb, h⟩
  obtain ⟨k, e, q⟩ := dv_bool h rs
  obtain ⟨d1, d2, e1, e2, c, rfl⟩ := eqOp_some e
  rcases eq_ways (Q := Q) (asV_rep rs ra e1) (asV_rep rs rb e2) c q with w | w
  · exact op_eq pn s g H x y v u Q I rx ry w
  · exact op_eqD (by omega) pn s g H x y v u Q I rx ry w
theorem s_ne (hu : X.A.units + 66 < cLine) : OpR X (compareOp .NotEq) (rB X.K (cmpop .NotEq)) := by
  intro pn s g H x y v u Q I rx ry ⟨as, st, a, b, rs, ra, rb, h⟩
  obtain ⟨k, e, q⟩ := dv_bool h rs
  obtain ⟨k', e', rfl⟩ := Option.map_eq_some_iff.mp (show (eqOp a b st).map (!·) = some k from e)
  obtain ⟨d1, d2, e1, e2, c, rfl⟩ := eqOp_some e'
  rcases ne_ways (Q := Q) (asV_rep rs ra e1) (asV_rep rs rb e2) c q with w | w
  · exact op_ne pn s g H x y v u Q I rx ry w
  · exact op_neD (by omega) pn s g H x y v u Q I rx ry w
theorem inOp_ways {K : PySem.W.Frag} {as : List Addr} {H : Hp} {st : Store} {a b : D} {x y : V} {k : Bool} (rs : RS K as H st) (ra : RD K as H a x) (rb : RD K as H b y) (e : inOp a b st = some k) :
    (∃ i j, x = .str i ∧ y = .str j ∧ k = subT i j) ∨ (∃ p xs, y = .ref p ∧ (SqL K H p xs ∨ SqT K H p xs) ∧ flatV x = true ∧ xs.all flatV = true ∧ k = inV x xs) := by
  unfold inOp at e
  split at e
  · rename_i i j
    exact .inl ⟨i, j, rp_str ra, rp_str rb, (Option.some.inj e).symm⟩
  · rename_i u y' _
    split at e
    · rename_i ds e1
      split at e
      · rename_i vs e2
        split at e
        · rename_i hc
          simp only [Bool.and_eq_true] at hc
          obtain ⟨p, xs, h1, h2, h3⟩ := asQ_rep rs rb e1
          have h4 := pures_rep h3 e2
          exact .inr ⟨p, xs, h1, h2, flat_rp ra hc.1, flat_rps h4 hc.2, by rw [inV_any ra hc.1 h4 hc.2]; exact (Option.some.inj e).symm⟩
        · cases e
      · cases e
    · cases e
  · cases e
theorem s_in : OpR X (compareOp .In) (rB X.K (cmpop .In)) := by
  intro pn s g H x y v u Q I rx ry ⟨as, st, a, b, rs, ra, rb, h⟩
  obtain ⟨k, e, q⟩ := dv_bool h rs
  rcases inOp_ways rs ra rb e with ⟨i, j, h1, h2, rfl⟩ | ⟨p, xs, h1, h2, h3, h4, rfl⟩
  · exact op_in_str pn s g H x y v u Q I rx ry ⟨i, j, h1, h2, q⟩
  · exact op_in_seq pn s g H x y v u Q I rx ry ⟨p, xs, h1, h2, h3, h4, q⟩
theorem s_notIn : OpR X (compareOp .NotIn) (rB X.K (cmpop .NotIn)) := by
  intro pn s g H x y v u Q I rx ry ⟨as, st, a, b, rs, ra, rb, h⟩
  obtain ⟨k, e, q⟩ := dv_bool h rs
  obtain ⟨k', e', rfl⟩ := Option.map_eq_some_iff.mp (show (inOp a b st).map (!·) = some k from e)
  rcases inOp_ways rs ra rb e' with ⟨i, j, h1, h2, rfl⟩ | ⟨p, xs, h1, h2, h3, h4, rfl⟩
  · exact op_notin_str pn s g H x y v u Q I rx ry ⟨i, j, h1, h2, q⟩
  · exact op_notIn_seq pn s g H x y v u Q I rx ry ⟨p, xs, h1, h2, h3, h4, q⟩
theorem isNone_rep {K : PySem.W.Frag} {as : List Addr} {H : Hp} {a : D} {x : V} (ra : RD K as H a x) : isNone a = decide (x = .non) := by
  cases a with
  | p v => cases ra <;> rfl
  | r n => obtain ⟨_, _, rfl⟩ := ra; rfl
theorem s_is : OpR X (compareOp .Is) (rB X.K (cmpop .Is)) := by
  intro pn s g H x y v u Q I rx ry ⟨as, st, a, b, rs, ra, rb, h⟩
  obtain ⟨k, e, q⟩ := dv_bool h rs
  have e : (if isNone b then some (isNone a) else none) = some k := e
  split at e
  · rename_i hb
    rw [isNone_rep rb] at hb
    cases (Option.some.inj e)
    exact op_isN pn s g H x y v u Q I rx ry ⟨of_decide_eq_true hb, by rw [← isNone_rep ra]; exact q⟩
  · cases e
theorem s_isNot : OpR X (compareOp .IsNot) (rB X.K (cmpop .IsNot)) := by
  intro pn s g H x y v u Q I rx ry ⟨as, st, a, b, rs, ra, rb, h⟩
  obtain ⟨k, e, q⟩ := dv_bool h rs
  have e : (if isNone b then some (!isNone a) else none) = some k := e
  split at e
  · rename_i hb
    rw [isNone_rep rb] at hb
    cases (Option.some.inj e)
    exact op_notN pn s g H x y v u Q I rx ry ⟨of_decide_eq_true hb, by rw [← isNone_rep ra]; exact q⟩
  · cases e
theorem ints2_rep {K : PySem.W.Frag} {as : List Addr} {H : Hp} {a b : D} {x y : V} {ij : Int × Int} (ra : RD K as H a x) (rb : RD K as H b y) (e : ints2 a b = some ij) : x = .int ij.1 ∧ y = .int ij.2 := by
  unfold ints2 at e
  split at e
  · cases (Option.some.inj e)
    exact ⟨rp_int ra, rp_int rb⟩
  · cases e
theorem cmpI_ints {K : PySem.W.Frag} {as : List Addr} {H : Hp} {a b : D} {x y : V} {op : CmpOp} {k : Bool} (ra : RD K as H a x) (rb : RD K as H b y)
    (e : ((ints2 a b).bind fun p => cmpI op p.1 p.2) = some k) : ∃ i j, x = .int i ∧ y = .int j ∧ cmpI op i j = some k := by
  obtain ⟨⟨i, j⟩, e1, e2⟩ := Option.bind_eq_some_iff.mp e
  unfold ints2 at e1
  split at e1
  · cases (Option.some.inj e1)
    exact ⟨i, j, rp_int ra, rp_int rb, e2⟩
  · cases e1
theorem s_cmp (op : CmpOp) (hu : X.A.units + 66 < cLine) : OpR X (compareOp op) (rB X.K (cmpop op)) := by
  cases op with
  | Eq => exact s_eq hu
  | NotEq => exact s_ne hu
  | In => exact s_in
  | NotIn => exact s_notIn
  | Is => exact s_is
  | IsNot => exact s_isNot
  | Lt =>
    intro pn s g H x y v u Q I rx ry ⟨as, st, a, b, rs, ra, rb, h⟩
    obtain ⟨k, e, q⟩ := dv_bool h rs
    obtain ⟨i, j, h1, h2, h3⟩ := cmpI_ints (op := .Lt) ra rb e
    cases (Option.some.inj h3)
    exact op_lt pn s g H x y v u Q I rx ry ⟨i, j, h1, h2, q⟩
  | LtE =>
    intro pn s g H x y v u Q I rx ry ⟨as, st, a, b, rs, ra, rb, h⟩
    obtain ⟨k, e, q⟩ := dv_bool h rs
    obtain ⟨i, j, h1, h2, h3⟩ := cmpI_ints (op := .LtE) ra rb e
    cases (Option.some.inj h3)
    exact op_le pn s g H x y v u Q I rx ry ⟨i, j, h1, h2, q⟩
  | Gt =>
    intro pn s g H x y v u Q I rx ry ⟨as, st, a, b, rs, ra, rb, h⟩
    obtain ⟨k, e, q⟩ := dv_bool h rs
    obtain ⟨i, j, h1, h2, h3⟩ := cmpI_ints (op := .Gt) ra rb e
    cases (Option.some.inj h3)
    exact op_gt pn s g H x y v u Q I rx ry ⟨i, j, h1, h2, q⟩
  | GtE =>
    intro pn s g H x y v u Q I rx ry ⟨as, st, a, b, rs, ra, rb, h⟩
    obtain ⟨k, e, q⟩ := dv_bool h rs
    obtain ⟨i, j, h1, h2, h3⟩ := cmpI_ints (op := .GtE) ra rb e
    cases (Option.some.inj h3)
    exact op_ge pn s g H x y v u Q I rx ry ⟨i, j, h1, h2, q⟩

/-! ### truth, classes -/
theorem truth_rep {K : PySem.W.Frag} {as : List Addr} {H : Hp} {st : Store} {a : D} {x : V} {k : Bool} (rs : RS K as H st) (ra : RD K as H a x) (e : truth a st = some k) : TruV K x H k := by
  unfold truth at e
  split at e
  · cases rp_none ra
    exact (Option.some.inj e).symm
  · cases rp_bool ra
    exact (Option.some.inj e).symm
  · cases rp_int ra
    exact (Option.some.inj e).symm
  · cases rp_str ra
    split at e
    · rename_i hz
      exact ⟨Nat.le_trans hz lim_line, (Option.some.inj e).symm⟩
    · cases e
  · rename_i xs
    obtain ⟨p, vs, rfl, h1, h2⟩ := rp_tup ra
    refine .inr (.inl ⟨vs, h1, ?_⟩)
    rw [← Option.some.inj e]
    cases h2 <;> rfl
  · split at e
    · rename_i ds e1
      obtain ⟨p, vs, rfl, h1, h2⟩ := asL_rep rs ra e1
      refine .inl ⟨vs, .inl h1, ?_⟩
      rw [← Option.some.inj e]
      cases h2 <;> rfl
    · cases e
theorem tyOf_rep {K : PySem.W.Frag} {as : List Addr} {H : Hp} {st : Store} {a : D} {x : V} {t : Ty} (rs : RS K as H st) (ra : RD K as H a x) (e : tyOf a st = some t) : TyX K H x (.type t.nm) := by
  cases a with
  | p v =>
    cases ra with
    | non => cases (Option.some.inj e); exact .base .non
    | bl b => cases (Option.some.inj e); exact .base (.bl b)
    | int i => cases (Option.some.inj e); exact .base (.int i)
    | str z => cases (Option.some.inj e); exact .base (.str z)
    | lst h _ =>
      cases (Option.some.inj e)
      obtain ⟨o, h⟩ := h
      exact .base (.frz h)
    | tup h _ =>
      cases (Option.some.inj e)
      rcases h with (h | ⟨o, h⟩) | ⟨o, its, n, h, c, _⟩
      · exact .base (.tup h)
      · exact .fTuple h
      · exact .kTuple h c
  | r n =>
    obtain ⟨p, h1, rfl⟩ := ra
    obtain ⟨xs, e1, rfl⟩ := Option.map_eq_some_iff.mp (show (cellL st n).map (fun _ => Ty.list) = some t from e)
    obtain ⟨vs, h2, _⟩ := rs.cell n _ p (cellL_some e1) h1
    exact .base (.lst h2)
theorem kit_sub (a b : Ty) : kitB a.nm b.nm = some (a.sub b) := by
  cases a <;> cases b <;> decide +kernel
theorem kit_any (K : PySem.W.Frag) (a : Ty) : ∀ ts : List Ty, PySem.W.kitAny K (.type a.nm) (ts.map fun t => .type t.nm) = some (ts.any a.sub)
  | [] => rfl
  | t :: ts => kitAny_cons (kit_ty (kit_sub a t)) (fun e => by rw [kit_any K a ts]; simp [List.any_cons, e]) (fun e => by simp [List.any_cons, e])
theorem clsv_all : ∀ ts : List Ty, Paired ClsV (ts.map fun t => V.ty t.nm) (ts.map fun t => Value.type t.nm)
  | [] => .nil
  | t :: ts => .cons (.ty t.nm) (clsv_all ts)

/-! ### places, slices, stores -/
theorem atI_map {α β : Type} (f : α → β) (xs : List α) (i : Int) : atI (xs.map f) i = (atI xs i).map f := by
  unfold atI
  rw [List.length_map]
  cases ixN xs.length i with
  | none => rfl
  | some j => simp
theorem paired_at {α β : Type} {F : α → β → Prop} : ∀ {l1 : List α} {l2 : List β} {j : Nat} {a : α}, Paired F l1 l2 → l1[j]? = some a → ∃ b, l2[j]? = some b ∧ F a b
  | _, _, _, _, .nil, e => by simp at e
  | _, _, 0, _, .cons r _, e => by simp at e; subst e; exact ⟨_, rfl, r⟩
  | _, _, j + 1, _, .cons _ t, e => by
    obtain ⟨b, h1, h2⟩ := paired_at (j := j) t (by simpa using e)
    exact ⟨b, by simpa using h1, h2⟩
theorem paired_drop {α β : Type} {F : α → β → Prop} : ∀ {l1 : List α} {l2 : List β} (n : Nat), Paired F l1 l2 → Paired F (l1.drop n) (l2.drop n)
  | _, _, 0, r => r
  | _, _, _ + 1, .nil => .nil
  | _, _, n + 1, .cons _ t => paired_drop n t
theorem paired_take {α β : Type} {F : α → β → Prop} : ∀ {l1 : List α} {l2 : List β} (n : Nat), Paired F l1 l2 → Paired F (l1.take n) (l2.take n)
  | _, _, 0, _ => .nil
  | _, _, _ + 1, .nil => .nil
  | _, _, n + 1, .cons r t => .cons r (paired_take n t)
theorem paired_set {α β : Type} {F : α → β → Prop} {a : α} {b : β} (r : F a b) : ∀ {l1 : List α} {l2 : List β} (n : Nat), Paired F l1 l2 → Paired F (l1.set n a) (l2.set n b)
  | _, _, _, .nil => .nil
  | _, _, 0, .cons _ t => .cons r t
  | _, _, n + 1, .cons q t => .cons q (paired_set r n t)
theorem paired_cut {α : Type} {F : α → V → Prop} {l1 : List α} {l2 : List V} (lo hi : Option Int) (r : Paired F l1 l2) : Paired F (cut l1 lo hi) (cutV l2 lo hi) := by
  have e := Paired.length r
  unfold cut cutV
  rw [e]
  exact paired_take _ (paired_drop _ r)
theorem toP {K : PySem.W.Frag} {H : Hp} {xs : List PyData} {vs : List V} (h : RPs K H xs vs) : Paired (RP K H) xs vs := by
  induction xs generalizing vs with
  | nil => cases h; exact .nil
  | cons x xs ih => cases h with
    | cons h1 h2 => exact .cons h1 (ih h2)
theorem ofP {K : PySem.W.Frag} {H : Hp} {xs : List PyData} {vs : List V} (h : Paired (RP K H) xs vs) : RPs K H xs vs := by
  induction h with
  | nil => exact .nil
  | cons h1 _ ih => exact .cons h1 ih
theorem atI_rep {α : Type} {F : α → V → Prop} {xs : List α} {vs : List V} {i : Int} {a : α} (r : Paired F xs vs) (e : atI xs i = some a) : ∃ v, atI vs i = some v ∧ F a v := by
  unfold atI at e ⊢
  rw [Paired.length r] at e
  cases q : ixN vs.length i with
  | none => rw [q] at e; cases e
  | some j =>
    rw [q] at e
    exact paired_at r e
theorem index_ways {K : PySem.W.Frag} {as : List Addr} {H : Hp} {st : Store} {a b : D} {x y : V} {Q : VK} (rs : RS K as H st) (ra : RD K as H a x) (rb : RD K as H b y) (h : DV K as H (index a b st) Q) : rIx K x y H Q := by
  unfold index at h
  split at h
  · rename_i i
    cases rp_int rb
    split at h
    · rename_i z
      cases rp_str ra
      split at h
      · rename_i hz
        cases e : atI z.cps.toList i with
        | none => rw [e] at h; exact h.elim
        | some c =>
          rw [e] at h
          exact .inr (.inr ⟨z, i, c, rfl, rfl, Nat.le_trans hz lim_line, e, h.now rs (.str _)⟩)
      · exact h.elim
    · cases e : asQ a st with
      | none => rw [e] at h; exact h.elim
      | some ds =>
        rw [e] at h
        have h : DV K as H ((atI ds i).map fun d => (d, st)) Q := h
        cases e2 : atI ds i with
        | none => rw [e2] at h; exact h.elim
        | some d =>
          rw [e2] at h
          obtain ⟨p, vs, rfl, h1, h2⟩ := asQ_rep rs ra e
          obtain ⟨v, e3, h3⟩ := atI_rep h2 e2
          have q := h.now rs h3
          rcases h1 with h1 | h1
          · exact .inl ⟨p, vs, i, v, rfl, rfl, h1, e3, q⟩
          · exact .inr (.inl ⟨p, vs, i, v, rfl, rfl, h1, e3, q⟩)
  · exact h.elim
theorem s_index : IxR X (rB X.K index) := by
  intro value sl pn s g H x y v u Q I rx ry ⟨as, st, a, b, rs, ra, rb, h⟩ hs
  exact ix_seq value sl pn s g H x y v u Q I rx ry (index_ways rs ra rb h) hs
def rS (K : PySem.W.Frag) (m : Bool) : V → Option Int → Option Int → Hp → VK → Prop := fun x lo hi H Q => ∃ as st a, RS K as H st ∧ RD K as H a x ∧ DV K as H (slice m a lo hi st) Q
theorem s_slice (m : Bool) : SlR X (rS X.K m) := by
  intro pn s g H x v vl vu lo hi sl Q I rx hs pl pu ⟨as, st, a, rs, ra, h⟩
  unfold slice at h
  split at h
  · rename_i xs
    obtain ⟨p, vs, rfl, h1, h2⟩ := rp_tup ra
    have hc := paired_cut lo hi (toP h2)
    refine sl_tupA pn s g H _ v vl vu lo hi sl Q I rx hs pl pu ⟨p, vs, rfl, h1, fun e => ?_, fun _ q hq => tup_new h rs (ofP hc) q hq⟩
    have e2 : cut xs lo hi = xs := by
      unfold cut
      rw [Paired.length (toP h2), e.1, e.2, ← Paired.length (toP h2)]
      simp
    rw [e2] at h
    exact h.now rs (.tup h1 h2)
  · cases e : asL a st with
    | none => rw [e] at h; exact h.elim
    | some ds =>
      rw [e] at h
      obtain ⟨p, vs, rfl, h1, h2⟩ := asL_rep rs ra e
      obtain ⟨_, fin⟩ := fin_new h rs (paired_cut lo hi h2)
      obtain ⟨T, id, hT, ht, hg⟩ := sl_list pn s g H _ v vl vu lo hi sl (FZ m Q) I rx hs pl pu ⟨p, vs, rfl, .inl h1, fin⟩
      exact ⟨T, id, hT, ht, thn hg fun _ _ k => unfz k⟩
/-- o[i] = v -/
def rW (K : PySem.W.Frag) : V → V → V → Hp → (Hp → Prop) → Prop := fun o i v H Q => ∃ as st a b c st2, RS K as H st ∧ RD K as H a o ∧ RD K as H b i ∧ RD K as H c v ∧ setIx a b c st = some st2 ∧ ∀ bs H', Ext as H bs H' → RS K bs H' st2 → Q H'
theorem s_set : PSet X (rW X.K) := by
  intro pn s g H o i v ov iv u Q I ro ri rv ⟨as, st, a, b, c, st2, rs, ra, rb, rc, e, h⟩
  unfold setIx at e
  split at e
  · rename_i n k
    obtain ⟨ds, e1, e2⟩ := Option.bind_eq_some_iff.mp e
    obtain ⟨j, e3, rfl⟩ := Option.map_eq_some_iff.mp e2
    obtain ⟨p, h1, rfl⟩ := ra
    cases rp_int rb
    have hc := cellL_some e1
    obtain ⟨vs, h2, h3⟩ := rs.cell n _ p hc h1
    obtain ⟨x, rs2⟩ := rs.write h1 hc h2 (paired_set rc j h3)
    exact set_list pn s g H _ _ v ov iv u Q I ro ri rv ⟨p, vs, k, j, rfl, rfl, h2, by rw [← Paired.length h3]; exact e3, h _ _ x rs2⟩
  · cases e
end
end Mi

set_option Elab.async false
set_option linter.all false
set_option maxRecDepth 100000
set_option maxHeartbeats 1000000
/-! Mi5: built-in functions, methods, by values. -/
namespace Mi
open PySem PySem.Spec PyProof.Rows L2

def rA (K : PySem.W.Frag) (f : List D → Store → O) : List V → Hp → VK → Prop := fun xs H Q => ∃ as st ds, RS K as H st ∧ RDs K as H ds xs ∧ DV K as H (f ds st) Q
def rM (K : PySem.W.Frag) (f : D → List D → Store → O) : V → List V → Hp → VK → Prop := fun x xs H Q => ∃ as st d ds, RS K as H st ∧ RD K as H d x ∧ RDs K as H ds xs ∧ DV K as H (f d ds st) Q
section
variable {X : Cx} {K : PySem.W.Frag} {as : List Addr} {H : Hp}
theorem rds1 {d : D} {xs : List V} (h : RDs K as H [d] xs) : ∃ x, xs = [x] ∧ RD K as H d x := by
  cases h with
  | cons h1 h2 => cases h2; exact ⟨_, rfl, h1⟩
theorem dv_map {α : Type} {o : Option α} {f : α → D} {st : Store} {Q : VK} (h : DV K as H (o.map fun b => (f b, st)) Q) : ∃ b, o = some b ∧ DV K as H (some (f b, st)) Q := by
  cases o with
  | none => exact h.elim
  | some b => exact ⟨b, rfl, h⟩
theorem dv_bind {α : Type} {o : Option α} {f : α → O} {Q : VK} (h : DV K as H (o.bind f) Q) : ∃ b, o = some b ∧ DV K as H (f b) Q := by
  cases o with
  | none => exact h.elim
  | some b => exact ⟨b, rfl, h⟩
theorem intOf_rep {d : D} {x : V} {i : Int} (r : RD K as H d x) (e : intOf d = some i) : d = nt i ∧ x = .int i := by
  unfold intOf at e
  split at e
  · cases (Option.some.inj e)
    exact ⟨rfl, rp_int r⟩
  · cases e
theorem asBools_rep : ∀ {ds : List D} {xs : List V} {bs : List Bool}, RDs K as H ds xs → asBools ds = some bs → xs = bs.map V.bl
  | [], _, _, h, e => by
    cases h
    cases (Option.some.inj e)
    rfl
  | .p v :: ds, _, bs, h, e => by
    cases h with
    | cons h1 h2 =>
      cases v with
      | bool b =>
        obtain ⟨cs, e1, rfl⟩ := Option.map_eq_some_iff.mp (show (asBools ds).map (b :: ·) = some bs from e)
        rw [List.map_cons, ← asBools_rep h2 e1, rp_bool h1]
      | _ => cases e
  | .r n :: ds, _, _, _, e => by cases e
theorem lenOf_rep {st : Store} {d : D} {x : V} {n : Int} (rs : RS K as H st) (r : RD K as H d x) (e : lenOf d st = some n) : ∃ k : Nat, n = k ∧ (LenV K x H k ∨ ∃ a kvs, x = .ref a ∧ H a = some (.dK kvs) ∧ kvs.length = k) := by
  unfold lenOf at e
  split at e
  · rename_i z
    cases rp_str r
    split at e
    · rename_i hz
      exact ⟨z.length, (Option.some.inj e).symm, .inl ⟨Nat.le_trans hz lim_line, rfl⟩⟩
    · cases e
  · obtain ⟨a, h1, rfl⟩ := r
    split at e
    · rename_i es hc
      obtain ⟨vs, h2, h3⟩ := rs.cell _ _ a hc h1
      exact ⟨vs.length, by rw [← Option.some.inj e, Paired.length h3], .inl (.inl ⟨vs, .inl (.inl h2), rfl⟩)⟩
    · rename_i kvs hc
      obtain ⟨ws, h2, h3⟩ := rs.cell _ _ a hc h1
      exact ⟨kvs.length, (Option.some.inj e).symm, .inr ⟨a, ws, rfl, h2, (Paired.length h3).symm⟩⟩
    · cases e
  · obtain ⟨ds, e1, rfl⟩ := Option.map_eq_some_iff.mp e
    obtain ⟨p, vs, rfl, h1, h2⟩ := asQ_rep rs r e1
    refine ⟨vs.length, by rw [Paired.length h2], .inl ?_⟩
    rcases h1 with h1 | h1
    · exact .inl ⟨vs, h1, rfl⟩
    · exact .inr ⟨vs, h1, rfl⟩
theorem c_len (m : Bool) : CallR X (.builtin "len") (rA X.K (builtin m .len)) := by
  intro pn s g H xs us Q I r ⟨as, st, ds, rs, rd, h⟩
  unfold builtin at h
  split at h <;> try (rename_i q; cases q)
  · obtain ⟨x, rfl, rx⟩ := rds1 rd
    obtain ⟨n, e, h⟩ := dv_map h
    obtain ⟨k, rfl, hk⟩ := lenOf_rep rs rx e
    rcases hk with hk | ⟨a, kvs, rfl, hd, rfl⟩
    · exact call_len pn s g H _ us Q I r ⟨x, k, rfl, hk, h.now rs (.int _)⟩
    · exact call_lenD pn s g H _ us Q I r ⟨a, kvs, rfl, hd, h.now rs (.int _)⟩
  · exact h.elim
/-! ### in order -/
theorem asInts_rep : ∀ {ds : List D} {xs : List V} {ns : List Int}, RDs K as H ds xs → asInts ds = some ns → xs = ns.map V.int
  | [], _, _, h, e => by
    cases h
    cases (Option.some.inj e)
    rfl
  | .p v :: ds, _, ns, h, e => by
    cases h with
    | cons h1 h2 =>
      cases v with
      | int b =>
        obtain ⟨cs, e1, rfl⟩ := Option.map_eq_some_iff.mp (show (asInts ds).map (b :: ·) = some ns from e)
        rw [List.map_cons, ← asInts_rep h2 e1, rp_int h1]
      | _ => cases e
  | .r n :: ds, _, _, _, e => by cases e
theorem keysI_rep : ∀ {kvs : List (Ky × D)} {ws : List (Key × V)} {ns : List Int}, Paired (fun (p : Ky × D) (q : Key × V) => p.1 = q.1 ∧ RD K as H p.2 q.2) kvs ws → keysI kvs = some ns → ws.map (·.1) = ns.map Sum.inl
  | [], _, _, h, e => by
    cases h
    cases (Option.some.inj e)
    rfl
  | (.inl i, d) :: r, _, ns, h, e => by
    cases h with
    | cons h1 h2 =>
      obtain ⟨cs, e1, rfl⟩ := Option.map_eq_some_iff.mp (show (keysI r).map (i :: ·) = some ns from e)
      rw [List.map_cons, List.map_cons, keysI_rep h2 e1, ← h1.1]
  | (.inr _, _) :: _, _, _, _, e => by cases e
theorem sortI_eq {ys ns : List Int} (p : ys.Perm ns) (o : ys.Pairwise (· ≤ ·)) : ys = sortI ns := by
  refine List.Perm.eq_of_pairwise (le := (· ≤ ·)) (fun a b _ _ h1 h2 => Int.le_antisymm h1 h2) o ?_ (p.trans (List.mergeSort_perm ns _).symm)
  have := List.pairwise_mergeSort (le := fun a b : Int => decide (a ≤ b)) (fun a b c h1 h2 => by simp at *; omega) (fun a b => by simp; omega) ns
  exact this.imp fun h => by simpa using h
theorem insU_mem {x y : Int} : ∀ {l : List Int}, y ∈ insU x l ↔ y = x ∨ y ∈ l
  | [] => by simp [insU]
  | z :: l => by
    unfold insU
    split
    · simp
    · split
      · rename_i h; subst h; simp
      · simp only [List.mem_cons, insU_mem (l := l)]
        constructor
        · rintro (h | h | h)
          · exact .inr (.inl h)
          · exact .inl h
          · exact .inr (.inr h)
        · rintro (h | h | h)
          · exact .inr (.inl h)
          · exact .inl h
          · exact .inr (.inr h)
theorem insU_ord {x : Int} : ∀ {l : List Int}, l.Pairwise (· < ·) → (insU x l).Pairwise (· < ·)
  | [], _ => by simp [insU]
  | z :: l, h => by
    obtain ⟨h1, h2⟩ := List.pairwise_cons.mp h
    unfold insU
    split
    · rename_i hx
      refine List.pairwise_cons.mpr ⟨fun y hy => ?_, h⟩
      rcases List.mem_cons.mp hy with rfl | hy
      · exact hx
      · exact Int.lt_trans hx (h1 y hy)
    · split
      · exact h
      · refine List.pairwise_cons.mpr ⟨fun y hy => ?_, insU_ord h2⟩
        rcases insU_mem.mp hy with rfl | hy
        · omega
        · exact h1 y hy
theorem uniqI_mem {y : Int} : ∀ {l : List Int}, y ∈ uniqI l ↔ y ∈ l
  | [] => by simp [uniqI]
  | x :: l => by
    show y ∈ insU x (uniqI l) ↔ _
    rw [insU_mem, uniqI_mem (l := l), List.mem_cons]
theorem uniqI_ord : ∀ {l : List Int}, (uniqI l).Pairwise (· < ·)
  | [] => by simp [uniqI]
  | x :: l => insU_ord (uniqI_ord (l := l))
theorem ord_ext : ∀ {l l' : List Int}, l.Pairwise (· < ·) → l'.Pairwise (· < ·) → (∀ k, k ∈ l ↔ k ∈ l') → l = l'
  | [], [], _, _, _ => rfl
  | [], y :: l', _, _, h => absurd ((h y).mpr List.mem_cons_self) (by simp)
  | x :: l, [], _, _, h => absurd ((h x).mp List.mem_cons_self) (by simp)
  | x :: l, y :: l', h1, h2, h => by
    obtain ⟨a1, a2⟩ := List.pairwise_cons.mp h1
    obtain ⟨b1, b2⟩ := List.pairwise_cons.mp h2
    have e : x = y := by
      rcases List.mem_cons.mp ((h x).mp List.mem_cons_self) with q | q
      · exact q
      · rcases List.mem_cons.mp ((h y).mpr List.mem_cons_self) with q2 | q2
        · exact q2.symm
        · have := b1 x q
          have := a1 y q2
          omega
    subst e
    rw [ord_ext a2 b2 fun k => ?_]
    constructor
    · intro hk
      rcases List.mem_cons.mp ((h k).mp (List.mem_cons_of_mem _ hk)) with rfl | q
      · exact absurd (a1 k hk) (Int.lt_irrefl _)
      · exact q
    · intro hk
      rcases List.mem_cons.mp ((h k).mpr (List.mem_cons_of_mem _ hk)) with rfl | q
      · exact absurd (b1 k hk) (Int.lt_irrefl _)
      · exact q
theorem ints_rds (ns : List Int) : RDs K as H (ns.map nt) (ns.map V.int) := by
  induction ns with
  | nil => exact .nil
  | cons n ns ih => exact .cons (.int n) ih
theorem c_sorted (m : Bool) (hc : X.calm = true) : CallR X (.builtin "sorted") (rA X.K (builtin m .sorted)) := by
  intro pn s g H xs us Q I r ⟨as, st, ds, rs, rd, h⟩
  unfold builtin at h
  split at h <;> try (rename_i q; cases q)
  · obtain ⟨x, rfl, rx⟩ := rds1 rd
    obtain ⟨ns, e, h⟩ := dv_bind h
    obtain ⟨_, fin⟩ := fin_new h rs (ints_rds ns)
    refine thn (Q := EP X pn g (FZ m Q)) ?_ fun _ _ k => unfz k
    have lists : ∀ {p : Addr} {es : List D} {vs : List V}, x = .ref p → SqL X.K H p vs → RDs X.K as H es vs → (asInts es).map sortI = some ns → wpAny (model X.prog X.w) X.A (call (.builtin "sorted") us) (EP X pn g (FZ m Q)) X.xe s := fun {p es vs} ex h1 h2 e => by
      subst ex
      obtain ⟨ks, e1, rfl⟩ := Option.map_eq_some_iff.mp e
      have h3 := asInts_rep h2 e1
      subst h3
      exact cr_sortedI pn s g H _ us (FZ m Q) I r ⟨p, ks, rfl, h1, fun ys q hp ho hq => by rw [sortI_eq hp ho]; exact fin q hq⟩
    unfold ordOf at e
    split at e
    · obtain ⟨a, h1, rfl⟩ := rx
      split at e
      · rename_i es hc
        obtain ⟨vs, h2, h3⟩ := rs.cell _ _ a hc h1
        exact lists rfl (.inl (.inl h2)) h3 e
      · rename_i kvs hk
        obtain ⟨ws, h2, h3⟩ := rs.cell _ _ a hk h1
        obtain ⟨ks, e1, e2⟩ := Option.bind_eq_some_iff.mp e
        split at e2
        · rename_i hl
          cases (Option.some.inj e2)
          exact call_sortedDI hc pn s g H _ us (FZ m Q) I r ⟨a, ws, ks, rfl, .inl h2, keysI_rep h3 e1, hl, fun ys q hp ho hq => by rw [sortI_eq hp ho]; exact fin q hq⟩
        · cases e2
      · cases e
    · obtain ⟨ks, e1, e2⟩ := Option.map_eq_some_iff.mp e
      obtain ⟨es, e3, e4⟩ := Option.bind_eq_some_iff.mp e1
      obtain ⟨p, vs, ex, h1, h2⟩ := asL_rep rs rx e3
      exact lists ex (.inl h1) h2 (by rw [e4]; exact congrArg some e2)
  · exact h.elim
/-- sorted(set(x)) -/
theorem sset_read {m : Bool} {vs : List V} {Q : VK} (h : rA X.K (builtin m .sset) vs H Q) : rSetQ X.K X.w vs H fun v H2 => rSortedSet X.w [v] H2 (FZ m Q) := by
  obtain ⟨as, st, ds, rs, rd, h⟩ := h
  unfold builtin at h
  split at h <;> try (rename_i q; cases q)
  · obtain ⟨x, rfl, rx⟩ := rds1 rd
    obtain ⟨ns, e, h⟩ := dv_bind h
    obtain ⟨es, e1, e2⟩ := Option.bind_eq_some_iff.mp e
    split at h
    · rename_i hl
      obtain ⟨p, us, rfl, h1, h2⟩ := asQ_rep rs rx e1
      have h3 := asInts_rep h2 e2
      subst h3
      refine ⟨p, ns, rfl, h1, by omega, fun p2 c hp hc => ⟨p2, _, c, rfl, upd_same, by omega, fun ks p3 ho hm _ hq => ?_⟩⟩
      have ek : ks = uniqI ns := ord_ext ho uniqI_ord fun k => by rw [hm, uniqI_mem]; simp
      subst ek
      exact (fin_new (DV.base (Ext.lay hp) h) (rs.lay hp) (ints_rds _)).2 p3 hq
    · exact h.elim
  · exact h.elim
/-! ### x[::-1], list(zip(x, y)) -/
theorem paired_rev {α β : Type} {F : α → β → Prop} : ∀ {l : List α} {r : List β}, Paired F l r → Paired F l.reverse r.reverse
  | _, _, .nil => .nil
  | _, _, .cons r t => by
    rw [List.reverse_cons, List.reverse_cons]
    exact paired_append (paired_rev t) (.cons r .nil)
theorem RPs.rev {xs : List PyData} {vs : List V} (h : RPs K H xs vs) : RPs K H xs.reverse vs.reverse := by
  induction xs generalizing vs with
  | nil => cases h; exact .nil
  | cons x xs ih => cases h with
    | cons h1 h2 =>
      rw [List.reverse_cons, List.reverse_cons]
      exact (ih h2).append (.cons h1 .nil)
theorem rev_read {m : Bool} {st : Store} {d : D} {x : V} {Q : VK} (rs : RS K as H st) (r : RD K as H d x) (h : DV K as H (revS m d st) Q) :
    ∃ a xs, x = .ref a ∧ ((SqL K H a xs ∧ ∀ p, H p = none → FZ m Q (.ref p) (upd H p (.lst xs.reverse))) ∨ (SqT K H a xs ∧ ∀ p, H p = none → Q (.ref p) (upd H p (.tup xs.reverse)))) := by
  unfold revS at h
  split at h
  · obtain ⟨p, vs, rfl, h1, h2⟩ := rp_tup r
    exact ⟨p, vs, rfl, .inr ⟨h1, fun q hq => tup_new h rs h2.rev q hq⟩⟩
  · obtain ⟨es, e, h⟩ := dv_bind h
    obtain ⟨p, vs, rfl, h1, h2⟩ := asL_rep rs r e
    exact ⟨p, vs, rfl, .inl ⟨.inl h1, (fin_new h rs (paired_rev h2)).2⟩⟩
theorem zipOf_rep {st : Store} {d1 d2 : D} {x y : V} {p : List D × List D} (rs : RS K as H st) (r1 : RD K as H d1 x) (r2 : RD K as H d2 y) (e : zipOf d1 d2 st = some p) :
    ∃ a b xs ys, x = .ref a ∧ y = .ref b ∧ ((SqL K H a xs ∧ SqL K H b ys) ∨ (SqT K H a xs ∧ SqT K H b ys)) ∧ RDs K as H p.1 xs ∧ RDs K as H p.2 ys := by
  unfold zipOf at e
  split at e
  · cases (Option.some.inj e)
    obtain ⟨a, xs, rfl, h1, h2⟩ := rp_tup r1
    obtain ⟨b, ys, rfl, h3, h4⟩ := rp_tup r2
    exact ⟨a, b, xs, ys, rfl, rfl, .inr ⟨h1, h3⟩, h2.toD, h4.toD⟩
  · obtain ⟨es, e1, e2⟩ := Option.bind_eq_some_iff.mp e
    obtain ⟨fs, e3, rfl⟩ := Option.map_eq_some_iff.mp e2
    obtain ⟨a, xs, rfl, h1, h2⟩ := asL_rep rs r1 e1
    obtain ⟨b, ys, rfl, h3, h4⟩ := asL_rep rs r2 e3
    exact ⟨a, b, xs, ys, rfl, rfl, .inl ⟨.inl h1, .inl h3⟩, h2, h4⟩
theorem pz_rep : ∀ {xs ys : List PyData} {us ws vs : List V}, RPs K H xs us → RPs K H ys ws → xs.length = ys.length → vs.length = us.length → PZ us ws H vs → RDs K as H ((xs.zip ys).map fun q => D.p (.tuple [q.1, q.2])) vs
  | [], _, _, _, vs, h1, _, _, lv, _ => by
    cases h1
    cases vs with
    | nil => exact .nil
    | cons _ _ => cases lv
  | x :: xs, [], _, _, _, _, _, l, _, _ => by cases l
  | x :: xs, y :: ys, _, _, vs, h1, h2, l, lv, hz => by
    cases h1 with
    | cons a1 a2 => cases h2 with
      | cons b1 b2 => cases vs with
        | nil => cases lv
        | cons v vs =>
          obtain ⟨t, u, w, e1, e2, e3, e4⟩ := hz 0 v rfl
          cases (Option.some.inj e3)
          cases (Option.some.inj e4)
          subst e1
          exact .cons (.tup (SqT.of e2) (.cons a1 (.cons b1 .nil))) (pz_rep a2 b2 (by simpa using l) (by simpa using lv) fun j T e => hz (j + 1) T (by simpa using e))
theorem lzip_read {m : Bool} {st : Store} {d1 d2 : D} {x y : V} {Q : VK} (rs : RS K as H st) (r1 : RD K as H d1 x) (r2 : RD K as H d2 y) (h : DV K as H (lzip m d1 d2 st) Q) :
    ∃ a b xs ys, [x, y] = [V.ref a, V.ref b] ∧ ((SqL K H a xs ∧ SqL K H b ys) ∨ (SqT K H a xs ∧ SqT K H b ys)) ∧ xs.length = ys.length ∧ xs.length ≤ sizeLine ∧
      ∀ H' T vs, H T = none → (∀ c u, H c = some u → H' c = some u) → (∀ c, H' c = none → H c = none) → H' T = some (.lst vs) → vs.length = xs.length → PZ xs ys H' vs → FZ m Q (.ref T) H' := by
  unfold lzip at h
  obtain ⟨p, e, h⟩ := dv_bind h
  obtain ⟨xs, e1, h⟩ := dv_bind h
  obtain ⟨ys, e2, h⟩ := dv_bind h
  split at h
  · rename_i hl
    obtain ⟨a, b, us, ws, rfl, rfl, h1, h2, h3⟩ := zipOf_rep rs r1 r2 e
    have q1 := pures_rep h2 e1
    have q2 := pures_rep h3 e2
    have l1 : us.length = ws.length := by rw [← q1.length, ← q2.length, hl]
    have lim := fin_len h
    have lz := lim_line
    refine ⟨a, b, us, ws, rfl, h1, l1, ?_, fun H' T vs a1 a2 a3 a4 a5 a6 => ?_⟩
    · have : us.length = (xs.zip ys).length := by rw [List.length_zip, hl, Nat.min_self, ← q1.length, hl]
      simp only [List.length_map] at lim
      omega
    · have kp : Keep H H' := ⟨fun c ws q => a2 c _ q, fun c o u q => a2 c _ q⟩
      have same : ∀ c ∈ as, H' c = H c := fun c hc => by
        obtain ⟨i, hi⟩ := List.mem_iff_getElem?.mp hc
        cases q : H c with
        | none => exact absurd q (rs.live i c hi)
        | some u => exact a2 c u q
      exact fin_at h ⟨⟨[], by simp, by simp⟩, kp.tups, kp.frzs, fun c u q _ => a2 c u q, a3⟩ (rs.off kp same) a1 (rs.not_mem a1) a4 (pz_rep (RPs.keep kp q1) (RPs.keep kp q2) hl (by rw [a5]) a6)
  · exact h.elim
end
section
variable {X : Cx} {K : PySem.W.Frag} {as : List Addr} {H : Hp}
theorem c_abs (m : Bool) : CallR X (.builtin "abs") (rA X.K (builtin m .abs)) := by
  intro pn s g H xs us Q I r ⟨as, st, ds, rs, rd, h⟩
  unfold builtin at h
  split at h <;> try (rename_i q; cases q)
  · obtain ⟨x, rfl, rx⟩ := rds1 rd
    obtain ⟨n, e, h⟩ := dv_map h
    obtain ⟨_, rfl⟩ := intOf_rep rx e
    exact call_abs pn s g H _ us Q I r ⟨n, rfl, h.now rs (.int _)⟩
  · exact h.elim
theorem c_int (m : Bool) : CallR X (.type "int") (rA X.K (builtin m .int)) := by
  intro pn s g H xs us Q I r ⟨as, st, ds, rs, rd, h⟩
  unfold builtin at h
  split at h <;> try (rename_i q; cases q)
  · obtain ⟨x, rfl, rx⟩ := rds1 rd
    obtain ⟨n, e, h⟩ := dv_map h
    obtain ⟨_, rfl⟩ := intOf_rep rx e
    exact call_int1 pn s g H _ us Q I r (.inl ⟨n, rfl, h.now rs (.int _)⟩)
  · exact h.elim
theorem c_list (m : Bool) : CallR X (.type "list") (rA X.K (builtin m .list)) := by
  intro pn s g H xs us Q I r ⟨as, st, ds, rs, rd, h⟩
  unfold builtin at h
  split at h <;> try (rename_i q; cases q)
  · obtain ⟨x, rfl, rx⟩ := rds1 rd
    obtain ⟨ds, e, h⟩ := dv_bind h
    obtain ⟨p, vs, rfl, h1, h2⟩ := asQ_rep rs rx e
    obtain ⟨_, fin⟩ := fin_new h rs h2
    exact thn (call_list_of pn s g H _ us (FZ m Q) I r ⟨p, vs, rfl, h1, fin⟩) fun _ _ k => unfz k
  · exact h.elim
theorem c_tuple (m : Bool) : CallR X (.type "tuple") (rA X.K (builtin m .tuple)) := by
  intro pn s g H xs us Q I r ⟨as, st, ds, rs, rd, h⟩
  unfold builtin at h
  split at h <;> try (rename_i q; cases q)
  · rename_i d
    obtain ⟨x, rfl, rx⟩ := rds1 rd
    obtain ⟨ds, e, h⟩ := dv_bind h
    obtain ⟨ys, e2, h⟩ := dv_bind (show DV X.K as H ((pures ds).bind fun vs => if vs.length ≤ LIM then some (.p (.tuple vs), st) else none) Q from h)
    split at h
    · obtain ⟨p, vs, rfl, h1, h2⟩ := asQ_rep rs rx e
      have h3 := pures_rep h2 e2
      rcases h1 with h1 | h1
      · exact call_tuple_of pn s g H _ us Q I r ⟨p, vs, rfl, .inl ⟨h1, fun l hl => tup_new h rs h3 l hl⟩⟩
      · exact call_tuple_of pn s g H _ us Q I r ⟨p, vs, rfl, .inr ⟨h1, h.now rs (.tup h1 h3)⟩⟩
    · exact h.elim
  · exact h.elim
theorem c_all (m : Bool) (hc : X.calm = true) : CallR X (.builtin "all") (rA X.K (builtin m .all)) := by
  intro pn s g H xs us Q I r ⟨as, st, ds, rs, rd, h⟩
  unfold builtin at h
  split at h <;> try (rename_i q; cases q)
  · obtain ⟨x, rfl, rx⟩ := rds1 rd
    obtain ⟨bs, e, h⟩ := dv_map h
    obtain ⟨ds, e1, e2⟩ := Option.bind_eq_some_iff.mp e
    obtain ⟨p, vs, rfl, h1, h2⟩ := asL_rep rs rx e1
    have h3 := asBools_rep h2 e2
    subst h3
    exact cr_all hc pn s g H _ us Q I r ⟨p, bs, rfl, .inl h1, h.now rs (.bl _)⟩
  · exact h.elim
theorem c_any (m : Bool) (hc : X.calm = true) : CallR X (.builtin "any") (rA X.K (builtin m .any)) := by
  intro pn s g H xs us Q I r ⟨as, st, ds, rs, rd, h⟩
  unfold builtin at h
  split at h <;> try (rename_i q; cases q)
  · obtain ⟨x, rfl, rx⟩ := rds1 rd
    obtain ⟨bs, e, h⟩ := dv_map h
    obtain ⟨ds, e1, e2⟩ := Option.bind_eq_some_iff.mp e
    obtain ⟨p, vs, rfl, h1, h2⟩ := asL_rep rs rx e1
    have h3 := asBools_rep h2 e2
    subst h3
    exact cr_any hc pn s g H _ us Q I r ⟨p, bs, rfl, .inl h1, h.now rs (.bl _)⟩
  · exact h.elim

/-! ### methods -/
theorem m_append (m : Bool) : MtR X "list.append" (rM X.K (method m .append)) := by
  intro pn s g H x xs v us Q I rx r ⟨as, st, d, ds, rs, rd, rds, h⟩
  unfold method at h
  split at h <;> try (rename_i q; cases q)
  · rename_i n w
    obtain ⟨p, h1, rfl⟩ := rd
    obtain ⟨y, rfl, ry⟩ := rds1 rds
    obtain ⟨es, e, h⟩ := dv_bind h
    split at h
    · rename_i hz
      obtain ⟨vs, h2, h3⟩ := rs.cell n _ p (cellL_some e) h1
      obtain ⟨x, rs2⟩ := rs.write h1 (cellL_some e) h2 (paired_append h3 (.cons ry .nil))
      exact mt_append pn s g H _ _ v us Q I rx r ⟨p, vs, y, rfl, rfl, h2, by have := lim_line; rw [← Paired.length h3]; omega, h _ _ x rs2 _ .non⟩
    · exact h.elim
  · exact h.elim
/-- l.extend(ys), ys to be read -/
theorem ext_rd {pn : List (Addr × Obj)} {s : Shared} {g : List (Option V)} {l b : Addr} {xs zs : List V} {v : Value} {us : List Value} {Q : VK} (I : Inv X pn g H s) (rx : RelV (.ref l) v) (r : Vals [V.ref b] us)
    (hl : H l = some (.lst xs)) (hb : Rd H b (.lst zs)) (hz : xs.length + zs.length ≤ sizeLine) (q : Q .non (upd H l (.lst (xs ++ zs)))) :
    wpAny (model X.prog X.w) X.A (call (.builtin "list.extend") (v :: us)) (EP X pn g Q) X.xe s := by
  cases rx
  obtain ⟨u, rfl, ru⟩ := r.one
  cases ru
  obtain ⟨z1, its, n, r1, len1, e1⟩ := I.lstM hl
  obtain ⟨its2, n2, r2, e2, z2⟩ := rd_list I hb
  have len2 := r2.length
  have size : its.toArray.size + its2.toArray.size ≤ sizeLine := by simp only [List.size_toArray]; omega
  have far : ¬ (!its.toArray.isEmpty && Builtin.List.listTooLong (its.toArray.size + its2.toArray.size)) = true := by rw [notLongL size]; simp
  refine call_meets F.slot_list_extend ⟨_, e1, rfl⟩ F.entry_list_extend (F.args_list_extend_2 _ _) (AutoSeq1.list_extend_list_list_0 l its.toArray n b its2.toArray n2 far (by simp only [List.size_toArray]; omega) (by omega)) ⟨e1, e2, ?_⟩
  exact ⟨.non, _, I.lset (its' := its ++ its2) hl e1 (by simp) (r1.append r2) (by simp only [List.length_append]; omega), rfl, q⟩
theorem m_extend (m : Bool) : MtR X "list.extend" (rM X.K (method m .extend)) := by
  intro pn s g H x xs v us Q I rx r ⟨as, st, d, ds, rs, rd, rds, h⟩
  unfold method at h
  split at h <;> try (rename_i q; cases q)
  · rename_i n w
    obtain ⟨p, h1, rfl⟩ := rd
    obtain ⟨y, rfl, ry⟩ := rds1 rds
    obtain ⟨es, e, h⟩ := dv_bind h
    obtain ⟨ys, e2, h⟩ := dv_bind h
    split at h
    · rename_i hz
      obtain ⟨vs, h2, h3⟩ := rs.cell n _ p (cellL_some e) h1
      obtain ⟨b, ws, rfl, h4, h5⟩ := asL_rep rs ry e2
      obtain ⟨x, rs2⟩ := rs.write h1 (cellL_some e) h2 (paired_append h3 h5)
      exact ext_rd I rx r h2 h4 (by have := lim_line; rw [← Paired.length h3, ← Paired.length h5]; omega) (h _ _ x rs2 _ .non)
    · exact h.elim
  · exact h.elim
end
end Mi

set_option Elab.async false
set_option linter.all false
set_option maxRecDepth 100000
set_option maxHeartbeats 1000000
/-! Mi6: expressions: the code's outcome is what the model reaches. -/
namespace Mi
open PySem PySem.Spec PyProof.Rows L2

section
variable (K : PySem.W.Frag) (T : Tab) (xr : XR) (W : WX)
def den (c : C) : TE := fun g H Q => ∃ as e st, RS K as H st ∧ RE K as H e g ∧ DG K xr W (RD K) g as H (ev T c e st) Q
abbrev rEq2 {α : Type} : List Addr → Hp → α → α → Prop := fun _ _ a b => a = b
def denT (q : Q) : TT := fun g H R => ∃ as e st, RS K as H st ∧ RE K as H e g ∧ DG K xr W rEq2 g as H (evT T q e st) R
def denA (cs : Cs) : TA := fun g H Q => ∃ as e st, RS K as H st ∧ RE K as H e g ∧ DG K xr W (RDs K) g as H (evs T cs e st) Q
def denO (o : Oc) : TO := fun g H Q => ∃ as e st, RS K as H st ∧ RE K as H e g ∧ DG K xr W rEq2 g as H (evO T o e st) Q
end

section
variable {X : Cx} {T : Tab} {xr : XR} {W : WX} {a b c : PySem.Expr} {ca cb cc : C} {pos : Pos}
theorem p_var {i : Nat} {x : Str} (hN : X.N[i]? = some x) (hv : Vis X.env.scope x) (hd : (x == ("__debug__" : Str)) = false) (hcd : (x == ("__classdict__" : Str)) = false) : PE X (.Name x pos) (den X.K T xr W (.var i)) :=
  PE.imp (pe_var hN hv hd hcd) fun g H Q ⟨as, e, st, rs, re, h⟩ => by
    have h : DG X.K xr W (RD X.K) g as H (match e[i]? with | some (some d) => R.ok d st | _ => R.bad) Q := h
    split at h
    · rename_i d q
      obtain ⟨x, h1, h2⟩ := re.get q
      exact ⟨x, h1, h as H .refl rs x h2⟩
    · exact h.elim
theorem p_glo {x : Str} {u : Value} {w : V} {v : PyData} (hg : Gl X x) (hm : X.mg x = some u) (r : RelV w u) (ht : T.glo x = some v) (hr : ∀ H, RP X.K H v w) (hd : (x == ("__debug__" : Str)) = false) : PE X (.Name x pos) (den X.K T xr W (.glo x)) :=
  PE.imp (pe_glob hg hm r hd) fun g H Q ⟨as, e, st, rs, re, h⟩ => by
    have h : DG X.K xr W (RD X.K) g as H (match T.glo x with | some v => R.ok (.p v) st | none => R.bad) Q := h
    rw [ht] at h
    exact h as H .refl rs w (hr H)
theorem p_int {i j} : PE X (.Constant (.int i) j pos) (den X.K T xr W (.cst (.int i))) := PE.imp pe_int fun g H Q ⟨as, e, st, rs, re, h⟩ => h as H .refl rs _ (.int i)
theorem p_bool {i j} : PE X (.Constant (.bool i) j pos) (den X.K T xr W (.cst (.bool i))) := PE.imp pe_bl fun g H Q ⟨as, e, st, rs, re, h⟩ => h as H .refl rs _ (.bl i)
theorem p_none {j} : PE X (.Constant .none j pos) (den X.K T xr W (.cst .none)) := PE.imp pe_non fun g H Q ⟨as, e, st, rs, re, h⟩ => h as H .refl rs _ .non
theorem p_str {i j} : PE X (.Constant (.str i) j pos) (den X.K T xr W (.cst (.str i))) := PE.imp pe_str fun g H Q ⟨as, e, st, rs, re, h⟩ => h as H .refl rs _ (.str i)
theorem p_bin {m : Bool} {op : Operator} (ha : PE X a (den X.K T xr W ca)) (hb : PE X b (den X.K T xr W cb)) : PE X (.BinOp a op b pos) (den X.K T xr W (.bin m op ca cb)) :=
  PE.imp (pe_op (s_bin m op) ha hb) fun g H Q ⟨as, e, st, rs, re, h⟩ => ⟨as, e, st, rs, re, (DG.thn h).mono fun x H1 ⟨v, bs, st1, e1, rs1, rv, h1⟩ =>
    ⟨bs, e, st1, rs1, re.ext e1, (DG.thn h1).mono fun y H2 ⟨w, cs, st2, e2, rs2, rw, h2⟩ => ⟨cs, st2, v, w, rs2, rv.ext e2, rw, DV.of h2⟩⟩⟩
theorem p_neg (ha : PE X a (den X.K T xr W ca)) : PE X (.UnaryOp .USub a pos) (den X.K T xr W (.neg ca)) :=
  PE.imp (pe_un un_neg ha) fun g H Q ⟨as, e, st, rs, re, h⟩ => ⟨as, e, st, rs, re, (DG.thn h).mono fun x H1 ⟨v, bs, st1, e1, rs1, rv, h1⟩ => by
    split at h1
    · rename_i i
      exact ⟨i, rp_int rv, h1 bs H1 .refl rs1 _ (.int _)⟩
    · exact h1.elim⟩
theorem p_cmp {op : CmpOp} (hu : X.A.units + 66 < cLine) (ha : PE X a (den X.K T xr W ca)) (hb : PE X b (den X.K T xr W cb)) (hm : behindInMarks op b = false) : PE X (.Compare a [op] [b] pos) (den X.K T xr W (.cmp op ca cb)) :=
  PE.imp (pe_cmpR (s_cmp op hu) ha hb hm) fun g H Q ⟨as, e, st, rs, re, h⟩ => ⟨as, e, st, rs, re, (DG.thn h).mono fun x H1 ⟨v, bs, st1, e1, rs1, rv, h1⟩ =>
    ⟨bs, e, st1, rs1, re.ext e1, (DG.thn h1).mono fun y H2 ⟨w, cs, st2, e2, rs2, rw, h2⟩ => ⟨cs, st2, v, w, rs2, rv.ext e2, rw, DV.of h2⟩⟩⟩
/-- a chain, as its reading -/
theorem chain_read {o1 o2 : CmpOp} {g : L2.St} {H : Hp} {Q : VK} {as : List Addr} {e : Env} {st : Store} (rs : RS X.K as H st) (re : RE X.K as H e g) (h : DG X.K xr W (RD X.K) g as H (ev T (.chn o1 o2 ca cb cc) e st) Q) :
    tChain (rB X.K (cmpop o1)) (rB X.K (cmpop o2)) (den X.K T xr W ca) (den X.K T xr W cb) (den X.K T xr W cc) g H Q :=
  ⟨as, e, st, rs, re, (DG.thn h).mono fun x H1 ⟨v, bs, st1, e1, rs1, rv, h1⟩ => ⟨bs, e, st1, rs1, re.ext e1, (DG.thn h1).mono fun y H2 ⟨w, cs, st2, e2, rs2, rw, h2⟩ => by
    refine ⟨cs, st2, v, w, rs2, rv.ext e2, rw, ?_⟩
    unfold cmpop
    split at h2
    · rename_i k
      rw [k]
      intro ds H3 e3 rs3 z rz
      refine ⟨true, rp_bool rz, ?_⟩
      rw [if_pos rfl]
      exact ⟨ds, e, st2, rs3, ((re.ext e1).ext e2).ext e3, (DG.thn (DG.base e3 h2)).mono fun z H4 ⟨u, fs, st4, e4, rs4, ru, h4⟩ => ⟨fs, st4, w, u, rs4, (rw.ext e3).ext e4, ru, DV.of h4⟩⟩
    · rename_i k
      rw [k]
      intro ds H3 e3 rs3 z rz
      refine ⟨false, rp_bool rz, ?_⟩
      rw [if_neg (by simp)]
      exact (DG.base e3 h2) ds H3 .refl rs3 _ (.bl false)
    · exact h2.elim⟩⟩
theorem p_chn {o1 o2 : CmpOp} (hu : X.A.units + 66 < cLine) (ha : PE X a (den X.K T xr W ca)) (hb : PE X b (den X.K T xr W cb)) (hc : PE X c (den X.K T xr W cc)) (hm : lastMarks [o1, o2] [b, c] = false) : PE X (.Compare a [o1, o2] [b, c] pos) (den X.K T xr W (.chn o1 o2 ca cb cc)) :=
  PE.imp (pe_chain (s_cmp o1 hu) (s_cmp o2 hu) ha hb hc hm) fun g H Q ⟨as, e, st, rs, re, h⟩ => chain_read rs re h
variable {rest : List PySem.Expr}
theorem p_and (ha : PE X a (den X.K T xr W ca)) (hb : PE X (.BoolOp .And (b :: rest) pos) (den X.K T xr W cb)) : PE X (.BoolOp .And (a :: b :: rest) pos) (den X.K T xr W (.andC ca cb)) :=
  PE.imp (pe_andT ha hb) fun g H Q ⟨as, e, st, rs, re, h⟩ => ⟨as, e, st, rs, re, (DG.thn h).mono fun x H1 ⟨v, bs, st1, e1, rs1, rv, h1⟩ => by
    split at h1
    · rename_i k
      exact ⟨true, truth_rep rs1 rv k, by rw [if_pos rfl]; exact ⟨bs, e, st1, rs1, re.ext e1, h1⟩⟩
    · rename_i k
      exact ⟨false, truth_rep rs1 rv k, by rw [if_neg (by simp)]; exact h1 bs H1 .refl rs1 x rv⟩
    · exact h1.elim⟩
theorem p_or (ha : PE X a (den X.K T xr W ca)) (hb : PE X (.BoolOp .Or (b :: rest) pos) (den X.K T xr W cb)) : PE X (.BoolOp .Or (a :: b :: rest) pos) (den X.K T xr W (.orC ca cb)) :=
  PE.imp (pe_orT ha hb) fun g H Q ⟨as, e, st, rs, re, h⟩ => ⟨as, e, st, rs, re, (DG.thn h).mono fun x H1 ⟨v, bs, st1, e1, rs1, rv, h1⟩ => by
    split at h1
    · rename_i k
      exact ⟨true, truth_rep rs1 rv k, by rw [if_pos rfl]; exact h1 bs H1 .refl rs1 x rv⟩
    · rename_i k
      exact ⟨false, truth_rep rs1 rv k, by rw [if_neg (by simp)]; exact ⟨bs, e, st1, rs1, re.ext e1, h1⟩⟩
    · exact h1.elim⟩
theorem p_not (ha : PE X a (den X.K T xr W ca)) : PE X (.UnaryOp .Not a pos) (den X.K T xr W (.notC ca)) :=
  PE.imp (pe_notT ha) fun g H Q ⟨as, e, st, rs, re, h⟩ => ⟨as, e, st, rs, re, (DG.thn h).mono fun x H1 ⟨v, bs, st1, e1, rs1, rv, h1⟩ => by
    split at h1
    · rename_i k
      exact ⟨_, truth_rep rs1 rv k, h1 bs H1 .refl rs1 _ (.bl _)⟩
    · exact h1.elim⟩
/-! ### tests -/
variable {qa qb : Q} {e : PySem.Expr}
theorem t_truth (ha : PE X a (den X.K T xr W ca)) (he : ∀ whole, isTrue a X.env whole = (do let v ← whole; standAt a.pos; holding [v] (truthy v))) : PT X a (denT X.K T xr W (.val ca)) :=
  PT.imp (pt_truth ha he) fun g H R ⟨as, e, st, rs, re, h⟩ => ⟨as, e, st, rs, re, (DG.thn h).mono fun x H1 ⟨v, bs, st1, e1, rs1, rv, h1⟩ => by
    split at h1
    · rename_i k
      exact ⟨_, truth_rep rs1 rv k, h1 bs H1 .refl rs1 _ rfl⟩
    · exact h1.elim⟩
/-- a comparison's value is a truth -/
theorem cmp_truth {op : CmpOp} {x y : D} {st st0 : Store} {g : L2.St} {as : List Addr} {H : Hp} {Rr : Bool → Hp → Prop} (h : DG X.K xr W rEq2 g as H ((cmpop op x y st).toR.bind fun x st => match truth x st with | some b => R.ok b st | none => R.bad) Rr) :
    DV X.K as H (cmpop op x y st) fun z H2 => ∃ k, z = .bl k ∧ Rr k H2 := by
  unfold cmpop at h ⊢
  cases k : cmpB op x y st with
  | none => rw [k] at h; exact h.elim
  | some b =>
    rw [k] at h
    intro bs H1 e1 rs1 z rz
    exact ⟨b, rp_bool rz, h bs H1 e1 rs1 _ rfl⟩
theorem t_cmp {op : CmpOp} (hu : X.A.units + 66 < cLine) (ha : PE X a (den X.K T xr W ca)) (hb : PE X b (den X.K T xr W cb)) (hm : behindInMarks op b = false) : PT X (.Compare a [op] [b] pos) (denT X.K T xr W (.val (.cmp op ca cb))) :=
  PT.imp (pt_cmpR (s_cmp op hu) ha hb hm) fun g H Rr ⟨as, e, st, rs, re, h⟩ => by
    have h : DG X.K xr W rEq2 g as H ((ev T ca e st).bind fun x st => (ev T cb e st).bind fun y st => (cmpop op x y st).toR.bind fun x st => match truth x st with | some b => R.ok b st | none => R.bad) Rr := by
      have q : ∀ {α β γ : Type} (m : R α) (f : α → Store → R β) (k : β → Store → R γ), (m.bind f).bind k = m.bind fun x st => (f x st).bind k := fun m f k => by cases m <;> rfl
      have h' : DG X.K xr W rEq2 g as H (((ev T ca e st).bind fun x st => (ev T cb e st).bind fun y st => (cmpop op x y st).toR).bind fun x st => match truth x st with | some b => R.ok b st | none => R.bad) Rr := h
      simp only [q] at h'
      exact h'
    exact ⟨as, e, st, rs, re, (DG.thn h).mono fun x H1 ⟨v, bs, st1, e1, rs1, rv, h1⟩ => ⟨bs, e, st1, rs1, re.ext e1, (DG.thn h1).mono fun y H2 ⟨w, cs, st2, e2, rs2, rw, h2⟩ => ⟨cs, st2, v, w, rs2, rv.ext e2, rw, cmp_truth (st0 := st2) h2⟩⟩⟩
theorem bind_bind {α β γ : Type} (m : R α) (f : α → Store → R β) (k : β → Store → R γ) : (m.bind f).bind k = m.bind fun x st => (f x st).bind k := by cases m <;> rfl
theorem t_chn {o1 o2 : CmpOp} (hu : X.A.units + 66 < cLine) (ha : PE X a (den X.K T xr W ca)) (hb : PE X b (den X.K T xr W cb)) (hc : PE X c (den X.K T xr W cc)) (hm : lastMarks [o1, o2] [b, c] = false) : PT X (.Compare a [o1, o2] [b, c] pos) (denT X.K T xr W (.val (.chn o1 o2 ca cb cc))) :=
  PT.imp (pt_chain (s_cmp o1 hu) (s_cmp o2 hu) ha hb hc hm) fun g H Rr ⟨as, e, st, rs, re, h⟩ => by
    refine chain_read rs re (W := W) (xr := xr) (T := T) (Q := fun z H2 => ∃ k, z = .bl k ∧ Rr k H2) ?_
    have h' : DG X.K xr W rEq2 g as H ((ev T (.chn o1 o2 ca cb cc) e st).bind fun x st => match truth x st with | some b => R.ok b st | none => R.bad) Rr := h
    have key : ∀ r : R D, (∀ v st1, r = .ok v st1 → ∃ k, v = bl k) → DG X.K xr W rEq2 g as H (r.bind fun x st => match truth x st with | some b => R.ok b st | none => R.bad) Rr → DG X.K xr W (RD X.K) g as H r fun z H2 => ∃ k, z = .bl k ∧ Rr k H2 := by
      intro r hr q
      cases r with
      | ok v st1 =>
        obtain ⟨k, rfl⟩ := hr v st1 rfl
        exact fun bs H1 e1 rs1 z rz => ⟨k, rp_bool rz, q bs H1 e1 rs1 _ rfl⟩
      | ex _ _ _ => exact q
      | bad => exact q
    refine key _ (fun v st1 q => ?_) h'
    have q : ((ev T ca e st).bind fun x st => (ev T cb e st).bind fun y st => match cmpB o1 x y st with
      | some true => (ev T cc e st).bind fun z st => (cmpop o2 y z st).toR
      | some false => .ok (bl false) st
      | none => .bad) = .ok v st1 := q
    cases h1 : ev T ca e st with
    | ok x s1 =>
      rw [h1] at q
      have q : ((ev T cb e s1).bind fun y st => match cmpB o1 x y st with
        | some true => (ev T cc e st).bind fun z st => (cmpop o2 y z st).toR
        | some false => .ok (bl false) st
        | none => .bad) = .ok v st1 := q
      cases h2 : ev T cb e s1 with
      | ok y s2 =>
        rw [h2] at q
        have q : (match cmpB o1 x y s2 with
          | some true => (ev T cc e s2).bind fun z st => (cmpop o2 y z st).toR
          | some false => .ok (bl false) s2
          | none => .bad) = R.ok v st1 := q
        split at q
        · cases h3 : ev T cc e s2 with
          | ok z s3 =>
            rw [h3] at q
            have q : (cmpop o2 y z s3).toR = .ok v st1 := q
            unfold cmpop at q
            cases k : cmpB o2 y z s3 with
            | none => rw [k] at q; cases q
            | some b => rw [k] at q; cases q; exact ⟨b, rfl⟩
          | ex _ _ _ => rw [h3] at q; cases q
          | bad => rw [h3] at q; cases q
        · cases q
          exact ⟨false, rfl⟩
        · cases q
      | ex _ _ _ => rw [h2] at q; cases q
      | bad => rw [h2] at q; cases q
    | ex _ _ _ => rw [h1] at q; cases q
    | bad => rw [h1] at q; cases q
theorem t_not (ha : PT X a (denT X.K T xr W qa)) : PT X (.UnaryOp .Not a pos) (denT X.K T xr W (.neg qa)) :=
  PT.imp (pt_not ha) fun g H R ⟨as, e, st, rs, re, h⟩ => ⟨as, e, st, rs, re, (DG.thn (rel := rEq2) h).mono fun x H1 ⟨v, bs, st1, e1, rs1, rv, h1⟩ => by
    cases rv
    exact h1 bs H1 .refl rs1 _ rfl⟩
theorem PW.imp {e : PySem.Expr} {t t' : TT} (h : PW X e t) (k : ∀ g H Q, t' g H Q → t g H Q) : PW X e t' := ⟨fun wh pn s g H Q I q => h.run wh pn s g H Q I (k g H Q q)⟩
theorem t_and (ha : PT X a (denT X.K T xr W qa)) (hb : PW X (.BoolOp .And (b :: rest) pos) (denT X.K T xr W qb)) : PW X (.BoolOp .And (a :: b :: rest) pos) (denT X.K T xr W (.both qa qb)) :=
  PW.imp (pw_and ha hb) fun g H R ⟨as, e, st, rs, re, h⟩ => ⟨as, e, st, rs, re, (DG.thn (rel := rEq2) h).mono fun x H1 ⟨v, bs, st1, e1, rs1, rv, h1⟩ => by
    cases rv
    cases x with
    | true => exact ⟨bs, e, st1, rs1, re.ext e1, h1⟩
    | false => exact h1 bs H1 .refl rs1 _ rfl⟩
theorem t_or (ha : PT X a (denT X.K T xr W qa)) (hb : PW X (.BoolOp .Or (b :: rest) pos) (denT X.K T xr W qb)) : PW X (.BoolOp .Or (a :: b :: rest) pos) (denT X.K T xr W (.eith qa qb)) :=
  PW.imp (pw_or ha hb) fun g H R ⟨as, e, st, rs, re, h⟩ => ⟨as, e, st, rs, re, (DG.thn (rel := rEq2) h).mono fun x H1 ⟨v, bs, st1, e1, rs1, rv, h1⟩ => by
    cases rv
    cases x with
    | true => exact h1 bs H1 .refl rs1 _ rfl
    | false => exact ⟨bs, e, st1, rs1, re.ext e1, h1⟩⟩
theorem p_if (hq : PT X e (denT X.K T xr W qa)) (ha : PE X a (den X.K T xr W ca)) (hb : PE X b (den X.K T xr W cb)) : PE X (.IfExp e a b pos) (den X.K T xr W (.ifC qa ca cb)) :=
  PE.imp (pe_ifExp hq ha hb) fun g H Q ⟨as, e, st, rs, re, h⟩ => ⟨as, e, st, rs, re, (DG.thn (rel := rEq2) h).mono fun x H1 ⟨v, bs, st1, e1, rs1, rv, h1⟩ => by
    cases rv
    cases x with
    | true => exact ⟨bs, e, st1, rs1, re.ext e1, h1⟩
    | false => exact ⟨bs, e, st1, rs1, re.ext e1, h1⟩⟩
/-! ### arguments, displays -/
variable {es : List PySem.Expr} {cs : Cs}
theorem PA.imp {es : List PySem.Expr} {t t' : TA} (h : PA X es t) (k : ∀ g H Q, t' g H Q → t g H Q) : PA X es t' := ⟨fun p pn s g H Q I q => h.run p pn s g H Q I (k g H Q q)⟩
theorem a_nil : PA X [] (denA X.K T xr W .nil) := PA.imp pa_nil fun g H Q ⟨as, e, st, rs, re, h⟩ => h as H .refl rs _ .nil
def noStar : PySem.Expr → Bool
  | .Starred _ _ => false
  | _ => true
theorem star_each {e : PySem.Expr} {es : List PySem.Expr} {env : PySem.Env} (h : noStar e = true) : starEach (e :: es) env = (false, eval e env) :: starEach es env := by
  cases e <;> first | rfl | cases h
theorem a_cons (hn : noStar a = true) (ha : PE X a (den X.K T xr W ca)) (hb : PA X es (denA X.K T xr W cs)) : PA X (a :: es) (denA X.K T xr W (.cons ca cs)) :=
  PA.imp (pa_cons ha hb (star_each hn)) fun g H Q ⟨as, e, st, rs, re, h⟩ => ⟨as, e, st, rs, re, (DG.thn h).mono fun x H1 ⟨v, bs, st1, e1, rs1, rv, h1⟩ =>
    ⟨bs, e, st1, rs1, re.ext e1, (DG.thn h1).mono fun xs H2 ⟨vs, cs, st2, e2, rs2, rw, h2⟩ => h2 cs H2 .refl rs2 _ (.cons (rv.ext e2) rw)⟩⟩
theorem plain_star {env : PySem.Env} {p : Pos} : ∀ {es : List PySem.Expr}, es.all noStar = true → (backTo p (starEach es env)).any (·.1) = false
  | [], _ => rfl
  | e :: es, h => by
    simp only [List.all_cons, Bool.and_eq_true] at h
    rw [star_each h.1]
    show (false || (backTo p (starEach es env)).any (·.1)) = false
    rw [plain_star h.2]; rfl
theorem p_tup {k} (ha : PA X es (denA X.K T xr W cs)) : PE X (.Tuple es k pos) (den X.K T xr W (.tup cs)) :=
  PE.imp (pe_tup ha) fun g H Q ⟨as, e, st, rs, re, h⟩ => ⟨as, e, st, rs, re, (DG.thn h).mono fun xs H1 ⟨vs, bs, st1, e1, rs1, rv, h1⟩ => by
    have h2 := DV.of h1
    unfold finT at h2
    obtain ⟨ys, q, h2⟩ := dv_bind h2
    split at h2
    · rename_i hz
      have r := pures_rep rv q
      exact ⟨by have := lim_line; rw [← r.length]; omega, fun p hp => tup_new h2 rs1 r p hp⟩
    · exact h2.elim⟩
theorem p_lst {m : Bool} (ha : PA X es (denA X.K T xr W cs)) : PE X (.List es pos) (den X.K T xr W (.lst m cs)) :=
  PE.imp (PE.unfz (m := m) (pe_lst ha)) fun g H Q ⟨as, e, st, rs, re, h⟩ => ⟨as, e, st, rs, re, (DG.thn h).mono fun xs H1 ⟨vs, bs, st1, e1, rs1, rv, h1⟩ => fin_new (DV.of h1) rs1 rv⟩
/-! ### calls of built-ins -/
theorem call_read {f : List D → Store → O} {g : L2.St} {H : Hp} {Q : VK} {as : List Addr} {e : Env} {st : Store} (rs : RS X.K as H st) (re : RE X.K as H e g) (h : DG X.K xr W (RD X.K) g as H ((evs T cs e st).bind fun ds st => (f ds st).toR) Q) :
    tCB (rA X.K f) (denA X.K T xr W cs) g H Q :=
  ⟨as, e, st, rs, re, (DG.thn h).mono fun xs H1 ⟨vs, bs, st1, e1, rs1, rv, h1⟩ => ⟨bs, st1, vs, rs1, rv, DV.of h1⟩⟩
theorem p_blt {x : Str} {p : Pos} {id : String} {m : Bool} {f : Bf} (hc : CallR X (.builtin id) (rA X.K (builtin m f))) (hg : Gl X x) (hm : X.mg x = none) (hv : bootBuiltins x = some (.builtin id)) (hes : (a :: es).all noStar = true)
    (ha : PA X (a :: es) (denA X.K T xr W cs)) (hn : x ≠ "__name__") (hd : (x == ("__debug__" : Str)) = false) : PE X (.Call (.Name x p) (a :: es) [] pos) (den X.K T xr W (.blt m f cs)) := by
  simp only [List.all_cons, Bool.and_eq_true] at hes
  exact PE.imp (pe_callB hc hg hm hv ha hn hd (star_each hes.1) (plain_star hes.2)) fun g H Q ⟨as, e, st, rs, re, h⟩ => call_read rs re h
theorem p_bty {x : Str} {p : Pos} {id : String} {m : Bool} {f : Bf} (hc : CallR X (.type id) (rA X.K (builtin m f))) (hg : Gl X x) (hm : X.mg x = none) (hv : bootBuiltins x = some (.type id)) (hes : (a :: es).all noStar = true)
    (ha : PA X (a :: es) (denA X.K T xr W cs)) (hn : x ≠ "__name__") (hd : (x == ("__debug__" : Str)) = false) : PE X (.Call (.Name x p) (a :: es) [] pos) (den X.K T xr W (.blt m f cs)) := by
  simp only [List.all_cons, Bool.and_eq_true] at hes
  exact PE.imp (pe_callTy hc hg hm hv ha hn hd (star_each hes.1) (plain_star hes.2)) fun g H Q ⟨as, e, st, rs, re, h⟩ => call_read rs re h
/-! ### places, slices -/
def plainIx : PySem.Expr → Bool
  | .Slice _ _ _ _ => false
  | _ => true
theorem plain_ix {e : PySem.Expr} (h : plainIx e = true) : PlainIx e := fun o i => by cases e <;> first | rfl | cases h
theorem p_idx (ha : PE X a (den X.K T xr W ca)) (hb : PE X b (den X.K T xr W cb)) (hp : plainIx b = true) : PE X (.Subscript a b pos) (den X.K T xr W (.idx ca cb)) :=
  PE.imp (pe_ix s_index ha hb (plain_ix hp)) fun g H Q ⟨as, e, st, rs, re, h⟩ => ⟨as, e, st, rs, re, (DG.thn h).mono fun x H1 ⟨v, bs, st1, e1, rs1, rv, h1⟩ =>
    ⟨bs, e, st1, rs1, re.ext e1, (DG.thn h1).mono fun y H2 ⟨w, cs, st2, e2, rs2, rw, h2⟩ => ⟨cs, st2, v, w, rs2, rv.ext e2, rw, DV.of h2⟩⟩⟩
theorem PO.imp {o : Option PySem.Expr} {t t' : TO} (h : PO X o t) (k : ∀ g H Q, t' g H Q → t g H Q) : PO X o t' := ⟨fun pn s g H Q I q => h.run pn s g H Q I (k g H Q q)⟩
theorem o_no : PO X none (denO X.K T xr W .no) := PO.imp po_none fun g H Q ⟨as, e, st, rs, re, h⟩ => h as H .refl rs _ rfl
theorem o_so (ha : PE X a (den X.K T xr W ca)) : PO X (some a) (denO X.K T xr W (.so ca)) :=
  PO.imp (po_some ha) fun g H Q ⟨as, e, st, rs, re, h⟩ => ⟨as, e, st, rs, re, (DG.thn h).mono fun x H1 ⟨v, bs, st1, e1, rs1, rv, h1⟩ => by
    split at h1
    · rename_i i
      exact ⟨i, rp_int rv, h1 bs H1 .refl rs1 _ rfl⟩
    · exact h1.elim⟩
theorem p_sli {m : Bool} {lo hi : Option PySem.Expr} {cl ch : Oc} {p2 : Pos} (ha : PE X a (den X.K T xr W ca)) (hl : PO X lo (denO X.K T xr W cl)) (hh : PO X hi (denO X.K T xr W ch)) : PE X (.Subscript a (.Slice lo hi none p2) pos) (den X.K T xr W (.sli m ca cl ch)) :=
  PE.imp (pe_slice (s_slice m) ha hl hh) fun g H Q ⟨as, e, st, rs, re, h⟩ => ⟨as, e, st, rs, re, (DG.thn h).mono fun x H1 ⟨v, bs, st1, e1, rs1, rv, h1⟩ =>
    ⟨bs, e, st1, rs1, re.ext e1, (DG.thn (rel := rEq2) h1).mono fun l H2 ⟨l', cs, st2, e2, rs2, rl, h2⟩ => ⟨cs, e, st2, rs2, (re.ext e1).ext e2, (DG.thn (rel := rEq2) h2).mono fun u H3 ⟨u', ds, st3, e3, rs3, ru, h3⟩ => by
      cases rl
      cases ru
      exact ⟨ds, st3, v, rs3, (rv.ext e2).ext e3, DV.of h3⟩⟩⟩⟩
/-! ### methods of lists -/
theorem p_mth {m : Bool} {f : Mf} {name : Str} {apos : Pos} {id : String} (slot : Slot "list" name id) (hty : typeOf (.builtin id) = pure (.type "method_descriptor")) (hm : MtR X id (rM X.K (method m f))) (ho : PE X b (den X.K T xr W cb)) (ha : PA X (a :: es) (denA X.K T xr W cs))
    (hes : (a :: es).all noStar = true) (hlen : (a :: es).length < 30) (hline : (apos.endLine == pos.line) = true) (hbase : attributeBase b name X.env (eval b X.env) = eval b X.env)
    (hw : ∀ d st, recvOk f d st = (asL d st).isSome := by intros; rfl) : PE X (.Call (.Attribute b name apos) (a :: es) [] pos) (den X.K T xr W (.mth m cb f cs)) := by
  have hes' := hes
  simp only [List.all_cons, Bool.and_eq_true] at hes'
  have hall : ∀ {es : List PySem.Expr}, es.all noStar = true → (backTo pos (starEach es X.env)).all (fun x => !x.1) = true := by
    intro es h
    induction es with
    | nil => rfl
    | cons e es ih =>
      simp only [List.all_cons, Bool.and_eq_true] at h
      rw [star_each h.1]
      show (true && (backTo pos (starEach es X.env)).all (fun x => !x.1)) = true
      rw [ih h.2]; rfl
  refine PE.imp (pe_bm PySem.F.plainAttrs_list slot hty hm ho ha hbase ?_ hline (star_each hes'.1) (plain_star hes'.2)) fun g H Q ⟨as, e, st, rs, re, h⟩ => ⟨as, e, st, rs, re, (DG.thn h).mono fun x H1 ⟨v, bs, st1, e1, rs1, rv, h1⟩ => ?_⟩
  · rw [hall hes]
    simp only [Bool.true_and]
    show (true && decide ((a :: es).length + 0 + 0 < 30)) = true
    simp only [Nat.add_zero, Bool.true_and, decide_eq_true_eq]
    exact hlen
  · split at h1
    · rename_i hr
      rw [hw] at hr
      obtain ⟨ds, q⟩ := Option.isSome_iff_exists.mp hr
      obtain ⟨p, vs, rfl, h2, _⟩ := asL_rep rs1 rv q
      exact ⟨.inl ⟨rfl, vs, .inl h2⟩, bs, e, st1, rs1, re.ext e1, (DG.thn h1).mono fun xs H2 ⟨vs, cs, st2, e2, rs2, rw, h2⟩ => ⟨cs, st2, v, vs, rs2, rv.ext e2, rw, DV.of h2⟩⟩
    · exact h1.elim

/-! ### x[::-1], list(zip(x, y)), sorted(set(x)) -/
theorem unfz2 {m : Bool} {Q : VK} {pn : List (Addr × Obj)} {g : L2.St} {u : Value} {s : Shared} (h : EP X pn g (fun x H => FZ m Q x H ∨ Q x H) u s) : EP X pn g Q u s := by
  obtain ⟨x, H1, I1, r, h | h⟩ := h
  · exact Mi.unfz ⟨x, H1, I1, r, h⟩
  · exact ⟨x, H1, I1, r, h⟩
theorem p_rev {m : Bool} {k : Nat} {p1 p2 p3 : Pos} (ha : PE X a (den X.K T xr W ca)) : PE X (.Subscript a (.Slice none none (some (.UnaryOp .USub (.Constant (.int 1) k p1) p2)) p3) pos) (den X.K T xr W (.rev m ca)) := by
  refine PE.imp (t := fun g H Q => tRev X.K (den X.K T xr W ca) g H fun x H => FZ m Q x H ∨ Q x H) ⟨fun pn s g H Q I q => thn ((pe_rev ha).run pn s g H _ I q) fun _ _ k => unfz2 k⟩ fun g H Q ⟨as, e, st, rs, re, h⟩ => ?_
  refine ⟨as, e, st, rs, re, (DG.thn h).mono fun x H1 ⟨v, bs, st1, e1, rs1, rv, h1⟩ => ?_⟩
  obtain ⟨p, vs, ex, h2⟩ := rev_read rs1 rv (DV.of h1)
  refine ⟨p, vs, ex, ?_⟩
  rcases h2 with ⟨h2, h3⟩ | ⟨h2, h3⟩
  · exact .inl ⟨h2, fun q hq => .inl (h3 q hq)⟩
  · exact .inr ⟨h2, fun q hq => .inr (h3 q hq)⟩
theorem p_lzip {m : Bool} {p p2 pos2 : Pos} (hc : X.calm = true) (hl : Gl X "list") (ml : X.mg "list" = none) (hz : Gl X "zip") (mz : X.mg "zip" = none) (ha : PE X a (den X.K T xr W ca)) (hb : PE X b (den X.K T xr W cb)) (sa : noStar a = true) (sb : noStar b = true) :
    PE X (.Call (.Name "list" p) [.Call (.Name "zip" p2) [a, b] [] pos2] [] pos) (den X.K T xr W (.lzip m ca cb)) :=
  PE.imp (PE.unfz (m := m) (pe_lzip hc hl ml hz mz (pa_cons ha (pa_cons hb pa_nil (star_each sb)) (star_each sa)) (star_each sa) (star_each sb))) fun g H Q ⟨as, e, st, rs, re, h⟩ => ⟨as, e, st, rs, re, (DG.thn h).mono fun x H1 ⟨v, bs, st1, e1, rs1, rv, h1⟩ =>
    ⟨bs, e, st1, rs1, re.ext e1, (DG.thn h1).mono fun y H2 ⟨w, cs, st2, e2, rs2, rw, h2⟩ => lzip_read rs2 (rv.ext e2) rw (DV.of h2)⟩⟩
theorem p_sset {m : Bool} {p p2 pos2 : Pos} (hc : X.calm = true) (hs : Gl X "sorted") (ms : X.mg "sorted" = none) (hz : Gl X "set") (mz : X.mg "set" = none) (ha : PE X a (den X.K T xr W ca)) (sa : noStar a = true) :
    PE X (.Call (.Name "sorted" p) [.Call (.Name "set" p2) [a] [] pos2] [] pos) (den X.K T xr W (.blt m .sset (.cons ca .nil))) :=
  PE.imp (PE.unfz (m := m) (pe_callB (cr_sortedSet hc) hs ms (by decide +kernel) (pa_cons (pe_callTy (cr_setQ hc) hz mz PyProof.Rows.boot_set (pa_cons ha pa_nil (star_each sa)) (by decide) (by decide) (star_each sa) (by rfl)) pa_nil (by rfl)) (by decide) (by decide) (by rfl) (by rfl)))
    fun g H Q ⟨as, e, st, rs, re, h⟩ => by
      have h' : DG X.K xr W (RD X.K) g as H ((ev T ca e st).bind fun d st => ((R.ok [] st).bind fun ds st => R.ok (d :: ds) st).bind fun ds st => (builtin m .sset ds st).toR) Q := by
        have : (ev T (.blt m .sset (.cons ca .nil)) e st) = ((ev T ca e st).bind fun d st => ((R.ok [] st).bind fun ds st => R.ok (d :: ds) st).bind fun ds st => (builtin m .sset ds st).toR) := by
          show (((ev T ca e st).bind fun d st => (R.ok [] st).bind fun ds st => R.ok (d :: ds) st).bind fun ds st => (builtin m .sset ds st).toR) = _
          rw [bind_bind]
        rw [← this]; exact h
      exact ⟨as, e, st, rs, re, (DG.thn h').mono fun x H1 ⟨v, bs, st1, e1, rs1, rv, h1⟩ => sset_read ⟨bs, st1, [v], rs1, .cons rv .nil, DV.of h1⟩⟩
end
end Mi

set_option Elab.async false
set_option linter.all false
set_option maxRecDepth 100000
set_option maxHeartbeats 1000000
/-! Mi7: calls of defs, isinstance, what is walked, targets, comprehensions. -/
namespace Mi
open PySem PySem.Spec PyProof.Rows L2

/-- a def's promise: it does what F says -/
def spF (K : PySem.W.Frag) (xr : XR) (F : List D → Store → R D) : Sp := fun vs H Q E => ∃ as st ds, RS K as H st ∧ RDs K as H ds vs ∧ DG K xr (fun cls d _ H' => E cls d H') (RD K) [] as H (F ds st) Q
structure FnS (X : Cx) (xr : XR) (F : List D → Store → R D) (x : Str) (n : Nat) : Prop where
  ok : ∃ a fd ps k, X.mg x = some (.ref a) ∧ FnOk X.prog X.w X.K X.mg X.base (L2.CX X.prog X.w) k a fd ps (spF X.K xr F) ∧ Room k X.A ∧ PySem.W.keepIn X.K (.ref a) = true ∧ Binds X.K fd ps [] ∧ ps.length = n
section
variable {X : Cx} {T : Tab} {xr : XR} {W : WX} {a b : PySem.Expr} {ca cb : C} {pos p : Pos} {es : List PySem.Expr} {cs : Cs}
theorem DG.wish {K : PySem.W.Frag} {α β : Type} {rel : List Addr → Hp → α → β → Prop} {W' : WX} {g g' : List (Option V)} {as : List Addr} {H : Hp} {r : R α} {Q : β → Hp → Prop} (h : DG K xr W rel g as H r Q) (k : ∀ cls d H, W cls d g H → W' cls d g' H) : DG K xr W' rel g' as H r Q := by
  cases r with
  | ok v st => exact h
  | ex c fs st => exact fun bs H' e rs cls d q => k cls d H' (h bs H' e rs cls d q)
  | bad => exact h
theorem p_call {f : Str} {n : Nat} (tk : Takes X W) (F : FnS X xr (T.fn f) f n) (hg : Gl X f) (hes : (a :: es).all noStar = true) (ha : PA X (a :: es) (denA X.K T xr W cs)) (hd : (f == ("__debug__" : Str)) = false) :
    PE X (.Call (.Name f p) (a :: es) [] pos) (den X.K T xr W (.call f cs)) := by
  obtain ⟨ad, fd, ps, k, hm, ok, hr, hk, hb, _⟩ := F.ok
  simp only [List.all_cons, Bool.and_eq_true] at hes
  exact PE.imp (pe_callS ok hr hg hm hk hb (fun g => passAt tk g) ha hd (star_each hes.1) (plain_star hes.2)) fun g H Q ⟨as, e, st, rs, re, h⟩ =>
    ⟨as, e, st, rs, re, (DG.thn h).mono fun xs H1 ⟨vs, bs, st1, e1, rs1, rv, h1⟩ => ⟨bs, st1, vs, rs1, rv, h1.wish fun cls d H q => q⟩⟩
/-! ### isinstance -/
def tyOk (x : Str) (t : Ty) : Bool := x == Str.ofString t.nm
theorem boot_ty (t : Ty) (h : t ≠ .none) : bootBuiltins (Str.ofString t.nm) = some (.type t.nm) := by
  cases t with
  | none => exact absurd rfl h
  | bool => exact boot_bool
  | int => exact boot_int
  | str => exact boot_str
  | list => exact boot_list
  | tuple => exact boot_tuple
  | dict => exact boot_dict
theorem ty_plain (t : Ty) : (Str.ofString t.nm == ("__debug__" : Str)) = false ∧ Str.ofString t.nm ≠ ("__name__" : Str) := by cases t <;> decide +kernel
theorem p_ty {t : Ty} (h : t ≠ .none) (hg : Gl X (Str.ofString t.nm)) (hm : X.mg (Str.ofString t.nm) = none) : PE X (.Name (Str.ofString t.nm) pos) (tC (.ty t.nm)) :=
  pe_bltn (v := .ty t.nm) hg hm (boot_ty t h) rfl (ty_plain t).2 (ty_plain t).1
theorem isi_read {g : L2.St} {H : Hp} {Q : VK} {as : List Addr} {e : Env} {st : Store} {ts : List Ty} (rs : RS X.K as H st) (re : RE X.K as H e g) (h : DG X.K xr W (RD X.K) g as H (ev T (.isi ca ts) e st) Q) :
    den X.K T xr W ca g H fun x H1 => ∃ t b, TyX X.K H1 x (.type t) ∧ PySem.W.kitAny X.K (.type t) (ts.map fun t => .type t.nm) = some b ∧ (∀ r : Ty, ts = [r] → PySem.W.kitOne X.K (.type t) (.type r.nm) = some b) ∧
      ∀ H2, Keep H1 H2 → (∀ b u, H1 b = some u → H2 b = some u) → (∀ b, H2 b = none → H1 b = none) → Q (.bl b) H2 :=
  ⟨as, e, st, rs, re, (DG.thn h).mono fun x H1 ⟨v, bs, st1, e1, rs1, rv, h1⟩ => by
    unfold anyTy at h1
    split at h1
    · rename_i b q
      obtain ⟨t, q1, rfl⟩ := Option.map_eq_some_iff.mp q
      refine ⟨t.nm, ts.any t.sub, tyOf_rep rs1 rv q1, kit_any _ t ts, fun r hr => ?_, fun H2 k keep kp => ?_⟩
      · subst hr
        rw [kit_ty (kit_sub t r)]
        simp
      · exact h1 bs H2 ⟨⟨[], by simp, by simp⟩, k.tups, k.frzs, fun b u q _ => keep b u q, kp⟩ (rs1.off k fun b hb => by
          cases hq : H1 b with
          | none => exact absurd hb (rs1.not_mem hq)
          | some u => exact keep b u hq) _ (.bl _)
    · exact h1.elim⟩
theorem p_isi1 {t : Ty} {p1 : Pos} (ht : t ≠ .none) (hi : Gl X "isinstance") (him : X.mg "isinstance" = none) (hg : Gl X (Str.ofString t.nm)) (hm : X.mg (Str.ofString t.nm) = none) (hs : noStar a = true) (ha : PE X a (den X.K T xr W ca)) :
    PE X (.Call (.Name "isinstance" p) [a, .Name (Str.ofString t.nm) p1] [] pos) (den X.K T xr W (.isi ca [t])) :=
  PE.imp (pe_callB call_isi hi him boot_isinstance (pa_cons ha (pa_cons (p_ty ht hg hm) pa_nil) (star_each hs)) (by decide) (by decide) (star_each hs)) fun g H Q ⟨as, e, st, rs, re, h⟩ => by
    obtain ⟨as', e', st', rs', re', q⟩ := isi_read rs re h
    exact ⟨as', e', st', rs', re', q.mono fun x H1 ⟨ty, b, h1, h2, h3, h4⟩ => ⟨x, .ty t.nm, .type ty, .type t.nm, b, rfl, .ty t.nm, h1, h3 t rfl, h4 H1 ⟨fun _ _ q => q, fun _ _ _ q => q⟩ (fun _ _ q => q) fun _ q => q⟩⟩
/-- the classes of a written tuple -/
def tyNames : List PySem.Expr → List Ty → Bool
  | [], [] => true
  | .Name x _ :: es, t :: ts => decide (t ≠ .none) && tyOk x t && tyNames es ts
  | _, _ => false
theorem a_types : ∀ {es : List PySem.Expr} {ts : List Ty}, (∀ t ∈ ts, t ≠ .none → Gl X (Str.ofString t.nm) ∧ X.mg (Str.ofString t.nm) = none) → tyNames es ts = true → PA X es (fun _ H Q => Q (ts.map fun t => V.ty t.nm) H)
  | [], [], _, _ => PA.imp pa_nil fun _ _ _ q => q
  | [], _ :: _, _, h => by cases h
  | e :: es, [], _, h => by cases e <;> cases h
  | e :: es, t :: ts, hall, h => by
    cases e with
    | Name x q =>
      have h : (decide (t ≠ .none) && tyOk x t && tyNames es ts) = true := h
      simp only [Bool.and_eq_true, decide_eq_true_eq] at h
      obtain ⟨⟨h1, h2⟩, h3⟩ := h
      have ex : x = Str.ofString t.nm := eq_of_beq h2
      subst ex
      have ht := hall t List.mem_cons_self h1
      exact PA.imp (pa_cons (p_ty h1 ht.1 ht.2) (a_types (fun t' m => hall t' (List.mem_cons_of_mem _ m)) h3) (star_each rfl)) fun _ _ _ q => q
    | _ => cases h
theorem p_isiT {es : List PySem.Expr} {ts : List Ty} {k} {p1 : Pos} (hi : Gl X "isinstance") (him : X.mg "isinstance" = none) (hall : ∀ t ∈ ts, t ≠ .none → Gl X (Str.ofString t.nm) ∧ X.mg (Str.ofString t.nm) = none) (ht : tyNames es ts = true) (hl : ts.length ≤ 100) (hs : noStar a = true)
    (ha : PE X a (den X.K T xr W ca)) : PE X (.Call (.Name "isinstance" p) [a, .Tuple es k p1] [] pos) (den X.K T xr W (.isi ca ts)) :=
  PE.imp (pe_callB call_isiT hi him boot_isinstance (pa_cons ha (pa_cons (pe_tup (a_types hall ht)) pa_nil) (star_each hs)) (by decide) (by decide) (star_each hs)) fun g H Q ⟨as, e, st, rs, re, h⟩ => by
    obtain ⟨as', e', st', rs', re', q⟩ := isi_read rs re h
    refine ⟨as', e', st', rs', re', q.mono fun x H1 ⟨ty, b, h1, h2, h3, h4⟩ => ⟨by rw [List.length_map, sizeLine_eq]; omega, fun q hq => ?_⟩⟩
    refine ⟨x, q, ts.map fun t => V.ty t.nm, .type ty, _, b, rfl, upd_same, clsv_all ts, ?_, h2, h4 _ (Keep.new hq) (fun b u r => by rw [upd_ne (ne_of_none r hq)]; exact r) fun b r => upd_none r⟩
    have up : ∀ b u, H1 b = some u → upd H1 q (.tup (ts.map fun t => V.ty t.nm)) b = some u := fun b u r => by rw [upd_ne (ne_of_none r hq)]; exact r
    cases h1 with
    | base h1 => cases h1 with
      | non => exact .base .non
      | bl b => exact .base (.bl b)
      | int b => exact .base (.int b)
      | str b => exact .base (.str b)
      | flt b => exact .base (.flt b)
      | lst e => exact .base (.lst (up _ _ e))
      | frz e => exact .base (.frz (up _ _ e))
      | tup e => exact .base (.tup (up _ _ e))
      | dK e => exact .base (.dK (up _ _ e))
      | dT e => exact .base (.dT (up _ _ e))
    | byt b => exact .byt b
    | set e => exact .set (up _ _ e)
    | kList e c => exact .kList e c
    | kTuple e c => exact .kTuple e c
    | kDict e c => exact .kDict e c
    | fTuple e => exact .fTuple (up _ _ e)
    | fDict e => exact .fDict (up _ _ e)
/-! ### what is walked -/
def SrcOk (K : PySem.W.Frag) (as : List Addr) (H : Hp) (src : Src) (J : It) : Prop := ∀ bs H' st, Ext as H bs H' → RS K bs H' st → ∀ i : Nat, match src.get st i with
  | none => True
  | some none => J.stop i H'
  | some (some d) => J.go i H' ∧ ∀ x H2, J.yld i H' x H2 → Ext bs H' bs H2 ∧ RS K bs H2 st ∧ RD K bs H2 d x
def denI (K : PySem.W.Frag) (T : Tab) (xr : XR) (W : WX) (it : I) : TI := fun g H Rr => ∃ as e st, RS K as H st ∧ RE K as H e g ∧ DG K xr W (SrcOk K) g as H (evI T it e st) Rr
theorem SrcOk.ext {K : PySem.W.Frag} {as bs : List Addr} {H H' : Hp} {src : Src} {J : It} (h : SrcOk K as H src J) (x : Ext as H bs H') : SrcOk K bs H' src J := fun cs H2 st e rs => h cs H2 st (x.trans e) rs
theorem PI.imp {tg it : PySem.Expr} {w w' : TI} (h : PI X tg it w) (k : ∀ g H Q, w' g H Q → w g H Q) : PI X tg it w' := ⟨fun pn s g H Q I q => h.run pn s g H Q I (k g H Q q)⟩
theorem rd_iff {H : Hp} {a : Addr} {vs ws : List V} (h : Rd H a (.lst vs)) (h' : Rd H a (.lst ws)) : vs = ws := by
  rcases h with h | ⟨o, h⟩ <;> rcases h' with h' | ⟨o', h'⟩ <;> rw [h] at h' <;> cases h' <;> rfl
/-- a list or tuple that stays, item by item -/
theorem src_fixed {K : PySem.W.Frag} {as : List Addr} {H : Hp} {ds : List D} {vs : List V} {J : It} (pl : ∃ ys, pures ds = some ys) (r : RDs K as H ds vs)
    (h1 : ∀ bs H' (i : Nat), Ext as H bs H' → vs[i]? = none → J.stop i H') (h2 : ∀ bs H' (i : Nat) v, Ext as H bs H' → vs[i]? = some v → J.go i H' ∧ ∀ x H2, J.yld i H' x H2 → H2 = H' ∧ x = v) : SrcOk K as H (.xs ds) J := by
  intro bs H' st e rs i
  show match (some ds[i]? : Option (Option D)) with
    | none => True
    | some none => J.stop i H'
    | some (some d) => _
  cases hd : ds[i]? with
  | none =>
    refine h1 bs H' i e ?_
    rw [List.getElem?_eq_none_iff] at hd ⊢
    rw [← Paired.length r]; exact hd
  | some d =>
    obtain ⟨v, e1, rv⟩ := paired_at r hd
    obtain ⟨q1, q2⟩ := h2 bs H' i v e e1
    refine ⟨q1, fun x H2 y => ?_⟩
    obtain ⟨rfl, rfl⟩ := q2 x H2 y
    exact ⟨.refl, rs, rv.ext e⟩
theorem i_val {tg : PySem.Expr} (ha : PE X a (den X.K T xr W ca)) : PI X tg a (denI X.K T xr W (.val ca)) := by
  refine ⟨fun pn s g H Rr I ⟨as, e, st, rs, re, h⟩ => ?_⟩
  refine thn (ha.run pn s g H _ I ⟨as, e, st, rs, re, DG.thn h⟩) fun v s1 ⟨x, H1, I1, r1, d, bs, st1, e1, rs1, rv, h1⟩ => ?_
  have one : ∀ (b : Addr), b ∈ [s1.heap.objs.size] → FpOk X pn H1 b := fun b hb => by
    have eb : b = s1.heap.objs.size := by simpa using hb
    rw [eb]
    exact I1.fpOk (Nat.le_refl _) (I1.hok.fresh (Nat.le_refl _))
  have lists : ∀ (p : Addr) (vs : List V), v = .ref p → Rd H1 p (.lst vs) → Rr (Itl X.K p) H1 → wpAny (model X.prog X.w) X.A (pyIter v) (PIE X pn g tg Rr) X.xe s1 := fun p vs ev hl q => by
    subst ev
    obtain ⟨its, n, rvs, el, hz⟩ := rd_list I1 hl
    exact wpAny_pyIter_list (show s1.heap.IsList p its.toArray from ⟨_, el, rfl, n, rfl⟩) (pi_one (tk := s1.toks) I1 _ (turn_list p _) ⟨_, Heap.get?_push_size _ rfl, rfl, rfl⟩ q)
  cases hs : srcOf d st1 with
  | none => rw [hs] at h1; exact h1.elim
  | some src =>
    rw [hs] at h1
    have go : ∀ J, SrcOk X.K bs H1 src J → Rr J H1 := fun J q => h1 bs H1 .refl rs1 J q
    unfold srcOf at hs
    split at hs
    · rename_i xs
      cases (Option.some.inj hs)
      cases rv with
      | @lst p vs _ hf hr =>
        cases r1
        refine lists p vs rfl hf.rd (go _ (src_fixed ⟨xs, pures_map xs⟩ hr.toD (fun cs H' i e hn => ⟨vs, (hf.keep e.keep).sq, by simpa using hn⟩) fun cs H' i v e hv => ⟨⟨vs, v, (hf.keep e.keep).sq, hv⟩, fun x H2 ⟨y1, y2⟩ => ⟨y1, ?_⟩⟩))
        have := y2 vs (hf.keep e.keep).sq
        rw [hv] at this
        exact (Option.some.inj this).symm
    · rename_i xs
      cases (Option.some.inj hs)
      obtain ⟨p, vs, rfl, hf, hr⟩ := rp_tup rv
      cases r1
      obtain ⟨its, rvs, pt, hz⟩ := I1.tuple hf
      refine wpAny_pyIter_tuple (show s1.heap.IsTuple p its.toArray from pt) (pi_one (tk := s1.toks) I1 _ (turn_tuple p _) ⟨_, Heap.get?_push_size _ rfl, rfl, rfl⟩ (go _ (src_fixed ⟨xs, pures_map xs⟩ hr.toD (fun cs H' i e hn => ⟨vs, sqT_keep e.keep hf, by simpa using hn⟩) fun cs H' i v e hv => ⟨⟨vs, v, sqT_keep e.keep hf, hv⟩, fun x H2 ⟨y1, y2⟩ => ⟨y1, ?_⟩⟩)))
      have := y2 vs (sqT_keep e.keep hf)
      rw [hv] at this
      exact (Option.some.inj this).symm
    · rename_i z
      cases (Option.some.inj hs)
      cases rp_str rv
      obtain ⟨t, rfl⟩ := r1
      have q : Rr (Its z) H1 := go _ (by
        have hr : RDs X.K bs H1 ((signs z).map D.p) (z.cps.toList.map fun c => V.str ⟨#[c]⟩) := by
          unfold signs
          generalize z.cps.toList = l
          induction l with
          | nil => exact .nil
          | cons c l ih => exact .cons (.str _) ih
        refine src_fixed ⟨_, pures_map _⟩ hr (fun cs H' i e hn => ?_) fun cs H' i v e hv => ?_
        · have : z.cps.size ≤ i := by simpa using hn
          exact this
        · rw [List.getElem?_map] at hv
          obtain ⟨c, hc, rfl⟩ := Option.map_eq_some_iff.mp hv
          have hc' : z.cps[i]? = some c := by rw [← Array.getElem?_toList]; exact hc
          refine ⟨(Array.getElem?_eq_some_iff.mp hc').1, fun x H2 ⟨y1, c2, y2, y3⟩ => ⟨y1, ?_⟩⟩
          rw [hc'] at y2
          cases y2
          exact y3)
      cases ha : z.cps.all (· < 128)
      · exact wpAny_pyIter_wide ha (pi_one (tk := s1.toks) I1 _ (turn_str _ z t "str_iterator" (.inr rfl)) ⟨_, Heap.get?_push_size _ rfl, rfl, rfl⟩ q)
      · exact wpAny_pyIter_ascii ha (pi_one (tk := s1.toks) I1 _ (turn_str _ z t "str_ascii_iterator" (.inl rfl)) ⟨_, Heap.get?_push_size _ rfl, rfl, rfl⟩ q)
    · rename_i n
      obtain ⟨xs, hc, rfl⟩ := Option.map_eq_some_iff.mp hs
      obtain ⟨p, hp, rfl⟩ := rv
      cases r1
      obtain ⟨vs, hl, hr⟩ := rs1.cell n _ p (cellL_some hc) hp
      refine lists p vs rfl (.inl hl) (go _ ?_)
      intro cs H' st' e rs' i
      show match ((cellL st' n).map fun l => l[i]?) with
        | none => True
        | some none => (Itl X.K p).stop i H'
        | some (some d) => _
      cases hc' : cellL st' n with
      | none => trivial
      | some l =>
        obtain ⟨ws, hl', hr'⟩ := rs'.cell n _ p (cellL_some hc') (e.at_ hp)
        show match (some l[i]? : Option (Option D)) with
          | none => True
          | some none => (Itl X.K p).stop i H'
          | some (some d) => _
        cases hd : l[i]? with
        | none => exact ⟨ws, SqL.of hl', by rw [← Paired.length hr']; exact List.getElem?_eq_none_iff.mp hd⟩
        | some d =>
          obtain ⟨w, e2, rw⟩ := paired_at hr' hd
          refine ⟨⟨ws, w, SqL.of hl', e2⟩, fun x H2 ⟨y1, y2⟩ => ?_⟩
          subst y1
          have := y2 ws (SqL.of hl')
          rw [e2] at this
          cases this
          exact ⟨.refl, rs', rw⟩
    · cases hs
theorem upto_get (a b : Int) (i : Nat) : (upto a b)[i]? = if i < (b - a).toNat then some (nt (a + i)) else none := by
  unfold upto
  rw [List.getElem?_map]
  split
  · rename_i h; rw [List.getElem?_range h]; rfl
  · rename_i h; rw [List.getElem?_eq_none (by simpa using h)]; rfl
theorem src_range {K : PySem.W.Frag} {as : List Addr} {H : Hp} (a b : Int) : SrcOk K as H (.xs (upto a b)) (Itr a (b - a).toNat) := by
  intro bs H' st e rs i
  show match (some (upto a b)[i]? : Option (Option D)) with
    | none => True
    | some none => (Itr a (b - a).toNat).stop i H'
    | some (some d) => _
  rw [upto_get]
  by_cases h : i < (b - a).toNat
  · rw [if_pos h]
    exact ⟨h, fun x H2 ⟨y1, y2⟩ => by subst y1; subst y2; exact ⟨.refl, rs, .int _⟩⟩
  · rw [if_neg h]
    exact Nat.le_of_not_lt h
theorem i_rng {tg : PySem.Expr} (hg : Gl X "range") (hm : X.mg "range" = none) (hsa : noStar a = true) (hsb : noStar b = true) (ha : PE X a (den X.K T xr W ca)) (hb : PE X b (den X.K T xr W cb)) : PI X tg (.Call (.Name "range" p) [a, b] [] pos) (denI X.K T xr W (.rng ca cb)) :=
  PI.imp (pi_range2 hg hm (pa_cons ha (pa_cons hb pa_nil (star_each hsb)) (star_each hsa)) (by rw [star_each hsa, star_each hsb]; rfl) (by rw [star_each hsb]; rfl)) fun g H Q ⟨as, e, st, rs, re, h⟩ => ⟨as, e, st, rs, re, (DG.thn h).mono fun x H1 ⟨v, bs, st1, e1, rs1, rv, h1⟩ =>
    ⟨bs, e, st1, rs1, re.ext e1, (DG.thn h1).mono fun y H2 ⟨w, cs, st2, e2, rs2, rw, h2⟩ => by
      split at h2
      · rename_i ij q
        obtain ⟨rfl, rfl⟩ := ints2_rep (rv.ext e2) rw q
        split at h2
        · rename_i hc
          exact ⟨ij.1, ij.2, rfl, hc, h2 cs H2 .refl rs2 _ (src_range _ _)⟩
        · exact h2.elim
      · exact h2.elim⟩⟩
theorem i_rng1 {tg : PySem.Expr} (hg : Gl X "range") (hm : X.mg "range" = none) (hsb : noStar b = true) (hb : PE X b (den X.K T xr W cb)) : PI X tg (.Call (.Name "range" p) [b] [] pos) (denI X.K T xr W (.rng (.cst (.int 0)) cb)) :=
  PI.imp (pi_range1 hg hm (pa_cons hb pa_nil (star_each hsb)) (by rw [star_each hsb]; rfl)) fun g H Q ⟨as, e, st, rs, re, h⟩ => ⟨as, e, st, rs, re, (DG.thn (m := ev T cb e st) h).mono fun y H2 ⟨w, cs, st2, e2, rs2, rw, h2⟩ => by
      split at h2
      · rename_i ij q
        obtain ⟨q1, rfl⟩ := ints2_rep (K := X.K) (as := cs) (H := H2) (a := nt 0) (x := .int 0) (RP.int 0) rw q
        have e0 : ij.1 = 0 := (V.int.inj q1).symm
        split at h2
        · rename_i hc
          refine ⟨ij.2, rfl, hc.2.2.1, hc.2.2.2, ?_⟩
          have := h2 cs H2 .refl rs2 _ (src_range _ _)
          rw [e0, Int.sub_zero] at this
          exact this
        · exact h2.elim
      · exact h2.elim⟩
theorem zipped_get (xs ys : List PyData) (i : Nat) : (zipped xs ys)[i]? = match xs[i]?, ys[i]? with
    | some x, some y => some (D.p (.tuple [x, y]))
    | _, _ => none := by
  unfold zipped
  rw [List.getElem?_map, List.zip, List.getElem?_zipWith]
  cases h1 : xs[i]? <;> cases h2 : ys[i]? <;> rfl
end
end Mi

set_option Elab.async false
set_option linter.all false
set_option maxRecDepth 100000
set_option maxHeartbeats 1000000
/-! Mi8: targets, comprehensions, zip and enumerate. -/
namespace Mi
open PySem PySem.Spec PyProof.Rows L2

mutual
def slots : TG → List Nat
  | .nm i => [i]
  | .tp ts => slotss ts
def slotss : List TG → List Nat
  | [] => []
  | t :: ts => slots t ++ slotss ts
end
/-- two frames alike but at some slots -/
def Besides (l : List Nat) (g g' : List (Option V)) : Prop := g'.length = g.length ∧ ∀ j, j ∉ l → g'[j]? = g[j]?
theorem Besides.refl {l : List Nat} {g : List (Option V)} : Besides l g g := ⟨rfl, fun _ _ => rfl⟩
theorem Besides.trans {l l' : List Nat} {g g1 g2 : List (Option V)} (a : Besides l g g1) (b : Besides l' g1 g2) : Besides (l ++ l') g g2 :=
  ⟨b.1.trans a.1, fun j hj => by
    simp only [List.mem_append, not_or] at hj
    rw [b.2 j hj.2, a.2 j hj.1]⟩
theorem wipe_at (g : List (Option V)) : ∀ (l : List Nat) (j : Nat), (wipe g l)[j]? = if j ∈ l ∧ j < g.length then some none else g[j]?
  | [], j => by simp [wipe]
  | v :: vs, j => by
    unfold wipe
    by_cases h : v = j
    · subst h
      by_cases hl : v < g.length
      · rw [List.getElem?_set_self (by rw [wipe_length]; exact hl), if_pos ⟨by simp, hl⟩]
      · rw [if_neg (fun q => hl q.2), List.getElem?_eq_none (by rw [List.length_set, wipe_length]; omega), List.getElem?_eq_none (by omega)]
    · rw [List.getElem?_set_ne h, wipe_at g vs j]
      have : j ∈ v :: vs ↔ j ∈ vs := by simp [Ne.symm h]
      simp only [this]
theorem wipe_besides {l own : List Nat} {g g' : List (Option V)} (h : Besides l (wipe g own) g') (hs : ∀ i ∈ l, i ∈ own) : wipe g' own = wipe g own := by
  apply List.ext_getElem?
  intro j
  have hl : g'.length = g.length := by rw [h.1, wipe_length]
  rw [wipe_at, wipe_at, hl]
  by_cases hj : j ∈ own ∧ j < g.length
  · rw [if_pos hj, if_pos hj]
  · rw [if_neg hj, if_neg hj]
    by_cases hjo : j ∈ own
    · have : g.length ≤ j := Nat.le_of_not_lt fun z => hj ⟨hjo, z⟩
      rw [List.getElem?_eq_none this, List.getElem?_eq_none (by omega)]
    · rw [h.2 j (fun z => hjo (hs j z)), wipe_at, if_neg hj]
theorem wipeE_length (e : Env) : ∀ l : List Nat, (wipeE e l).length = e.length
  | [] => rfl
  | v :: vs => by unfold wipeE; rw [List.length_set, wipeE_length e vs]
theorem re_wipe {K : PySem.W.Frag} {as : List Addr} {H : Hp} {e : Env} {g : List (Option V)} (h : RE K as H e g) : ∀ l : List Nat, RE K as H (wipeE e l) (wipe g l)
  | [] => h
  | v :: vs => by
    have ih := re_wipe h vs
    refine ⟨by unfold wipeE wipe; simp [ih.1], fun j d hj => ?_⟩
    unfold wipeE at hj
    unfold wipe
    by_cases hv : v = j
    · subst hv
      by_cases hl : v < (wipeE e vs).length
      · rw [List.getElem?_set_self hl] at hj; cases hj
      · rw [List.getElem?_eq_none (by rw [List.length_set]; omega)] at hj; cases hj
    · rw [List.getElem?_set_ne hv] at hj
      obtain ⟨y, h1, h2⟩ := ih.2 j d hj
      exact ⟨y, by rw [List.getElem?_set_ne hv]; exact h1, h2⟩

section
variable (K : PySem.W.Frag)
def denG (t : TG) : L2.TG := fun v g H Q => ∃ as e d e1, RE K as H e g ∧ RD K as H d v ∧ asg t d e = some e1 ∧ ∀ g', RE K as H e1 g' → Besides (slots t) g g' → Q g' H
def denGs (ts : List TG) : TGs := fun vs g H Q => ∃ as e ds e1, RE K as H e g ∧ RPs K H ds vs ∧ asgs ts ds e = some e1 ∧ ∀ g', RE K as H e1 g' → Besides (slotss ts) g g' → Q g' H
end
section
variable {X : Cx} {T : Tab} {xr : XR} {W : WX} {pos : Pos}
theorem PG.imp {tg : PySem.Expr} {t t' : L2.TG} (h : PG X tg t) (k : ∀ v g H Q, t' v g H Q → t v g H Q) : PG X tg t' := ⟨fun pn s g H v u Q I r q => h.run pn s g H v u Q I r (k v g H Q q)⟩
theorem PGs.imp {tg : List PySem.Expr} {t t' : TGs} (h : PGs X tg t) (k : ∀ v g H Q, t' v g H Q → t v g H Q) : PGs X tg t' := ⟨fun pn s g H v u Q I r q => h.run pn s g H v u Q I r (k v g H Q q)⟩
theorem g_nm {i : Nat} {x : Str} (hN : X.N.Nodup) (hi : X.N[i]? = some x) (hl : Loc X.env.scope x) (hf : X.fn x = true ∨ X.env.scope.names.lookup x = some .local) : PG X (.Name x pos) (denG X.K (.nm i)) :=
  PG.imp (pg_name hN hi hl hf) fun v g H Q ⟨as, e, d, e1, re, rd, ha, k⟩ => by
    have ha : (if i < e.length then some (e.set i (some d)) else none) = some e1 := ha
    split at ha
    · cases (Option.some.inj ha)
      exact k _ (re.set rd) ⟨by simp, fun j hj => List.getElem?_set_ne (fun z => hj (by simp [slots, z]))⟩
    · cases ha
theorem gs_nil : PGs X [] (denGs X.K []) := PGs.imp pgs_nil fun v g H Q ⟨as, e, ds, e1, re, rd, ha, k⟩ => by
  cases rd with
  | nil =>
    cases (Option.some.inj (show some e = some e1 from ha))
    exact ⟨rfl, k g re .refl⟩
  | cons _ _ => cases ha
theorem assign_each {e : PySem.Expr} {es : List PySem.Expr} (h : noStar e = true) : (assignEach (e :: es) X.env).map (·.2) = assign e X.env :: (assignEach es X.env).map (·.2) := by
  cases e <;> first | rfl | cases h
theorem gs_cons {e : PySem.Expr} {es : List PySem.Expr} {t : TG} {ts : List TG} (hs : noStar e = true) (h1 : PG X e (denG X.K t)) (h2 : PGs X es (denGs X.K ts)) : PGs X (e :: es) (denGs X.K (t :: ts)) :=
  PGs.imp (pgs_cons h1 h2 (assign_each hs)) fun v g H Q ⟨as, e, ds, e1, re, rd, ha, k⟩ => by
    cases rd with
    | nil => cases ha
    | @cons x v xs vs r1 r2 =>
      have ha : (match asg t (.p x) e with | some e1 => asgs ts xs e1 | none => none) = some e1 := ha
      split at ha
      · rename_i e2 q
        exact ⟨v, vs, rfl, as, e, .p x, e2, re, r1, q, fun g1 re1 b1 => ⟨as, e2, xs, e1, re1, r2, ha, fun g2 re2 b2 => k g2 re2 (b1.trans b2)⟩⟩
      · cases ha
theorem stars_none {es : List PySem.Expr} {env : PySem.Env} (h : es.all noStar = true) : (assignEach es env).length = es.length ∧ (assignEach es env).findIdx? (·.1) = none := by
  induction es with
  | nil => exact ⟨rfl, rfl⟩
  | cons e es ih =>
    simp only [List.all_cons, Bool.and_eq_true] at h
    obtain ⟨h1, h2⟩ := ih h.2
    have e1 : assignEach (e :: es) env = (false, assign e env) :: assignEach es env := by
      cases e <;> first | rfl | cases h.1
    rw [e1]
    exact ⟨by simp [h1], by simp [List.findIdx?_cons, h2]⟩
theorem g_tp {es : List PySem.Expr} {k : Nat} {ts : List TG} (hc : X.calm = true) (hs : es.all noStar = true) (hl : es.length = ts.length) (h : PGs X es (denGs X.K ts)) : PG X (.Tuple es k pos) (denG X.K (.tp ts)) :=
  PG.imp (pg_tup hc h (stars_none hs).1 (stars_none hs).2) fun v g H Q ⟨as, e, d, e1, re, rd, ha, k⟩ => by
    cases d with
    | r n => cases ha
    | p w => cases w with
      | tuple xs =>
        have ha : (if xs.length = ts.length then asgs ts xs e else none) = some e1 := ha
        split at ha
        · rename_i hz
          obtain ⟨a, vs, rfl, h1, h2⟩ := rp_tup rd
          exact ⟨a, vs, rfl, h1, by rw [← h2.length, hz, hl], as, e, xs, e1, re, h2, ha, k⟩
        · cases ha
      | _ => cases ha

/-! ### comprehensions -/
abbrev W0 : WX := fun _ _ _ _ => False
theorem Ext.out {as bs : List Addr} {H H' : Hp} (x : Ext as H bs H') {p : Addr} {o : HO} (hp : p ∉ as) (h : H p = some o) : p ∉ bs ∧ H' p = some o := by
  refine ⟨fun hb => ?_, x.frm p o h hp⟩
  obtain ⟨m, e, n⟩ := x.pre
  rw [e] at hb
  rcases List.mem_append.mp hb with q | q
  · exact hp q
  · rw [n p q] at h; cases h
theorem Ext.over {as bs : List Addr} {H H' : Hp} (x : Ext as H bs H') {p : Addr} {o : HO} (hp : H p = none) : Ext as H bs (upd H' p o) :=
  ⟨x.pre, fun b xs q => by rw [upd_ne (ne_of_none q hp)]; exact x.tups b xs q, fun b o u q => by rw [upd_ne (ne_of_none q hp)]; exact x.frzs b o u q, fun b o q hb => by rw [upd_ne (ne_of_none q hp)]; exact x.frm b o q hb, fun b q => x.kp b (upd_none q)⟩
theorem Keep.over {H : Hp} {p : Addr} {vs ws : List V} (hp : H p = some (.lst vs)) : Keep H (upd H p (.lst ws)) :=
  ⟨fun b xs q => by rw [upd_ne (ne_of q hp (fun z => by cases z))]; exact q, fun b o u q => by rw [upd_ne (ne_of q hp (fun z => by cases z))]; exact q⟩
theorem DG.noex {K : PySem.W.Frag} {α β γ δ η : Type} {rel : List Addr → Hp → α → β → Prop} {rel' : List Addr → Hp → γ → δ → Prop} {g g' : List (Option V)} {as bs : List Addr} {H H' : Hp} {m : R α} {f : α → Store → R η} {k : η → Store → R γ} {Q : δ → Hp → Prop}
    (h : DG K xr W rel' g as H ((m.bind f).noex.bind k) Q) : DG K xr W0 rel g' bs H' m (fun x H2 => ∃ v cs st, Ext bs H' cs H2 ∧ RS K cs H2 st ∧ rel cs H2 v x ∧ DG K xr W rel' g as H ((f v st).noex.bind k) Q) := by
  cases m with
  | ok v st => exact fun cs H2 e rs x r => ⟨v, cs, st, e, rs, r, h⟩
  | ex _ _ _ => exact h.elim
  | bad => exact h.elim
theorem lcGo_noex {α : Type} {get : Store → Nat → Option (Option D)} {step : D → Store → R (Option α)} (hs : ∀ d st c fs st', step d st ≠ .ex c fs st') : ∀ (k i : Nat) (st : Store) (c : Str) (fs : Flds) (st' : Store), lcGo get step k i st ≠ .ex c fs st'
  | 0, i, st, c, fs, st', h => by
    unfold lcGo at h
    split at h <;> cases h
  | k + 1, i, st, c, fs, st', h => by
    unfold lcGo at h
    split at h
    · cases h
    · cases h
    · rename_i x _
      cases q : step x st with
      | ok o s1 =>
        rw [q] at h
        have h : ((lcGo get step k (i + 1) s1).bind fun r st => R.ok (o.toList ++ r) st) = .ex c fs st' := h
        cases q2 : lcGo get step k (i + 1) s1 with
        | ok r s2 => rw [q2] at h; cases h
        | ex c2 f2 s2 => exact lcGo_noex hs k _ _ _ _ _ q2
        | bad => rw [q2] at h; cases h
      | ex _ _ _ => exact hs _ _ _ _ _ q
      | bad => rw [q] at h; cases h
theorem noex_ne {α : Type} {m : R α} {c : Str} {fs : Flds} {st : Store} : m.noex ≠ .ex c fs st := by cases m <;> (intro h; cases h)
theorem PTs.imp {ifs : List PySem.Expr} {t t' : TT} (h : PTs X ifs t) (k : ∀ g H Q, t' g H Q → t g H Q) : PTs X ifs t' := ⟨fun pn s g H Q I q => h.run pn s g H Q I (k g H Q q)⟩
theorem ts_none : PTs X [] (denT X.K T xr W .yes) := PTs.imp pts_nil fun g H Q ⟨as, e, st, rs, re, h⟩ => h as H .refl rs _ rfl
theorem lc_read {K : PySem.W.Frag} {m : Bool} {own : List Nat} {ce : C} {ct : TG} {ci : I} {cq : Q} (hown : ∀ i ∈ slots ct, i ∈ own) {g : L2.St} {H : Hp} {Q : VK} (h : den K T xr W (.lc m own ce ct ci cq) g H Q) :
    tLc (denI K T xr W ci) (denG K ct) (denT K T xr W0 cq) (den K T xr W0 ce) own g H (FZ m Q) := by
  obtain ⟨as, e, st, rs, re, h⟩ := h
  refine ⟨as, e, st, rs, re, (DG.thn h).mono fun J H1 ⟨src, bs, st1, e1, rs1, hsrc, h1⟩ D hD => ?_⟩
  generalize hstep : (fun x st => match asg ct x (wipeE e own) with
      | some e1 => ((evT T cq e1 st).bind fun k st => if k then (ev T ce e1 st).bind fun d st => .ok (some d) st else .ok none st).noex
      | none => .bad : Mi.D → Store → Mi.R (Option Mi.D)) = step at h1
  have noex : ∀ (d : Mi.D) (st : Store) (c : Str) (fs : Flds) (st' : Store), step d st ≠ .ex c fs st' := fun d st c fs st' => by
    rw [← hstep]
    dsimp only
    split
    · exact noex_ne
    · exact fun z => by cases z
  refine ⟨fun i n H2 => ∃ cs st2 acc ws, Ext bs H1 cs H2 ∧ RS K cs H2 st2 ∧ D ∉ cs ∧ H2 D = some (.lst ws) ∧ RDs K cs H2 acc ws ∧
    DG K xr W (RD K) g bs H1 ((lcGo src.get step n i st2).bind fun r st => (fin m (acc ++ r) st).toR) Q, ⟨_, bs, st1, [], [], .lay hD, rs1.lay hD, rs1.not_mem hD, upd_same, .nil, h1⟩, ?_⟩
  rintro i n H2 ⟨cs, st2, acc, ws, x2, rs2, nD, hp, ra, h2⟩
  have look := hsrc cs H2 st2 x2 rs2 i
  unfold lcGo at h2
  cases hget : src.get st2 i with
  | none => rw [hget] at h2; exact h2.elim
  | some o =>
    rw [hget] at h2 look
    cases o with
    | none =>
      refine .inl ⟨look, ?_⟩
      have h3 : DG K xr W (RD K) g bs H1 (fin m (acc ++ []) st2).toR Q := h2
      rw [List.append_nil] at h3
      exact fin_at (DV.of h3) x2 rs2 hD nD hp ra
    | some d =>
      obtain ⟨go, yl⟩ := look
      cases n with
      | zero => exact h2.elim
      | succ n =>
        refine .inr ⟨go, fun H' => ∃ cs st2 acc ws, Ext bs H1 cs H' ∧ RS K cs H' st2 ∧ D ∉ cs ∧ H' D = some (.lst ws) ∧ RDs K cs H' acc ws ∧
          DG K xr W (RD K) g bs H1 ((lcGo src.get step n (i + 1) st2).bind fun r st => (fin m (acc ++ r) st).toR) Q, fun H' q => ⟨n, Nat.lt_succ_self n, q⟩, fun x H' hy => ?_⟩
        obtain ⟨x3, rs3, rd⟩ := yl x H' hy
        have h3 : DG K xr W (RD K) g bs H1 ((step d st2).bind fun o st => ((lcGo src.get step n (i + 1) st).bind fun r st => R.ok (o.toList ++ r) st).bind fun r st => (fin m (acc ++ r) st).toR) Q := by
          have h2' : DG K xr W (RD K) g bs H1 (((step d st2).bind fun o st => (lcGo src.get step n (i + 1) st).bind fun r st => R.ok (o.toList ++ r) st).bind fun r st => (fin m (acc ++ r) st).toR) Q := h2
          rw [bind_bind] at h2'
          exact h2'
        obtain ⟨nD3, hp3⟩ := x3.out nD hp
        rw [← hstep] at h3
        dsimp only at h3
        split at h3
        · rename_i e1 hasg
          rw [hstep] at h3
          refine ⟨cs, _, d, e1, re_wipe ((re.ext ‹_›).ext (x2.trans x3)) _, rd, hasg, fun g' re' bes => ⟨wipe_besides bes hown, cs, e1, st2, rs3, re', (DG.noex (rel := rEq2) h3).mono fun b H3 ⟨v, cs4, st4, x4, rs4, ev, h4⟩ => ?_⟩⟩
          cases ev
          obtain ⟨nD4, hp4⟩ := x4.out nD3 hp3
          cases b with
          | true =>
            rw [if_pos rfl] at h4 ⊢
            refine ⟨cs4, e1, st4, rs4, re'.ext x4, (DG.noex (rel := RD K) h4).mono fun y H4 ⟨dv, cs5, st5, x5, rs5, rdv, h5⟩ => ?_⟩
            obtain ⟨nD5, hp5⟩ := x5.out nD4 hp4
            have h6 : DG K xr W (RD K) g bs H1 ((lcGo src.get step n (i + 1) st5).bind fun r st => (fin m (acc ++ [dv] ++ r) st).toR) Q := by
              have h5' : DG K xr W (RD K) g bs H1 (((lcGo src.get step n (i + 1) st5).bind fun r st => R.ok ([dv] ++ r) st).bind fun r st => (fin m (acc ++ r) st).toR) Q := h5
              rw [bind_bind] at h5'
              have ee : (fun r st => (R.ok ([dv] ++ r) st).bind fun r st => (fin m (acc ++ r) st).toR : List Mi.D → Store → Mi.R Mi.D) = fun r st => (fin m (acc ++ [dv] ++ r) st).toR := by
                funext r st
                show (fin m (acc ++ ([dv] ++ r)) st).toR = _
                rw [List.append_assoc]
              rw [ee] at h5'
              exact h5'
            have short : acc.length < sizeLine := by
              cases q : lcGo src.get step n (i + 1) st5 with
              | ok r s6 =>
                rw [q] at h6
                have := fin_len (DV.of (show DG K xr W (RD K) g bs H1 (fin m (acc ++ [dv] ++ r) s6).toR Q from h6))
                have l := lim_line
                simp only [List.length_append, List.length_singleton] at this
                omega
              | ex c fs s6 => exact absurd q (lcGo_noex noex _ _ _ _ _ _)
              | bad => rw [q] at h6; exact h6.elim
            have x15 := (((x2.trans x3).trans x4).trans x5)
            have ra5 : RDs K cs5 H4 acc ws := ((ra.ext x3).ext x4).ext x5
            have kp : Keep H4 (upd H4 D (.lst (ws ++ [y]))) := Keep.over hp5
            exact ⟨ws, hp5, by rw [← Paired.length ra5]; exact short, cs5, st5, acc ++ [dv], ws ++ [y], x15.over hD, rs5.off kp fun b hb => upd_ne fun z => nD5 (by rw [← z]; exact hb), nD5, upd_same, paired_append (ra5.keep kp) (.cons (rdv.keep kp) .nil), h6⟩
          | false =>
            rw [if_neg (by simp)] at h4 ⊢
            have h6 : DG K xr W (RD K) g bs H1 ((lcGo src.get step n (i + 1) st4).bind fun r st => (fin m (acc ++ r) st).toR) Q := by
              have h5' : DG K xr W (RD K) g bs H1 (((lcGo src.get step n (i + 1) st4).bind fun r st => R.ok ([] ++ r) st).bind fun r st => (fin m (acc ++ r) st).toR) Q := h4
              rw [bind_bind] at h5'
              exact h5'
            exact ⟨cs4, st4, acc, ws, (x2.trans x3).trans x4, rs4, nD4, hp4, (ra.ext x3).ext x4, h6⟩
        · exact h3.elim
theorem p_lc {m : Bool} {own : List (Str × Nat)} {scope : Scope} {elt tg iter : PySem.Expr} {ifs : List PySem.Expr} {ce : C} {ct : TG} {ci : I} {cq : Q} (hc : X.calm = true) (hN : X.N.Nodup) (hi : PI X tg iter (denI X.K T xr W ci)) (ok : BlkOk X.N X.env.scope scope own)
    (hg : ∀ (s : Shared) (H : Hp) (C : Addr) (cl : List (Str × Addr)) (fp : List Addr), PG (X.blk s H scope (compEnvC scope cl C X.env) fp) tg (denG X.K ct))
    (ht : ∀ (s : Shared) (H : Hp) (C : Addr) (cl : List (Str × Addr)) (fp : List Addr), PTs (X.blk s H scope (compEnvC scope cl C X.env) fp) ifs (denT X.K T xr W0 cq))
    (he : ∀ (s : Shared) (H : Hp) (C : Addr) (cl : List (Str × Addr)) (fp : List Addr), PE (X.blk s H scope (compEnvC scope cl C X.env) fp) elt (den X.K T xr W0 ce))
    (hs : ∀ x, foldedSetIterable iter X.env x = pure x) (hown : ∀ i ∈ slots ct, i ∈ own.map (·.2)) :
    PE X (.ListComp elt [⟨tg, iter, ifs, 0⟩] scope pos) (den X.K T xr W (.lc m (own.map (·.2)) ce ct ci cq)) := by
  exact PE.imp (PE.unfz (m := m) (pe_lc hc hN hi ok hg ht he hs)) fun g H Q h => lc_read hown h

/-! ### dict comprehensions -/
def PDc (K : PySem.W.Frag) (as : List Addr) (H : Hp) : List (Ky × Mi.D) → List (Key × V) → Prop := Paired fun p q => p.1 = q.1 ∧ RD K as H p.2 q.2
theorem PDc.keep {K : PySem.W.Frag} {as : List Addr} {H H' : Hp} (x : Keep H H') {kvs : List (Ky × Mi.D)} {ws : List (Key × V)} (h : PDc K as H kvs ws) : PDc K as H' kvs ws := Paired.mapP h fun _ _ q => ⟨q.1, q.2.keep x⟩
theorem PDc.ext {K : PySem.W.Frag} {as bs : List Addr} {H H' : Hp} (x : Ext as H bs H') {kvs : List (Ky × Mi.D)} {ws : List (Key × V)} (h : PDc K as H kvs ws) : PDc K bs H' kvs ws := Paired.mapP h fun _ _ q => ⟨q.1, q.2.ext x⟩
theorem pdc_any {K : PySem.W.Frag} {as : List Addr} {H : Hp} {k : Ky} : ∀ {kvs : List (Ky × Mi.D)} {ws : List (Key × V)}, PDc K as H kvs ws → (kvs.any fun p => decide (p.1 = k)) = ws.any fun p => decide (p.1 = k)
  | _, _, .nil => rfl
  | _, _, .cons r t => by rw [List.any_cons, List.any_cons, pdc_any t, r.1]
theorem pdc_map {K : PySem.W.Frag} {as : List Addr} {H : Hp} {k : Ky} {v : Mi.D} {x : V} (rv : RD K as H v x) : ∀ {kvs : List (Ky × Mi.D)} {ws : List (Key × V)}, PDc K as H kvs ws →
    PDc K as H (kvs.map fun p => if p.1 = k then (p.1, v) else p) (ws.map fun p => if p.1 = k then (p.1, x) else p)
  | [], [], .nil => .nil
  | p :: kvs, q :: ws, .cons r t => by
    refine .cons ?_ (pdc_map rv t)
    dsimp only
    by_cases e : p.1 = k
    · rw [if_pos e, if_pos (by rw [← r.1]; exact e)]
      exact ⟨r.1, rv⟩
    · rw [if_neg e, if_neg (by rw [← r.1]; exact e)]
      exact r
theorem PDc.put {K : PySem.W.Frag} {as : List Addr} {H : Hp} {kvs : List (Ky × Mi.D)} {ws : List (Key × V)} (h : PDc K as H kvs ws) {k : Ky} {v : Mi.D} {x : V} (rv : RD K as H v x) : PDc K as H (putD kvs k v) (putK ws k x) := by
  unfold putD putK
  rw [pdc_any h]
  split
  · exact pdc_map rv h
  · exact paired_append h (.cons ⟨rfl, rv⟩ .nil)
theorem putD_len (kvs : List (Ky × Mi.D)) (k : Ky) (v : Mi.D) : (putD kvs k v).length ≤ kvs.length + 1 := by
  unfold putD
  split <;> simp
theorem putAll_len : ∀ (ps kvs : List (Ky × Mi.D)), (putAll kvs ps).length ≤ kvs.length + ps.length
  | [], kvs => by simp [putAll]
  | p :: ps, kvs => by
    have := putAll_len ps (putD kvs p.1 p.2)
    have := putD_len kvs p.1 p.2
    show (putAll (putD kvs p.1 p.2) ps).length ≤ _
    simp only [List.length_cons]
    omega
theorem putAll_app (ps qs kvs : List (Ky × Mi.D)) : putAll kvs (ps ++ qs) = putAll (putAll kvs ps) qs := by
  unfold putAll
  rw [List.foldl_append]
theorem Keep.overD {H : Hp} {p : Addr} {vs ws : List (Key × V)} (hp : H p = some (.dK vs)) : Keep H (upd H p (.dK ws)) :=
  ⟨fun b xs q => by rw [upd_ne (ne_of q hp (fun z => by cases z))]; exact q, fun b o u q => by rw [upd_ne (ne_of q hp (fun z => by cases z))]; exact q⟩
theorem keyD_rep {K : PySem.W.Frag} {as : List Addr} {H : Hp} {d : Mi.D} {x : V} {k : Ky} (r : RD K as H d x) (e : keyD d = some k) : x = kV k := by
  unfold keyD at e
  split at e
  · cases (Option.some.inj e); exact rp_int r
  · cases (Option.some.inj e); exact rp_str r
  · cases e
theorem dc_read {K : PySem.W.Frag} {own : List Nat} {ck cv : C} {ct : TG} {ci : I} {cq : Q} (hown : ∀ i ∈ slots ct, i ∈ own) {g : L2.St} {H : Hp} {Q : VK} (h : den K T xr W (.dc own ck cv ct ci cq) g H Q) :
    tDc (denI K T xr W ci) (denG K ct) (denT K T xr W0 cq) (den K T xr W0 ck) (den K T xr W0 cv) own g H Q := by
  obtain ⟨as, e, st, rs, re, h⟩ := h
  refine ⟨as, e, st, rs, re, (DG.thn h).mono fun J H1 ⟨src, bs, st1, e1, rs1, hsrc, h1⟩ D hD => ?_⟩
  generalize hstep : (fun x st => match asg ct x (wipeE e own) with
      | some e1 => ((evT T cq e1 st).bind fun b st => if b then (ev T ck e1 st).bind fun k st => (ev T cv e1 st).bind fun v st => match keyD k with
          | some k => .ok (some (k, v)) st
          | none => .bad
        else .ok none st).noex
      | none => .bad : Mi.D → Store → Mi.R (Option (Ky × Mi.D))) = step at h1
  have noex : ∀ (d : Mi.D) (st : Store) (c : Str) (fs : Flds) (st' : Store), step d st ≠ .ex c fs st' := fun d st c fs st' => by
    rw [← hstep]
    dsimp only
    split
    · exact noex_ne
    · exact fun z => by cases z
  have short : ∀ (acc r : List (Ky × Mi.D)) (n i : Nat) (st : Store), DG K xr W (RD K) g bs H1 ((lcGo src.get step n i st).bind fun r st => (finD (acc ++ r) st).toR) Q → acc.length ≤ LIM := fun acc r n i st h => by
    cases q : lcGo src.get step n i st with
    | ok r s6 =>
      rw [q] at h
      have h : DG K xr W (RD K) g bs H1 (finD (acc ++ r) s6).toR Q := h
      unfold finD at h
      split at h
      · rename_i hl
        rw [List.length_append] at hl
        omega
      · exact h.elim
    | ex c fs s6 => exact absurd q (lcGo_noex noex _ _ _ _ _ _)
    | bad => rw [q] at h; exact h.elim
  refine ⟨fun i n H2 => ∃ cs st2 acc ws, Ext bs H1 cs H2 ∧ RS K cs H2 st2 ∧ D ∉ cs ∧ H2 D = some (.dK ws) ∧ PDc K cs H2 (putAll [] acc) ws ∧
    DG K xr W (RD K) g bs H1 ((lcGo src.get step n i st2).bind fun r st => (finD (acc ++ r) st).toR) Q, ⟨_, bs, st1, [], [], .lay hD, rs1.lay hD, rs1.not_mem hD, upd_same, .nil, h1⟩, ?_⟩
  rintro i n H2 ⟨cs, st2, acc, ws, x2, rs2, nD, hp, ra, h2⟩
  have look := hsrc cs H2 st2 x2 rs2 i
  unfold lcGo at h2
  cases hget : src.get st2 i with
  | none => rw [hget] at h2; exact h2.elim
  | some o =>
    rw [hget] at h2 look
    cases o with
    | none =>
      refine .inl ⟨look, ?_⟩
      have h3 : DG K xr W (RD K) g bs H1 (finD (acc ++ []) st2).toR Q := h2
      rw [List.append_nil] at h3
      unfold finD at h3
      split at h3
      · obtain ⟨more, em, nw⟩ := x2.pre
        refine h3 (cs ++ [D]) H2 ⟨⟨more ++ [D], by rw [em]; simp, fun q hq => ?_⟩, x2.tups, x2.frzs, x2.frm, x2.kp⟩ (rs2.take (c0 := .dic (putAll [] acc)) hp nD ⟨ws, hp, ra⟩) _ ⟨D, ?_, rfl⟩
        · rcases List.mem_append.mp hq with hq | hq
          · exact nw q hq
          · simp at hq; rw [hq]; exact hD
        · rw [rs2.len]; simp
      · exact h3.elim
    | some d =>
      obtain ⟨go, yl⟩ := look
      cases n with
      | zero => exact h2.elim
      | succ n =>
        refine .inr ⟨go, fun H' => ∃ cs st2 acc ws, Ext bs H1 cs H' ∧ RS K cs H' st2 ∧ D ∉ cs ∧ H' D = some (.dK ws) ∧ PDc K cs H' (putAll [] acc) ws ∧
          DG K xr W (RD K) g bs H1 ((lcGo src.get step n (i + 1) st2).bind fun r st => (finD (acc ++ r) st).toR) Q, fun H' q => ⟨n, Nat.lt_succ_self n, q⟩, fun x H' hy => ?_⟩
        obtain ⟨x3, rs3, rd⟩ := yl x H' hy
        have h3 : DG K xr W (RD K) g bs H1 ((step d st2).bind fun o st => ((lcGo src.get step n (i + 1) st).bind fun r st => R.ok (o.toList ++ r) st).bind fun r st => (finD (acc ++ r) st).toR) Q := by
          have h2' : DG K xr W (RD K) g bs H1 (((step d st2).bind fun o st => (lcGo src.get step n (i + 1) st).bind fun r st => R.ok (o.toList ++ r) st).bind fun r st => (finD (acc ++ r) st).toR) Q := h2
          rw [bind_bind] at h2'
          exact h2'
        obtain ⟨nD3, hp3⟩ := x3.out nD hp
        rw [← hstep] at h3
        dsimp only at h3
        split at h3
        · rename_i e1 hasg
          rw [hstep] at h3
          refine ⟨cs, _, d, e1, re_wipe ((re.ext ‹_›).ext (x2.trans x3)) _, rd, hasg, fun g' re' bes => ⟨wipe_besides bes hown, cs, e1, st2, rs3, re', (DG.noex (rel := rEq2) h3).mono fun b H3 ⟨v, cs4, st4, x4, rs4, ev, h4⟩ => ?_⟩⟩
          cases ev
          obtain ⟨nD4, hp4⟩ := x4.out nD3 hp3
          cases b with
          | true =>
            rw [if_pos rfl] at h4 ⊢
            refine ⟨cs4, e1, st4, rs4, re'.ext x4, (DG.noex (rel := RD K) h4).mono fun y H4 ⟨dk, cs5, st5, x5, rs5, rdk, h5⟩ => ?_⟩
            obtain ⟨nD5, hp5⟩ := x5.out nD4 hp4
            refine ⟨cs5, e1, st5, rs5, (re'.ext x4).ext x5, (DG.noex (rel := RD K) h5).mono fun z H5 ⟨dv, cs6, st6, x6, rs6, rdv, h6⟩ => ?_⟩
            obtain ⟨nD6, hp6⟩ := x6.out nD5 hp5
            cases hk : keyD dk with
            | none => rw [hk] at h6; exact h6.elim
            | some k =>
              rw [hk] at h6
              have h7 : DG K xr W (RD K) g bs H1 ((lcGo src.get step n (i + 1) st6).bind fun r st => (finD (acc ++ [(k, dv)] ++ r) st).toR) Q := by
                have h5' : DG K xr W (RD K) g bs H1 (((lcGo src.get step n (i + 1) st6).bind fun r st => R.ok ([(k, dv)] ++ r) st).bind fun r st => (finD (acc ++ r) st).toR) Q := h6
                rw [bind_bind] at h5'
                have ee : (fun r st => (R.ok ([(k, dv)] ++ r) st).bind fun r st => (finD (acc ++ r) st).toR : List (Ky × Mi.D) → Store → Mi.R Mi.D) = fun r st => (finD (acc ++ [(k, dv)] ++ r) st).toR := by
                  funext r st
                  show (finD (acc ++ ([(k, dv)] ++ r)) st).toR = _
                  rw [List.append_assoc]
                rw [ee] at h5'
                exact h5'
              have lim := short _ [] _ _ _ h7
              have l0 := putAll_len acc []
              have lz := lim_line
              simp only [List.length_append, List.length_singleton, List.length_nil] at lim l0
              have x16 := ((((x2.trans x3).trans x4).trans x5).trans x6)
              have ra6 : PDc K cs6 H5 (putAll [] acc) ws := (((ra.ext x3).ext x4).ext x5).ext x6
              have lw : (putAll [] acc).length = ws.length := Paired.length ra6
              refine ⟨ws, k, keyD_rep rdk hk, hp6, by omega, ?_⟩
              have kp : Keep H5 (upd H5 D (.dK (putK ws k z))) := Keep.overD hp6
              refine ⟨cs6, st6, acc ++ [(k, dv)], putK ws k z, x16.over hD, rs6.off kp fun b hb => upd_ne fun z => nD6 (by rw [← z]; exact hb), nD6, upd_same, ?_, h7⟩
              rw [putAll_app]
              exact (ra6.put rdv).keep kp
          | false =>
            rw [if_neg (by simp)] at h4 ⊢
            have h6 : DG K xr W (RD K) g bs H1 ((lcGo src.get step n (i + 1) st4).bind fun r st => (finD (acc ++ r) st).toR) Q := by
              have h5' : DG K xr W (RD K) g bs H1 (((lcGo src.get step n (i + 1) st4).bind fun r st => R.ok ([] ++ r) st).bind fun r st => (finD (acc ++ r) st).toR) Q := h4
              rw [bind_bind] at h5'
              exact h5'
            exact ⟨cs4, st4, acc, ws, (x2.trans x3).trans x4, rs4, nD4, hp4, (ra.ext x3).ext x4, h6⟩
        · exact h3.elim
theorem p_dc {own : List (Str × Nat)} {scope : Scope} {kx vx tg iter : PySem.Expr} {ifs : List PySem.Expr} {ck cv : C} {ct : TG} {ci : I} {cq : Q} (hc : X.calm = true) (hN : X.N.Nodup) (hi : PI X tg iter (denI X.K T xr W ci)) (ok : BlkOk X.N X.env.scope scope own)
    (hg : ∀ (s : Shared) (H : Hp) (C : Addr) (cl : List (Str × Addr)) (fp : List Addr), PG (X.blk s H scope (compEnvC scope cl C X.env) fp) tg (denG X.K ct))
    (ht : ∀ (s : Shared) (H : Hp) (C : Addr) (cl : List (Str × Addr)) (fp : List Addr), PTs (X.blk s H scope (compEnvC scope cl C X.env) fp) ifs (denT X.K T xr W0 cq))
    (hk : ∀ (s : Shared) (H : Hp) (C : Addr) (cl : List (Str × Addr)) (fp : List Addr), PE (X.blk s H scope (compEnvC scope cl C X.env) fp) kx (den X.K T xr W0 ck))
    (he : ∀ (s : Shared) (H : Hp) (C : Addr) (cl : List (Str × Addr)) (fp : List Addr), PE (X.blk s H scope (compEnvC scope cl C X.env) fp) vx (den X.K T xr W0 cv))
    (hs : ∀ x, foldedSetIterable iter X.env x = pure x) (hown : ∀ i ∈ slots ct, i ∈ own.map (·.2)) :
    PE X (.DictComp kx vx [⟨tg, iter, ifs, 0⟩] scope pos) (den X.K T xr W (.dc (own.map (·.2)) ck cv ct ci cq)) :=
  PE.imp (pe_dc hc hN hi ok hg ht hk he hs) fun g H Q h => dc_read hown h
end
end Mi

set_option Elab.async false
set_option linter.all false
set_option maxRecDepth 100000
set_option maxHeartbeats 1000000
/-! Mi9: statements. -/
namespace Mi
open PySem PySem.Spec PyProof.Rows L2

/-! ### a while's turns do not hang on how far one goes -/
theorem whN_more {c : Env → Store → R Bool} {b : Env → Store → S} : ∀ {n : Nat} {e : Env} {st : Store} {r : S}, whN c b n e st = some r → ∀ k, whN c b (n + k) e st = some r
  | 0, _, _, _, h, _ => by cases h
  | n + 1, e, st, r, h, k => by
    rw [Nat.add_right_comm]
    unfold whN at h ⊢
    cases hc : c e st with
    | ok v s1 =>
      rw [hc] at h
      cases v with
      | true =>
        dsimp only at h ⊢
        cases hb : b e s1 <;> rw [hb] at h <;> dsimp only at h ⊢
        · exact whN_more h k
        · exact h
        · exact h
        · exact whN_more h k
        · exact h
        · exact h
      | false => exact h
    | ex _ _ _ => rw [hc] at h; exact h
    | bad => rw [hc] at h; exact h
theorem wh_eq {c : Env → Store → R Bool} {b : Env → Store → S} {n : Nat} {e : Env} {st : Store} {r : S} (h : whN c b n e st = some r) : wh c b e st = r := by
  unfold wh
  have hx : ∃ n r, whN c b n e st = some r := ⟨n, r, h⟩
  rw [dif_pos hx]
  have h2 := hx.choose_spec.choose_spec
  have h3 := whN_more h2 n
  have h4 := whN_more h hx.choose
  rw [Nat.add_comm, h3] at h4
  exact Option.some.inj h4
theorem wh_some {c : Env → Store → R Bool} {b : Env → Store → S} {e : Env} {st : Store} (h : wh c b e st ≠ .bad) : ∃ n, whN c b n e st = some (wh c b e st) := by
  by_cases hx : ∃ n r, whN c b n e st = some r
  · obtain ⟨n, r, q⟩ := hx
    exact ⟨n, by rw [wh_eq q]; exact q⟩
  · exfalso
    apply h
    unfold wh
    rw [dif_neg hx]

section
variable (K : PySem.W.Frag) (T : Tab) (xr : XR) (W : WX)
def DS (as : List Addr) (H : Hp) (r : S) (D : Ends) : Prop := match r with
  | .nx e st => ∀ bs H', Ext as H bs H' → RS K bs H' st → ∀ g, RE K bs H' e g → D.nx g H'
  | .rt v st => ∀ bs H', Ext as H bs H' → RS K bs H' st → ∀ x, RD K bs H' v x → D.rt x H'
  | .bk e st => ∀ bs H', Ext as H bs H' → RS K bs H' st → ∀ g, RE K bs H' e g → D.bk g H'
  | .ct e st => ∀ bs H', Ext as H bs H' → RS K bs H' st → ∀ g, RE K bs H' e g → D.ct g H'
  | .ex c fs e st => ∀ bs H', Ext as H bs H' → RS K bs H' st → ∀ g, RE K bs H' e g → ∀ cls d, xr c fs cls d H' → W cls d g H'
  | .bad => False
def denS (b : B) : TS := fun D g H => ∃ as e st, RS K as H st ∧ RE K as H e g ∧ DS K xr W as H (Mi.ex T b e st) D
def denB (b : List B) : TS := fun D g H => ∃ as e st, RS K as H st ∧ RE K as H e g ∧ DS K xr W as H (exs T b e st) D
end
section
variable {K : PySem.W.Frag} {T : Tab} {xr : XR} {W : WX} {as bs : List Addr} {H H' : Hp} {g : List (Option V)} {α β : Type} {rel : List Addr → Hp → α → β → Prop} {D : Ends}
theorem DS.base {r : S} (x : Ext as H bs H') (h : DS K xr W as H r D) : DS K xr W bs H' r D := by
  cases r with
  | nx e st => exact fun cs H2 e2 rs g re => h cs H2 (x.trans e2) rs g re
  | rt v st => exact fun cs H2 e2 rs g re => h cs H2 (x.trans e2) rs g re
  | bk e st => exact fun cs H2 e2 rs g re => h cs H2 (x.trans e2) rs g re
  | ct e st => exact fun cs H2 e2 rs g re => h cs H2 (x.trans e2) rs g re
  | ex c fs e st => exact fun cs H2 e2 rs g re c d q => h cs H2 (x.trans e2) rs g re c d q
  | bad => exact h
theorem DS.thn {m : R α} {e : Env} {f : α → Store → S} (re : RE K as H e g) (h : DS K xr W as H (m.toS e f) D) :
    DG K xr W rel g as H m (fun x H' => ∃ v bs st, Ext as H bs H' ∧ RS K bs H' st ∧ rel bs H' v x ∧ DS K xr W bs H' (f v st) D) := by
  cases m with
  | ok v st => exact fun bs H' x rs y r => ⟨v, bs, st, x, rs, r, DS.base x h⟩
  | ex c fs st => exact fun bs H' x rs cls d q => h bs H' x rs g (re.ext x) cls d q
  | bad => exact h
theorem DS.seq {m : S} {f : Env → Store → S} (h : DS K xr W as H (m.seq f) D) :
    DS K xr W as H m { D with nx := fun g H' => ∃ e bs st, Ext as H bs H' ∧ RS K bs H' st ∧ RE K bs H' e g ∧ DS K xr W bs H' (f e st) D } := by
  cases m with
  | nx e st => exact fun bs H' x rs g re => ⟨e, bs, st, x, rs, re, DS.base x h⟩
  | rt v st => exact h
  | bk e st => exact h
  | ct e st => exact h
  | ex c fs e st => exact h
  | bad => exact h
end

section
variable {X : Cx} {T : Tab} {xr : XR} {W : WX} {a b c : PySem.Expr} {ca cb cc : C} {pos p : Pos}
theorem PS.imp {st : Stmt} {t t' : TS} (h : PS X st t) (k : ∀ D g H, t' D g H → t D g H) : PS X st t' := ⟨fun pn s g H D I q => h.run pn s g H D I (k D g H q)⟩
theorem PSs.imp {st : List Stmt} {t t' : TS} (h : PSs X st t) (k : ∀ D g H, t' D g H → t D g H) : PSs X st t' := ⟨fun pn s g H D I q => h.run pn s g H D I (k D g H q)⟩
/-- what comes next, a list frozen where that is wanted -/
def NF (m : Bool) (N : L2.St → Hp → Prop) : L2.St → Hp → Prop := fun g H => if m then N g H else ∃ a vs, H a = some (.lst vs) ∧ ∀ o, N g (upd H a (.frz o (.lst vs)))
theorem PS.unfz {st : Stmt} {t : TS} {m : Bool} (h : PS X st t) : PS X st (fun D g H => t { D with nx := NF m D.nx } g H) := by
  refine ⟨fun pn s g H D I q => thn (h.run pn s g H _ I q) fun f s1 k => ?_⟩
  cases f with
  | next =>
    obtain ⟨g', H', I', k⟩ := k
    cases m with
    | true => exact ⟨g', H', I', k⟩
    | false =>
      obtain ⟨a, vs, hl, q⟩ := k
      obtain ⟨z, its, n, rv, e⟩ := I'.hok a _ hl
      exact ⟨g', _, Inv.write (x := a) (e := a) (o := .frz { cls := .type "list", data := .seq its.toArray n } (.lst vs)) (h' := s1.heap) (t' := s1.toks) I' (by rw [hl]; trivial) (.inl rfl) (fun _ _ _ q => q) ⟨_, e⟩ ⟨e, z, its, n, rv, e⟩, q _⟩
  | brk => exact k
  | cont => exact k
  | ret u => exact k
def isComp : PySem.Expr → Bool
  | .ListComp _ _ _ _ => true
  | .SetComp _ _ _ _ => true
  | .DictComp _ _ _ _ _ => true
  | _ => false
theorem no_swap {e : PySem.Expr} {t : Option PySem.Expr} {l : Nat} {env : PySem.Env} (h : isComp e = false) : swapsWith e t l env = pure false := by
  cases e <;> first | rfl | cases h
/-! ### stores -/
theorem b_set {i : Nat} {x : Str} (hN : X.N.Nodup) (hi : X.N[i]? = some x) (hl : Loc X.env.scope x) (hf : X.fn x = true ∨ X.env.scope.names.lookup x = some .local) (ha : PE X a (den X.K T xr W ca)) (hs : swapsWith a (some (.Name x p)) pos.line X.env = pure false) : PS X (.Assign [.Name x p] a pos) (denS X.K T xr W (.set i ca)) :=
  PS.imp (ps_set hN hi hl ha hs hf) fun D g H ⟨as, e, st, rs, re, h⟩ => ⟨as, e, st, rs, re, (DS.thn re h).mono fun x H1 ⟨v, bs, st1, e1, rs1, rv, h1⟩ => by
    split at h1
    · exact h1 bs H1 .refl rs1 _ ((re.ext e1).set rv)
    · exact h1.elim⟩
/-- name = [.. for ..], the comprehension's value stored at once -/
theorem b_setLc {i : Nat} {x : Str} {m : Bool} {own : List (Str × Nat)} {scope : Scope} {elt tg iter : PySem.Expr} {ifs : List PySem.Expr} {ce : C} {ct : TG} {ci : I} {cq : Q} {lp : Pos} (hc : X.calm = true) (hN : X.N.Nodup) (hx : X.N[i]? = some x) (hl : X.env.scope.names.lookup x = some .local)
    (hsw : swapsWith (.ListComp elt [⟨tg, iter, ifs, 0⟩] scope lp) (some (.Name x p)) pos.line X.env = pure true) (hi : PI X tg iter (denI X.K T xr W ci)) (ok : BlkOk X.N X.env.scope scope own)
    (hg : ∀ (s : Shared) (H : Hp) (C : Addr) (cl : List (Str × Addr)) (fp : List Addr), PG (X.blk s H scope (compEnvC scope cl C X.env) fp) tg (denG X.K ct))
    (ht : ∀ (s : Shared) (H : Hp) (C : Addr) (cl : List (Str × Addr)) (fp : List Addr), PTs (X.blk s H scope (compEnvC scope cl C X.env) fp) ifs (denT X.K T xr W0 cq))
    (he : ∀ (s : Shared) (H : Hp) (C : Addr) (cl : List (Str × Addr)) (fp : List Addr), PE (X.blk s H scope (compEnvC scope cl C X.env) fp) elt (den X.K T xr W0 ce))
    (hs : ∀ x, foldedSetIterable iter X.env x = pure x) (hown : ∀ i ∈ slots ct, i ∈ own.map (·.2)) :
    PS X (.Assign [.Name x p] (.ListComp elt [⟨tg, iter, ifs, 0⟩] scope lp) pos) (denS X.K T xr W (.set i (.lc m (own.map (·.2)) ce ct ci cq))) := by
  refine PS.imp (PS.unfz (m := m) (ps_setLc hc hN hx hl hsw hi ok hg ht he hs)) fun D g H ⟨as, e, st, rs, re, h⟩ => ?_
  have h' : den X.K T xr W (.lc m (own.map (·.2)) ce ct ci cq) g H (fun x H1 => D.nx (g.set i (some x)) H1) := ⟨as, e, st, rs, re, (DS.thn re h).mono fun x H1 ⟨v, bs, st1, e1, rs1, rv, h1⟩ => by
    split at h1
    · exact h1 bs H1 .refl rs1 _ ((re.ext e1).set rv)
    · exact h1.elim⟩
  have q := lc_read hown h'
  have weak : ∀ x H1, FZ m (fun x H1 => D.nx (g.set i (some x)) H1) x H1 → gName i x g H1 (NF m D.nx) := fun x H1 k => by
    cases m with
    | true => exact k
    | false =>
      obtain ⟨a, vs, _, h1, h2⟩ := k
      exact ⟨a, vs, h1, h2⟩
  obtain ⟨as2, e2, st2, rs2, re2, h2⟩ := q
  exact ⟨as2, e2, st2, rs2, re2, h2.mono fun J H1 k d hd => by
    obtain ⟨Wv, w0, turn⟩ := k d hd
    refine ⟨Wv, w0, fun i n H w => ?_⟩
    rcases turn i n H w with ⟨z, k⟩ | k
    · exact .inl ⟨z, weak _ _ k⟩
    · exact .inr k⟩
theorem b_par {i j : Nat} {x y : Str} {px py pt : Pos} {kt k2 pt2} (hc : X.calm = true) (hN : X.N.Nodup) (hi : X.N[i]? = some x) (hj : X.N[j]? = some y) (hij : i ≠ j) (hx : X.env.scope.names.lookup x = some .local) (hy : X.env.scope.names.lookup y = some .local)
    (sa : noStar a = true) (sb : noStar b = true) (ha : PE X a (den X.K T xr W ca)) (hb : PE X b (den X.K T xr W cb)) (hw : swappedStores [.Tuple [.Name x px, .Name y py] kt pt] (.Tuple [a, b] k2 pt2) X.env = pure (some [x, y])) :
    PS X (.Assign [.Tuple [.Name x px, .Name y py] kt pt] (.Tuple [a, b] k2 pt2) pos) (denS X.K T xr W (.par i j ca cb)) :=
  PS.imp (ps_par hc hN hi hj hij hx hy (pa_cons ha (pa_cons hb pa_nil (star_each sb)) (star_each sa)) hw rfl) fun D g H ⟨as, e, st, rs, re, h⟩ => ⟨as, e, st, rs, re, (DS.thn re h).mono fun x H1 ⟨v, bs, st1, e1, rs1, rv, h1⟩ =>
    ⟨bs, e, st1, rs1, re.ext e1, (DS.thn (re.ext e1) h1).mono fun y H2 ⟨w, cs, st2, e2, rs2, rw, h2⟩ => by
      split at h2
      · exact ⟨x, y, rfl, h2 cs H2 .refl rs2 _ ((((re.ext e1).ext e2).set (rv.ext e2)).set rw)⟩
      · exact h2.elim⟩⟩
theorem b_tgt {tg : PySem.Expr} {t : TG} (ha : PE X a (den X.K T xr W ca)) (hg : PG X tg (denG X.K t)) (hs : swapsWithSole [tg] a pos.line X.env = pure false) (hw : swappedStores [tg] a X.env = pure none) (ht : noStar tg = true) : PS X (.Assign [tg] a pos) (denS X.K T xr W (.tgt t ca)) :=
  PS.imp (ps_asg ha hg hs hw (assign_each ht)) fun D g H ⟨as, e, st, rs, re, h⟩ => ⟨as, e, st, rs, re, (DS.thn re h).mono fun x H1 ⟨v, bs, st1, e1, rs1, rv, h1⟩ => by
    split at h1
    · rename_i e2 q
      exact ⟨bs, e, v, e2, re.ext e1, rv, q, fun g' re' _ => h1 bs H1 .refl rs1 g' re'⟩
    · exact h1.elim⟩
/-- op= of ints, by values -/
theorem s_aug (op : Operator) {K : PySem.W.Frag} {as : List Addr} {H : Hp} {x y : D} {u v : V} {z : Int} (hK : K = X.K) (ru : RD K as H x u) (rv : RD K as H y v) (e : augI op x y = some z) {pn : List (Addr × Obj)} {s : Shared} {g : L2.St} {Q : VK} {w1 w2 : Value} (I : Inv X pn g H s)
    (r1 : RelV u w1) (r2 : RelV v w2) (q : Q (.int z) H) : wpAny (model X.prog X.w) X.A (inplaceOp op w1 w2) (EP X pn g Q) X.xe s := by
  unfold augI at e
  obtain ⟨⟨i, j⟩, e1, e2⟩ := Option.bind_eq_some_iff.mp e
  obtain ⟨rfl, rfl⟩ := ints2_rep ru rv e1
  cases op <;> dsimp only at e2 <;> try (cases e2; done)
  · cases (Option.some.inj e2)
    exact iop_add pn s g H _ _ w1 w2 Q I r1 r2 ⟨i, j, rfl, rfl, q⟩
  · cases (Option.some.inj e2)
    exact iop_sub pn s g H _ _ w1 w2 Q I r1 r2 ⟨i, j, rfl, rfl, q⟩
  · split at e2
    · rename_i hc
      cases (Option.some.inj e2)
      exact iop_mod pn s g H _ _ w1 w2 Q I r1 r2 ⟨i, j, rfl, rfl, hc, q⟩
    · cases e2
  · split at e2
    · rename_i hc
      cases (Option.some.inj e2)
      exact iop_shr pn s g H _ _ w1 w2 Q I r1 r2 ⟨i, j, rfl, rfl, hc, q⟩
    · cases e2
def rI2 (K : PySem.W.Frag) (op : Operator) : V → V → Hp → VK → Prop := fun x y H Q => ∃ as u v z, RD K as H u x ∧ RD K as H v y ∧ augI op u v = some z ∧ Q (.int z) H
theorem s_augP (op : Operator) : PIp X op (rI2 X.K op) := fun pn s g H x y v u Q I rx ry ⟨as, a, b, z, ra, rb, e, q⟩ => s_aug op rfl ra rb e I rx ry q
theorem b_aug {i : Nat} {x : Str} {op : Operator} (hN : X.N.Nodup) (hi : X.N[i]? = some x) (hl : Loc X.env.scope x) (hf : X.fn x = true ∨ X.env.scope.names.lookup x = some .local) (ha : PE X a (den X.K T xr W ca)) : PS X (.AugAssign (.Name x p) op a pos) (denS X.K T xr W (.aug i op ca)) :=
  PS.imp (ps_aug hN hi hl ha (s_augP op) hf) fun D g H ⟨as, e, st, rs, re, h⟩ => by
    have h : DS X.K xr W as H (match e[i]? with
      | some (some x) => (ev T ca e st).toS e fun y st => match augI op x y with
        | some z => .nx (e.set i (some (nt z))) st
        | none => .bad
      | _ => .bad) D := h
    split at h
    · rename_i d q
      obtain ⟨x, h1, h2⟩ := re.get q
      refine ⟨x, h1, as, e, st, rs, re, (DS.thn re h).mono fun y H1 ⟨v, bs, st1, e1, rs1, rv, h3⟩ => ?_⟩
      split at h3
      · rename_i z hz
        exact ⟨bs, d, v, z, h2.ext e1, rv, hz, h3 bs H1 .refl rs1 _ ((re.ext e1).set (d := nt z) (.int z))⟩
      · exact h3.elim
    · exact h.elim
theorem assign_sub {o i : PySem.Expr} {sp : Pos} (hp : plainIx i = true) (v : Value) : assign (.Subscript o i sp) X.env v = (do
      let ov ← holding [v] (eval o X.env)
      let iv ← holding [v, ov] (eval i X.env)
      standAt sp
      holding [v, ov, iv] (setItem ov iv v)
      release [v, ov, iv] []) := by
  cases i <;> first | rfl | cases hp
theorem swap_sub {o i : PySem.Expr} {sp : Pos} {l : Nat} : swapsWithSole [.Subscript o i sp] a l X.env = pure false := by
  show swapsWith a (some (.Subscript o i sp)) l X.env = pure false
  cases a <;> rfl
theorem b_six {sp : Pos} (hp : plainIx c = true) (ha : PE X a (den X.K T xr W ca)) (ho : PE X b (den X.K T xr W cb)) (hi : PE X c (den X.K T xr W cc)) : PS X (.Assign [.Subscript b c sp] a pos) (denS X.K T xr W (.six cb cc ca)) :=
  PS.imp (ps_asg ha (pg_sub ho hi s_set (assign_sub hp)) swap_sub (by cases a <;> rfl) rfl) fun D g H ⟨as, e, st, rs, re, h⟩ => ⟨as, e, st, rs, re, (DS.thn re h).mono fun x H1 ⟨v, bs, st1, e1, rs1, rv, h1⟩ =>
    ⟨bs, e, st1, rs1, re.ext e1, (DS.thn (re.ext e1) h1).mono fun y H2 ⟨w, cs, st2, e2, rs2, rw, h2⟩ => ⟨cs, e, st2, rs2, (re.ext e1).ext e2, (DS.thn ((re.ext e1).ext e2) h2).mono fun z H3 ⟨u, ds, st3, e3, rs3, ru, h3⟩ => by
      split at h3
      · rename_i st4 q
        exact ⟨ds, st3, w, u, v, st4, rs3, rw.ext e3, ru, (rv.ext e2).ext e3, q, fun fs H4 e4 rs4 => h3 fs H4 e4 rs4 g ((((re.ext e1).ext e2).ext e3).ext e4)⟩
      · exact h3.elim⟩⟩⟩
def rG2 (K : PySem.W.Frag) : V → V → Hp → VK → Prop := fun o i H Q => ∃ as st a b d, RS K as H st ∧ RD K as H a o ∧ RD K as H b i ∧ getIx a b st = some d ∧ ∀ x, RD K as H d x → Q x H
theorem s_get : PGet X (rG2 X.K) := fun pn s g H o i ov iv Q I ro ri ⟨as, st, a, b, d, rs, ra, rb, e, q⟩ => by
  unfold getIx at e
  split at e
  · rename_i k
    split at e
    · rename_i h0
      obtain ⟨ds, e1, e2⟩ := Option.bind_eq_some_iff.mp e
      obtain ⟨p, vs, rfl, h1, h2⟩ := asL_rep rs ra e1
      cases rp_int rb
      obtain ⟨its, n, rvs, el, hz⟩ := rd_list I h1
      obtain ⟨x, hx, rx⟩ := paired_at h2 e2
      obtain ⟨u, hu, ru⟩ := rvs.get hx
      cases ro
      obtain ⟨t, rfl⟩ := ri
      have hlt := (List.getElem?_eq_some_iff.mp hx).1
      have l63 := line63
      exact wpAny_getItem_list (show s.heap.IsList p its.toArray from ⟨_, el, rfl, n, rfl⟩) h0 (by omega) (by simpa using hu) ⟨x, H, I, ru, q x rx⟩
    · cases e
  · cases e
theorem aug_store {o i : PySem.Expr} (hp : plainIx i = true) (ov iv new : Value) : augStore i ov iv new = (do holding [new, ov, iv] (setItem ov iv new); release [new, ov, iv] []; pure .next) := by
  cases i <;> first | rfl | cases hp
theorem b_aix {op : Operator} {sp : Pos} (hp : plainIx c = true) (ho : PE X b (den X.K T xr W cb)) (hi : PE X c (den X.K T xr W cc)) (ha : PE X a (den X.K T xr W ca)) : PS X (.AugAssign (.Subscript b c sp) op a pos) (denS X.K T xr W (.aix cb cc op ca)) :=
  PS.imp (ps_augS ho hi s_get ha (s_augP op) s_set (aug_store (o := b) hp)) fun D g H ⟨as, e, st, rs, re, h⟩ => ⟨as, e, st, rs, re, (DS.thn re h).mono fun x H1 ⟨v, bs, st1, e1, rs1, rv, h1⟩ =>
    ⟨bs, e, st1, rs1, re.ext e1, (DS.thn (re.ext e1) h1).mono fun y H2 ⟨w, cs, st2, e2, rs2, rw, h2⟩ => by
      split at h2
      · rename_i old q
        refine ⟨cs, st2, v, w, old, rs2, rv.ext e2, rw, q, fun z rz => ⟨cs, e, st2, rs2, (re.ext e1).ext e2, (DS.thn ((re.ext e1).ext e2) h2).mono fun y2 H3 ⟨u, ds, st3, e3, rs3, ru, h3⟩ => ?_⟩⟩
        split at h3
        · rename_i z2 q2
          split at h3
          · rename_i st4 q3
            exact ⟨ds, old, u, z2, rz.ext e3, ru, q2, ds, st3, v, w, nt z2, st4, rs3, (rv.ext e2).ext e3, rw.ext e3, .int z2, q3, fun fs H4 e4 rs4 => h3 fs H4 e4 rs4 g ((((re.ext e1).ext e2).ext e3).ext e4)⟩
          · exact h3.elim
        · exact h3.elim
      · exact h2.elim⟩⟩
/-! ### plain statements -/
theorem b_exp (hs : isComp a = false) (ha : PE X a (den X.K T xr W ca)) : PS X (.Expr a pos) (denS X.K T xr W (.exp ca)) :=
  PS.imp (ps_expr ha (no_swap hs)) fun D g H ⟨as, e, st, rs, re, h⟩ => ⟨as, e, st, rs, re, (DS.thn re h).mono fun x H1 ⟨v, bs, st1, e1, rs1, rv, h1⟩ => h1 bs H1 .refl rs1 g (re.ext e1)⟩
theorem b_ret (ha : PE X a (den X.K T xr W ca)) : PS X (.Return (some a) pos) (denS X.K T xr W (.ret ca)) :=
  PS.imp (ps_ret ha) fun D g H ⟨as, e, st, rs, re, h⟩ => ⟨as, e, st, rs, re, (DS.thn re h).mono fun x H1 ⟨v, bs, st1, e1, rs1, rv, h1⟩ => h1 bs H1 .refl rs1 x rv⟩
theorem b_nop : PS X (.Pass pos) (denS X.K T xr W .nop) := PS.imp ps_pass fun D g H ⟨as, e, st, rs, re, h⟩ => h as H .refl rs g re
theorem b_brk : PS X (.Break pos) (denS X.K T xr W .brk) := PS.imp ps_break fun D g H ⟨as, e, st, rs, re, h⟩ => h as H .refl rs g re
theorem b_ctn : PS X (.Continue pos) (denS X.K T xr W .ctn) := PS.imp ps_continue fun D g H ⟨as, e, st, rs, re, h⟩ => h as H .refl rs g re
theorem bs_nil : PSs X [] (denB X.K T xr W []) := PSs.imp pss_nil fun D g H ⟨as, e, st, rs, re, h⟩ => h as H .refl rs g re
theorem bs_cons {s : Stmt} {ss : List Stmt} {b : B} {bb : List B} (h1 : PS X s (denS X.K T xr W b)) (h2 : PSs X ss (denB X.K T xr W bb)) : PSs X (s :: ss) (denB X.K T xr W (b :: bb)) :=
  PSs.imp (pss_cons h1 h2) fun D g H ⟨as, e, st, rs, re, h⟩ => ⟨as, e, st, rs, re, by
    have h : DS X.K xr W as H ((Mi.ex T b e st).seq (exs T bb)) D := h
    have q := DS.seq h
    cases hm : Mi.ex T b e st with
    | nx e1 st1 => rw [hm] at q; exact fun bs H1 x rs1 g1 re1 => let ⟨e2, cs, st2, x2, rs2, re2, h2⟩ := q bs H1 x rs1 g1 re1; ⟨cs, e2, st2, rs2, re2, h2⟩
    | rt v st1 => rw [hm] at q; exact q
    | bk e1 st1 => rw [hm] at q; exact q
    | ct e1 st1 => rw [hm] at q; exact q
    | ex c fs e1 st1 => rw [hm] at q; exact q
    | bad => rw [hm] at q; exact q⟩
theorem b_ife {e : PySem.Expr} {q : Q} {ss1 ss2 : List Stmt} {b1 b2 : List B} (hq : PT X e (denT X.K T xr W q)) (h1 : PSs X ss1 (denB X.K T xr W b1)) (h2 : PSs X ss2 (denB X.K T xr W b2)) : PS X (.If e ss1 ss2 pos) (denS X.K T xr W (.ife q b1 b2)) :=
  PS.imp (ps_if hq h1 h2) fun D g H ⟨as, e, st, rs, re, h⟩ => ⟨as, e, st, rs, re, (DS.thn (rel := rEq2) re h).mono fun k H1 ⟨v, bs, st1, e1, rs1, rv, h1⟩ => by
    cases rv
    cases k with
    | true => exact ⟨bs, e, st1, rs1, re.ext e1, h1⟩
    | false => exact ⟨bs, e, st1, rs1, re.ext e1, h1⟩⟩
/-! ### loops -/
theorem b_whl {e : PySem.Expr} {q : Q} {ss : List Stmt} {bb : List B} (hp : PassesOwn (model X.prog X.w) X.A X.env X.xe) (hq : PT X e (denT X.K T xr W q)) (hb : PSs X ss (denB X.K T xr W bb)) : PS X (.While e ss [] pos) (denS X.K T xr W (.whl q bb)) := by
  refine PS.imp (ps_while hp hq hb) fun D g H ⟨as, e, st, rs, re, h⟩ => ?_
  have h : DS X.K xr W as H (wh (evT T q) (exs T bb) e st) D := h
  have hne : wh (evT T q) (exs T bb) e st ≠ .bad := fun z => by rw [z] at h; exact h
  obtain ⟨n, hn⟩ := wh_some hne
  refine ⟨fun m g H => ∃ as e st r, RS X.K as H st ∧ RE X.K as H e g ∧ whN (evT T q) (exs T bb) m e st = some r ∧ DS X.K xr W as H r D, ⟨n, as, e, st, _, rs, re, hn, h⟩, ?_⟩
  rintro m g1 H1 ⟨as1, e1, st1, r, rs1, re1, hw, hd⟩
  cases m with
  | zero => cases hw
  | succ m =>
    unfold whN at hw
    refine ⟨as1, e1, st1, rs1, re1, ?_⟩
    cases hc : evT T q e1 st1 with
    | ex c fs s2 =>
      rw [hc] at hw
      cases (Option.some.inj hw)
      exact fun bs H2 x rs2 cls d z => hd bs H2 x rs2 g1 (re1.ext x) cls d z
    | bad =>
      rw [hc] at hw
      cases (Option.some.inj hw)
      exact hd
    | ok k s2 =>
      rw [hc] at hw
      intro bs H2 x2 rs2 k' hk
      cases hk
      have re2 := re1.ext x2
      cases k with
      | false =>
        cases (Option.some.inj hw)
        rw [if_neg (by simp)]
        exact hd bs H2 x2 rs2 g1 re2
      | true =>
        rw [if_pos rfl]
        refine ⟨fun g H => ∃ as e st r, RS X.K as H st ∧ RE X.K as H e g ∧ whN (evT T q) (exs T bb) m e st = some r ∧ DS X.K xr W as H r D, fun g' H' z => ⟨m, Nat.lt_succ_self m, z⟩, bs, e1, s2, rs2, re2, ?_⟩
        dsimp only at hw
        have hd2 := DS.base x2 hd
        cases hbb : exs T bb e1 s2 with
        | nx e3 s3 => rw [hbb] at hw; exact fun cs H3 x3 rs3 g3 re3 => ⟨cs, e3, s3, r, rs3, re3, hw, DS.base x3 hd2⟩
        | ct e3 s3 => rw [hbb] at hw; exact fun cs H3 x3 rs3 g3 re3 => ⟨cs, e3, s3, r, rs3, re3, hw, DS.base x3 hd2⟩
        | bk e3 s3 => rw [hbb] at hw; cases (Option.some.inj hw); exact fun cs H3 x3 rs3 g3 re3 => hd2 cs H3 x3 rs3 g3 re3
        | rt v s3 => rw [hbb] at hw; cases (Option.some.inj hw); exact hd2
        | ex c fs e3 s3 => rw [hbb] at hw; cases (Option.some.inj hw); exact hd2
        | bad => rw [hbb] at hw; cases (Option.some.inj hw); exact hd2
theorem b_for {tg iter : PySem.Expr} {t : TG} {ci : I} {ss : List Stmt} {bb : List B} (hp : PassesOwn (model X.prog X.w) X.A X.env X.xe) (hc : X.calm = true) (hi : PI X tg iter (denI X.K T xr W ci)) (hg : PG X tg (denG X.K t)) (hb : PSs X ss (denB X.K T xr W bb)) (hs : ∀ x, foldedSetIterable iter X.env x = pure x) :
    PS X (.For tg iter ss [] pos) (denS X.K T xr W (.for_ t ci bb)) := by
  refine PS.imp (ps_for hp hc hi hg hb hs) fun D g H ⟨as, e, st, rs, re, h⟩ => ⟨as, e, st, rs, re, (DS.thn re h).mono fun J H1 ⟨src, bs, st1, e1, rs1, hsrc, h1⟩ => ?_⟩
  refine ⟨fun i n g2 H2 => ∃ cs e2 st2, Ext bs H1 cs H2 ∧ RS X.K cs H2 st2 ∧ RE X.K cs H2 e2 g2 ∧ DS X.K xr W cs H2 (forGo src.get t (exs T bb) n i e2 st2) D, ⟨_, bs, e, st1, .refl, rs1, re.ext e1, h1⟩, ?_⟩
  rintro i n g2 H2 ⟨cs, e2, st2, x2, rs2, re2, h2⟩
  have look := hsrc cs H2 st2 x2 rs2 i
  unfold forGo at h2
  cases hget : src.get st2 i with
  | none => rw [hget] at h2; exact h2.elim
  | some o =>
    rw [hget] at h2 look
    cases o with
    | none => exact .inl ⟨look, h2 cs H2 .refl rs2 g2 re2⟩
    | some d =>
      obtain ⟨go, yl⟩ := look
      cases n with
      | zero => exact h2.elim
      | succ n =>
        dsimp only at h2
        refine .inr ⟨go, fun g' H' => ∃ cs e2 st2, Ext bs H1 cs H' ∧ RS X.K cs H' st2 ∧ RE X.K cs H' e2 g' ∧ DS X.K xr W cs H' (forGo src.get t (exs T bb) n (i + 1) e2 st2) D, fun g' H' q => ⟨n, Nat.lt_succ_self n, q⟩, fun x H' hy => ?_⟩
        obtain ⟨x3, rs3, rd⟩ := yl x H' hy
        cases ha : asg t d e2 with
        | none => rw [ha] at h2; exact h2.elim
        | some e3 =>
          rw [ha] at h2
          dsimp only at h2
          refine ⟨cs, e2, d, e3, re2.ext x3, rd, ha, fun g3 re3 _ => ⟨cs, e3, st2, rs3, re3, ?_⟩⟩
          have h3 := DS.base x3 h2
          cases hbb : exs T bb e3 st2 with
          | nx e4 s4 => rw [hbb] at h3; exact fun ds H4 x4 rs4 g4 re4 => ⟨ds, e4, s4, (x2.trans x3).trans x4, rs4, re4, DS.base x4 h3⟩
          | ct e4 s4 => rw [hbb] at h3; exact fun ds H4 x4 rs4 g4 re4 => ⟨ds, e4, s4, (x2.trans x3).trans x4, rs4, re4, DS.base x4 h3⟩
          | bk e4 s4 => rw [hbb] at h3; exact fun ds H4 x4 rs4 g4 re4 => h3 ds H4 x4 rs4 g4 re4
          | rt v s4 => rw [hbb] at h3; exact h3
          | ex c fs e4 s4 => rw [hbb] at h3; exact h3
          | bad => rw [hbb] at h3; exact h3
end
end Mi

set_option Elab.async false
set_option linter.all false
set_option maxRecDepth 100000
set_option maxHeartbeats 1000000
/-! Mi10: from the written text to the code. -/
namespace Mi
open PySem PySem.Spec PyProof.Rows L2

/-- what is known of the names where the text stands -/
structure Cz where
  N : List Str
  sc : Scope
  blkd : Bool
  mu : List Str
  fns : List (Str × Nat)
  cons : List Str
def bltNames : List Str := ["len", "abs", "int", "list", "tuple", "all", "any", "isinstance", "range", "zip", "enumerate", "bool", "str", "dict", "sorted", "set", "min", "max", "sum", "repr", "reversed"]
def Cz.kind (z : Cz) (x : Str) : Option NameKind := z.sc.names.lookup x
def Cz.slot (z : Cz) (x : Str) : Option Nat := match z.N.findIdx? (· == x) with
  | some i => if z.N[i]? = some x then some i else none
  | none => none
def okName (x : Str) : Bool := !(x == ("__debug__" : Str)) && !(x == ("__classdict__" : Str)) && decide (x ≠ ("__name__" : Str))
def Cz.vis (z : Cz) (x : Str) : Bool := match z.kind x with
  | some .local => true
  | some .cell => true
  | some .free => true
  | _ => false
/-- may be stored -/
def Cz.locs (z : Cz) (x : Str) : Bool := decide (z.kind x = some .local) || (!z.blkd && decide (z.kind x = some .cell))
def Cz.glob (z : Cz) (x : Str) : Bool := decide (z.kind x = some .globalImplicit)
def cVar (z : Cz) (x : Str) : Option C := if okName x then
    if z.vis x then (z.slot x).map .var
    else if z.glob x && z.cons.contains x then some (.glo x) else none
  else none
def cConst (c : Const) : Option C := match c with
  | .int i => some (.cst (.int i))
  | .bool b => some (.cst (.bool b))
  | .none => some (.cst .none)
  | .str s => some (.cst (.str s))
  | _ => none
def bltOf (x : Str) : Option Bf :=
  if x = "len" then some .len else if x = "abs" then some .abs else if x = "int" then some .int else if x = "list" then some .list
  else if x = "tuple" then some .tuple else if x = "all" then some .all else if x = "any" then some .any else if x = "sorted" then some .sorted else none
def tyOfName (x : Str) : Option Ty :=
  if x = Str.ofString "bool" then some .bool else if x = Str.ofString "int" then some .int else if x = Str.ofString "str" then some .str
  else if x = Str.ofString "list" then some .list else if x = Str.ofString "tuple" then some .tuple else if x = Str.ofString "dict" then some .dict else none
def mthOf (x : Str) : Option Mf := if x = "append" then some .append else if x = "extend" then some .extend else none
/-- the names that stand for classes are the built-in ones -/
def Cz.tysFree (z : Cz) (ts : List Ty) : Bool := ts.all fun t => z.glob (Str.ofString t.nm)
def tyList : List PySem.Expr → Option (List Ty)
  | [] => some []
  | .Name x _ :: es => match tyOfName x, tyList es with
    | some t, some ts => some (t :: ts)
    | _, _ => none
  | _ => none
/-- list(zip(..)), sorted(set(..)) -/
def specOf (x : Str) (args : List PySem.Expr) : Option (Str × List PySem.Expr) := match args with
  | [.Call (.Name y _) ys [] _] => if (x = "list" ∧ y = "zip") ∨ (x = "sorted" ∧ y = "set") then some (y, ys) else none
  | _ => none
theorem specOf_some {x y : Str} {args ys : List PySem.Expr} (h : specOf x args = some (y, ys)) : ∃ p p2, args = [.Call (.Name y p) ys [] p2] ∧ ((x = "list" ∧ y = "zip") ∨ (x = "sorted" ∧ y = "set")) := by
  unfold specOf at h
  split at h
  · split at h
    · rename_i hc
      cases (Option.some.inj h)
      exact ⟨_, _, rfl, hc⟩
    · cases h
  · cases h
def isRev (lo hi st : Option PySem.Expr) : Bool := match lo, hi, st with
  | none, none, some (.UnaryOp .USub (.Constant (.int i) _ _) _) => i == 1
  | _, _, _ => false
theorem isRev_some {lo hi st : Option PySem.Expr} (h : isRev lo hi st = true) : ∃ k p p2, lo = none ∧ hi = none ∧ st = some (.UnaryOp .USub (.Constant (.int 1) k p) p2) := by
  unfold isRev at h
  split at h
  · rename_i i k p p2
    have : i = 1 := eq_of_beq h
    subst this
    exact ⟨_, _, _, rfl, rfl, rfl⟩
  · cases h
def notSuper : PySem.Expr → Bool
  | .Call _ _ _ _ => false
  | _ => true
def notSet : PySem.Expr → Bool
  | .Set _ _ _ => false
  | _ => true
mutual
def cT (z : Cz) : Nat → PySem.Expr → Option TG
  | 0, _ => none
  | n + 1, e => match e with
    | .Name x _ => if z.locs x then (z.slot x).map .nm else none
    | .Tuple es _ _ => (cTs z n es).map .tp
    | _ => none
def cTs (z : Cz) : Nat → List PySem.Expr → Option (List TG)
  | 0, _ => none
  | n + 1, es => match es with
    | [] => some []
    | e :: es => if noStar e then match cT z n e, cTs z n es with
        | some t, some ts => some (t :: ts)
        | _, _ => none
      else none
end
/-- a comprehension's own names, with their places -/
def ownOf (z : Cz) (scope : Scope) : List (Str × Nat) := scope.names.filterMap fun p => match p.2 with
  | .local => (z.slot p.1).map fun i => (p.1, i)
  | .cell => (z.slot p.1).map fun i => (p.1, i)
  | _ => none
def Cz.blk (z : Cz) (scope : Scope) : Cz := { z with sc := relS scope z.sc, blkd := true }
mutual
def cE (z : Cz) : Nat → Bool → PySem.Expr → Option C
  | 0, _, _ => none
  | n + 1, m, e => match e with
    | .Name x _ => cVar z x
    | .Constant c _ _ => cConst c
    | .BinOp a op b _ => match cE z n false a, cE z n false b with
      | some x, some y => some (.bin m op x y)
      | _, _ => none
    | .UnaryOp op a _ => match op with
      | .USub => (cE z n false a).map .neg
      | .Not => (cE z n false a).map .notC
      | _ => none
    | .BoolOp op vs _ => cV z n op vs
    | .Compare a ops cs _ => match ops, cs with
      | [op], [b] => if behindInMarks op b then none else match cE z n false a, cE z n false b with
        | some x, some y => some (.cmp op x y)
        | _, _ => none
      | [o1, o2], [b, c] => if lastMarks [o1, o2] [b, c] then none else match cE z n false a, cE z n false b, cE z n false c with
        | some x, some y, some w => some (.chn o1 o2 x y w)
        | _, _, _ => none
      | _, _ => none
    | .IfExp c a b _ => match cQ z n c, cE z n m a, cE z n m b with
      | some q, some x, some y => some (.ifC q x y)
      | _, _, _ => none
    | .Tuple es _ _ => (cEs z n es).map .tup
    | .List es _ => (cEs z n es).map (.lst m)
    | .Call f args kws pos => match kws, f with
      | [], .Name x _ => match args with
        | [] => none
        | a :: rest => match specOf x (a :: rest) with
          | some (y, ys) => if z.glob x && z.glob y then match ys with
              | [a] => if y = "set" && noStar a then (cE z n false a).map fun c => .blt m .sset (.cons c .nil) else none
              | [a, b] => if y = "zip" && (noStar a && noStar b) then match cE z n false a, cE z n false b with
                  | some u, some v => some (.lzip m u v)
                  | _, _ => none
                else none
              | _ => none
            else none
          | none =>
          if x = "isinstance" then (if z.glob x && noStar a then match rest with
            | [.Name t _] => match tyOfName t, cE z n false a with
              | some ty, some c => if z.tysFree [ty] then some (.isi c [ty]) else none
              | _, _ => none
            | [.Tuple ts _ _] => match tyList ts, cE z n false a with
              | some tys, some c => if z.tysFree tys && decide (tys.length ≤ 100) then some (.isi c tys) else none
              | _, _ => none
            | _ => none else none)
          else if z.glob x && okName x then match bltOf x with
            | some f => (cEs z n (a :: rest)).map (.blt m f)
            | none => if z.fns.lookup x = some (rest.length + 1) then (cEs z n (a :: rest)).map (.call x) else none
          else none
      | [], .Attribute o name apos => match args with
        | [] => none
        | a :: rest => if notSuper o && decide ((a :: rest).length < 30) && (apos.endLine == pos.line) then match mthOf name, cE z n false o, cEs z n (a :: rest) with
            | some f, some c, some cs => some (.mth m c f cs)
            | _, _, _ => none
          else none
      | _, _ => none
    | .Subscript a s _ => match s with
      | .Slice lo hi none _ => match cE z n false a, cO z n lo, cO z n hi with
        | some x, some l, some h => some (.sli m x l h)
        | _, _, _ => none
      | .Slice lo hi (some st) _ => if isRev lo hi (some st) then (cE z n false a).map (.rev m) else none
      | s => if plainIx s then match cE z n false a, cE z n false s with
          | some x, some y => some (.idx x y)
          | _, _ => none
        else none
    | .ListComp elt gens scope _ => match gens with
      | [⟨tg, iter, ifs, 0⟩] => cL z n m elt tg iter ifs scope
      | _ => none
    | .DictComp kx vx gens scope _ => match gens with
      | [⟨tg, iter, ifs, 0⟩] => cD z n kx vx tg iter ifs scope
      | _ => none
    | _ => none
/-- a dict comprehension -/
def cD (z : Cz) : Nat → PySem.Expr → PySem.Expr → PySem.Expr → PySem.Expr → List PySem.Expr → Scope → Option C
  | 0, _, _, _, _, _, _ => none
  | n + 1, kx, vx, tg, iter, ifs, scope =>
    if blkC z.N z.sc scope (ownOf z scope) && notSet iter then match cI z n iter, cT (z.blk scope) n tg, cE (z.blk scope) n false kx, cE (z.blk scope) n false vx with
      | some ci, some ct, some ck, some cv => if (slots ct).all (fun i => ((ownOf z scope).map (·.2)).contains i) then match ifs with
          | [] => some (.dc ((ownOf z scope).map (·.2)) ck cv ct ci .yes)
          | [c] => (cQ (z.blk scope) n c).map (.dc ((ownOf z scope).map (·.2)) ck cv ct ci)
          | _ => none
        else none
      | _, _, _, _ => none
    else none
/-- a comprehension -/
def cL (z : Cz) : Nat → Bool → PySem.Expr → PySem.Expr → PySem.Expr → List PySem.Expr → Scope → Option C
  | 0, _, _, _, _, _, _ => none
  | n + 1, m, elt, tg, iter, ifs, scope =>
    if blkC z.N z.sc scope (ownOf z scope) && notSet iter then match cI z n iter, cT (z.blk scope) n tg, cE (z.blk scope) n false elt with
      | some ci, some ct, some ce => if (slots ct).all (fun i => ((ownOf z scope).map (·.2)).contains i) then match ifs with
          | [] => some (.lc m ((ownOf z scope).map (·.2)) ce ct ci .yes)
          | [c] => (cQ (z.blk scope) n c).map (.lc m ((ownOf z scope).map (·.2)) ce ct ci)
          | _ => none
        else none
      | _, _, _ => none
    else none
/-- and, or as values -/
def cV (z : Cz) : Nat → BoolOp → List PySem.Expr → Option C
  | 0, _, _ => none
  | n + 1, op, vs => match vs with
    | [] => none
    | [a] => cE z n false a
    | a :: b :: rest => match cE z n false a, cV z n op (b :: rest) with
      | some x, some y => some (match op with | .And => .andC x y | .Or => .orC x y)
      | _, _ => none
/-- a test -/
def cQ (z : Cz) : Nat → PySem.Expr → Option Q
  | 0, _ => none
  | n + 1, e => match e with
    | .UnaryOp .Not a _ => (cQ z n a).map .neg
    | .BoolOp op vs _ => cW z n op vs
    | .IfExp _ _ _ _ => none
    | e => (cE z n false e).map .val
def cW (z : Cz) : Nat → BoolOp → List PySem.Expr → Option Q
  | 0, _, _ => none
  | n + 1, op, vs => match vs with
    | [] => none
    | [a] => cQ z n a
    | a :: b :: rest => match cQ z n a, cW z n op (b :: rest) with
      | some x, some y => some (match op with | .And => .both x y | .Or => .eith x y)
      | _, _ => none
def cEs (z : Cz) : Nat → List PySem.Expr → Option Cs
  | 0, _ => none
  | n + 1, es => match es with
    | [] => some .nil
    | e :: es => if noStar e then match cE z n false e, cEs z n es with
        | some c, some cs => some (.cons c cs)
        | _, _ => none
      else none
def cO (z : Cz) : Nat → Option PySem.Expr → Option Oc
  | 0, _ => none
  | n + 1, o => match o with
    | none => some .no
    | some e => (cE z n false e).map .so
def cI (z : Cz) : Nat → PySem.Expr → Option I
  | 0, _ => none
  | n + 1, e => match e with
    | .Call (.Name x _) [a] [] _ => if x = "range" && z.glob x && noStar a then (cE z n false a).map (.rng (.cst (.int 0))) else (cE z n false e).map .val
    | .Call (.Name x _) [a, b] [] _ => if x = "range" && z.glob x && noStar a && noStar b then (match cE z n false a, cE z n false b with
        | some x, some y => some (.rng x y)
        | _, _ => none) else (cE z n false e).map .val
    | e => (cE z n false e).map .val
end
/-- where a name is stored: its place -/
def Cz.loc (z : Cz) (x : Str) : Option Nat := if z.locs x then z.slot x else none
/-- name = [..]: stored inside -/
def Cz.sw (z : Cz) (x : Str) (p lp : Pos) (scope : Scope) : Bool := decide (z.kind x = some .local) && (p.line == lp.line) && !(scope.names.any fun (n, k) => n == x && (k == .local || k == .cell))
/-- two names, two values: stored from the right -/
def parOk (z : Cz) (x y : Str) (px py : Pos) (a b : PySem.Expr) : Bool :=
  decide (z.sc.kind = .function) && decide (z.kind x = some .local) && decide (z.kind y = some .local) && (py.line == px.line) && decide (x ≠ y) && noStar a && noStar b &&
  !(foldedForSure 8 a && foldedForSure 8 b) && !(constantsAlone 8 a && constantsAlone 8 b)
def notTuple : PySem.Expr → Bool
  | .Tuple _ _ _ => false
  | _ => true
mutual
def cS (z : Cz) : Nat → Stmt → Option B
  | 0, _ => none
  | n + 1, s => match s with
    | .Assign [tg] v pos => match tg with
      | .Name x p => match z.loc x with
        | some i => match v with
          | .ListComp elt [⟨t, it, ifs, 0⟩] scope lp => if decide (z.sc.kind = .function) then
              if z.sw x p lp scope then (cL z n (z.mu.contains x) elt t it ifs scope).map (.set i) else (cL z n (z.mu.contains x) elt t it ifs scope).map (.set i)
            else none
          | .DictComp kx vx [⟨t, it, ifs, 0⟩] scope lp => if decide (z.sc.kind = .function) && !z.sw x p lp scope then (cD z n kx vx t it ifs scope).map (.set i) else none
          | v => if isComp v then none else (cE z n (z.mu.contains x) v).map (.set i)
        | none => none
      | .Subscript o i _ => if plainIx i then match cE z n false v, cE z n false o, cE z n false i with
          | some c, some co, some ci => some (.six co ci c)
          | _, _, _ => none
        else none
      | .Tuple [.Name x px, .Name y py] kt pt => match v with
        | .Tuple [a, b] _ _ => if parOk z x y px py a b then match z.loc x, z.loc y, cE z n (z.mu.contains x) a, cE z n (z.mu.contains y) b with
            | some i, some j, some ca, some cb => if i ≠ j then some (.par i j ca cb) else none
            | _, _, _, _ => none
          else none
        | v => if notTuple v && !isComp v then match cT z n (.Tuple [.Name x px, .Name y py] kt pt), cE z n false v with
            | some t, some c => some (.tgt t c)
            | _, _ => none
          else none
      | .Tuple es kt pt => if notTuple v && !isComp v then match cT z n (.Tuple es kt pt), cE z n false v with
            | some t, some c => some (.tgt t c)
            | _, _ => none
          else none
      | _ => none
    | .AugAssign tg op v _ => match tg with
      | .Name x _ => match z.loc x, cE z n false v with
        | some i, some c => some (.aug i op c)
        | _, _ => none
      | .Subscript o i _ => if plainIx i then match cE z n false o, cE z n false i, cE z n false v with
          | some co, some ci, some c => some (.aix co ci op c)
          | _, _, _ => none
        else none
      | _ => none
    | .Expr v _ => if isComp v then none else (cE z n false v).map .exp
    | .Return (some v) _ => (cE z n (z.mu.contains ("return" : Str)) v).map .ret
    | .If c a b _ => match cQ z n c, cBs z n a, cBs z n b with
      | some q, some x, some y => some (.ife q x y)
      | _, _, _ => none
    | .While c a [] _ => match cQ z n c, cBs z n a with
      | some q, some x => some (.whl q x)
      | _, _ => none
    | .For tg it a [] _ => if notSet it then match cT z n tg, cI z n it, cBs z n a with
        | some t, some i, some x => some (.for_ t i x)
        | _, _, _ => none
      else none
    | .Pass _ => some .nop
    | .Break _ => some .brk
    | .Continue _ => some .ctn
    | _ => none
def cBs (z : Cz) : Nat → List Stmt → Option (List B)
  | 0, _ => none
  | n + 1, ss => match ss with
    | [] => some []
    | s :: ss => match cS z n s, cBs z n ss with
      | some b, some bs => some (b :: bs)
      | _, _ => none
end
end Mi

set_option Elab.async false
set_option linter.all false
set_option maxRecDepth 100000
set_option maxHeartbeats 2000000
/-! Mi11: the code of a text does what the text does. -/
namespace Mi
open PySem PySem.Spec PyProof.Rows L2

structure Good (X : Cx) (z : Cz) (T : Tab) (xr : XR) (W : WX) : Prop where
  N : X.N = z.N
  sc : X.env.scope = z.sc
  nd : X.N.Nodup
  calm : X.calm = true
  un : X.A.units + 66 < cLine
  tk : Takes X W
  fn : z.blkd = false → ∀ x, X.fn x = true
  glo : ∀ x, z.cons.contains x = true → ∃ v u w, T.glo x = some v ∧ X.mg x = some u ∧ RelV w u ∧ ∀ H, RP X.K H v w
  blt : ∀ x ∈ bltNames, X.mg x = none
  fns : ∀ f n, z.fns.lookup f = some n → FnS X xr (T.fn f) f n
section
variable {X : Cx} {z : Cz} {T : Tab} {xr : XR} {W : WX}
theorem Good.slot (G : Good X z T xr W) {x : Str} {i : Nat} (h : z.slot x = some i) : X.N[i]? = some x := by
  unfold Cz.slot at h
  split at h
  · split at h
    · rename_i q
      cases (Option.some.inj h)
      rw [G.N]; exact q
    · cases h
  · cases h
theorem Good.vis (G : Good X z T xr W) {x : Str} (h : z.vis x = true) : Vis X.env.scope x := by
  unfold Cz.vis Cz.kind at h
  unfold Vis
  rw [G.sc]
  split at h
  · rename_i q; exact .inl q
  · rename_i q; exact .inr (.inl q)
  · rename_i q; exact .inr (.inr q)
  · cases h
theorem Good.gl (G : Good X z T xr W) {x : Str} (h : z.glob x = true) : Gl X x := by
  have q : z.sc.names.lookup x = some .globalImplicit := of_decide_eq_true h
  show X.env.scope.names.lookup x = some .globalImplicit
  rw [G.sc]; exact q
theorem Good.locs (G : Good X z T xr W) {x : Str} (h : z.locs x = true) : Loc X.env.scope x ∧ (X.fn x = true ∨ X.env.scope.names.lookup x = some .local) := by
  unfold Cz.locs Cz.kind at h
  simp only [Bool.or_eq_true, Bool.and_eq_true, decide_eq_true_eq, Bool.not_eq_true'] at h
  rw [← G.sc] at h
  rcases h with h | h
  · exact ⟨.inl h, .inr h⟩
  · exact ⟨.inr h.2, .inl (G.fn h.1 x)⟩
theorem Good.loc (G : Good X z T xr W) {x : Str} {i : Nat} (h : z.loc x = some i) : X.N[i]? = some x ∧ Loc X.env.scope x ∧ (X.fn x = true ∨ X.env.scope.names.lookup x = some .local) := by
  unfold Cz.loc at h
  split at h
  · rename_i q
    exact ⟨G.slot h, G.locs q⟩
  · cases h
theorem Good.blk (G : Good X z T xr W) (s : Shared) (H : Hp) (scope : Scope) (c : Addr) (cl : List (Str × Addr)) (fp : List Addr) : Good (X.blk s H scope (compEnvC scope cl c X.env) fp) (z.blk scope) T xr W0 where
  N := G.N
  sc := by
    show relS scope X.env.scope = relS scope z.sc
    rw [G.sc]
  nd := G.nd
  calm := G.calm
  un := G.un
  tk := takes0
  fn := fun h => by cases h
  glo := G.glo
  blt := G.blt
  fns := fun f n h => ⟨(G.fns f n h).ok⟩
theorem okName_iff {x : Str} (h : okName x = true) : (x == ("__debug__" : Str)) = false ∧ (x == ("__classdict__" : Str)) = false ∧ x ≠ ("__name__" : Str) := by
  unfold okName at h
  simp only [Bool.and_eq_true, Bool.not_eq_true', decide_eq_true_eq] at h
  exact ⟨h.1.1, h.1.2, h.2⟩
theorem cVar_ok (G : Good X z T xr W) {x : Str} {p : Pos} {c : C} (h : cVar z x = some c) : PE X (.Name x p) (den X.K T xr W c) := by
  unfold cVar at h
  split at h
  · rename_i hn
    obtain ⟨n1, n2, n3⟩ := okName_iff hn
    split at h
    · rename_i hv
      obtain ⟨i, hi, rfl⟩ := Option.map_eq_some_iff.mp h
      exact p_var (G.slot hi) (G.vis hv) n1 n2
    · split at h
      · rename_i hg
        simp only [Bool.and_eq_true] at hg
        cases (Option.some.inj h)
        obtain ⟨v, u, w, h1, h2, h3, h4⟩ := G.glo x hg.2
        exact p_glo (G.gl hg.1) h2 h3 h1 h4 n1
      · cases h
  · cases h
theorem cConst_ok {k : Const} {j : Nat} {p : Pos} {c : C} (h : cConst k = some c) : PE X (.Constant k j p) (den X.K T xr W c) := by
  cases k <;> first | (cases h; done) | (cases (Option.some.inj h); first | exact p_int | exact p_bool | exact p_none | exact p_str)
theorem ty_of {x : Str} {t : Ty} (h : tyOfName x = some t) : x = Str.ofString t.nm ∧ t ≠ .none := by
  unfold tyOfName at h
  repeat' split at h
  all_goals first | (cases h; done) | (rename_i q; cases (Option.some.inj h); exact ⟨q, fun z => by cases z⟩)
theorem ty_list : ∀ {es : List PySem.Expr} {ts : List Ty}, tyList es = some ts → tyNames es ts = true
  | [], ts, h => by cases (Option.some.inj h); rfl
  | e :: es, ts, h => by
    cases e with
    | Name x p =>
      unfold tyList at h
      split at h
      · rename_i t ts' h1 h2
        cases (Option.some.inj h)
        obtain ⟨rfl, hn⟩ := ty_of h1
        show (decide (t ≠ .none) && tyOk (Str.ofString t.nm) t && tyNames es ts') = true
        rw [ty_list h2]
        simp [hn, tyOk]
      · cases h
    | _ => cases h
theorem tys_free (G : Good X z T xr W) {ts : List Ty} (h : z.tysFree ts = true) : ∀ t ∈ ts, t ≠ .none → Gl X (Str.ofString t.nm) ∧ X.mg (Str.ofString t.nm) = none := fun t ht hn => by
  unfold Cz.tysFree at h
  rw [List.all_eq_true] at h
  refine ⟨G.gl (h t ht), G.blt _ ?_⟩
  cases t <;> first | exact absurd rfl hn | decide +kernel
theorem base_ok {o : PySem.Expr} {name : Str} {w : Sem Value} (h : notSuper o = true) : attributeBase o name X.env w = w := by
  cases o <;> first | rfl | cases h
theorem set_ok {e : PySem.Expr} (h : notSet e = true) (x : Value) : foldedSetIterable e X.env x = pure x := by
  cases e <;> first | rfl | cases h
theorem truth_ok {e : PySem.Expr} (h : (match e with | .UnaryOp .Not _ _ => false | .BoolOp _ _ _ => false | .IfExp _ _ _ _ => false | .Compare _ _ _ _ => false | _ => true) = true) : ∀ whole, isTrue e X.env whole = (do let v ← whole; standAt e.pos; holding [v] (truthy v)) := by
  intro whole
  cases e <;> first | rfl | (cases h; done) | skip
  rename_i op _ _
  cases op <;> first | rfl | cases h
theorem slot_append : Slot "list" "append" "list.append" := PySem.F.slot_list_append
theorem slot_extend : Slot "list" "extend" "list.extend" := PySem.F.slot_list_extend
theorem mthOf_ok {name : Str} {f : Mf} {m : Bool} (h : mthOf name = some f) : ∃ id, Slot "list" name id ∧ typeOf (.builtin id) = pure (.type "method_descriptor") ∧ MtR X id (rM X.K (method m f)) := by
  unfold mthOf at h
  split at h
  · rename_i q; subst q; cases (Option.some.inj h); exact ⟨_, slot_append, PySem.F.type_list_append, m_append m⟩
  · split at h
    · rename_i q; subst q; cases (Option.some.inj h); exact ⟨_, slot_extend, PySem.F.type_list_extend, m_extend m⟩
    · cases h
end

/-- the code up to a depth is right -/
structure Snd (n : Nat) : Prop where
  E : ∀ {X : Cx} {z : Cz} {T : Tab} {xr : XR} {W : WX} {m : Bool} {e : PySem.Expr} {c : C}, Good X z T xr W → cE z n m e = some c → PE X e (den X.K T xr W c)
  L : ∀ {X : Cx} {z : Cz} {T : Tab} {xr : XR} {W : WX} {m : Bool} {elt tg iter : PySem.Expr} {ifs : List PySem.Expr} {scope : Scope} {c : C}, Good X z T xr W → cL z n m elt tg iter ifs scope = some c →
    ∃ (own : List (Str × Nat)) (ce : C) (ct : TG) (ci : I) (cq : Q), c = .lc m (own.map (·.2)) ce ct ci cq ∧ PI X tg iter (denI X.K T xr W ci) ∧ BlkOk X.N X.env.scope scope own ∧
      (∀ (s : Shared) (H : Hp) (C : Addr) (cl : List (Str × Addr)) (fp : List Addr), PG (X.blk s H scope (compEnvC scope cl C X.env) fp) tg (denG X.K ct)) ∧
      (∀ (s : Shared) (H : Hp) (C : Addr) (cl : List (Str × Addr)) (fp : List Addr), PTs (X.blk s H scope (compEnvC scope cl C X.env) fp) ifs (denT X.K T xr W0 cq)) ∧
      (∀ (s : Shared) (H : Hp) (C : Addr) (cl : List (Str × Addr)) (fp : List Addr), PE (X.blk s H scope (compEnvC scope cl C X.env) fp) elt (den X.K T xr W0 ce)) ∧
      notSet iter = true ∧ ∀ i ∈ slots ct, i ∈ own.map (·.2)
  D : ∀ {X : Cx} {z : Cz} {T : Tab} {xr : XR} {W : WX} {kx vx tg iter : PySem.Expr} {ifs : List PySem.Expr} {scope : Scope} {p : Pos} {c : C}, Good X z T xr W → cD z n kx vx tg iter ifs scope = some c → PE X (.DictComp kx vx [⟨tg, iter, ifs, 0⟩] scope p) (den X.K T xr W c)
  V : ∀ {X : Cx} {z : Cz} {T : Tab} {xr : XR} {W : WX} {op : BoolOp} {vs : List PySem.Expr} {c : C} {p : Pos}, Good X z T xr W → cV z n op vs = some c → PE X (.BoolOp op vs p) (den X.K T xr W c)
  Q : ∀ {X : Cx} {z : Cz} {T : Tab} {xr : XR} {W : WX} {e : PySem.Expr} {c : Q}, Good X z T xr W → cQ z n e = some c → PT X e (denT X.K T xr W c)
  QC : ∀ {X : Cx} {z : Cz} {T : Tab} {xr : XR} {W : WX} {a : PySem.Expr} {ops : List CmpOp} {cs : List PySem.Expr} {p : Pos} {c : C}, Good X z T xr W → cE z n false (.Compare a ops cs p) = some c → PT X (.Compare a ops cs p) (denT X.K T xr W (.val c))
  W : ∀ {X : Cx} {z : Cz} {T : Tab} {xr : XR} {W : WX} {op : BoolOp} {vs : List PySem.Expr} {c : Mi.Q} {p : Pos}, Good X z T xr W → cW z n op vs = some c → PW X (.BoolOp op vs p) (denT X.K T xr W c)
  A : ∀ {X : Cx} {z : Cz} {T : Tab} {xr : XR} {W : WX} {es : List PySem.Expr} {c : Cs}, Good X z T xr W → cEs z n es = some c → PA X es (denA X.K T xr W c) ∧ es.all noStar = true
  O : ∀ {X : Cx} {z : Cz} {T : Tab} {xr : XR} {W : WX} {e : Option PySem.Expr} {c : Oc}, Good X z T xr W → cO z n e = some c → PO X e (denO X.K T xr W c)
  I : ∀ {X : Cx} {z : Cz} {T : Tab} {xr : XR} {W : WX} {e tg : PySem.Expr} {c : I}, Good X z T xr W → cI z n e = some c → PI X tg e (denI X.K T xr W c)
  T : ∀ {X : Cx} {z : Cz} {T : Tab} {xr : XR} {W : WX} {e : PySem.Expr} {t : TG}, Good X z T xr W → cT z n e = some t → PG X e (denG X.K t) ∧ noStar e = true
  Ts : ∀ {X : Cx} {z : Cz} {T : Tab} {xr : XR} {W : WX} {es : List PySem.Expr} {ts : List TG}, Good X z T xr W → cTs z n es = some ts → PGs X es (denGs X.K ts) ∧ es.all noStar = true ∧ es.length = ts.length
theorem snd_0 : Snd 0 := by
  constructor <;> (intros; rename_i h; cases h)
section
variable {X : Cx} {z : Cz} {T : Tab} {xr : XR} {W : WX} {n : Nat}
theorem stepT (ih : Snd n) {e : PySem.Expr} {t : TG} (G : Good X z T xr W) (h : cT z (n + 1) e = some t) : PG X e (denG X.K t) ∧ noStar e = true := by
  unfold cT at h
  split at h
  · split at h
    · rename_i q
      obtain ⟨i, hi, rfl⟩ := Option.map_eq_some_iff.mp h
      exact ⟨g_nm G.nd (G.slot hi) (G.locs q).1 (G.locs q).2, rfl⟩
    · cases h
  · obtain ⟨ts, h1, rfl⟩ := Option.map_eq_some_iff.mp h
    obtain ⟨g1, g2, g3⟩ := ih.Ts G h1
    exact ⟨g_tp G.calm g2 g3 g1, rfl⟩
  · cases h
theorem stepTs (ih : Snd n) {es : List PySem.Expr} {ts : List TG} (G : Good X z T xr W) (h : cTs z (n + 1) es = some ts) : PGs X es (denGs X.K ts) ∧ es.all noStar = true ∧ es.length = ts.length := by
  unfold cTs at h
  split at h
  · cases (Option.some.inj h)
    exact ⟨gs_nil, rfl, rfl⟩
  · split at h
    · rename_i hs
      split at h
      · rename_i t ts' h1 h2
        cases (Option.some.inj h)
        obtain ⟨g1, g2⟩ := ih.T G h1
        obtain ⟨g3, g4, g5⟩ := ih.Ts G h2
        exact ⟨gs_cons hs g1 g3, by simp only [List.all_cons, hs, g4, Bool.and_self], by simp [g5]⟩
      · cases h
    · cases h
theorem stepA (ih : Snd n) {es : List PySem.Expr} {c : Cs} (G : Good X z T xr W) (h : cEs z (n + 1) es = some c) : PA X es (denA X.K T xr W c) ∧ es.all noStar = true := by
  unfold cEs at h
  split at h
  · cases (Option.some.inj h)
    exact ⟨a_nil, rfl⟩
  · split at h
    · rename_i hs
      split at h
      · rename_i c1 cs h1 h2
        cases (Option.some.inj h)
        obtain ⟨g1, g2⟩ := ih.A G h2
        exact ⟨a_cons hs (ih.E G h1) g1, by simp only [List.all_cons, hs, g2, Bool.and_self]⟩
      · cases h
    · cases h
theorem stepO (ih : Snd n) {e : Option PySem.Expr} {c : Oc} (G : Good X z T xr W) (h : cO z (n + 1) e = some c) : PO X e (denO X.K T xr W c) := by
  unfold cO at h
  split at h
  · cases (Option.some.inj h)
    exact o_no
  · obtain ⟨c1, h1, rfl⟩ := Option.map_eq_some_iff.mp h
    exact o_so (ih.E G h1)
theorem stepI (ih : Snd n) {e tg : PySem.Expr} {c : I} (G : Good X z T xr W) (h : cI z (n + 1) e = some c) : PI X tg e (denI X.K T xr W c) := by
  unfold cI at h
  split at h
  · split at h
    · rename_i hc
      simp only [Bool.and_eq_true, decide_eq_true_eq] at hc
      obtain ⟨⟨rfl, h1⟩, h2⟩ := hc
      obtain ⟨c1, h3, rfl⟩ := Option.map_eq_some_iff.mp h
      exact i_rng1 (G.gl h1) (G.blt _ (by decide +kernel)) h2 (ih.E G h3)
    · obtain ⟨c1, h3, rfl⟩ := Option.map_eq_some_iff.mp h
      exact i_val (ih.E G h3)
  · split at h
    · rename_i hc
      simp only [Bool.and_eq_true, decide_eq_true_eq] at hc
      obtain ⟨⟨⟨rfl, h1⟩, h2⟩, h3⟩ := hc
      split at h
      · rename_i c1 c2 h4 h5
        cases (Option.some.inj h)
        exact i_rng (G.gl h1) (G.blt _ (by decide +kernel)) h2 h3 (ih.E G h4) (ih.E G h5)
      · cases h
    · obtain ⟨c1, h3, rfl⟩ := Option.map_eq_some_iff.mp h
      exact i_val (ih.E G h3)
  · obtain ⟨c1, h3, rfl⟩ := Option.map_eq_some_iff.mp h
    exact i_val (ih.E G h3)
theorem stepV (ih : Snd n) {op : BoolOp} {vs : List PySem.Expr} {c : C} {p : Pos} (G : Good X z T xr W) (h : cV z (n + 1) op vs = some c) : PE X (.BoolOp op vs p) (den X.K T xr W c) := by
  unfold cV at h
  split at h
  · cases h
  · exact pe_one (ih.E G h)
  · split at h
    · rename_i x y h1 h2
      cases (Option.some.inj h)
      cases op with
      | And => exact p_and (ih.E G h1) (ih.V G h2)
      | Or => exact p_or (ih.E G h1) (ih.V G h2)
    · cases h
theorem stepW (ih : Snd n) {op : BoolOp} {vs : List PySem.Expr} {c : Mi.Q} {p : Pos} (G : Good X z T xr W) (h : cW z (n + 1) op vs = some c) : PW X (.BoolOp op vs p) (denT X.K T xr W c) := by
  unfold cW at h
  split at h
  · cases h
  · cases op with
    | And => exact pw_and1 (ih.Q G h)
    | Or => exact pw_or1 (ih.Q G h)
  · split at h
    · rename_i x y h1 h2
      cases (Option.some.inj h)
      cases op with
      | And => exact t_and (ih.Q G h1) (ih.W G h2)
      | Or => exact t_or (ih.Q G h1) (ih.W G h2)
    · cases h
theorem stepL (ih : Snd n) {m : Bool} {elt tg iter : PySem.Expr} {ifs : List PySem.Expr} {scope : Scope} {c : C} (G : Good X z T xr W) (h : cL z (n + 1) m elt tg iter ifs scope = some c) :
    ∃ (own : List (Str × Nat)) (ce : C) (ct : TG) (ci : I) (cq : Q), c = .lc m (own.map (·.2)) ce ct ci cq ∧ PI X tg iter (denI X.K T xr W ci) ∧ BlkOk X.N X.env.scope scope own ∧
      (∀ (s : Shared) (H : Hp) (C : Addr) (cl : List (Str × Addr)) (fp : List Addr), PG (X.blk s H scope (compEnvC scope cl C X.env) fp) tg (denG X.K ct)) ∧
      (∀ (s : Shared) (H : Hp) (C : Addr) (cl : List (Str × Addr)) (fp : List Addr), PTs (X.blk s H scope (compEnvC scope cl C X.env) fp) ifs (denT X.K T xr W0 cq)) ∧
      (∀ (s : Shared) (H : Hp) (C : Addr) (cl : List (Str × Addr)) (fp : List Addr), PE (X.blk s H scope (compEnvC scope cl C X.env) fp) elt (den X.K T xr W0 ce)) ∧
      notSet iter = true ∧ ∀ i ∈ slots ct, i ∈ own.map (·.2) := by
  unfold cL at h
  split at h
  · rename_i hb
    simp only [Bool.and_eq_true] at hb
    split at h
    · rename_i ci ct ce h1 h2 h3
      split at h
      · rename_i hown
        have ho : ∀ i ∈ slots ct, i ∈ (ownOf z scope).map (·.2) := fun i hi => by
          have := (List.all_eq_true.mp hown) i hi
          exact List.contains_iff_mem.mp this
        have ok : BlkOk X.N X.env.scope scope (ownOf z scope) := by rw [G.N, G.sc]; exact blkOk_by hb.1
        split at h
        · cases (Option.some.inj h)
          exact ⟨_, ce, ct, ci, .yes, rfl, ih.I G h1, ok, fun s H C cl fp => (ih.T (G.blk s H scope C cl fp) h2).1, fun s H C cl fp => ts_none, fun s H C cl fp => ih.E (G.blk s H scope C cl fp) h3, hb.2, ho⟩
        · obtain ⟨q, h4, rfl⟩ := Option.map_eq_some_iff.mp h
          exact ⟨_, ce, ct, ci, q, rfl, ih.I G h1, ok, fun s H C cl fp => (ih.T (G.blk s H scope C cl fp) h2).1, fun s H C cl fp => pts_one (ih.Q (G.blk s H scope C cl fp) h4), fun s H C cl fp => ih.E (G.blk s H scope C cl fp) h3, hb.2, ho⟩
        · cases h
      · cases h
    · cases h
  · cases h
theorem stepD (ih : Snd n) {kx vx tg iter : PySem.Expr} {ifs : List PySem.Expr} {scope : Scope} {p : Pos} {c : C} (G : Good X z T xr W) (h : cD z (n + 1) kx vx tg iter ifs scope = some c) : PE X (.DictComp kx vx [⟨tg, iter, ifs, 0⟩] scope p) (den X.K T xr W c) := by
  unfold cD at h
  split at h
  · rename_i hb
    simp only [Bool.and_eq_true] at hb
    split at h
    · rename_i ci ct ck cv h1 h2 h3 h4
      split at h
      · rename_i hown
        have ho : ∀ i ∈ slots ct, i ∈ (ownOf z scope).map (·.2) := fun i hi => List.contains_iff_mem.mp ((List.all_eq_true.mp hown) i hi)
        have ok : BlkOk X.N X.env.scope scope (ownOf z scope) := by rw [G.N, G.sc]; exact blkOk_by hb.1
        split at h
        · cases (Option.some.inj h)
          exact p_dc G.calm G.nd (ih.I G h1) ok (fun s H C cl fp => (ih.T (G.blk s H scope C cl fp) h2).1) (fun s H C cl fp => ts_none) (fun s H C cl fp => ih.E (G.blk s H scope C cl fp) h3) (fun s H C cl fp => ih.E (G.blk s H scope C cl fp) h4) (set_ok hb.2) ho
        · obtain ⟨q, h5, rfl⟩ := Option.map_eq_some_iff.mp h
          exact p_dc G.calm G.nd (ih.I G h1) ok (fun s H C cl fp => (ih.T (G.blk s H scope C cl fp) h2).1) (fun s H C cl fp => pts_one (ih.Q (G.blk s H scope C cl fp) h5)) (fun s H C cl fp => ih.E (G.blk s H scope C cl fp) h3) (fun s H C cl fp => ih.E (G.blk s H scope C cl fp) h4) (set_ok hb.2) ho
        · cases h
      · cases h
    · cases h
  · cases h
theorem blt_ok (G : Good X z T xr W) {x : Str} {p pos : Pos} {f : Bf} {m : Bool} {a : PySem.Expr} {es : List PySem.Expr} {cs : Cs} (hg : z.glob x = true) (hn : okName x = true) (h : bltOf x = some f) (ha : PA X (a :: es) (denA X.K T xr W cs)) (hs : (a :: es).all noStar = true) :
    PE X (.Call (.Name x p) (a :: es) [] pos) (den X.K T xr W (.blt m f cs)) := by
  obtain ⟨n1, n2, n3⟩ := okName_iff hn
  have g := G.gl hg
  unfold bltOf at h
  split at h
  · rename_i q; subst q; cases (Option.some.inj h); exact p_blt (c_len m) g (G.blt _ (by decide +kernel)) boot_len hs ha n3 n1
  split at h
  · rename_i q; subst q; cases (Option.some.inj h); exact p_blt (c_abs m) g (G.blt _ (by decide +kernel)) boot_abs hs ha n3 n1
  split at h
  · rename_i q; subst q; cases (Option.some.inj h); exact p_bty (c_int m) g (G.blt _ (by decide +kernel)) boot_int hs ha n3 n1
  split at h
  · rename_i q; subst q; cases (Option.some.inj h); exact p_bty (c_list m) g (G.blt _ (by decide +kernel)) boot_list hs ha n3 n1
  split at h
  · rename_i q; subst q; cases (Option.some.inj h); exact p_bty (c_tuple m) g (G.blt _ (by decide +kernel)) boot_tuple hs ha n3 n1
  split at h
  · rename_i q; subst q; cases (Option.some.inj h); exact p_blt (c_all m G.calm) g (G.blt _ (by decide +kernel)) (by decide +kernel) hs ha n3 n1
  split at h
  · rename_i q; subst q; cases (Option.some.inj h); exact p_blt (c_any m G.calm) g (G.blt _ (by decide +kernel)) (by decide +kernel) hs ha n3 n1
  split at h
  · rename_i q; subst q; cases (Option.some.inj h); exact p_blt (c_sorted m G.calm) g (G.blt _ (by decide +kernel)) (by decide +kernel) hs ha n3 n1
  · cases h
theorem stepQ (ih : Snd n) {e : PySem.Expr} {c : Mi.Q} (G : Good X z T xr W) (h : cQ z (n + 1) e = some c) : PT X e (denT X.K T xr W c) := by
  unfold cQ at h
  split at h
  · obtain ⟨c1, h3, rfl⟩ := Option.map_eq_some_iff.mp h
    exact t_not (ih.Q G h3)
  · exact (ih.W G h).pt
  · cases h
  · rename_i n1 n2 n3
    obtain ⟨c1, h3, rfl⟩ := Option.map_eq_some_iff.mp h
    cases e with
    | Compare a ops cs p => exact ih.QC G h3
    | _ => exact t_truth (ih.E G h3) (truth_ok (by first | rfl | (rename_i op _ _; cases op <;> first | rfl | exact absurd rfl (n1 _ _)) | exact absurd rfl (n2 _ _ _) | exact absurd rfl (n3 _ _ _ _)))
theorem stepC (ih : Snd n) {a : PySem.Expr} {ops : List CmpOp} {cs : List PySem.Expr} {p : Pos} {c : C} {m : Bool} (G : Good X z T xr W) (h : cE z (n + 1) m (.Compare a ops cs p) = some c) :
    PE X (.Compare a ops cs p) (den X.K T xr W c) ∧ PT X (.Compare a ops cs p) (denT X.K T xr W (.val c)) := by
  unfold cE at h
  dsimp only at h
  split at h
  · split at h
    · cases h
    · rename_i hm
      split at h
      · rename_i x y h5 h6
        cases (Option.some.inj h)
        exact ⟨p_cmp G.un (ih.E G h5) (ih.E G h6) (by simpa using hm), t_cmp G.un (ih.E G h5) (ih.E G h6) (by simpa using hm)⟩
      · cases h
  · split at h
    · cases h
    · rename_i hm
      split at h
      · rename_i x y w h5 h6 h7
        cases (Option.some.inj h)
        exact ⟨p_chn G.un (ih.E G h5) (ih.E G h6) (ih.E G h7) (by simpa using hm), t_chn G.un (ih.E G h5) (ih.E G h6) (ih.E G h7) (by simpa using hm)⟩
      · cases h
  · cases h
theorem stepCall (ih : Snd n) {f : PySem.Expr} {args : List PySem.Expr} {kws : List Keyword} {pos : Pos} {c : C} {m : Bool} (G : Good X z T xr W) (h : cE z (n + 1) m (.Call f args kws pos) = some c) : PE X (.Call f args kws pos) (den X.K T xr W c) := by
  unfold cE at h
  dsimp only at h
  split at h
  · rename_i x p
    split at h
    · cases h
    · rename_i a rest
      split at h
      · rename_i y ys hsp
        obtain ⟨p1, p2, hargs, hxy⟩ := specOf_some hsp
        cases hargs
        split at h
        · rename_i hg
          simp only [Bool.and_eq_true] at hg
          split at h
          · rename_i e1
            split at h
            · rename_i hc
              simp only [Bool.and_eq_true, decide_eq_true_eq] at hc
              obtain ⟨c1, h4, rfl⟩ := Option.map_eq_some_iff.mp h
              rcases hxy with ⟨_, rfl⟩ | ⟨rfl, rfl⟩
              · exact absurd hc.1 (by decide +kernel)
              · exact p_sset G.calm (G.gl hg.1) (G.blt _ (by decide +kernel)) (G.gl hg.2) (G.blt _ (by decide +kernel)) (ih.E G h4) hc.2
            · cases h
          · rename_i e1 e2
            split at h
            · rename_i hc
              simp only [Bool.and_eq_true, decide_eq_true_eq] at hc
              split at h
              · rename_i u v h4 h5
                cases (Option.some.inj h)
                rcases hxy with ⟨rfl, rfl⟩ | ⟨_, rfl⟩
                · exact p_lzip G.calm (G.gl hg.1) (G.blt _ (by decide +kernel)) (G.gl hg.2) (G.blt _ (by decide +kernel)) (ih.E G h4) (ih.E G h5) hc.2.1 hc.2.2
                · exact absurd hc.1 (by decide +kernel)
              · cases h
            · cases h
          · cases h
        · cases h
      split at h
      · rename_i hx
        subst hx
        split at h
        · rename_i hc
          simp only [Bool.and_eq_true] at hc
          obtain ⟨h1, h3⟩ := hc
          split at h
          · split at h
            · rename_i ty c1 h4 h5
              split at h
              · rename_i h2
                cases (Option.some.inj h)
                obtain ⟨rfl, hn⟩ := ty_of h4
                have tf := tys_free G h2 ty List.mem_cons_self hn
                exact p_isi1 hn (G.gl h1) (G.blt _ (by decide +kernel)) tf.1 tf.2 h3 (ih.E G h5)
              · cases h
            · cases h
          · split at h
            · rename_i tys c1 h4 h5
              split at h
              · rename_i hl
                simp only [Bool.and_eq_true, decide_eq_true_eq] at hl
                cases (Option.some.inj h)
                exact p_isiT (G.gl h1) (G.blt _ (by decide +kernel)) (tys_free G hl.1) (ty_list h4) hl.2 h3 (ih.E G h5)
              · cases h
            · cases h
          · cases h
        · cases h
      · split at h
        · rename_i hc
          simp only [Bool.and_eq_true] at hc
          split at h
          · rename_i f hf
            obtain ⟨cs, h4, rfl⟩ := Option.map_eq_some_iff.mp h
            obtain ⟨g1, g2⟩ := ih.A G h4
            exact blt_ok G hc.1 hc.2 hf g1 g2
          · split at h
            · rename_i hk
              obtain ⟨cs, h4, rfl⟩ := Option.map_eq_some_iff.mp h
              obtain ⟨g1, g2⟩ := ih.A G h4
              exact p_call G.tk (G.fns _ _ hk) (G.gl hc.1) g2 g1 (okName_iff hc.2).1
            · cases h
        · cases h
  · rename_i o name apos
    split at h
    · cases h
    · rename_i a rest
      split at h
      · rename_i hc
        simp only [Bool.and_eq_true, decide_eq_true_eq] at hc
        split at h
        · rename_i mf c1 cs h4 h5 h6
          cases (Option.some.inj h)
          obtain ⟨id, s1, s2, s3⟩ := mthOf_ok (X := X) (m := m) h4
          obtain ⟨g1, g2⟩ := ih.A G h6
          exact p_mth s1 s2 s3 (ih.E G h5) g1 g2 hc.1.2 hc.2 (base_ok hc.1.1)
        · cases h
      · cases h
  · cases h
theorem stepE (ih : Snd n) {e : PySem.Expr} {c : C} {m : Bool} (G : Good X z T xr W) (h : cE z (n + 1) m e = some c) : PE X e (den X.K T xr W c) := by
  cases e with
  | Name x p => exact cVar_ok G h
  | Constant k j p => exact cConst_ok h
  | BinOp a op b p =>
    unfold cE at h
    dsimp only at h
    split at h
    · rename_i x y h1 h2
      cases (Option.some.inj h)
      exact p_bin (ih.E G h1) (ih.E G h2)
    · cases h
  | UnaryOp op a p =>
    unfold cE at h
    dsimp only at h
    split at h
    · obtain ⟨x, h1, rfl⟩ := Option.map_eq_some_iff.mp h
      exact p_neg (ih.E G h1)
    · obtain ⟨x, h1, rfl⟩ := Option.map_eq_some_iff.mp h
      exact p_not (ih.E G h1)
    · cases h
  | BoolOp op vs p => exact ih.V G h
  | Compare a ops cs p => exact (stepC ih G h).1
  | IfExp q a b p =>
    unfold cE at h
    dsimp only at h
    split at h
    · rename_i x y w h1 h2 h3
      cases (Option.some.inj h)
      exact p_if (ih.Q G h1) (ih.E G h2) (ih.E G h3)
    · cases h
  | Tuple es k p =>
    obtain ⟨cs, h1, rfl⟩ := Option.map_eq_some_iff.mp (show (cEs z n es).map C.tup = some c from h)
    exact p_tup (ih.A G h1).1
  | List es p =>
    obtain ⟨cs, h1, rfl⟩ := Option.map_eq_some_iff.mp (show (cEs z n es).map (C.lst m) = some c from h)
    exact p_lst (ih.A G h1).1
  | Call f args kws p => exact stepCall ih G h
  | Subscript a s p =>
    unfold cE at h
    dsimp only at h
    split at h
    · split at h
      · rename_i x l u h1 h2 h3
        cases (Option.some.inj h)
        exact p_sli (ih.E G h1) (ih.O G h2) (ih.O G h3)
      · cases h
    · split at h
      · rename_i hr
        obtain ⟨x, h1, rfl⟩ := Option.map_eq_some_iff.mp h
        obtain ⟨k, q1, q2, rfl, rfl, e⟩ := isRev_some hr
        cases (Option.some.inj e)
        exact p_rev (ih.E G h1)
      · cases h
    · split at h
      · rename_i hp
        split at h
        · rename_i x y h1 h2
          cases (Option.some.inj h)
          exact p_idx (ih.E G h1) (ih.E G h2) hp
        · cases h
      · cases h
  | ListComp elt gens scope p =>
    unfold cE at h
    dsimp only at h
    split at h
    · obtain ⟨own, ce, ct, ci, cq, rfl, h1, h2, h3, h4, h5, h6, h7⟩ := ih.L G h
      exact p_lc G.calm G.nd h1 h2 h3 h4 h5 (set_ok h6) h7
    · cases h
  | DictComp kx vx gens scope p =>
    unfold cE at h
    dsimp only at h
    split at h
    · exact ih.D G h
    · cases h
  | _ => cases h
theorem snd_all : ∀ n, Snd n
  | 0 => snd_0
  | n + 1 =>
    have ih := snd_all n
    { E := fun G h => stepE ih G h
      L := fun G h => stepL ih G h
      D := fun G h => stepD ih G h
      V := fun G h => stepV ih G h
      Q := fun G h => stepQ ih G h
      QC := fun G h => (stepC ih G h).2
      W := fun G h => stepW ih G h
      A := fun G h => stepA ih G h
      O := fun G h => stepO ih G h
      I := fun G h => stepI ih G h
      T := fun G h => stepT ih G h
      Ts := fun G h => stepTs ih G h }

/-! ### statements -/
theorem par_ok (G : Good X z T xr W) {x y : Str} {px py pt p2 : Pos} {a b : PySem.Expr} {kt k2 : Nat} (h : parOk z x y px py a b = true) :
    swappedStores [.Tuple [.Name x px, .Name y py] kt pt] (.Tuple [a, b] k2 p2) X.env = pure (some [x, y]) := by
  unfold parOk at h
  simp only [Bool.and_eq_true, Bool.not_eq_true', Cz.kind] at h
  obtain ⟨⟨⟨⟨⟨⟨⟨⟨h1, h2⟩, h3⟩, h4⟩, h5⟩, h6⟩, h7⟩, h8⟩, h9⟩ := h
  have kx : X.env.kindOf x = some .local := by show X.env.scope.names.lookup x = _; rw [G.sc]; exact of_decide_eq_true h2
  have ky : X.env.kindOf y = some .local := by show X.env.scope.names.lookup y = _; rw [G.sc]; exact of_decide_eq_true h3
  have hb : X.env.blockKind = .function := by unfold PySem.Env.blockKind; rw [G.sc, of_decide_eq_true h1]; rfl
  have sa : (match (generalizing := false) a with | .Starred _ _ => true | _ => false) = false := by cases a <;> first | rfl | cases h6
  have sb : (match (generalizing := false) b with | .Starred _ _ => true | _ => false) = false := by cases b <;> first | rfl | cases h7
  have pl : py.line = px.line := eq_of_beq h4
  have ne : x ≠ y := of_decide_eq_true h5
  have dup : [x, y].eraseDups = [x, y] := by
    have : (y == x) = false := beq_false_of_ne (Ne.symm ne)
    simp [List.eraseDups_cons, this]
  unfold swappedStores
  simp [hb, kx, ky, PySem.Expr.pos, h8, h9]
  rw [if_neg (by exact fun h => h.elim (fun q => Bool.noConfusion (sa.symm.trans q)) fun q => Bool.noConfusion (sb.symm.trans q))]
  simp [List.filterMap_cons, ky, pl, dup]
end
end Mi

set_option Elab.async false
set_option linter.all false
set_option maxRecDepth 100000
set_option maxHeartbeats 4000000
/-! Mi12: statements of a text. -/
namespace Mi
open PySem PySem.Spec PyProof.Rows L2
structure SndB (n : Nat) : Prop where
  S : ∀ {X : Cx} {z : Cz} {T : Tab} {xr : XR} {W : WX} {s : Stmt} {b : B}, Good X z T xr W → PassesOwn (model X.prog X.w) X.A X.env X.xe → cS z n s = some b → PS X s (denS X.K T xr W b)
  Ss : ∀ {X : Cx} {z : Cz} {T : Tab} {xr : XR} {W : WX} {s : List Stmt} {b : List B}, Good X z T xr W → PassesOwn (model X.prog X.w) X.A X.env X.xe → cBs z n s = some b → PSs X s (denB X.K T xr W b)
theorem sndb_0 : SndB 0 := by
  constructor <;> (intros; rename_i h; cases h)
section
variable {X : Cx} {z : Cz} {T : Tab} {xr : XR} {W : WX} {n : Nat}
theorem tuple_swap {es : List PySem.Expr} {kt : Nat} {pt : Pos} {v : PySem.Expr} {l : Nat} {env : PySem.Env} (h : isComp v = false) : swapsWithSole [.Tuple es kt pt] v l env = pure false := (show swapsWith v (some (.Tuple es kt pt)) l env = pure false from no_swap h)
theorem tuple_store {es : List PySem.Expr} {kt : Nat} {pt : Pos} {v : PySem.Expr} {env : PySem.Env} (h : notTuple v = true) : swappedStores [.Tuple es kt pt] v env = pure none := by
  cases v <;> first | rfl | cases h
theorem sw_no (G : Good X z T xr W) {x : Str} {p lp : Pos} {scope : Scope} {elt : PySem.Expr} {gs : List Comprehension} {l : Nat} (hk : X.env.scope.kind = .function) (h : z.sw x p lp scope = false) : swapsWith (.ListComp elt gs scope lp) (some (.Name x p)) l X.env = pure false := by
  unfold Cz.sw Cz.kind at h
  rw [← G.sc] at h
  have hb : X.env.blockKind = .function := by unfold PySem.Env.blockKind; rw [hk]; rfl
  have hd : decide (X.env.scope.names.lookup x = some .local) = (X.env.kindOf x == some .local) := by
    show _ = (X.env.scope.names.lookup x == some .local)
    cases X.env.scope.names.lookup x with
    | none => rfl
    | some k => cases k <;> rfl
  show pure (X.env.blockKind == .function && X.env.kindOf x == some .local && p.line == lp.line && !(scope.names.any fun (n, k) => n == x && (k == .local || k == .cell))) = _
  rw [hb, ← hd]
  show pure (true && _ && _ && _) = _
  rw [Bool.true_and, h]
theorem sw_noD (G : Good X z T xr W) {x : Str} {p lp : Pos} {scope : Scope} {kx vx : PySem.Expr} {gs : List Comprehension} {l : Nat} (hk : X.env.scope.kind = .function) (h : z.sw x p lp scope = false) : swapsWith (.DictComp kx vx gs scope lp) (some (.Name x p)) l X.env = pure false := by
  unfold Cz.sw Cz.kind at h
  rw [← G.sc] at h
  have hb : X.env.blockKind = .function := by unfold PySem.Env.blockKind; rw [hk]; rfl
  have hd : decide (X.env.scope.names.lookup x = some .local) = (X.env.kindOf x == some .local) := by
    show _ = (X.env.scope.names.lookup x == some .local)
    cases X.env.scope.names.lookup x with
    | none => rfl
    | some k => cases k <;> rfl
  show pure (X.env.blockKind == .function && X.env.kindOf x == some .local && p.line == lp.line && !(scope.names.any fun (n, k) => n == x && (k == .local || k == .cell))) = _
  rw [hb, ← hd]
  show pure (true && _ && _ && _) = _
  rw [Bool.true_and, h]
theorem stepAsg (ih : SndB n) {tg v : PySem.Expr} {pos : Pos} {b : B} (G : Good X z T xr W) (h : cS z (n + 1) (.Assign [tg] v pos) = some b) : PS X (.Assign [tg] v pos) (denS X.K T xr W b) := by
  have sn := snd_all n
  unfold cS at h
  dsimp only at h
  split at h
  · rename_i x p
    split at h
    · rename_i i hi
      obtain ⟨l1, l2⟩ := G.loc hi
      split at h
      · rename_i elt t it ifs scope lp
        split at h
        · rename_i hk
          have hk : X.env.scope.kind = .function := by rw [G.sc]; exact of_decide_eq_true hk
          split at h
          · rename_i hc
            unfold Cz.sw Cz.kind at hc
            simp only [Bool.and_eq_true, Bool.not_eq_true', decide_eq_true_eq] at hc
            have lc : X.env.scope.names.lookup x = some .local := by rw [G.sc]; exact hc.1.1
            obtain ⟨c, hl, rfl⟩ := Option.map_eq_some_iff.mp h
            obtain ⟨own, ce, ct, ci, cq, rfl, h1, h2, h3, h4, h5, h6, h7⟩ := sn.L G hl
            exact b_setLc G.calm G.nd l1 lc (sw_true hk lc hc.1.2 hc.2) h1 h2 h3 h4 h5 (set_ok h6) h7
          · rename_i hc
            obtain ⟨c, hl, rfl⟩ := Option.map_eq_some_iff.mp h
            obtain ⟨own, ce, ct, ci, cq, rfl, h1, h2, h3, h4, h5, h6, h7⟩ := sn.L G hl
            exact b_set G.nd l1 l2.1 l2.2 (p_lc G.calm G.nd h1 h2 h3 h4 h5 (set_ok h6) h7) (sw_no G hk (by simpa using hc))
        · cases h
      · rename_i kx vx t it ifs scope lp
        split at h
        · rename_i hc
          simp only [Bool.and_eq_true, Bool.not_eq_true', decide_eq_true_eq] at hc
          have hk : X.env.scope.kind = .function := by rw [G.sc]; exact hc.1
          obtain ⟨c, hl, rfl⟩ := Option.map_eq_some_iff.mp h
          exact b_set G.nd l1 l2.1 l2.2 (sn.D G hl) (sw_noD G hk hc.2)
        · cases h
      · split at h
        · cases h
        · rename_i hs
          obtain ⟨c, hl, rfl⟩ := Option.map_eq_some_iff.mp h
          exact b_set G.nd l1 l2.1 l2.2 (sn.E G hl) (no_swap (by simpa using hs))
    · cases h
  · split at h
    · rename_i hp
      split at h
      · rename_i c co ci h1 h2 h3
        cases (Option.some.inj h)
        exact b_six hp (sn.E G h1) (sn.E G h2) (sn.E G h3)
      · cases h
    · cases h
  · split at h
    · split at h
      · rename_i hp
        split at h
        · rename_i i j ca cb h1 h2 h3 h4
          split at h
          · rename_i hij
            cases (Option.some.inj h)
            have hp2 := hp
            unfold parOk at hp2
            simp only [Bool.and_eq_true] at hp2
            exact b_par G.calm G.nd (G.loc h1).1 (G.loc h2).1 hij (by rw [G.sc]; exact of_decide_eq_true hp2.1.1.1.1.1.1.1.2) (by rw [G.sc]; exact of_decide_eq_true hp2.1.1.1.1.1.1.2) hp2.1.1.1.2 hp2.1.1.2 (sn.E G h3) (sn.E G h4) (par_ok G hp)
          · cases h
        · cases h
      · cases h
    · split at h
      · rename_i hc
        simp only [Bool.and_eq_true, Bool.not_eq_true'] at hc
        split at h
        · rename_i t c h1 h2
          cases (Option.some.inj h)
          obtain ⟨g1, g2⟩ := sn.T G h1
          exact b_tgt (sn.E G h2) g1 (tuple_swap hc.2) (tuple_store hc.1) g2
        · cases h
      · cases h
  · split at h
    · rename_i hc
      simp only [Bool.and_eq_true, Bool.not_eq_true'] at hc
      split at h
      · rename_i t c h1 h2
        cases (Option.some.inj h)
        obtain ⟨g1, g2⟩ := sn.T G h1
        exact b_tgt (sn.E G h2) g1 (tuple_swap hc.2) (tuple_store hc.1) g2
      · cases h
    · cases h
  · cases h
theorem stepAug (ih : SndB n) {tg v : PySem.Expr} {op : Operator} {pos : Pos} {b : B} (G : Good X z T xr W) (h : cS z (n + 1) (.AugAssign tg op v pos) = some b) : PS X (.AugAssign tg op v pos) (denS X.K T xr W b) := by
  have sn := snd_all n
  unfold cS at h
  dsimp only at h
  split at h
  · split at h
    · rename_i i c h1 h2
      cases (Option.some.inj h)
      exact b_aug G.nd (G.loc h1).1 (G.loc h1).2.1 (G.loc h1).2.2 (sn.E G h2)
    · cases h
  · split at h
    · rename_i hp
      split at h
      · rename_i co ci c h1 h2 h3
        cases (Option.some.inj h)
        exact b_aix hp (sn.E G h1) (sn.E G h2) (sn.E G h3)
      · cases h
    · cases h
  · cases h
theorem stepS (ih : SndB n) {s : Stmt} {b : B} (G : Good X z T xr W) (hp : PassesOwn (model X.prog X.w) X.A X.env X.xe) (h : cS z (n + 1) s = some b) : PS X s (denS X.K T xr W b) := by
  have sn := snd_all n
  cases s with
  | Assign tgs v pos =>
    cases tgs with
    | nil => unfold cS at h; cases h
    | cons tg tl => cases tl with
      | nil => exact stepAsg ih G h
      | cons _ _ => unfold cS at h; cases h
  | AugAssign tg op v pos => exact stepAug ih G h
  | Expr v pos =>
    unfold cS at h
    dsimp only at h
    split at h
    · cases h
    · rename_i hs
      obtain ⟨c, hl, rfl⟩ := Option.map_eq_some_iff.mp h
      exact b_exp (by simpa using hs) (sn.E G hl)
  | Return v pos =>
    cases v with
    | none => unfold cS at h; cases h
    | some v =>
      unfold cS at h
      obtain ⟨c, hl, rfl⟩ := Option.map_eq_some_iff.mp h
      exact b_ret (sn.E G hl)
  | If c a b pos =>
    unfold cS at h
    dsimp only at h
    split at h
    · rename_i q x y h1 h2 h3
      cases (Option.some.inj h)
      exact b_ife (sn.Q G h1) (ih.Ss G hp h2) (ih.Ss G hp h3)
    · cases h
  | While c a o pos =>
    cases o with
    | cons _ _ => unfold cS at h; cases h
    | nil =>
      unfold cS at h
      dsimp only at h
      split at h
      · rename_i q x h1 h2
        cases (Option.some.inj h)
        exact b_whl hp (sn.Q G h1) (ih.Ss G hp h2)
      · cases h
  | For tg it a o pos =>
    cases o with
    | cons _ _ => unfold cS at h; cases h
    | nil =>
      unfold cS at h
      dsimp only at h
      split at h
      · rename_i hs
        split at h
        · rename_i t i x h1 h2 h3
          cases (Option.some.inj h)
          exact b_for hp G.calm (sn.I G h2) (sn.T G h1).1 (ih.Ss G hp h3) (set_ok hs)
        · cases h
      · cases h
  | Pass pos => unfold cS at h; cases (Option.some.inj h); exact b_nop
  | Break pos => unfold cS at h; cases (Option.some.inj h); exact b_brk
  | Continue pos => unfold cS at h; cases (Option.some.inj h); exact b_ctn
  | _ => unfold cS at h; cases h
theorem stepSs (ih : SndB n) {s : List Stmt} {b : List B} (G : Good X z T xr W) (hp : PassesOwn (model X.prog X.w) X.A X.env X.xe) (h : cBs z (n + 1) s = some b) : PSs X s (denB X.K T xr W b) := by
  unfold cBs at h
  split at h
  · cases (Option.some.inj h)
    exact bs_nil
  · split at h
    · rename_i b1 bs h1 h2
      cases (Option.some.inj h)
      exact bs_cons (ih.S G hp h1) (ih.Ss G hp h2)
    · cases h
theorem sndb_all : ∀ n, SndB n
  | 0 => sndb_0
  | n + 1 =>
    have ih := sndb_all n
    { S := fun G hp h => stepS ih G hp h
      Ss := fun G hp h => stepSs ih G hp h }
end
end Mi

set_option Elab.async false
set_option linter.all false
set_option maxRecDepth 100000
set_option maxHeartbeats 2000000
/-! Mi13: defs. -/
namespace Mi
open PySem PySem.Spec PyProof.Rows L2
section
variable {K : PySem.W.Frag} {xr : XR} {as bs : List Addr} {H H' : Hp} {E : XK} {Q : VK}
theorem ext_in {cs : List Addr} (hc : ∀ b ∈ cs, b ∈ as) (x : Ext cs H bs H') : Ext as H as H' :=
  ⟨⟨[], by simp, by simp⟩, x.tups, x.frzs, fun b o h k => x.frm b o h fun z => k (hc b z), x.kp⟩
theorem same_in {st : Store} (rs : RS K as H st) (x : Ext [] H bs H') : ∀ b ∈ as, H' b = H b := fun b hb => by
  obtain ⟨i, hi⟩ := List.mem_iff_getElem?.mp hb
  cases q : H b with
  | none => exact absurd q (rs.live i b hi)
  | some o => exact x.frm b o q (by simp)
theorem pd_off {cs ds : List Addr} {kvs : List (Ky × D)} {ws : List (Key × V)} (hp : (kvs.all fun q => isP q.2) = true) (h : Paired (fun (p : Ky × D) (q : Key × V) => p.1 = q.1 ∧ RD K cs H p.2 q.2) kvs ws) : Paired (fun (p : Ky × D) (q : Key × V) => p.1 = q.1 ∧ RD K ds H p.2 q.2) kvs ws := by
  induction kvs generalizing ws with
  | nil => cases h; exact .nil
  | cons q kvs ih =>
    cases h with
    | cons r t =>
      rw [List.all_cons, Bool.and_eq_true] at hp
      refine .cons ⟨r.1, ?_⟩ (ih hp.2 t)
      obtain ⟨k, d⟩ := q
      cases d with
      | p v => exact r.2
      | r n => exact absurd hp.1 (by simp [isP])
theorem plain_cell {c : Cell} {a : Addr} {cs ds : List Addr} (hp : plain c = true) (h : RC K cs H c a) : RC K ds H c a := by
  cases c with
  | lst es =>
    obtain ⟨vs, h1, h2⟩ := h
    obtain ⟨ys, q⟩ := Option.isSome_iff_exists.mp (show (pures es).isSome = true from hp)
    exact ⟨vs, h1, by have := (pures_rep h2 q).toD (as := ds); rw [pures_eq q]; exact this⟩
  | dic kvs =>
    obtain ⟨ws, h1, h2⟩ := h
    exact ⟨ws, h1, pd_off hp h2⟩
  | ins _ _ => cases hp
  | dead => cases hp
theorem live_cell {c : Cell} {a : Addr} {cs : List Addr} (hp : plain c = true) (h : RC K cs H c a) : ∃ o, H a = some o := by
  cases c with
  | lst es => obtain ⟨vs, h1, _⟩ := h; exact ⟨_, h1⟩
  | dic kvs => obtain ⟨ws, h1, _⟩ := h; exact ⟨_, h1⟩
  | ins _ _ => cases hp
  | dead => cases hp
theorem leave_ok {r : S} {st : Store} (rs : RS K as H st) (h : DG K xr (fun cls d _ H' => E cls d H') (RD K) [] as H (leave r st) Q) :
    DS K xr (fun cls d _ H' => E cls d H') [] H r { nx := fun _ H' => Q .non H', rt := Q } := by
  have go : ∀ {cs : List Addr} {H' : Hp}, Ext [] H cs H' → Ext as H as H' ∧ RS K as H' st := fun x => ⟨ext_in (by simp) x, rs.off x.keep (same_in rs x)⟩
  unfold leave at h
  split at h
  · exact fun bs H' x rs' g re => let ⟨e, rr⟩ := go x; h as H' e rr _ .non
  · exact fun bs H' x rs' v rv => let ⟨e, rr⟩ := go x; h as H' e rr _ rv
  · rename_i k st1
    split at h
    · rename_i c hc
      split at h
      · rename_i hp
        intro bs H' x rs' v rv
        obtain ⟨e, rr⟩ := go x
        obtain ⟨b, hb, rfl⟩ := rv
        obtain ⟨more, em, nm⟩ := x.pre
        have hn : H b = none := nm b (by rw [List.nil_append] at em; rw [← em]; exact List.mem_of_getElem? hb)
        have hnb : b ∉ as := rs.not_mem hn
        have q := plain_cell (ds := as) hp (rs'.cell k c b hc hb)
        obtain ⟨o, ho⟩ := live_cell hp q
        refine h (as ++ [b]) H' ⟨⟨[b], rfl, fun p hp => by simp at hp; rw [hp]; exact hn⟩, e.tups, e.frzs, e.frm, e.kp⟩ (rr.take ho hnb q) _ ⟨b, ?_, rfl⟩
        rw [rs.len]; simp
      · exact h.elim
    · exact h.elim
  · exact fun bs H' x rs' g re cls d q => let ⟨e, rr⟩ := go x; h as H' e rr cls d q
  · exact h.elim
theorem back_ok {st st1 st2 : Store} {n : Nat} {a : Addr} (rs : RS K as H st) (ha : as[n]? = some a) (hb : back n st st1 = some st2) (x : Ext [a] H bs H') (rs' : RS K bs H' st1) : Ext as H as H' ∧ RS K as H' st2 := by
  have mem : a ∈ as := List.mem_of_getElem? ha
  have e : Ext as H as H' := ext_in (by simp [mem]) x
  refine ⟨e, ?_⟩
  unfold back at hb
  split at hb
  · rename_i c hc
    split at hb
    · rename_i hp
      cases (Option.some.inj hb)
      have h0 : bs[0]? = some a := x.at_ (i := 0) rfl
      refine ⟨by simp [rs.len], rs.inj, fun i b hi => ?_, fun i d b hd hi => ?_⟩
      · intro z
        exact rs.live i b hi (x.kp b z)
      · by_cases hin : n = i
        · subst hin
          rw [ha] at hi
          cases hi
          have hlt : n < st.length := by rw [rs.len]; exact (List.getElem?_eq_some_iff.mp ha).1
          rw [List.getElem?_set_self hlt] at hd
          cases hd
          exact plain_cell hp (rs'.cell 0 _ _ hc h0)
        · rw [List.getElem?_set_ne hin] at hd
          have hba : b ≠ a := fun z => hin (rs.inj n i a ha (by rw [← z]; exact hi))
          obtain ⟨o, ho⟩ : ∃ o, H b = some o := by
            cases q : H b with
            | none => exact absurd q (rs.live i b hi)
            | some o => exact ⟨o, rfl⟩
          exact (rs.cell i d b hd hi).ext e ((x.frm b o ho (by simp [hba])).trans ho.symm)
    · cases hb
  · cases hb
theorem leaveF_ok {r : S} {st : Store} {n : Nat} {a : Addr} (rs : RS K as H st) (ha : as[n]? = some a) (h : DG K xr (fun cls d _ H' => E cls d H') (RD K) [] as H (leaveF n r st) Q) :
    DS K xr (fun cls d _ H' => E cls d H') [a] H r { nx := fun _ H' => Q .non H', rt := Q } := by
  unfold leaveF at h
  split at h
  · split at h
    · rename_i st2 hb
      exact fun bs H' x rs' g re => let ⟨e, rr⟩ := back_ok rs ha hb x rs'; h as H' e rr _ .non
    · exact h.elim
  · split at h
    · rename_i st2 hb
      exact fun bs H' x rs' v rv => let ⟨e, rr⟩ := back_ok rs ha hb x rs'; h as H' e rr _ rv
    · exact h.elim
  · split at h
    · rename_i st2 hb
      exact fun bs H' x rs' g re cls d q => let ⟨e, rr⟩ := back_ok rs ha hb x rs'; h as H' e rr cls d q
    · exact h.elim
  · exact h.elim
theorem re_start {cs : List Addr} {N : List Str} {ds : List D} {vs : List V} {n : Nat} (hN : N.length = n) (h : RDs K cs H ds vs) : RE K cs H (startE n ds) (L2.start N vs) := by
  have hl := Paired.length h
  refine ⟨by unfold startE L2.start; simp [hl, hN], fun i d hi => ?_⟩
  unfold startE at hi
  unfold L2.start
  by_cases q : i < ds.length
  · rw [List.getElem?_append_left (by simpa using q), List.getElem?_map] at hi
    obtain ⟨d', h1, h2⟩ := Option.map_eq_some_iff.mp hi
    cases h2
    obtain ⟨u, hu, ru⟩ := paired_at h h1
    exact ⟨u, by rw [List.getElem?_append_left (by rw [List.length_map, ← hl]; exact q), List.getElem?_map, hu]; rfl, ru⟩
  · rw [List.getElem?_append_right (by simpa using q), List.getElem?_replicate] at hi
    split at hi <;> cases hi
theorem rds_off {cs ds' : List Addr} {ds : List D} {vs : List V} (h : RDs K cs H ds vs) (hp : (pures ds).isSome = true) : RDs K ds' H ds vs := by
  obtain ⟨ys, q⟩ := Option.isSome_iff_exists.mp hp
  have := (pures_rep h q).toD (as := ds')
  rw [pures_eq q]; exact this
theorem callD_ok {T : Tab} {d : Def} {ds : List D} {vs : List V} {st : Store} {N : List Str} (hN : N.length = d.ns) (rs : RS K as H st) (rd : RDs K as H ds vs) (h : DG K xr (fun cls d _ H' => E cls d H') (RD K) [] as H (callD T d ds st) Q) :
    denB K T xr (fun cls d _ H' => E cls d H') d.body { nx := fun _ H' => Q .non H', rt := Q } (L2.start N vs) H := by
  unfold callD at h
  split at h
  · rename_i hl
    split at h
    · split at h
      · rename_i ys hy
        refine ⟨[], startE d.ns ds, [], ⟨rfl, fun i j a h1 => by simp at h1, fun i a h1 => by simp at h1, fun i c a h1 => by simp at h1⟩, re_start hN (rds_off rd (by rw [hy]; rfl)), leave_ok rs h⟩
      · exact h.elim
    · split at h
      · rename_i n rest
        split at h
        · rename_i c ys hc hy
          split at h
          · rename_i hp
            cases rd with
            | cons r1 r2 =>
              obtain ⟨a, ha, rfl⟩ := r1
              refine ⟨[a], startE d.ns (.r 0 :: rest), [c], ⟨rfl, fun i j b h1 h2 => ?_, fun i b h1 => ?_, fun i k b h1 h2 => ?_⟩, re_start hN (.cons ⟨a, rfl, rfl⟩ (rds_off r2 (by rw [hy]; rfl))), leaveF_ok rs ha h⟩
              · have := (List.getElem?_eq_some_iff.mp h1).1
                have := (List.getElem?_eq_some_iff.mp h2).1
                simp at *
                omega
              · have l1 := (List.getElem?_eq_some_iff.mp h1).1
                have : i = 0 := by simp at l1; omega
                subst this
                simp at h1
                subst h1
                exact rs.live n a ha
              · have l1 := (List.getElem?_eq_some_iff.mp h1).1
                have : i = 0 := by simp at l1; omega
                subst this
                simp at h1 h2
                subst h1
                subst h2
                exact plain_cell hp (rs.cell n _ _ hc ha)
          · exact h.elim
        · exact h.elim
      · exact h.elim
  · exact h.elim
end
end Mi

set_option Elab.async false
set_option linter.all false
set_option maxRecDepth 100000
set_option maxHeartbeats 2000000
/-! Mi14: a program of defs. -/
namespace Mi
open PySem PySem.Spec PyProof.Rows L2
/-- a def of the text, with its code -/
structure DefT where
  x : Str
  qual : Str
  params : Arguments
  ps : List Str
  N : List Str
  scope : Scope
  text : List Stmt
  mu : List Str
  fuel : Nat
  d : Def
structure Prog where
  ts : List DefT
  cons : List (Str × PyData)
def Prog.at_ (p : Prog) (f : Str) : Option DefT := p.ts.find? fun t => t.x == f
def Prog.fn (p : Prog) (f : Str) : Option Def := (p.at_ f).map (·.d)
def Prog.gl (p : Prog) (x : Str) : Option PyData := p.cons.lookup x
def Prog.cz (p : Prog) (t : DefT) : Cz := ⟨t.N, t.scope, false, t.mu, p.ts.map fun t => (t.x, t.ps.length), p.cons.map (·.1)⟩
@[irreducible] noncomputable def Prog.run (p : Prog) (n : Nat) (f : Str) : List D → Store → R D := fnAt p.fn p.gl n f
theorem run_def (p : Prog) (n : Nat) (f : Str) : p.run n f = fnAt p.fn p.gl n f := by unfold Prog.run; rfl
theorem run_fun (p : Prog) (n : Nat) : p.run n = fnAt p.fn p.gl n := funext fun f => run_def p n f
structure DefT.Ok (p : Prog) (t : DefT) : Prop where
  sco : FnScope t.N t.ps t.scope
  cod : cBs (p.cz t) t.fuel t.text = some t.d.body
  num : t.d.ps = t.ps.length ∧ t.N.length = t.d.ns
  bnd : ∀ (kV doc pm : Value) (an : Option Addr) (cdv ct : Value) (us : List Value), us.length = t.ps.length → bindArgs (PySem.W.fnOf t.x t.qual t.params t.text t.scope .none kV doc pm an cdv ct) ⟨us, []⟩ = pure (t.ps.zip us)
structure At (p : Prog) (K : PySem.W.Frag) (mg : Str → Option Value) : Prop where
  fns : ∀ t ∈ p.ts, ∃ a fd, mg t.x = some (.ref a) ∧ FunD K t.x t.qual t.params t.text t.scope [] [] a fd
  glo : ∀ x v, p.cons.lookup x = some v → ∃ u w, mg x = some u ∧ RelV w u ∧ ∀ H, RP K H v w
  blt : ∀ x ∈ bltNames, mg x = none
theorem find_of_lookup : ∀ {ts : List DefT} {f : Str} {n : Nat}, (ts.map fun t => (t.x, t.ps.length)).lookup f = some n → ∃ t, ts.find? (fun t => t.x == f) = some t ∧ t.ps.length = n
  | [], _, _, h => by cases h
  | t :: ts, f, n, h => by
    rw [List.map_cons, List.lookup_cons] at h
    by_cases e : t.x = f
    · subst e
      rw [beq_self_eq_true] at h
      exact ⟨t, by simp, Option.some.inj h⟩
    · have e1 : (f == t.x) = false := beq_false_of_ne (Ne.symm e)
      have e2 : (t.x == f) = false := beq_false_of_ne e
      rw [e1] at h
      obtain ⟨t', h1, h2⟩ := find_of_lookup h
      exact ⟨t', by rw [List.find?_cons, e2]; exact h1, h2⟩
theorem cons_of : ∀ {cs : List (Str × PyData)} {x : Str}, (cs.map (·.1)).contains x = true → ∃ v, cs.lookup x = some v
  | [], _, h => by cases h
  | (y, v) :: cs, x, h => by
    rw [List.lookup_cons]
    cases e : (x == y) with
    | true => exact ⟨v, rfl⟩
    | false =>
      rw [List.map_cons, List.contains_cons, e, Bool.false_or] at h
      exact cons_of h
section
variable {p : Prog} {P : Program} {w : World} {K : PySem.W.Frag} {mg : Str → Option Value} {base : Heap} {xr : XR}
theorem fnOk_bad {fd : FuncData} {a : Addr} {ps : List Str} {F : List D → Store → R D} (h : ∀ ds st, F ds st = .bad) : FnOk P w K mg base (CX P w) 0 a fd ps (spF K xr F) := by
  refine ⟨fun vs H Q E hs => ?_, fun A outer s H args us vs Q E _ _ _ _ hs => ?_⟩
  · obtain ⟨as, st, ds, _, _, q⟩ := hs
    rw [h] at q; exact q.elim
  · obtain ⟨as, st, ds, _, _, q⟩ := hs
    rw [h] at q; exact q.elim
theorem at_mem {f : Str} {t : DefT} (h : p.at_ f = some t) : t ∈ p.ts ∧ t.x = f := by
  unfold Prog.at_ at h
  exact ⟨List.mem_of_find?_eq_some h, by simpa using List.find?_some h⟩
theorem run_ok (O : ∀ t ∈ p.ts, t.Ok p) (A : At p K mg) : ∀ (n : Nat) {f : Str} {t : DefT} {a : Addr} {fd : FuncData}, p.at_ f = some t → mg t.x = some (.ref a) → FunD K t.x t.qual t.params t.text t.scope [] [] a fd →
    FnOk P w K mg base (CX P w) n a fd t.ps (spF K xr (p.run n f))
  | 0, f, t, a, fd, hf, hm, F => fnOk_bad fun _ _ => by rw [run_def]; rfl
  | n + 1, f, t, a, fd, hf, hm, F => by
    obtain ⟨ht, hx⟩ := at_mem hf
    have OT := O t ht
    have e : ∀ ds st, p.run (n + 1) f ds st = callD ⟨fnAt p.fn p.gl n, p.gl⟩ t.d ds st := fun ds st => by
      rw [run_def]
      show (match p.fn f with | some d => callD ⟨fnAt p.fn p.gl n, p.gl⟩ d ds st | none => R.bad) = _
      have : p.fn f = some t.d := by unfold Prog.fn; rw [hf]; rfl
      rw [this]
    refine F.ok OT.sco (fun vs H Q E hs => ?_) fun cdv A' outer s H vs Q E hr hs => ?_
    · obtain ⟨as, st, ds, rs, rd, q⟩ := hs
      rw [e] at q
      unfold callD at q
      split at q
      · rename_i hl
        rw [← Paired.length rd, hl.1, OT.num.1]
      · exact q.elim
    · obtain ⟨as, st, ds, rs, rd, q⟩ := hs
      rw [e] at q
      refine ⟨_, ?_, callD_ok OT.num.2 rs rd q⟩
      have G : Good (cxOf (CX P w) P w K mg base t.N t.qual t.scope a cdv A' outer s H E) (p.cz t) ⟨fnAt p.fn p.gl n, p.gl⟩ xr (fun cls d _ H' => E cls d H') := by
        refine ⟨rfl, rfl, OT.sco.nd, rfl, ?_, takes_of rfl rfl rfl rfl, fun _ _ => rfl, fun x hx => ?_, A.blt, fun g m hg => ⟨?_⟩⟩
        · have := hr.un
          show (A'.deeper _).units + 66 < cLine
          omega
        · obtain ⟨v, hv⟩ := cons_of hx
          obtain ⟨u, w, h1, h2, h3⟩ := A.glo x v hv
          exact ⟨v, u, w, hv, h1, h2, h3⟩
        · obtain ⟨t', h1, h2⟩ := find_of_lookup hg
          obtain ⟨ht', hx'⟩ := at_mem (p := p) h1
          obtain ⟨a', fd', hm', F'⟩ := A.fns t' ht'
          have rk := run_ok O A n h1 hm' F'
          rw [run_def] at rk
          refine ⟨a', fd', t'.ps, n, by rw [← hx']; exact hm', rk, hr, F'.kp, FunD.bindsN F' (O t' ht').bnd, h2⟩
      exact (sndb_all t.fuel).Ss G (passes_of rfl) OT.cod
end
end Mi

set_option Elab.async false
set_option linter.all false
set_option maxRecDepth 100000
set_option maxHeartbeats 2000000
/-! Mi15: the head. -/
namespace Mi
open PySem PySem.Spec PyProof.Rows L2
/-! ### constants of the top -/
mutual
def cnB (K : PySem.W.Frag) : PyData → Value → Bool
  | .none, u => match u with
    | .none => true
    | _ => false
  | .bool b, u => match u with
    | .bool c => b == c
    | _ => false
  | .int i, u => match u with
    | .int j _ => decide (i = j)
    | _ => false
  | .str s, u => match u with
    | .str z _ => decide (s = z)
    | _ => false
  | .tuple xs, u => match u with
    | .ref a => match K.lookup a with
      | some ⟨.type c, _, .seq its _, _⟩ => decide (c = "tuple") && (decide (its.size ≤ sizeLine) && cnBs K xs its.toList)
      | _ => false
    | _ => false
  | .list _, _ => false
  | .dict _, _ => false
def cnBs (K : PySem.W.Frag) : List PyData → List Value → Bool
  | [], us => match us with
    | [] => true
    | _ => false
  | x :: xs, us => match us with
    | u :: us => cnB K x u && cnBs K xs us
    | [] => false
end
mutual
theorem cnB_ok {K : PySem.W.Frag} : ∀ (v : PyData) (u : Value), cnB K v u = true → ∃ w, RelV w u ∧ ∀ H, RP K H v w
  | .none, u, h => by cases u <;> first | exact ⟨.non, rfl, fun _ => .non⟩ | (unfold cnB at h; cases h)
  | .bool b, u, h => by
    cases u with
    | bool c => unfold cnB at h; rw [eq_of_beq h]; exact ⟨.bl c, rfl, fun _ => .bl c⟩
    | _ => unfold cnB at h; cases h
  | .int i, u, h => by
    cases u with
    | int j t => unfold cnB at h; rw [of_decide_eq_true h]; exact ⟨.int j, ⟨t, rfl⟩, fun _ => .int j⟩
    | _ => unfold cnB at h; cases h
  | .str i, u, h => by
    cases u with
    | str j t => unfold cnB at h; rw [of_decide_eq_true h]; exact ⟨.str j, ⟨t, rfl⟩, fun _ => .str j⟩
    | _ => unfold cnB at h; cases h
  | .tuple xs, u, h => by
    unfold cnB at h
    cases u with
    | ref a =>
      dsimp only at h
      cases q : K.lookup a with
      | none => rw [q] at h; cases h
      | some o =>
        obtain ⟨oc, od, dt, osl⟩ := o
        rw [q] at h
        cases oc with
        | type c => cases dt with
          | seq its n =>
            simp only [Bool.and_eq_true, decide_eq_true_eq] at h
            obtain ⟨h1, h2, h3⟩ := h
            obtain ⟨ws, r1, r2⟩ := cnBs_ok xs its.toList h3
            exact ⟨.ref a, rfl, fun H => .tup (.inr ⟨_, its, n, q, congrArg Value.type h1, rfl, h2, r1⟩) (r2 H)⟩
          | _ => cases h
        | _ => cases dt <;> cases h
    | _ => cases h
  | .list _, _, h => by unfold cnB at h; cases h
  | .dict _, _, h => by unfold cnB at h; cases h
theorem cnBs_ok {K : PySem.W.Frag} : ∀ (xs : List PyData) (us : List Value), cnBs K xs us = true → ∃ ws, Vals ws us ∧ ∀ H, RPs K H xs ws
  | [], us, h => by
    cases us with
    | nil => exact ⟨[], .nil, fun _ => .nil⟩
    | cons _ _ => unfold cnBs at h; cases h
  | x :: xs, us, h => by
    cases us with
    | nil => unfold cnBs at h; cases h
    | cons u us =>
      unfold cnBs at h
      simp only [Bool.and_eq_true] at h
      obtain ⟨w, r1, r2⟩ := cnB_ok x u h.1
      obtain ⟨ws, r3, r4⟩ := cnBs_ok xs us h.2
      exact ⟨w :: ws, .cons r1 r3, fun H => .cons (r2 H) (r4 H)⟩
end
/-- the module's name x stands for v -/
def conAt (K : PySem.W.Frag) (x : Str) (v : PyData) : Bool := match PySem.W.nsIn K mainGlobals x with
  | some (some u) => cnB K v u
  | _ => false
def noList (K : PySem.W.Frag) : Bool := K.all fun q => !decide (q.2.cls = .type "list")
theorem noList_ok {K : PySem.W.Frag} (h : noList K = true) {a : Addr} {o : Obj} (e : K.lookup a = some o) : o.cls ≠ .type "list" := fun z => by
  have := List.all_eq_true.mp h (a, o) (He.lookup_mem e)
  rw [z] at this
  simp at this
/-! ### the Hook -/
def DefT.dd (t : DefT) : He.DefD := ⟨(t.x, none), t.x, t.qual, t.params, t.text, t.scope, [], []⟩
def Prog.fa (p : Prog) : List He.Fa := p.ts.map (fun t => .glo t.x) ++ bltNames.map .free
def Prog.dd (p : Prog) : List He.DefD := p.ts.map DefT.dd
def exM (cons : List (Str × PyData)) (K : PySem.W.Frag) : Bool := noList K && cons.all fun q => conAt K q.1 q.2
abbrev AlM : Type := He.AlD × Bool
def obsM (n : Nat) (p : Prog) (g : Addr → Option Obj) : AlM := (He.obsD p.fa p.dd (He.frG g (He.asD g n)), exM p.cons (He.frG g (He.asD g n)))
def valM (p : Prog) : AlM := (He.valD p.dd, true)
structure SaysM (p : Prog) (K : PySem.W.Frag) : Prop where
  d : He.SaysD p.fa p.dd K
  e : exM p.cons K = true
def hookM (n : Nat) (p : Prog) : PySem.W.Hook where
  α := AlM
  obs := fun s => obsM n p s.heap.get?
  val := fun _ => valM p
  says := fun _ h => ∃ K : PySem.W.Frag, K.In h ∧ SaysM p K
  of := fun _ _ e => ⟨_, He.frG_in, ⟨congrArg (fun z : AlM => z.1) e, congrArg (fun z : AlM => z.2) e⟩⟩
  keeps := fun _ _ _ ⟨K, hK, c⟩ k => ⟨K, PySem.W.Frag.In.keeps hK k, c⟩
def obM (n : Nat) (p : Prog) (s : PySem.W.SharedT) : AlM := obsM n p (HandSHeadRun.getT s)
theorem obM_eq (n : Nat) (p : Prog) (s : PySem.W.SharedT) : obM n p s = (hookM n p).obs s.abs := by
  have e : HandSHeadRun.getT s = s.abs.heap.get? := funext (HandSHeadRun.getT_eq s)
  unfold obM hookM
  rw [e]
theorem at_of {p : Prog} {K : PySem.W.Frag} {h : Heap} {mg : Str → Option Value} (X : K.In h) (G : h.Ns mainGlobals mg) (S : SaysM p K) : At p K mg where
  fns := fun t ht => by
    obtain ⟨fd, F⟩ := He.SaysD.defs S.d (d := t.dd) (List.mem_map_of_mem ht)
    have e := He.glo_ok X G (S.d.facts (f := .glo t.x) (List.mem_append_left _ (List.mem_map.mpr ⟨t, ht, rfl⟩)))
    exact ⟨_, fd, e, F⟩
  glo := fun x v hv => by
    obtain ⟨_, h2⟩ := He.ba (show (noList K && p.cons.all fun q => conAt K q.1 q.2) = true from S.e)
    have q := List.all_eq_true.mp h2 (x, v) (by
      clear h2
      generalize p.cons = l at hv
      induction l with
      | nil => cases hv
      | cons c l ih =>
        obtain ⟨y, u⟩ := c
        rw [List.lookup_cons] at hv
        cases e : (x == y) with
        | true =>
          rw [e] at hv
          rw [eq_of_beq e, ← Option.some.inj hv]
          exact List.mem_cons_self
        | false =>
          rw [e] at hv
          exact List.mem_cons_of_mem _ (ih hv))
    unfold conAt at q
    split at q
    · rename_i u hu
      obtain ⟨w, r1, r2⟩ := cnB_ok v u q
      exact ⟨u, w, PySem.W.mg_of X G hu, r1, r2⟩
    · cases q
  blt := fun x hx => He.free_ok X G (S.d.facts (f := .free x) (List.mem_append_right _ (List.mem_map.mpr ⟨x, hx, rfl⟩)))
/-! ### the end -/
def xr0 : XR := fun _ _ _ _ _ => False
theorem script_rep {K : PySem.W.Frag} {H : Hp} {a : Addr} {ns : List Int} (nl : noList K = true) (hO : Only H) (hS : SqL K H a (ns.map V.int)) : RP K H (.list (ns.map PyData.int)) (.ref a) := by
  have r : RPs K H (ns.map PyData.int) (ns.map V.int) := by
    clear hS
    induction ns with
    | nil => exact .nil
    | cons n ns ih => exact .cons (.int n) ih
  refine .lst ?_ r
  rcases hS with (h | ⟨o, h⟩) | ⟨o, its, n, lk, hc, _⟩
  · rcases hO a with z | ⟨o, xs, z⟩ <;> (rw [h] at z; cases z)
  · exact ⟨o, h⟩
  · exact absurd hc (noList_ok nl lk)
theorem walk_mi {l : PySem.W.OpenLaw} {n k : Nat} {q : Program} {loose : List Str} {XP : (Str → Option Value) → Heap → Prop} {d : DefRec} {x : Str} {p : Prog} {t : DefT}
    (hn : l.most = some n) (hn2 : n ≤ sizeLine) (hdf : d.params.defaults = []) (hr : Room k callerA) (O : ∀ t ∈ p.ts, t.Ok p) (ht : p.at_ d.name = some t) (hps : t.ps = [x])
    (law : ∀ ns : List Int, ns.length ≤ n → (∀ z ∈ ns, Builtin.Int.intBits z ≤ 1048576) → ∃ st, p.run k d.name [.p (.list (ns.map .int))] [] = .ok (bl true) st) :
    PySem.W.WalkO q loose XP (fun _ h => ∃ K : PySem.W.Frag, K.In h ∧ SaysM p K) l.row.toRowW d [] (fun f vs => PySem.call f vs) := by
  refine Att.attach_callB hn hdf fun w s₀ s₁ mg mb fa o pm cd doc a vs ns G Y ho hd hcd hmg hobj hints hlen hbits hg => ?_
  obtain ⟨K, KX, S⟩ := Y
  have A := at_of KX G.T.g S
  obtain ⟨tm, tx⟩ := at_mem ht
  obtain ⟨a', fd, hm, F⟩ := A.fns t tm
  have ea : a' = fa := by
    rw [tx, hmg] at hm
    cases hm
    rfl
  subst ea
  have nl : noList K = true := (He.ba S.e).1
  have hb : ∀ (s : Shared) (u : Value), BindsTo s fd ⟨[u], []⟩ [(x, u)] := fun s u => by
    have := FunD.bindsA F (ps := t.ps) (O t tm).bnd s [u] (by rw [hps]; rfl)
    rw [hps] at this
    exact this
  refine law_call KX G.T.g G.T.b G.T.builtins G.T.nolimit hg hobj hints (Nat.le_trans hlen hn2) hr (CX := CX l.prog w) (k := k) (sp := spF K xr0 (p.run k d.name)) (fun base KB GB => ?_) hb (fun H hO hS => ?_) fun H e s' hc => ?_
  · have AB := at_of KB GB S
    have := run_ok (P := l.prog) (w := w) (base := base) (xr := xr0) O AB k ht (by
      obtain ⟨a2, fd2, hm2, F2⟩ := AB.fns t tm
      exact hm) F
    rw [hps] at this
    exact this
  · obtain ⟨st, e⟩ := law ns hlen hbits
    refine ⟨[], [], [.p (.list (ns.map .int))], ⟨rfl, fun i j a h1 => by simp at h1, fun i a h1 => by simp at h1, fun i c a h1 => by simp at h1⟩, .cons (script_rep nl hO hS) .nil, ?_⟩
    rw [e]
    exact fun bs H' x rs v rv => rp_bool rv
  · obtain ⟨_, _, _, _, _, _, _, _, _, _, _, _, hE⟩ := hc
    exact hE
end Mi

set_option Elab.async false
set_option linter.all false
set_option maxRecDepth 100000
set_option maxHeartbeats 1000000
/-! Mi16: what the code does, by what it reaches. -/
namespace Mi
open PySem
def Rk {α : Type} (r : R α) (Q : α → Store → Prop) : Prop := match r with
  | .ok a st => Q a st
  | _ => False
/-- next, return, break, continue -/
def Sk (r : S) (N : Env → Store → Prop) (Rt : D → Store → Prop) (Bk Ct : Env → Store → Prop) : Prop := match r with
  | .nx e st => N e st
  | .rt v st => Rt v st
  | .bk e st => Bk e st
  | .ct e st => Ct e st
  | _ => False
section
variable {α β : Type} {Q Q' : α → Store → Prop} {m : R α} {st : Store} {e : Env} {N N' Bk Ct Bk' Ct' : Env → Store → Prop} {Rt Rt' : D → Store → Prop}
theorem Rk.ok_ {a : α} : Rk (.ok a st) Q = Q a st := rfl
theorem Rk.mono (h : Rk m Q) (k : ∀ a st, Q a st → Q' a st) : Rk m Q' := by
  cases m with
  | ok a st => exact k a st h
  | ex _ _ _ => exact h
  | bad => exact h
theorem Rk.bind_ {f : α → Store → R β} {P : β → Store → Prop} : Rk (m.bind f) P = Rk m (fun a st => Rk (f a st) P) := by cases m <;> rfl
theorem Rk.noex_ : Rk m.noex Q = Rk m Q := by cases m <;> rfl
theorem Rk.toR_ {o : O} {P : D → Store → Prop} : Rk o.toR P = (match o with | some p => P p.1 p.2 | none => False) := by
  cases o <;> rfl
theorem Rk.some_ {v : D} {P : D → Store → Prop} : Rk (O.toR (some (v, st))) P = P v st := rfl
theorem Rk.eq (h : Rk m Q) : ∃ a st, m = .ok a st ∧ Q a st := by
  cases m with
  | ok a st => exact ⟨a, st, rfl, h⟩
  | ex _ _ _ => exact h.elim
  | bad => exact h.elim
theorem Sk.mono {s : S} (h : Sk s N Rt Bk Ct) (h1 : ∀ e st, N e st → N' e st) (h2 : ∀ v st, Rt v st → Rt' v st) (h3 : ∀ e st, Bk e st → Bk' e st) (h4 : ∀ e st, Ct e st → Ct' e st) : Sk s N' Rt' Bk' Ct' := by
  cases s with
  | nx e st => exact h1 _ _ h
  | rt v st => exact h2 _ _ h
  | bk e st => exact h3 _ _ h
  | ct e st => exact h4 _ _ h
  | ex _ _ _ _ => exact h
  | bad => exact h
theorem Sk.seq_ {s : S} {f : Env → Store → S} : Sk (s.seq f) N Rt Bk Ct = Sk s (fun e st => Sk (f e st) N Rt Bk Ct) Rt Bk Ct := by cases s <;> rfl
theorem Sk.toS_ {f : α → Store → S} : Sk (m.toS e f) N Rt Bk Ct = Rk m (fun a st => Sk (f a st) N Rt Bk Ct) := by cases m <;> rfl
theorem Sk.nx_ : Sk (.nx e st) N Rt Bk Ct = N e st := rfl
theorem Sk.rt_ {v : D} : Sk (.rt v st) N Rt Bk Ct = Rt v st := rfl
theorem Sk.bk_ : Sk (.bk e st) N Rt Bk Ct = Bk e st := rfl
theorem Sk.ct_ : Sk (.ct e st) N Rt Bk Ct = Ct e st := rfl
/-! ### loops -/
theorem lc_rule {l : List D} {step : D → Store → R (Option α)} (I : Nat → List α → Store → Prop) (h : ∀ i x acc st, l[i]? = some x → I i acc st → Rk (step x st) fun o st' => I (i + 1) (acc ++ o.toList) st') :
    ∀ (k i : Nat) (acc : List α) (st : Store), i + k = l.length → I i acc st → Rk (lcGo (Src.get (.xs l)) step k i st) fun r st' => I l.length (acc ++ r) st'
  | 0, i, acc, st, hk, hI => by
    have : l[i]? = none := List.getElem?_eq_none (by omega)
    unfold lcGo
    show Rk (match (some l[i]? : Option (Option D)) with | none => R.bad | some none => R.ok [] st | some (some x) => R.bad) _
    rw [this]
    show I l.length (acc ++ []) st
    rw [List.append_nil]
    have : i = l.length := by omega
    rw [← this]; exact hI
  | k + 1, i, acc, st, hk, hI => by
    have hi : i < l.length := by omega
    have e : l[i]? = some l[i] := List.getElem?_eq_getElem hi
    unfold lcGo
    show Rk (match (some l[i]? : Option (Option D)) with | none => R.bad | some none => R.ok [] st | some (some x) => (step x st).bind fun o st => (lcGo (Src.get (.xs l)) step k (i + 1) st).bind fun r st => .ok (o.toList ++ r) st) _
    rw [e]
    show Rk ((step l[i] st).bind fun o st => (lcGo (Src.get (.xs l)) step k (i + 1) st).bind fun r st => .ok (o.toList ++ r) st) _
    rw [Rk.bind_]
    refine (h i _ acc st e hI).mono fun o st1 h1 => ?_
    rw [Rk.bind_]
    refine (lc_rule I h k (i + 1) (acc ++ o.toList) st1 (by omega) h1).mono fun r st2 h2 => ?_
    show I l.length (acc ++ (o.toList ++ r)) st2
    rw [← List.append_assoc]; exact h2
/-- turns that leave the store -/
theorem lc_pure {l : List D} {step : D → Store → R (Option α)} (g : D → Option α) {P : List α → Store → Prop} (h : ∀ x ∈ l, step x st = .ok (g x) st) (q : P (l.filterMap g) st) : Rk (lcGo (Src.get (.xs l)) step l.length 0 st) P := by
  refine (lc_rule (fun i acc s => s = st ∧ acc = (l.take i).filterMap g) (fun i x acc s hx ⟨h1, h2⟩ => ?_) l.length 0 [] st (by omega) ⟨rfl, rfl⟩).mono fun r s ⟨h1, h2⟩ => ?_
  · subst h1
    rw [h x (List.mem_of_getElem? hx)]
    refine ⟨rfl, ?_⟩
    have li := (List.getElem?_eq_some_iff.mp hx).1
    rw [List.take_succ, List.filterMap_append, hx, h2]
    cases hg : g x with
    | none => simp [hg]
    | some y => simp [hg]
  · subst h1
    simp only [List.nil_append, List.take_length] at h2
    rw [h2]; exact q
theorem for_rule {l : List D} {g : TG} {b : Env → Store → S} (I : Nat → Env → Store → Prop) (h : ∀ i x e st, l[i]? = some x → I i e st → ∃ e1, asg g x e = some e1 ∧ Sk (b e1 st) (I (i + 1)) Rt (I l.length) (I (i + 1))) :
    ∀ (k i : Nat) (e : Env) (st : Store), i + k = l.length → I i e st → Sk (forGo (Src.get (.xs l)) g b k i e st) (I l.length) Rt Bk Ct
  | 0, i, e, st, hk, hI => by
    have : l[i]? = none := List.getElem?_eq_none (by omega)
    unfold forGo
    show Sk (match (some l[i]? : Option (Option D)) with | none => S.bad | some none => S.nx e st | some (some x) => S.bad) _ _ _ _
    rw [this]
    have : i = l.length := by omega
    rw [← this]; exact hI
  | k + 1, i, e, st, hk, hI => by
    have hi : i < l.length := by omega
    have el : l[i]? = some l[i] := List.getElem?_eq_getElem hi
    obtain ⟨e1, ha, hb⟩ := h i _ e st el hI
    unfold forGo
    show Sk (match (some l[i]? : Option (Option D)) with | none => S.bad | some none => S.nx e st | some (some x) => match asg g x e with
      | none => S.bad
      | some e1 => match b e1 st with
        | .nx e2 st2 => forGo (Src.get (.xs l)) g b k (i + 1) e2 st2
        | .ct e2 st2 => forGo (Src.get (.xs l)) g b k (i + 1) e2 st2
        | .bk e2 st2 => .nx e2 st2
        | r => r) _ _ _ _
    rw [el]
    dsimp only
    rw [ha]
    dsimp only
    cases hr : b e1 st with
    | nx e2 s2 => rw [hr] at hb; exact for_rule I h k (i + 1) e2 s2 (by omega) hb
    | ct e2 s2 => rw [hr] at hb; exact for_rule I h k (i + 1) e2 s2 (by omega) hb
    | bk e2 s2 => rw [hr] at hb; exact hb
    | rt v s2 => rw [hr] at hb; exact hb
    | ex _ _ _ _ => rw [hr] at hb; exact hb.elim
    | bad => rw [hr] at hb; exact hb.elim
theorem wh_rule {c : Env → Store → R Bool} {b : Env → Store → S} (I : Nat → Env → Store → Prop) (h : ∀ n e st, I n e st → Rk (c e st) fun k st1 => if k = true then Sk (b e st1) (fun e2 st2 => ∃ m, m < n ∧ I m e2 st2) Rt N (fun e2 st2 => ∃ m, m < n ∧ I m e2 st2) else N e st1)
    {n : Nat} {e : Env} {st : Store} (hI : I n e st) : Sk (wh c b e st) N Rt Bk Ct := by
  have key : ∀ (n m : Nat), m ≤ n → ∀ e st, I m e st → ∃ k r, whN c b k e st = some r ∧ Sk r N Rt Bk Ct := by
    intro n
    induction n with
    | zero =>
      intro m hm e st hI
      have hz : m = 0 := by omega
      subst hz
      obtain ⟨k, s1, hc, hk⟩ := (h 0 e st hI).eq
      refine ⟨1, ?_⟩
      unfold whN
      rw [hc]
      cases k with
      | false => exact ⟨.nx e s1, rfl, (show N e s1 from by simpa using hk)⟩
      | true =>
        rw [if_pos rfl] at hk
        cases hr : b e s1 with
        | nx e2 s2 => rw [hr] at hk; obtain ⟨m, hm, _⟩ := hk; omega
        | ct e2 s2 => rw [hr] at hk; obtain ⟨m, hm, _⟩ := hk; omega
        | bk e2 s2 => rw [hr] at hk; exact ⟨.nx e2 s2, by dsimp only; rw [hr], hk⟩
        | rt v s2 => rw [hr] at hk; exact ⟨.rt v s2, by dsimp only; rw [hr], hk⟩
        | ex _ _ _ _ => rw [hr] at hk; exact hk.elim
        | bad => rw [hr] at hk; exact hk.elim
    | succ n ih =>
      intro m hm e st hI
      obtain ⟨k, s1, hc, hk⟩ := (h m e st hI).eq
      have stop : ∀ r, (∀ j, whN c b (j + 1) e st = some r) → Sk r N Rt Bk Ct → ∃ k r, whN c b k e st = some r ∧ Sk r N Rt Bk Ct := fun r h1 h2 => ⟨1, r, h1 0, h2⟩
      cases k with
      | false => exact stop (.nx e s1) (fun j => by unfold whN; rw [hc]) (show N e s1 from by simpa using hk)
      | true =>
        rw [if_pos rfl] at hk
        cases hr : b e s1 with
        | nx e2 s2 =>
          rw [hr] at hk
          obtain ⟨m2, hm2, hI2⟩ := hk
          obtain ⟨k2, r, h1, h2⟩ := ih m2 (by omega) e2 s2 hI2
          exact ⟨k2 + 1, r, by unfold whN; rw [hc]; dsimp only; rw [hr]; exact h1, h2⟩
        | ct e2 s2 =>
          rw [hr] at hk
          obtain ⟨m2, hm2, hI2⟩ := hk
          obtain ⟨k2, r, h1, h2⟩ := ih m2 (by omega) e2 s2 hI2
          exact ⟨k2 + 1, r, by unfold whN; rw [hc]; dsimp only; rw [hr]; exact h1, h2⟩
        | bk e2 s2 => rw [hr] at hk; exact stop (.nx e2 s2) (fun j => by unfold whN; rw [hc]; dsimp only; rw [hr]) hk
        | rt v s2 => rw [hr] at hk; exact stop (.rt v s2) (fun j => by unfold whN; rw [hc]; dsimp only; rw [hr]) hk
        | ex _ _ _ _ => rw [hr] at hk; exact hk.elim
        | bad => rw [hr] at hk; exact hk.elim
  obtain ⟨k, r, h1, h2⟩ := key n n (Nat.le_refl _) e st hI
  rw [wh_eq h1]; exact h2
end
/-! ### calls -/
section
variable {p : Prog} {n : Nat} {f : Str} {d : Def} {st : Store} {Q : D → Store → Prop}
noncomputable abbrev Prog.tab (p : Prog) (n : Nat) : Tab := ⟨p.run n, p.gl⟩
theorem run_eq (hf : p.fn f = some d) (ds : List D) (st : Store) : p.run (n + 1) f ds st = callD (p.tab n) d ds st := by
  rw [run_def]
  show (match p.fn f with | some d => callD ⟨fnAt p.fn p.gl n, p.gl⟩ d ds st | none => R.bad) = _
  rw [hf]
  show callD ⟨fnAt p.fn p.gl n, p.gl⟩ d ds st = callD ⟨p.run n, p.gl⟩ d ds st
  rw [run_fun]
theorem call_pure (hf : p.fn f = some d) (hm : d.mode = .pure) (vs : List PyData) (hl : vs.length = d.ps) (hn : d.ps ≤ d.ns)
    (h : Sk (exs (p.tab n) d.body (startE d.ns (vs.map D.p)) []) (fun _ _ => Q nn st) (fun v st1 => match v with
      | .p v => Q (.p v) st
      | .r k => ∃ c, st1[k]? = some c ∧ plain c = true ∧ Q (.r st.length) (st ++ [c])) (fun _ _ => False) (fun _ _ => False)) : Rk (p.run (n + 1) f (vs.map D.p) st) Q := by
  rw [run_eq hf]
  unfold callD
  rw [if_pos ⟨by rw [List.length_map]; exact hl, hn⟩, hm]
  dsimp only
  rw [pures_map]
  dsimp only
  unfold leave
  cases hr : exs (p.tab n) d.body (startE d.ns (vs.map D.p)) [] with
  | nx e s => rw [hr] at h; exact h
  | rt v s =>
    rw [hr] at h
    cases v with
    | p v => exact h
    | r k =>
      obtain ⟨c, h1, h2, h3⟩ := h
      dsimp only
      rw [h1]
      dsimp only
      rw [if_pos h2]
      exact h3
  | bk e s => rw [hr] at h; exact h.elim
  | ct e s => rw [hr] at h; exact h.elim
  | ex _ _ _ _ => rw [hr] at h; exact h.elim
  | bad => rw [hr] at h; exact h.elim
theorem call_foot (hf : p.fn f = some d) (hm : d.mode = .foot) {k : Nat} {c : Cell} (hc : st[k]? = some c) (hp : plain c = true) (vs : List PyData) (hl : vs.length + 1 = d.ps) (hn : d.ps ≤ d.ns)
    (h : Sk (exs (p.tab n) d.body (startE d.ns (.r 0 :: vs.map D.p)) [c]) (fun _ st1 => ∃ c1, st1[0]? = some c1 ∧ plain c1 = true ∧ Q nn (st.set k c1)) (fun v st1 => match v with
      | .p v => ∃ c1, st1[0]? = some c1 ∧ plain c1 = true ∧ Q (.p v) (st.set k c1)
      | .r _ => False) (fun _ _ => False) (fun _ _ => False)) : Rk (p.run (n + 1) f (.r k :: vs.map D.p) st) Q := by
  rw [run_eq hf]
  unfold callD
  rw [if_pos ⟨by simp; exact hl, hn⟩, hm]
  dsimp only
  rw [hc, pures_map]
  dsimp only
  rw [if_pos hp]
  unfold leaveF back
  cases hr : exs (p.tab n) d.body (startE d.ns (.r 0 :: vs.map D.p)) [c] with
  | nx e s =>
    rw [hr] at h
    obtain ⟨c1, h1, h2, h3⟩ := h
    dsimp only
    rw [h1]
    dsimp only
    rw [if_pos h2]
    exact h3
  | rt v s =>
    rw [hr] at h
    cases v with
    | p v =>
      obtain ⟨c1, h1, h2, h3⟩ := h
      dsimp only
      rw [h1]
      dsimp only
      rw [if_pos h2]
      exact h3
    | r k => exact h.elim
  | bk e s => rw [hr] at h; exact h.elim
  | ct e s => rw [hr] at h; exact h.elim
  | ex _ _ _ _ => rw [hr] at h; exact h.elim
  | bad => rw [hr] at h; exact h.elim
end
end Mi

set_option Elab.async false
set_option linter.all false
set_option maxRecDepth 100000
set_option maxHeartbeats 4000000
/-! Mi17: rules, one a form. -/
namespace Mi
open PySem
section
variable {T : Tab} {e : Env} {st : Store} {Q : D → Store → Prop} {P : Bool → Store → Prop} {L : List D → Store → Prop} {N Bk Ct : Env → Store → Prop} {Rt : D → Store → Prop} {a b c : C} {q q1 q2 : Mi.Q} {es : Cs} {m : Bool} {i j : Nat} {d : D}
/-! ### expressions -/
theorem r_var (h : e[i]? = some (some d)) (k : Q d st) : Rk (ev T (.var i) e st) Q := by
  show Rk (match e[i]? with | some (some d) => R.ok d st | _ => R.bad) Q
  rw [h]; exact k
theorem r_cst {v : PyData} (k : Q (.p v) st) : Rk (ev T (.cst v) e st) Q := k
theorem r_glo {x : Str} {v : PyData} (h : T.glo x = some v) (k : Q (.p v) st) : Rk (ev T (.glo x) e st) Q := by
  show Rk (match T.glo x with | some v => R.ok (D.p v) st | none => R.bad) Q
  rw [h]; exact k
theorem r_bin {op : Operator} (k : Rk (ev T a e st) fun x st => Rk (ev T b e st) fun y st => Rk (binop m op x y st).toR Q) : Rk (ev T (.bin m op a b) e st) Q := by
  show Rk ((ev T a e st).bind fun x st => (ev T b e st).bind fun y st => (binop m op x y st).toR) Q
  rw [Rk.bind_]
  exact k.mono fun x s h => by rw [Rk.bind_]; exact h
theorem r_neg (k : Rk (ev T a e st) fun x st => ∃ i, x = nt i ∧ Q (nt (-i)) st) : Rk (ev T (.neg a) e st) Q := by
  show Rk ((ev T a e st).bind fun x st => match x with | .p (.int i) => R.ok (nt (-i)) st | _ => R.bad) Q
  rw [Rk.bind_]
  exact k.mono fun x s ⟨i, h, k⟩ => by subst h; exact k
theorem r_cmp {op : CmpOp} (k : Rk (ev T a e st) fun x st => Rk (ev T b e st) fun y st => ∃ r, cmpB op x y st = some r ∧ Q (bl r) st) : Rk (ev T (.cmp op a b) e st) Q := by
  show Rk ((ev T a e st).bind fun x st => (ev T b e st).bind fun y st => (cmpop op x y st).toR) Q
  rw [Rk.bind_]
  exact k.mono fun x s h => by rw [Rk.bind_]; exact h.mono fun y s ⟨r, h1, h2⟩ => by unfold cmpop; rw [h1]; exact h2
theorem r_chn {o1 o2 : CmpOp} (k : Rk (ev T a e st) fun x st => Rk (ev T b e st) fun y st => ∃ r, cmpB o1 x y st = some r ∧ if r = true then Rk (ev T c e st) (fun z st => ∃ r, cmpB o2 y z st = some r ∧ Q (bl r) st) else Q (bl false) st) : Rk (ev T (.chn o1 o2 a b c) e st) Q := by
  show Rk ((ev T a e st).bind fun x st => (ev T b e st).bind fun y st => match cmpB o1 x y st with
    | some true => (ev T c e st).bind fun z st => (cmpop o2 y z st).toR
    | some false => .ok (bl false) st
    | none => .bad) Q
  rw [Rk.bind_]
  exact k.mono fun x s h => by
    rw [Rk.bind_]
    exact h.mono fun y s ⟨r, h1, h2⟩ => by
      rw [h1]
      cases r with
      | true =>
        rw [if_pos rfl] at h2
        dsimp only
        rw [Rk.bind_]
        exact h2.mono fun z s ⟨r, h3, h4⟩ => by unfold cmpop; rw [h3]; exact h4
      | false => exact h2
theorem r_and (k : Rk (ev T a e st) fun x st => ∃ r, truth x st = some r ∧ if r = true then Rk (ev T b e st) Q else Q x st) : Rk (ev T (.andC a b) e st) Q := by
  show Rk ((ev T a e st).bind fun x st => match truth x st with
    | some true => ev T b e st
    | some false => .ok x st
    | none => .bad) Q
  rw [Rk.bind_]
  exact k.mono fun x s ⟨r, h1, h2⟩ => by
    rw [h1]
    cases r with
    | true => rw [if_pos rfl] at h2; exact h2
    | false => exact h2
theorem r_or (k : Rk (ev T a e st) fun x st => ∃ r, truth x st = some r ∧ if r = true then Q x st else Rk (ev T b e st) Q) : Rk (ev T (.orC a b) e st) Q := by
  show Rk ((ev T a e st).bind fun x st => match truth x st with
    | some true => .ok x st
    | some false => ev T b e st
    | none => .bad) Q
  rw [Rk.bind_]
  exact k.mono fun x s ⟨r, h1, h2⟩ => by
    rw [h1]
    cases r with
    | true => rw [if_pos rfl] at h2; exact h2
    | false => exact h2
theorem r_not (k : Rk (ev T a e st) fun x st => ∃ r, truth x st = some r ∧ Q (bl !r) st) : Rk (ev T (.notC a) e st) Q := by
  show Rk ((ev T a e st).bind fun x st => match truth x st with
    | some b => .ok (bl !b) st
    | none => .bad) Q
  rw [Rk.bind_]
  exact k.mono fun x s ⟨r, h1, h2⟩ => by rw [h1]; exact h2
theorem r_if (k : Rk (evT T q e st) fun r st => if r = true then Rk (ev T a e st) Q else Rk (ev T b e st) Q) : Rk (ev T (.ifC q a b) e st) Q := by
  show Rk ((evT T q e st).bind fun k st => if k then ev T a e st else ev T b e st) Q
  rw [Rk.bind_]
  exact k.mono fun r s h => by cases r <;> exact h
theorem r_tup (k : Rk (evs T es e st) fun ds st => Rk (finT ds st).toR Q) : Rk (ev T (.tup es) e st) Q := by
  show Rk ((evs T es e st).bind fun ds st => (finT ds st).toR) Q
  rw [Rk.bind_]; exact k
theorem r_lst (k : Rk (evs T es e st) fun ds st => Rk (fin m ds st).toR Q) : Rk (ev T (.lst m es) e st) Q := by
  show Rk ((evs T es e st).bind fun ds st => (fin m ds st).toR) Q
  rw [Rk.bind_]; exact k
theorem r_call {f : Str} (k : Rk (evs T es e st) fun ds st => Rk (T.fn f ds st) Q) : Rk (ev T (.call f es) e st) Q := by
  show Rk ((evs T es e st).bind fun ds st => T.fn f ds st) Q
  rw [Rk.bind_]; exact k
theorem r_blt {f : Bf} (k : Rk (evs T es e st) fun ds st => Rk (builtin m f ds st).toR Q) : Rk (ev T (.blt m f es) e st) Q := by
  show Rk ((evs T es e st).bind fun ds st => (builtin m f ds st).toR) Q
  rw [Rk.bind_]; exact k
theorem r_isi {ts : List Ty} (k : Rk (ev T a e st) fun x st => ∃ r, anyTy x st ts = some r ∧ Q (bl r) st) : Rk (ev T (.isi a ts) e st) Q := by
  show Rk ((ev T a e st).bind fun x st => match anyTy x st ts with
    | some b => .ok (bl b) st
    | none => .bad) Q
  rw [Rk.bind_]
  exact k.mono fun x s ⟨r, h1, h2⟩ => by rw [h1]; exact h2
theorem r_mth {f : Mf} (k : Rk (ev T a e st) fun x st => recvOk f x st = true ∧ Rk (evs T es e st) fun ds st => Rk (method m f x ds st).toR Q) : Rk (ev T (.mth m a f es) e st) Q := by
  show Rk ((ev T a e st).bind fun x st => if recvOk f x st then (evs T es e st).bind fun ds st => (method m f x ds st).toR else .bad) Q
  rw [Rk.bind_]
  exact k.mono fun x s ⟨h1, h2⟩ => by rw [if_pos h1, Rk.bind_]; exact h2
theorem r_idx (k : Rk (ev T a e st) fun x st => Rk (ev T b e st) fun y st => Rk (index x y st).toR Q) : Rk (ev T (.idx a b) e st) Q := by
  show Rk ((ev T a e st).bind fun x st => (ev T b e st).bind fun y st => (index x y st).toR) Q
  rw [Rk.bind_]
  exact k.mono fun x s h => by rw [Rk.bind_]; exact h
theorem r_sli {lo hi : Oc} (k : Rk (ev T a e st) fun x st => Rk (evO T lo e st) fun l st => Rk (evO T hi e st) fun h st => Rk (slice m x l h st).toR Q) : Rk (ev T (.sli m a lo hi) e st) Q := by
  show Rk ((ev T a e st).bind fun x st => (evO T lo e st).bind fun l st => (evO T hi e st).bind fun h st => (slice m x l h st).toR) Q
  rw [Rk.bind_]
  exact k.mono fun x s h => by rw [Rk.bind_]; exact h.mono fun y s h => by rw [Rk.bind_]; exact h
theorem r_rev (k : Rk (ev T a e st) fun x st => Rk (revS m x st).toR Q) : Rk (ev T (.rev m a) e st) Q := by
  show Rk ((ev T a e st).bind fun x st => (revS m x st).toR) Q
  rw [Rk.bind_]; exact k
theorem r_lzip (k : Rk (ev T a e st) fun x st => Rk (ev T b e st) fun y st => Rk (lzip m x y st).toR Q) : Rk (ev T (.lzip m a b) e st) Q := by
  show Rk ((ev T a e st).bind fun x st => (ev T b e st).bind fun y st => (lzip m x y st).toR) Q
  rw [Rk.bind_]
  exact k.mono fun x s h => by rw [Rk.bind_]; exact h
theorem r_nil {L : List D → Store → Prop} (k : L [] st) : Rk (evs T .nil e st) L := k
theorem r_cons {L : List D → Store → Prop} (k : Rk (ev T a e st) fun d st => Rk (evs T es e st) fun ds st => L (d :: ds) st) : Rk (evs T (.cons a es) e st) L := by
  show Rk ((ev T a e st).bind fun d st => (evs T es e st).bind fun ds st => .ok (d :: ds) st) L
  rw [Rk.bind_]
  exact k.mono fun x s h => by rw [Rk.bind_]; exact h
theorem r_no {F : Option Int → Store → Prop} (k : F none st) : Rk (evO T .no e st) F := k
theorem r_so {F : Option Int → Store → Prop} (k : Rk (ev T a e st) fun x st => ∃ i, x = nt i ∧ F (some i) st) : Rk (evO T (.so a) e st) F := by
  show Rk ((ev T a e st).bind fun x st => match x with
    | .p (.int i) => .ok (some i) st
    | _ => .bad) F
  rw [Rk.bind_]
  exact k.mono fun x s ⟨i, h, k⟩ => by subst h; exact k
/-! ### tests -/
theorem t_yes_ (k : P true st) : Rk (evT T .yes e st) P := k
theorem t_val_ (k : Rk (ev T a e st) fun x st => ∃ r, truth x st = some r ∧ P r st) : Rk (evT T (.val a) e st) P := by
  show Rk ((ev T a e st).bind fun x st => match truth x st with
    | some b => .ok b st
    | none => .bad) P
  rw [Rk.bind_]
  exact k.mono fun x s ⟨r, h1, h2⟩ => by rw [h1]; exact h2
theorem t_both_ (k : Rk (evT T q1 e st) fun r st => if r = true then Rk (evT T q2 e st) P else P false st) : Rk (evT T (.both q1 q2) e st) P := by
  show Rk ((evT T q1 e st).bind fun k st => if k then evT T q2 e st else .ok false st) P
  rw [Rk.bind_]
  exact k.mono fun r s h => by cases r <;> exact h
theorem t_eith_ (k : Rk (evT T q1 e st) fun r st => if r = true then P true st else Rk (evT T q2 e st) P) : Rk (evT T (.eith q1 q2) e st) P := by
  show Rk ((evT T q1 e st).bind fun k st => if k then .ok true st else evT T q2 e st) P
  rw [Rk.bind_]
  exact k.mono fun r s h => by cases r <;> exact h
theorem t_neg_ (k : Rk (evT T q e st) fun r st => P (!r) st) : Rk (evT T (.neg q) e st) P := by
  show Rk ((evT T q e st).bind fun k st => .ok (!k) st) P
  rw [Rk.bind_]; exact k
/-! ### what is walked -/
theorem i_val_ {F : Src → Store → Prop} (k : Rk (ev T a e st) fun x st => ∃ s, srcOf x st = some s ∧ F s st) : Rk (evI T (.val a) e st) F := by
  show Rk ((ev T a e st).bind fun x st => match srcOf x st with
    | some s => .ok s st
    | none => .bad) F
  rw [Rk.bind_]
  exact k.mono fun x s ⟨r, h1, h2⟩ => by rw [h1]; exact h2
theorem i_rng_ {F : Src → Store → Prop} (k : Rk (ev T a e st) fun x st => Rk (ev T b e st) fun y st => ∃ i j, x = nt i ∧ y = nt j ∧ -(2 ^ 62) ≤ i ∧ i < 2 ^ 62 ∧ -(2 ^ 62) ≤ j ∧ j < 2 ^ 62 ∧ F (.xs (upto i j)) st) : Rk (evI T (.rng a b) e st) F := by
  show Rk ((ev T a e st).bind fun x st => (ev T b e st).bind fun y st => match ints2 x y with
    | some ij => if -(2 ^ 62) ≤ ij.1 ∧ ij.1 < 2 ^ 62 ∧ -(2 ^ 62) ≤ ij.2 ∧ ij.2 < 2 ^ 62 then .ok (.xs (upto ij.1 ij.2)) st else .bad
    | none => .bad) F
  rw [Rk.bind_]
  exact k.mono fun x s h => by
    rw [Rk.bind_]
    exact h.mono fun y s ⟨i, j, h1, h2, h3, h4, h5, h6, h7⟩ => by
      subst h1 h2
      show Rk (if -(2 ^ 62) ≤ i ∧ i < 2 ^ 62 ∧ -(2 ^ 62) ≤ j ∧ j < 2 ^ 62 then R.ok (.xs (upto i j)) s else .bad) F
      rw [if_pos ⟨h3, h4, h5, h6⟩]; exact h7
/-- a comprehension over what does not change -/
theorem r_lc {own : List Nat} {g : TG} {it : I} (k : Rk (evI T it e st) fun s st => ∃ l, s = .xs l ∧ Rk (lcGo (Src.get (.xs l)) (fun x st => match asg g x (wipeE e own) with
      | some e1 => ((evT T q e1 st).bind fun k st => if k then (ev T a e1 st).bind fun d st => .ok (some d) st else .ok none st).noex
      | none => .bad) l.length 0 st) fun ds st => Rk (fin m ds st).toR Q) : Rk (ev T (.lc m own a g it q) e st) Q := by
  show Rk ((evI T it e st).bind fun src st => (lcGo src.get (fun x st => match asg g x (wipeE e own) with
      | some e1 => ((evT T q e1 st).bind fun k st => if k then (ev T a e1 st).bind fun d st => .ok (some d) st else .ok none st).noex
      | none => .bad) (src.size st) 0 st).bind fun ds st => (fin m ds st).toR) Q
  rw [Rk.bind_]
  exact k.mono fun s st ⟨l, h, k⟩ => by subst h; rw [Rk.bind_]; exact k
/-- a dict comprehension over what does not change -/
theorem r_dc {own : List Nat} {g : TG} {it : I} (k : Rk (evI T it e st) fun s st => ∃ l, s = .xs l ∧ Rk (lcGo (Src.get (.xs l)) (fun x st => match asg g x (wipeE e own) with
      | some e1 => ((evT T q e1 st).bind fun r st => if r then (ev T a e1 st).bind fun k st => (ev T b e1 st).bind fun v st => match keyD k with
          | some k => .ok (some (k, v)) st
          | none => .bad
        else .ok none st).noex
      | none => .bad) l.length 0 st) fun ps st => ps.length ≤ LIM ∧ Q (.r st.length) (st ++ [.dic (putAll [] ps)])) : Rk (ev T (.dc own a b g it q) e st) Q := by
  show Rk ((evI T it e st).bind fun src st => (lcGo src.get (fun x st => match asg g x (wipeE e own) with
      | some e1 => ((evT T q e1 st).bind fun r st => if r then (ev T a e1 st).bind fun k st => (ev T b e1 st).bind fun v st => match keyD k with
          | some k => .ok (some (k, v)) st
          | none => .bad
        else .ok none st).noex
      | none => .bad) (src.size st) 0 st).bind fun ps st => (finD ps st).toR) Q
  rw [Rk.bind_]
  exact k.mono fun s st ⟨l, h, k⟩ => by
    subst h
    rw [Rk.bind_]
    exact k.mono fun ps st ⟨h1, h2⟩ => by
      unfold finD
      rw [if_pos h1]; exact h2
theorem r_step {e1 : Env} {F : Option D → Store → Prop} (k : Rk (evT T q e1 st) fun r st => if r = true then Rk (ev T a e1 st) fun d st => F (some d) st else F none st) : Rk ((evT T q e1 st).bind fun k st => if k then (ev T a e1 st).bind fun d st => R.ok (some d) st else R.ok none st).noex F := by
  rw [Rk.noex_, Rk.bind_]
  exact k.mono fun r s h => by
    cases r with
    | true =>
      rw [if_pos rfl] at h ⊢
      rw [Rk.bind_]; exact h
    | false => exact h
/-! ### statements -/
theorem k_nil (k : N e st) : Sk (exs T [] e st) N Rt Bk Ct := k
theorem k_cons {s : B} {ss : List B} (k : Sk (ex T s e st) (fun e st => Sk (exs T ss e st) N Rt Bk Ct) Rt Bk Ct) : Sk (exs T (s :: ss) e st) N Rt Bk Ct := by
  show Sk ((ex T s e st).seq (exs T ss)) N Rt Bk Ct
  rw [Sk.seq_]; exact k
theorem k_set (k : Rk (ev T a e st) fun x st => i < e.length ∧ N (e.set i (some x)) st) : Sk (ex T (.set i a) e st) N Rt Bk Ct := by
  show Sk ((ev T a e st).toS e fun x st => if i < e.length then .nx (e.set i (some x)) st else .bad) N Rt Bk Ct
  rw [Sk.toS_]
  exact k.mono fun x s ⟨h1, h2⟩ => by rw [if_pos h1]; exact h2
theorem k_par (k : Rk (ev T a e st) fun x st => Rk (ev T b e st) fun y st => (i < e.length ∧ j < e.length ∧ i ≠ j) ∧ N ((e.set i (some x)).set j (some y)) st) : Sk (ex T (.par i j a b) e st) N Rt Bk Ct := by
  show Sk ((ev T a e st).toS e fun x st => (ev T b e st).toS e fun y st => if i < e.length ∧ j < e.length ∧ i ≠ j then .nx ((e.set i (some x)).set j (some y)) st else .bad) N Rt Bk Ct
  rw [Sk.toS_]
  exact k.mono fun x s h => by rw [Sk.toS_]; exact h.mono fun y s ⟨h1, h2⟩ => by rw [if_pos h1]; exact h2
theorem k_tgt {g : TG} (k : Rk (ev T a e st) fun x st => ∃ e1, asg g x e = some e1 ∧ N e1 st) : Sk (ex T (.tgt g a) e st) N Rt Bk Ct := by
  show Sk ((ev T a e st).toS e fun x st => match asg g x e with
    | some e1 => .nx e1 st
    | none => .bad) N Rt Bk Ct
  rw [Sk.toS_]
  exact k.mono fun x s ⟨e1, h1, h2⟩ => by rw [h1]; exact h2
theorem k_aug {op : Operator} (h : e[i]? = some (some d)) (k : Rk (ev T a e st) fun y st => ∃ z, augI op d y = some z ∧ N (e.set i (some (nt z))) st) : Sk (ex T (.aug i op a) e st) N Rt Bk Ct := by
  show Sk (match e[i]? with
    | some (some x) => (ev T a e st).toS e fun y st => match augI op x y with
      | some z => .nx (e.set i (some (nt z))) st
      | none => .bad
    | _ => .bad) N Rt Bk Ct
  rw [h]
  dsimp only
  rw [Sk.toS_]
  exact k.mono fun x s ⟨e1, h1, h2⟩ => by rw [h1]; exact h2
theorem k_six (k : Rk (ev T c e st) fun v st => Rk (ev T a e st) fun x st => Rk (ev T b e st) fun i st => ∃ s1, setIx x i v st = some s1 ∧ N e s1) : Sk (ex T (.six a b c) e st) N Rt Bk Ct := by
  show Sk ((ev T c e st).toS e fun v st => (ev T a e st).toS e fun x st => (ev T b e st).toS e fun k st => match setIx x k v st with
    | some st => .nx e st
    | none => .bad) N Rt Bk Ct
  rw [Sk.toS_]
  exact k.mono fun x s h => by rw [Sk.toS_]; exact h.mono fun y s h => by rw [Sk.toS_]; exact h.mono fun z s ⟨s1, h1, h2⟩ => by rw [h1]; exact h2
theorem k_aix {op : Operator} (k : Rk (ev T a e st) fun x st => Rk (ev T b e st) fun i st => ∃ old, getIx x i st = some old ∧ Rk (ev T c e st) fun y st => ∃ z s1, augI op old y = some z ∧ setIx x i (nt z) st = some s1 ∧ N e s1) : Sk (ex T (.aix a b op c) e st) N Rt Bk Ct := by
  show Sk ((ev T a e st).toS e fun x st => (ev T b e st).toS e fun k st => match getIx x k st with
    | some old => (ev T c e st).toS e fun y st => match augI op old y with
      | some z => match setIx x k (nt z) st with
        | some st => .nx e st
        | none => .bad
      | none => .bad
    | none => .bad) N Rt Bk Ct
  rw [Sk.toS_]
  exact k.mono fun x s h => by
    rw [Sk.toS_]
    exact h.mono fun y s ⟨old, h1, h2⟩ => by
      rw [h1]
      dsimp only
      rw [Sk.toS_]
      exact h2.mono fun z s ⟨w, s1, h3, h4, h5⟩ => by rw [h3]; dsimp only; rw [h4]; exact h5
theorem k_exp (k : Rk (ev T a e st) fun _ st => N e st) : Sk (ex T (.exp a) e st) N Rt Bk Ct := by
  show Sk ((ev T a e st).toS e fun _ st => .nx e st) N Rt Bk Ct
  rw [Sk.toS_]; exact k
theorem k_ret (k : Rk (ev T a e st) Rt) : Sk (ex T (.ret a) e st) N Rt Bk Ct := by
  show Sk ((ev T a e st).toS e fun v st => .rt v st) N Rt Bk Ct
  rw [Sk.toS_]; exact k
theorem k_ife {x y : List B} (k : Rk (evT T q e st) fun r st => if r = true then Sk (exs T x e st) N Rt Bk Ct else Sk (exs T y e st) N Rt Bk Ct) : Sk (ex T (.ife q x y) e st) N Rt Bk Ct := by
  show Sk ((evT T q e st).toS e fun k st => if k then exs T x e st else exs T y e st) N Rt Bk Ct
  rw [Sk.toS_]
  exact k.mono fun r s h => by cases r <;> exact h
theorem k_for {g : TG} {it : I} {x : List B} (k : Rk (evI T it e st) fun s st => ∃ l, s = .xs l ∧ Sk (forGo (Src.get (.xs l)) g (exs T x) l.length 0 e st) N Rt Bk Ct) : Sk (ex T (.for_ g it x) e st) N Rt Bk Ct := by
  show Sk ((evI T it e st).toS e fun src st => forGo src.get g (exs T x) (src.size st) 0 e st) N Rt Bk Ct
  rw [Sk.toS_]
  exact k.mono fun s st ⟨l, h, k⟩ => by subst h; exact k
theorem k_whl {x : List B} (k : Sk (wh (evT T q) (exs T x) e st) N Rt Bk Ct) : Sk (ex T (.whl q x) e st) N Rt Bk Ct := k
theorem k_nop (k : N e st) : Sk (ex T .nop e st) N Rt Bk Ct := k
theorem k_brk (k : Bk e st) : Sk (ex T .brk e st) N Rt Bk Ct := k
theorem k_ctn (k : Ct e st) : Sk (ex T .ctn e st) N Rt Bk Ct := k
/-! ### operations -/
theorem o_add {x y : Int} (k : Q (nt (x + y)) st) : Rk (binop m .Add (nt x) (nt y) st).toR Q := k
theorem o_sub {x y : Int} (k : Q (nt (x - y)) st) : Rk (binop m .Sub (nt x) (nt y) st).toR Q := k
theorem o_mulR {x y : Int} (h : small y = true) (k : Q (nt (x * y)) st) : Rk (binop m .Mult (nt x) (nt y) st).toR Q := by
  show Rk (O.toR ((if mulOk x y then some (x * y) else none).map fun k => (nt k, st))) Q
  rw [if_pos (by unfold mulOk; rw [h]; simp)]; exact k
theorem o_mulL {x y : Int} (h : small x = true) (k : Q (nt (x * y)) st) : Rk (binop m .Mult (nt x) (nt y) st).toR Q := by
  show Rk (O.toR ((if mulOk x y then some (x * y) else none).map fun k => (nt k, st))) Q
  rw [if_pos (by unfold mulOk; rw [h]; simp)]; exact k
theorem o_mod {x y : Int} (h : 0 < y) (k : Q (nt (x % y)) st) : Rk (binop m .Mod (nt x) (nt y) st).toR Q := by
  show Rk (O.toR ((if 0 < y then some (x % y) else none).map fun k => (nt k, st))) Q
  rw [if_pos h]; exact k
theorem o_div {x y : Int} (h : 0 < y) (h2 : y.natAbs.log2 < 9000) (k : Q (nt (x / y)) st) : Rk (binop m .FloorDiv (nt x) (nt y) st).toR Q := by
  show Rk (O.toR ((if 0 < y ∧ y.natAbs.log2 < 9000 then some (x / y) else none).map fun k => (nt k, st))) Q
  rw [if_pos ⟨h, h2⟩]; exact k
theorem o_pow {x y : Int} (h : 0 ≤ y ∧ y ≤ 1000000 ∧ x.natAbs < 2 ^ 64) (k : Q (nt (x ^ y.toNat)) st) : Rk (binop m .Pow (nt x) (nt y) st).toR Q := by
  show Rk (O.toR ((if 0 ≤ y ∧ y ≤ 1000000 ∧ x.natAbs < 2 ^ 64 then some (x ^ y.toNat) else none).map fun k => (nt k, st))) Q
  rw [if_pos h]; exact k
theorem o_fin {xs : List PyData} (h : xs.length ≤ LIM) (k : Q (.p (.list xs)) st) : Rk (fin false (xs.map D.p) st).toR Q := by
  unfold fin
  rw [if_pos (by rw [List.length_map]; exact h), if_neg (by simp), pures_map]; exact k
theorem o_finM {ds : List D} (h : ds.length ≤ LIM) (k : Q (.r st.length) (st ++ [.lst ds])) : Rk (fin true ds st).toR Q := by
  unfold fin
  rw [if_pos h, if_pos rfl]; exact k
theorem o_finT {xs : List PyData} (h : xs.length ≤ LIM) (k : Q (.p (.tuple xs)) st) : Rk (finT (xs.map D.p) st).toR Q := by
  unfold finT
  rw [pures_map]
  show Rk (O.toR (if xs.length ≤ LIM then some (.p (.tuple xs), st) else none)) Q
  rw [if_pos h]; exact k
theorem o_some {o : O} {v : D} {st1 : Store} (h : o = some (v, st1)) (k : Q v st1) : Rk o.toR Q := by rw [h]; exact k
end
end Mi

set_option Elab.async false
set_option linter.all false
set_option maxRecDepth 100000
set_option maxHeartbeats 1000000
/-! Mi18: the rules again, over words that are not unfolded; printed by mkg.py. -/
namespace Mi
open PySem
@[irreducible] def Gk {α : Type} (r : R α) (Q : α → Store → Prop) : Prop := Rk r Q
@[irreducible] def Hk (r : S) (N : Env → Store → Prop) (Rt : D → Store → Prop) (Bk Ct : Env → Store → Prop) : Prop := Sk r N Rt Bk Ct
theorem Gk_eq {α : Type} (r : R α) (Q : α → Store → Prop) : Gk r Q = Rk r Q := by unfold Gk; rfl
theorem Hk_eq (r : S) (N : Env → Store → Prop) (Rt : D → Store → Prop) (Bk Ct : Env → Store → Prop) : Hk r N Rt Bk Ct = Sk r N Rt Bk Ct := by unfold Hk; rfl
section
variable {α : Type}
theorem Gk.mono {m : R α} {Q Q2 : α → Store → Prop} (h : Gk m Q) (k : ∀ a st, Q a st → Q2 a st) : Gk m Q2 := by
  rw [Gk_eq] at *
  exact Rk.mono h k
theorem Gk.of {m : R α} {Q : α → Store → Prop} {a : α} {st : Store} (h : m = .ok a st) (k : Q a st) : Gk m Q := by
  rw [Gk_eq, h]
  exact k
theorem Gk.eq {m : R α} {Q : α → Store → Prop} (h : Gk m Q) : ∃ a st, m = .ok a st ∧ Q a st := by
  rw [Gk_eq] at h
  exact Rk.eq h
theorem Hk.mono {s : S} {N N2 Bk Ct Bk2 Ct2 : Env → Store → Prop} {Rt Rt2 : D → Store → Prop} (h : Hk s N Rt Bk Ct) (h1 : ∀ e st, N e st → N2 e st) (h2 : ∀ v st, Rt v st → Rt2 v st) (h3 : ∀ e st, Bk e st → Bk2 e st) (h4 : ∀ e st, Ct e st → Ct2 e st) : Hk s N2 Rt2 Bk2 Ct2 := by
  rw [Hk_eq] at *
  exact Sk.mono h h1 h2 h3 h4
end
section
variable {α β : Type} {Q Q' : α → Store → Prop} {m : R α} {st : Store} {e : Env} {N N' Bk Ct Bk' Ct' : Env → Store → Prop} {Rt Rt' : D → Store → Prop}
theorem L_rule {l : List D} {step : D → Store → R (Option α)} (I : Nat → List α → Store → Prop) (h : ∀ i x acc st, l[i]? = some x → I i acc st → Gk (step x st) fun o st' => I (i + 1) (acc ++ o.toList) st') :
    ∀ (k i : Nat) (acc : List α) (st : Store), i + k = l.length → I i acc st → Gk (lcGo (Src.get (.xs l)) step k i st) fun r st' => I l.length (acc ++ r) st' := by
  simp only [Gk_eq, Hk_eq] at *
  exact lc_rule I h
theorem L_pure {l : List D} {step : D → Store → R (Option α)} (g : D → Option α) {P : List α → Store → Prop} (h : ∀ x ∈ l, step x st = .ok (g x) st) (q : P (l.filterMap g) st) : Gk (lcGo (Src.get (.xs l)) step l.length 0 st) P := by
  simp only [Gk_eq, Hk_eq] at *
  exact lc_pure g h q
theorem F_rule {l : List D} {g : TG} {b : Env → Store → S} (I : Nat → Env → Store → Prop) (h : ∀ i x e st, l[i]? = some x → I i e st → ∃ e1, asg g x e = some e1 ∧ Hk (b e1 st) (I (i + 1)) Rt (I l.length) (I (i + 1))) :
    ∀ (k i : Nat) (e : Env) (st : Store), i + k = l.length → I i e st → Hk (forGo (Src.get (.xs l)) g b k i e st) (I l.length) Rt Bk Ct := by
  simp only [Gk_eq, Hk_eq] at *
  exact for_rule I h
theorem W_rule {c : Env → Store → R Bool} {b : Env → Store → S} (I : Nat → Env → Store → Prop) (h : ∀ n e st, I n e st → Gk (c e st) fun k st1 => if k = true then Hk (b e st1) (fun e2 st2 => ∃ m, m < n ∧ I m e2 st2) Rt N (fun e2 st2 => ∃ m, m < n ∧ I m e2 st2) else N e st1)
    {n : Nat} {e : Env} {st : Store} (hI : I n e st) : Hk (wh c b e st) N Rt Bk Ct := by
  simp only [Gk_eq, Hk_eq] at *
  exact wh_rule I h hI
end
section
variable {p : Prog} {n : Nat} {f : Str} {d : Def} {st : Store} {Q : D → Store → Prop}
theorem C_pure (hf : p.fn f = some d) (hm : d.mode = .pure) (vs : List PyData) (hl : vs.length = d.ps) (hn : d.ps ≤ d.ns)
    (h : Hk (exs (p.tab n) d.body (startE d.ns (vs.map D.p)) []) (fun _ _ => Q nn st) (fun v st1 => match v with
      | .p v => Q (.p v) st
      | .r k => ∃ c, st1[k]? = some c ∧ plain c = true ∧ Q (.r st.length) (st ++ [c])) (fun _ _ => False) (fun _ _ => False)) : Gk (p.run (n + 1) f (vs.map D.p) st) Q := by
  simp only [Gk_eq, Hk_eq] at *
  exact call_pure hf hm vs hl hn h
theorem C_foot (hf : p.fn f = some d) (hm : d.mode = .foot) {k : Nat} {c : Cell} (hc : st[k]? = some c) (hp : plain c = true) (vs : List PyData) (hl : vs.length + 1 = d.ps) (hn : d.ps ≤ d.ns)
    (h : Hk (exs (p.tab n) d.body (startE d.ns (.r 0 :: vs.map D.p)) [c]) (fun _ st1 => ∃ c1, st1[0]? = some c1 ∧ plain c1 = true ∧ Q nn (st.set k c1)) (fun v st1 => match v with
      | .p v => ∃ c1, st1[0]? = some c1 ∧ plain c1 = true ∧ Q (.p v) (st.set k c1)
      | .r _ => False) (fun _ _ => False) (fun _ _ => False)) : Gk (p.run (n + 1) f (.r k :: vs.map D.p) st) Q := by
  simp only [Gk_eq, Hk_eq] at *
  exact call_foot hf hm hc hp vs hl hn h
end
section
variable {T : Tab} {e : Env} {st : Store} {Q : D → Store → Prop} {P : Bool → Store → Prop} {L : List D → Store → Prop} {N Bk Ct : Env → Store → Prop} {Rt : D → Store → Prop} {a b c : C} {q q1 q2 : Mi.Q} {es : Cs} {m : Bool} {i j : Nat} {d : D}
theorem R_var (h : e[i]? = some (some d)) (k : Q d st) : Gk (ev T (.var i) e st) Q := by
  simp only [Gk_eq, Hk_eq] at *
  exact r_var h k
theorem R_cst {v : PyData} (k : Q (.p v) st) : Gk (ev T (.cst v) e st) Q := by
  simp only [Gk_eq, Hk_eq] at *
  exact r_cst k
theorem R_glo {x : Str} {v : PyData} (h : T.glo x = some v) (k : Q (.p v) st) : Gk (ev T (.glo x) e st) Q := by
  simp only [Gk_eq, Hk_eq] at *
  exact r_glo h k
theorem R_bin {op : Operator} (k : Gk (ev T a e st) fun x st => Gk (ev T b e st) fun y st => Gk (binop m op x y st).toR Q) : Gk (ev T (.bin m op a b) e st) Q := by
  simp only [Gk_eq, Hk_eq] at *
  exact r_bin k
theorem R_neg (k : Gk (ev T a e st) fun x st => ∃ i, x = nt i ∧ Q (nt (-i)) st) : Gk (ev T (.neg a) e st) Q := by
  simp only [Gk_eq, Hk_eq] at *
  exact r_neg k
theorem R_cmp {op : CmpOp} (k : Gk (ev T a e st) fun x st => Gk (ev T b e st) fun y st => ∃ r, cmpB op x y st = some r ∧ Q (bl r) st) : Gk (ev T (.cmp op a b) e st) Q := by
  simp only [Gk_eq, Hk_eq] at *
  exact r_cmp k
theorem R_chn {o1 o2 : CmpOp} (k : Gk (ev T a e st) fun x st => Gk (ev T b e st) fun y st => ∃ r, cmpB o1 x y st = some r ∧ if r = true then Gk (ev T c e st) (fun z st => ∃ r, cmpB o2 y z st = some r ∧ Q (bl r) st) else Q (bl false) st) : Gk (ev T (.chn o1 o2 a b c) e st) Q := by
  simp only [Gk_eq, Hk_eq] at *
  exact r_chn k
theorem R_and (k : Gk (ev T a e st) fun x st => ∃ r, truth x st = some r ∧ if r = true then Gk (ev T b e st) Q else Q x st) : Gk (ev T (.andC a b) e st) Q := by
  simp only [Gk_eq, Hk_eq] at *
  exact r_and k
theorem R_or (k : Gk (ev T a e st) fun x st => ∃ r, truth x st = some r ∧ if r = true then Q x st else Gk (ev T b e st) Q) : Gk (ev T (.orC a b) e st) Q := by
  simp only [Gk_eq, Hk_eq] at *
  exact r_or k
theorem R_not (k : Gk (ev T a e st) fun x st => ∃ r, truth x st = some r ∧ Q (bl !r) st) : Gk (ev T (.notC a) e st) Q := by
  simp only [Gk_eq, Hk_eq] at *
  exact r_not k
theorem R_if (k : Gk (evT T q e st) fun r st => if r = true then Gk (ev T a e st) Q else Gk (ev T b e st) Q) : Gk (ev T (.ifC q a b) e st) Q := by
  simp only [Gk_eq, Hk_eq] at *
  exact r_if k
theorem R_tup (k : Gk (evs T es e st) fun ds st => Gk (finT ds st).toR Q) : Gk (ev T (.tup es) e st) Q := by
  simp only [Gk_eq, Hk_eq] at *
  exact r_tup k
theorem R_lst (k : Gk (evs T es e st) fun ds st => Gk (fin m ds st).toR Q) : Gk (ev T (.lst m es) e st) Q := by
  simp only [Gk_eq, Hk_eq] at *
  exact r_lst k
theorem R_call {f : Str} (k : Gk (evs T es e st) fun ds st => Gk (T.fn f ds st) Q) : Gk (ev T (.call f es) e st) Q := by
  simp only [Gk_eq, Hk_eq] at *
  exact r_call k
theorem R_blt {f : Bf} (k : Gk (evs T es e st) fun ds st => Gk (builtin m f ds st).toR Q) : Gk (ev T (.blt m f es) e st) Q := by
  simp only [Gk_eq, Hk_eq] at *
  exact r_blt k
theorem R_isi {ts : List Ty} (k : Gk (ev T a e st) fun x st => ∃ r, anyTy x st ts = some r ∧ Q (bl r) st) : Gk (ev T (.isi a ts) e st) Q := by
  simp only [Gk_eq, Hk_eq] at *
  exact r_isi k
theorem R_mth {f : Mf} (k : Gk (ev T a e st) fun x st => recvOk f x st = true ∧ Gk (evs T es e st) fun ds st => Gk (method m f x ds st).toR Q) : Gk (ev T (.mth m a f es) e st) Q := by
  simp only [Gk_eq, Hk_eq] at *
  exact r_mth k
theorem R_idx (k : Gk (ev T a e st) fun x st => Gk (ev T b e st) fun y st => Gk (index x y st).toR Q) : Gk (ev T (.idx a b) e st) Q := by
  simp only [Gk_eq, Hk_eq] at *
  exact r_idx k
theorem R_sli {lo hi : Oc} (k : Gk (ev T a e st) fun x st => Gk (evO T lo e st) fun l st => Gk (evO T hi e st) fun h st => Gk (slice m x l h st).toR Q) : Gk (ev T (.sli m a lo hi) e st) Q := by
  simp only [Gk_eq, Hk_eq] at *
  exact r_sli k
theorem R_rev (k : Gk (ev T a e st) fun x st => Gk (revS m x st).toR Q) : Gk (ev T (.rev m a) e st) Q := by
  simp only [Gk_eq, Hk_eq] at *
  exact r_rev k
theorem R_lzip (k : Gk (ev T a e st) fun x st => Gk (ev T b e st) fun y st => Gk (lzip m x y st).toR Q) : Gk (ev T (.lzip m a b) e st) Q := by
  simp only [Gk_eq, Hk_eq] at *
  exact r_lzip k
theorem R_nil {L : List D → Store → Prop} (k : L [] st) : Gk (evs T .nil e st) L := by
  simp only [Gk_eq, Hk_eq] at *
  exact r_nil k
theorem R_cons {L : List D → Store → Prop} (k : Gk (ev T a e st) fun d st => Gk (evs T es e st) fun ds st => L (d :: ds) st) : Gk (evs T (.cons a es) e st) L := by
  simp only [Gk_eq, Hk_eq] at *
  exact r_cons k
theorem R_no {F : Option Int → Store → Prop} (k : F none st) : Gk (evO T .no e st) F := by
  simp only [Gk_eq, Hk_eq] at *
  exact r_no k
theorem R_so {F : Option Int → Store → Prop} (k : Gk (ev T a e st) fun x st => ∃ i, x = nt i ∧ F (some i) st) : Gk (evO T (.so a) e st) F := by
  simp only [Gk_eq, Hk_eq] at *
  exact r_so k
theorem T_yes_ (k : P true st) : Gk (evT T .yes e st) P := by
  simp only [Gk_eq, Hk_eq] at *
  exact t_yes_ k
theorem T_val_ (k : Gk (ev T a e st) fun x st => ∃ r, truth x st = some r ∧ P r st) : Gk (evT T (.val a) e st) P := by
  simp only [Gk_eq, Hk_eq] at *
  exact t_val_ k
theorem T_both_ (k : Gk (evT T q1 e st) fun r st => if r = true then Gk (evT T q2 e st) P else P false st) : Gk (evT T (.both q1 q2) e st) P := by
  simp only [Gk_eq, Hk_eq] at *
  exact t_both_ k
theorem T_eith_ (k : Gk (evT T q1 e st) fun r st => if r = true then P true st else Gk (evT T q2 e st) P) : Gk (evT T (.eith q1 q2) e st) P := by
  simp only [Gk_eq, Hk_eq] at *
  exact t_eith_ k
theorem T_neg_ (k : Gk (evT T q e st) fun r st => P (!r) st) : Gk (evT T (.neg q) e st) P := by
  simp only [Gk_eq, Hk_eq] at *
  exact t_neg_ k
theorem I_val_ {F : Src → Store → Prop} (k : Gk (ev T a e st) fun x st => ∃ s, srcOf x st = some s ∧ F s st) : Gk (evI T (.val a) e st) F := by
  simp only [Gk_eq, Hk_eq] at *
  exact i_val_ k
theorem I_rng_ {F : Src → Store → Prop} (k : Gk (ev T a e st) fun x st => Gk (ev T b e st) fun y st => ∃ i j, x = nt i ∧ y = nt j ∧ -(2 ^ 62) ≤ i ∧ i < 2 ^ 62 ∧ -(2 ^ 62) ≤ j ∧ j < 2 ^ 62 ∧ F (.xs (upto i j)) st) : Gk (evI T (.rng a b) e st) F := by
  simp only [Gk_eq, Hk_eq] at *
  exact i_rng_ k
theorem R_lc {own : List Nat} {g : TG} {it : I} (k : Gk (evI T it e st) fun s st => ∃ l, s = .xs l ∧ Gk (lcGo (Src.get (.xs l)) (fun x st => match asg g x (wipeE e own) with
      | some e1 => ((evT T q e1 st).bind fun k st => if k then (ev T a e1 st).bind fun d st => .ok (some d) st else .ok none st).noex
      | none => .bad) l.length 0 st) fun ds st => Gk (fin m ds st).toR Q) : Gk (ev T (.lc m own a g it q) e st) Q := by
  simp only [Gk_eq, Hk_eq] at *
  exact r_lc k
theorem R_dc {own : List Nat} {g : TG} {it : I} (k : Gk (evI T it e st) fun s st => ∃ l, s = .xs l ∧ Gk (lcGo (Src.get (.xs l)) (fun x st => match asg g x (wipeE e own) with
      | some e1 => ((evT T q e1 st).bind fun r st => if r then (ev T a e1 st).bind fun k st => (ev T b e1 st).bind fun v st => match keyD k with
          | some k => .ok (some (k, v)) st
          | none => .bad
        else .ok none st).noex
      | none => .bad) l.length 0 st) fun ps st => ps.length ≤ LIM ∧ Q (.r st.length) (st ++ [.dic (putAll [] ps)])) : Gk (ev T (.dc own a b g it q) e st) Q := by
  simp only [Gk_eq, Hk_eq] at *
  exact r_dc k
theorem R_step {e1 : Env} {F : Option D → Store → Prop} (k : Gk (evT T q e1 st) fun r st => if r = true then Gk (ev T a e1 st) fun d st => F (some d) st else F none st) : Gk ((evT T q e1 st).bind fun k st => if k then (ev T a e1 st).bind fun d st => R.ok (some d) st else R.ok none st).noex F := by
  simp only [Gk_eq, Hk_eq] at *
  exact r_step k
theorem K_nil (k : N e st) : Hk (exs T [] e st) N Rt Bk Ct := by
  simp only [Gk_eq, Hk_eq] at *
  exact k_nil k
theorem K_cons {s : B} {ss : List B} (k : Hk (ex T s e st) (fun e st => Hk (exs T ss e st) N Rt Bk Ct) Rt Bk Ct) : Hk (exs T (s :: ss) e st) N Rt Bk Ct := by
  simp only [Gk_eq, Hk_eq] at *
  exact k_cons k
theorem K_set (k : Gk (ev T a e st) fun x st => i < e.length ∧ N (e.set i (some x)) st) : Hk (ex T (.set i a) e st) N Rt Bk Ct := by
  simp only [Gk_eq, Hk_eq] at *
  exact k_set k
theorem K_par (k : Gk (ev T a e st) fun x st => Gk (ev T b e st) fun y st => (i < e.length ∧ j < e.length ∧ i ≠ j) ∧ N ((e.set i (some x)).set j (some y)) st) : Hk (ex T (.par i j a b) e st) N Rt Bk Ct := by
  simp only [Gk_eq, Hk_eq] at *
  exact k_par k
theorem K_tgt {g : TG} (k : Gk (ev T a e st) fun x st => ∃ e1, asg g x e = some e1 ∧ N e1 st) : Hk (ex T (.tgt g a) e st) N Rt Bk Ct := by
  simp only [Gk_eq, Hk_eq] at *
  exact k_tgt k
theorem K_aug {op : Operator} (h : e[i]? = some (some d)) (k : Gk (ev T a e st) fun y st => ∃ z, augI op d y = some z ∧ N (e.set i (some (nt z))) st) : Hk (ex T (.aug i op a) e st) N Rt Bk Ct := by
  simp only [Gk_eq, Hk_eq] at *
  exact k_aug h k
theorem K_six (k : Gk (ev T c e st) fun v st => Gk (ev T a e st) fun x st => Gk (ev T b e st) fun i st => ∃ s1, setIx x i v st = some s1 ∧ N e s1) : Hk (ex T (.six a b c) e st) N Rt Bk Ct := by
  simp only [Gk_eq, Hk_eq] at *
  exact k_six k
theorem K_aix {op : Operator} (k : Gk (ev T a e st) fun x st => Gk (ev T b e st) fun i st => ∃ old, getIx x i st = some old ∧ Gk (ev T c e st) fun y st => ∃ z s1, augI op old y = some z ∧ setIx x i (nt z) st = some s1 ∧ N e s1) : Hk (ex T (.aix a b op c) e st) N Rt Bk Ct := by
  simp only [Gk_eq, Hk_eq] at *
  exact k_aix k
theorem K_exp (k : Gk (ev T a e st) fun _ st => N e st) : Hk (ex T (.exp a) e st) N Rt Bk Ct := by
  simp only [Gk_eq, Hk_eq] at *
  exact k_exp k
theorem K_ret (k : Gk (ev T a e st) Rt) : Hk (ex T (.ret a) e st) N Rt Bk Ct := by
  simp only [Gk_eq, Hk_eq] at *
  exact k_ret k
theorem K_ife {x y : List B} (k : Gk (evT T q e st) fun r st => if r = true then Hk (exs T x e st) N Rt Bk Ct else Hk (exs T y e st) N Rt Bk Ct) : Hk (ex T (.ife q x y) e st) N Rt Bk Ct := by
  simp only [Gk_eq, Hk_eq] at *
  exact k_ife k
theorem K_for {g : TG} {it : I} {x : List B} (k : Gk (evI T it e st) fun s st => ∃ l, s = .xs l ∧ Hk (forGo (Src.get (.xs l)) g (exs T x) l.length 0 e st) N Rt Bk Ct) : Hk (ex T (.for_ g it x) e st) N Rt Bk Ct := by
  simp only [Gk_eq, Hk_eq] at *
  exact k_for k
theorem K_whl {x : List B} (k : Hk (wh (evT T q) (exs T x) e st) N Rt Bk Ct) : Hk (ex T (.whl q x) e st) N Rt Bk Ct := by
  simp only [Gk_eq, Hk_eq] at *
  exact k_whl k
theorem K_nop (k : N e st) : Hk (ex T .nop e st) N Rt Bk Ct := by
  simp only [Gk_eq, Hk_eq] at *
  exact k_nop k
theorem K_brk (k : Bk e st) : Hk (ex T .brk e st) N Rt Bk Ct := by
  simp only [Gk_eq, Hk_eq] at *
  exact k_brk k
theorem K_ctn (k : Ct e st) : Hk (ex T .ctn e st) N Rt Bk Ct := by
  simp only [Gk_eq, Hk_eq] at *
  exact k_ctn k
theorem O_add {x y : Int} (k : Q (nt (x + y)) st) : Gk (binop m .Add (nt x) (nt y) st).toR Q := by
  simp only [Gk_eq, Hk_eq] at *
  exact o_add k
theorem O_sub {x y : Int} (k : Q (nt (x - y)) st) : Gk (binop m .Sub (nt x) (nt y) st).toR Q := by
  simp only [Gk_eq, Hk_eq] at *
  exact o_sub k
theorem O_mulR {x y : Int} (h : small y = true) (k : Q (nt (x * y)) st) : Gk (binop m .Mult (nt x) (nt y) st).toR Q := by
  simp only [Gk_eq, Hk_eq] at *
  exact o_mulR h k
theorem O_mulL {x y : Int} (h : small x = true) (k : Q (nt (x * y)) st) : Gk (binop m .Mult (nt x) (nt y) st).toR Q := by
  simp only [Gk_eq, Hk_eq] at *
  exact o_mulL h k
theorem O_mod {x y : Int} (h : 0 < y) (k : Q (nt (x % y)) st) : Gk (binop m .Mod (nt x) (nt y) st).toR Q := by
  simp only [Gk_eq, Hk_eq] at *
  exact o_mod h k
theorem O_div {x y : Int} (h : 0 < y) (h2 : y.natAbs.log2 < 9000) (k : Q (nt (x / y)) st) : Gk (binop m .FloorDiv (nt x) (nt y) st).toR Q := by
  simp only [Gk_eq, Hk_eq] at *
  exact o_div h h2 k
theorem O_pow {x y : Int} (h : 0 ≤ y ∧ y ≤ 1000000 ∧ x.natAbs < 2 ^ 64) (k : Q (nt (x ^ y.toNat)) st) : Gk (binop m .Pow (nt x) (nt y) st).toR Q := by
  simp only [Gk_eq, Hk_eq] at *
  exact o_pow h k
theorem O_fin {xs : List PyData} (h : xs.length ≤ LIM) (k : Q (.p (.list xs)) st) : Gk (fin false (xs.map D.p) st).toR Q := by
  simp only [Gk_eq, Hk_eq] at *
  exact o_fin h k
theorem O_finM {ds : List D} (h : ds.length ≤ LIM) (k : Q (.r st.length) (st ++ [.lst ds])) : Gk (fin true ds st).toR Q := by
  simp only [Gk_eq, Hk_eq] at *
  exact o_finM h k
theorem O_finT {xs : List PyData} (h : xs.length ≤ LIM) (k : Q (.p (.tuple xs)) st) : Gk (finT (xs.map D.p) st).toR Q := by
  simp only [Gk_eq, Hk_eq] at *
  exact o_finT h k
theorem O_some {o : O} {v : D} {st1 : Store} (h : o = some (v, st1)) (k : Q v st1) : Gk o.toR Q := by
  simp only [Gk_eq, Hk_eq] at *
  exact o_some h k
end
end Mi

set_option Elab.async false
set_option linter.all false
set_option maxRecDepth 100000
set_option maxHeartbeats 4000000
/-! Mi19: the helpers that all laws share. -/
namespace Mi
open PySem
local macro_rules
  | `(tactic| trivial) => `(tactic| first
    | refine K_cons ?_
    | refine K_nil ?_
    | refine K_set ?_
    | refine K_par ?_
    | refine K_tgt ?_
    | refine K_six ?_
    | refine K_aix ?_
    | refine K_exp ?_
    | refine K_ret ?_
    | refine K_ife ?_
    | refine K_aug rfl ?_
    | refine R_var rfl ?_
    | refine R_cst ?_
    | refine R_bin ?_
    | refine R_cmp ?_
    | refine R_chn ?_
    | refine R_and ?_
    | refine R_or ?_
    | refine R_not ?_
    | refine R_tup ?_
    | refine R_lst ?_
    | refine R_call ?_
    | refine R_blt ?_
    | refine R_isi ?_
    | refine R_idx ?_
    | refine R_sli ?_
    | refine R_neg ?_
    | refine R_nil ?_
    | refine R_cons ?_
    | refine R_no ?_
    | refine R_so ?_
    | refine T_val_ ?_
    | refine T_both_ ?_
    | refine T_eith_ ?_
    | refine T_neg_ ?_
    | refine T_yes_ ?_
    | refine O_add ?_
    | refine O_sub ?_
    | refine O_mulR (by decide) ?_
    | refine O_mulL (by decide) ?_
    | refine O_mod (by decide) ?_
    | refine O_some rfl ?_
    | refine ⟨_, rfl, ?_⟩
    | refine ⟨_, _, rfl, rfl, ?_⟩
    | refine ⟨Nat.le_of_ble_eq_true rfl, ?_⟩
    | refine ⟨⟨Nat.le_of_ble_eq_true rfl, Nat.le_of_ble_eq_true rfl, by decide⟩, ?_⟩)
structure Bag where
  a : Int
  b : Int
  c : Int
  xs : List Int
def Bag.cell (B : Bag) : Cell := .lst [nt B.a, nt B.b, nt B.c, .p (.list (B.xs.map .int))]
structure Bag.Ok (B : Bag) : Prop where
  a : 0 ≤ B.a
  xs : ∀ x ∈ B.xs, 0 ≤ x
  len : B.xs.length ≤ 1000
def takeB : List B := [
  .ife (.val (.cmp .Eq (.idx (.var 0) (.cst (.int 0))) (.cst (.int 0)))) [.set 4 (.idx (.bin false .Add (.sli false (.idx (.var 0) (.cst (.int 3))) (.so (.idx (.var 0) (.cst (.int 2)))) .no) (.lst false (.cons (.cst (.int 0)) .nil))) (.cst (.int 0))), .aix (.var 0) (.cst (.int 2)) .Add (.cst (.int 1)), .ife (.val (.cmp .GtE (.var 4) (.bin false .Pow (.cst (.int 10)) (.cst (.int 18))))) [.six (.var 0) (.cst (.int 0)) (.var 4)] [], .set 5 (.bin false .Add (.bin false .Add (.bin false .Mult (.idx (.var 0) (.cst (.int 1))) (.cst (.int 48271))) (.bin false .Mod (.blt false .int (.cons (.var 4) .nil)) (.cst (.int 2147483647)))) (.bin false .Mult (.cst (.int 7919)) (.idx (.var 0) (.cst (.int 2))))), .six (.var 0) (.cst (.int 1)) (.bin false .Mod (.blt false .int (.cons (.var 5) .nil)) (.cst (.int 2147483647)))] [],
  .ife (.val (.cmp .Gt (.idx (.var 0) (.cst (.int 0))) (.cst (.int 0)))) [.set 6 (.bin false .Mod (.blt false .int (.cons (.idx (.var 0) (.cst (.int 0))) .nil)) (.var 1)), .six (.var 0) (.cst (.int 0)) (.bin false .FloorDiv (.blt false .int (.cons (.idx (.var 0) (.cst (.int 0))) .nil)) (.var 1)), .ret (.var 6)] [],
  .set 2 (.bin false .Mod (.blt false .int (.cons (.bin false .Mult (.bin false .Add (.idx (.var 0) (.cst (.int 1))) (.cst (.int 1))) (.cst (.int 39373))) .nil)) (.cst (.int 1000000007))),
  .set 3 (.bin false .Mod (.blt false .int (.cons (.bin false .Mult (.bin false .Mod (.blt false .int (.cons (.bin false .Mult (.var 2) (.var 2)) .nil)) (.cst (.int 998244353))) (.cst (.int 30011))) .nil)) (.cst (.int 998244353))),
  .ret (.bin false .Mod (.blt false .int (.cons (.bin false .FloorDiv (.var 3) (.cst (.int 7))) .nil)) (.var 1))]
theorem pures_cut (xs : List PyData) (lo hi : Option Int) : pures (cut (xs.map D.p) lo hi) = some (cut xs lo hi) := by
  unfold cut
  rw [List.length_map, ← List.map_drop, ← List.map_take, pures_map]
theorem cut_sub {α : Type} {xs : List α} {lo hi : Option Int} {x : α} (h : x ∈ cut xs lo hi) : x ∈ xs := List.mem_of_mem_drop (List.mem_of_mem_take h)
theorem cut_len {α : Type} (xs : List α) (lo hi : Option Int) : (cut xs lo hi).length ≤ xs.length := by
  unfold cut
  rw [List.length_take, List.length_drop]
  omega
/-- the cell that comes next, or nought -/
theorem O_slice {m : List PyData → D → Prop} {st : Store} {Q : D → Store → Prop} {xs : List PyData} {lo hi : Option Int} (h : xs.length ≤ LIM) (k : Q (.p (.list (cut xs lo hi))) st) : Gk (slice false (.p (.list xs)) lo hi st).toR Q := by
  rw [Gk_eq]
  show Rk (O.toR (fin false (cut (xs.map D.p) lo hi) st)) Q
  unfold fin
  rw [if_pos (Nat.le_trans (cut_len _ _ _) (by rw [List.length_map]; exact h)), if_neg (by simp), pures_cut]
  exact k
theorem O_catL {m : Bool} {st : Store} {Q : D → Store → Prop} {xs ys : List PyData} (h : xs.length + ys.length ≤ LIM) (k : Q (.p (.list (xs ++ ys))) st) : Gk (binop false .Add (.p (.list xs)) (.p (.list ys)) st).toR Q := by
  rw [Gk_eq]
  show Rk (O.toR (fin false (xs.map D.p ++ ys.map D.p) st)) Q
  rw [← List.map_append]
  exact o_fin (by rw [List.length_append]; exact h) k
theorem eqv_int (i j : Int) : PyData.eqv (.int i) (.int j) = decide (i = j) := by
  show (i == j) = _
  by_cases h : i = j <;> simp [h]
theorem first_cell {xs : List Int} (hx : ∀ x ∈ xs, 0 ≤ x) (c : Int) (st : Store) : ∃ v : Int, 0 ≤ v ∧ index (.p (.list (cut (xs.map PyData.int) (some c) none ++ [.int 0]))) (nt 0) st = some (nt v, st) := by
  have e : cut (xs.map PyData.int) (some c) none = (cut xs (some c) none).map PyData.int := by
    unfold cut
    rw [List.length_map, ← List.map_drop, ← List.map_take]
  rw [e]
  have pos : ∀ x ∈ cut xs (some c) none, 0 ≤ x := fun x h => hx x (cut_sub h)
  generalize cut xs (some c) none = ys at pos
  cases ys with
  | nil => exact ⟨0, Int.le_refl _, rfl⟩
  | cons y ys =>
    refine ⟨y, pos y List.mem_cons_self, ?_⟩
    show ((asQ (.p (.list ((y :: ys).map PyData.int ++ [PyData.int 0]))) st).bind fun ds => (L2.atI ds 0).map fun d => (d, st)) = _
    show (L2.atI (((y :: ys).map PyData.int ++ [PyData.int 0]).map D.p) 0).map (fun d => (d, st)) = _
    have : L2.atI (((y :: ys).map PyData.int ++ [PyData.int 0]).map D.p) 0 = some (nt y) := by
      unfold L2.atI L2.ixN
      rw [if_pos (Int.le_refl _), if_pos (by simp; omega)]
      rfl
    rw [this]; rfl
section
variable {T : Tab} {a b c m : Int} {xs : List Int} {e2 e3 e4 e5 e6 : Option D} {N Bk Ct : Env → Store → Prop} {Rt : D → Store → Prop}
theorem take_first (hx : ∀ x ∈ xs, 0 ≤ x) (hl : xs.length ≤ 1000)
    (h : ∀ a' b' c' e4 e5, 0 ≤ a' → N [some (.r 0), some (nt m), e2, e3, e4, e5, e6] [.lst [nt a', nt b', nt c', .p (.list (xs.map .int))]]) :
    Hk (exs T [.set 4 (.idx (.bin false .Add (.sli false (.idx (.var 0) (.cst (.int 3))) (.so (.idx (.var 0) (.cst (.int 2)))) .no) (.lst false (.cons (.cst (.int 0)) .nil))) (.cst (.int 0))), .aix (.var 0) (.cst (.int 2)) .Add (.cst (.int 1)), .ife (.val (.cmp .GtE (.var 4) (.bin false .Pow (.cst (.int 10)) (.cst (.int 18))))) [.six (.var 0) (.cst (.int 0)) (.var 4)] [], .set 5 (.bin false .Add (.bin false .Add (.bin false .Mult (.idx (.var 0) (.cst (.int 1))) (.cst (.int 48271))) (.bin false .Mod (.blt false .int (.cons (.var 4) .nil)) (.cst (.int 2147483647)))) (.bin false .Mult (.cst (.int 7919)) (.idx (.var 0) (.cst (.int 2))))), .six (.var 0) (.cst (.int 1)) (.bin false .Mod (.blt false .int (.cons (.var 5) .nil)) (.cst (.int 2147483647)))]
      [some (.r 0), some (nt m), e2, e3, e4, e5, e6] [.lst [nt 0, nt b, nt c, .p (.list (xs.map .int))]]) N Rt Bk Ct := by
  repeat trivial
  refine O_slice (m := fun _ _ => True) (by rw [List.length_map]; unfold LIM; omega) ?_
  repeat trivial
  refine O_catL (m := false) (ys := [.int 0]) (by have := cut_len (xs.map PyData.int) (some c) none; rw [List.length_map] at this; unfold LIM; simp only [List.length_singleton]; omega) ?_
  repeat trivial
  obtain ⟨v, hv, ev⟩ := first_cell hx c [.lst [nt 0, nt b, nt c, .p (.list (xs.map .int))]]
  refine O_some ev ?_
  repeat trivial
  split
  · repeat trivial
    exact h v _ _ _ _ hv
  · repeat trivial
    exact h 0 _ _ _ _ (Int.le_refl _)
theorem take_rest (ha : 0 ≤ a) (hm : 0 < m) (hm2 : m ≤ 1000000)
    (h : ∀ v a' b' c', 0 ≤ v → v < m → 0 ≤ a' → Rt (nt v) [.lst [nt a', nt b', nt c', .p (.list (xs.map .int))]]) :
    Hk (exs T (takeB.drop 1) [some (.r 0), some (nt m), e2, e3, e4, e5, e6] [.lst [nt a, nt b, nt c, .p (.list (xs.map .int))]]) N Rt Bk Ct := by
  have lg : m.natAbs.log2 < 9000 := by
    have : m.natAbs < 2 ^ 9000 := Nat.lt_of_le_of_lt (show m.natAbs ≤ 2 ^ 20 by omega) (Nat.pow_lt_pow_right (by decide) (by decide))
    by_cases h0 : m.natAbs = 0
    · omega
    · exact (Nat.log2_lt h0).mpr this
  show Hk (exs T [.ife (.val (.cmp .Gt (.idx (.var 0) (.cst (.int 0))) (.cst (.int 0)))) [.set 6 (.bin false .Mod (.blt false .int (.cons (.idx (.var 0) (.cst (.int 0))) .nil)) (.var 1)), .six (.var 0) (.cst (.int 0)) (.bin false .FloorDiv (.blt false .int (.cons (.idx (.var 0) (.cst (.int 0))) .nil)) (.var 1)), .ret (.var 6)] [], _, _, _] _ _) _ _ _ _
  repeat trivial
  split
  · repeat trivial
    refine O_mod hm ?_
    repeat trivial
    refine O_div hm lg ?_
    repeat trivial
    exact h _ _ _ _ (Int.emod_nonneg _ (by omega)) (Int.emod_lt_of_pos _ hm) (Int.ediv_nonneg ha (by omega))
  · repeat trivial
    refine O_mulR ?_ ?_
    · have h1 := Int.emod_nonneg ((b + 1) * 39373) (show (1000000007 : Int) ≠ 0 by decide)
      have h2 := Int.emod_lt_of_pos ((b + 1) * 39373) (show (0 : Int) < 1000000007 by decide)
      unfold small
      simp only [Bool.and_eq_true, decide_eq_true_eq]
      generalize (b + 1) * 39373 % 1000000007 = z at *
      omega
    repeat trivial
    refine O_mod hm ?_
    exact h _ _ _ _ (Int.emod_nonneg _ (by omega)) (Int.emod_lt_of_pos _ hm) ha
end
section
variable {p : Prog} {n k : Nat} {st : Store} {Q : D → Store → Prop} {B : Bag} {m : Int}
def takeD : Def := { ps := 2, ns := 7, mode := .foot, body := takeB }
theorem bag_plain (B : Bag) : plain B.cell = true := by
  show (pures [nt B.a, nt B.b, nt B.c, .p (.list (B.xs.map .int))]).isSome = true
  rfl
/-- a draw: any number below m -/
theorem take_rule (hf : p.fn "_law_take" = some takeD) (hc : st[k]? = some B.cell) (hB : B.Ok) (hm : 0 < m) (hm2 : m ≤ 1000000)
    (h : ∀ (v : Int) (B' : Bag), 0 ≤ v → v < m → B'.Ok → Q (nt v) (st.set k B'.cell)) : Gk (p.run (n + 1) "_law_take" [.r k, nt m] st) Q := by
  have go : ∀ {a : Int} {b c : Int} {e2 e3 e4 e5 e6 : Option D}, 0 ≤ a → Hk (exs (p.tab n) (takeB.drop 1) [some (.r 0), some (nt m), e2, e3, e4, e5, e6] [.lst [nt a, nt b, nt c, .p (.list (B.xs.map .int))]]) (fun _ st1 => ∃ c1, st1[0]? = some c1 ∧ plain c1 = true ∧ Q nn (st.set k c1)) (fun v st1 => match v with
      | .p v => ∃ c1, st1[0]? = some c1 ∧ plain c1 = true ∧ Q (.p v) (st.set k c1)
      | .r _ => False) (fun _ _ => False) (fun _ _ => False) := fun ha => take_rest ha hm hm2 fun v a' b' c' h1 h2 h3 => ⟨_, rfl, bag_plain ⟨a', b', c', B.xs⟩, h v ⟨a', b', c', B.xs⟩ h1 h2 ⟨h3, hB.xs, hB.len⟩⟩
  refine C_foot hf rfl hc (bag_plain B) [.int m] rfl (by decide) ?_
  obtain ⟨a, b, c, xs⟩ := B
  obtain ⟨h1, h2, h3⟩ := hB
  dsimp only at h1 h2 h3 go
  show Hk (exs _ (_ :: _) [some (.r 0), some (nt m), none, none, none, none, none] [.lst [nt a, nt b, nt c, .p (.list (xs.map .int))]]) _ _ _ _
  refine K_cons ?_
  repeat trivial
  split
  · rename_i hz
    have hz : a = 0 := by
      have := (eqv_int a 0).symm.trans hz
      simpa using this
    subst hz
    exact take_first h2 h3 fun a' b' c' e4 e5 ha => go ha
  · exact K_nil (go h1)
/-! ### things drawn of a list -/
def someB : List Mi.B := [.ret (.idx (.var 1) (.call "_law_take" (.cons (.var 0) (.cons (.blt false .len (.cons (.var 1) .nil)) .nil))))]
def someD : Def := { ps := 2, ns := 2, mode := .foot, body := someB }
theorem atI_nat {α : Type} {xs : List α} {v : Int} (h1 : 0 ≤ v) (h2 : v < xs.length) : L2.atI xs v = xs[v.toNat]? := by
  unfold L2.atI L2.ixN
  rw [if_pos h1, if_pos h2]
  rfl
theorem some_rule (hf : p.fn "_law_take" = some takeD) (hg : p.fn "_law_some" = some someD) (hc : st[k]? = some B.cell) (hB : B.Ok) {xs : List PyData} (h0 : xs ≠ []) (hl : xs.length ≤ 1000000)
    (h : ∀ (x : PyData) (B' : Bag), x ∈ xs → B'.Ok → Q (.p x) (st.set k B'.cell)) : Gk (p.run (n + 2) "_law_some" [.r k, .p (.list xs)] st) Q := by
  have lp : 0 < xs.length := List.length_pos_iff.mpr h0
  refine C_foot hg rfl hc (bag_plain B) [.list xs] rfl (by decide) ?_
  show Hk (exs _ [_] [some (.r 0), some (.p (.list xs))] [B.cell]) _ _ _ _
  repeat trivial
  refine take_rule (B := B) (m := ((xs.map D.p).length : Int)) hf rfl hB (by rw [List.length_map]; omega) (by rw [List.length_map]; omega) fun v B' h1 h2 h3 => ?_
  rw [List.length_map] at h2
  have e : index (.p (.list xs)) (nt v) ([B.cell].set 0 B'.cell) = some (.p (xs[v.toNat]'(by omega)), [B'.cell]) := by
    show ((L2.atI (xs.map D.p) v).map fun d => (d, [B'.cell])) = _
    rw [atI_nat h1 (by rw [List.length_map]; exact h2), List.getElem?_map, List.getElem?_eq_getElem (by omega)]
    rfl
  refine O_some e ?_
  exact ⟨B'.cell, rfl, bag_plain B', h _ B' (List.getElem_mem _) h3⟩
end
end Mi

set_option Elab.async false
set_option linter.all false
set_option maxRecDepth 100000
set_option maxHeartbeats 4000000
/-! Mi20: more helpers that all laws share. -/
namespace Mi
open PySem
theorem ite_no {c : Prop} [Decidable c] {A B : Prop} (h : decide c = false) (k : B) : if c then A else B := by rw [if_neg (of_decide_eq_false h)]; exact k
theorem ite_yes {c : Prop} [Decidable c] {A B : Prop} (h : decide c = true) (k : A) : if c then A else B := by rw [if_pos (of_decide_eq_true h)]; exact k
local macro_rules
  | `(tactic| trivial) => `(tactic| first
    | refine K_cons ?_
    | refine K_nil ?_
    | refine K_set ?_
    | refine K_par ?_
    | refine K_tgt ?_
    | refine K_six ?_
    | refine K_aix ?_
    | refine K_exp ?_
    | refine K_ret ?_
    | refine K_ife ?_
    | refine K_aug rfl ?_
    | refine R_var rfl ?_
    | refine R_cst ?_
    | refine R_bin ?_
    | refine R_cmp ?_
    | refine R_chn ?_
    | refine R_and ?_
    | refine R_or ?_
    | refine R_not ?_
    | refine R_tup ?_
    | refine R_lst ?_
    | refine R_call ?_
    | refine R_blt ?_
    | refine R_isi ?_
    | refine R_idx ?_
    | refine R_sli ?_
    | refine R_neg ?_
    | refine R_nil ?_
    | refine R_cons ?_
    | refine R_no ?_
    | refine R_so ?_
    | refine T_val_ ?_
    | refine T_both_ ?_
    | refine T_eith_ ?_
    | refine T_neg_ ?_
    | refine T_yes_ ?_
    | refine O_add ?_
    | refine O_sub ?_
    | refine O_mulR (by decide) ?_
    | refine O_mulL (by decide) ?_
    | refine O_mod (by decide) ?_
    | refine O_some rfl ?_
    | refine ite_no rfl ?_
    | refine ite_yes rfl ?_
    | refine ⟨_, rfl, ?_⟩
    | refine ⟨_, _, rfl, rfl, ?_⟩
    | refine ⟨Nat.le_of_ble_eq_true rfl, ?_⟩
    | refine ⟨⟨Nat.le_of_ble_eq_true rfl, Nat.le_of_ble_eq_true rfl, by decide⟩, ?_⟩)
section
variable {p : Prog} {n k : Nat} {st : Store} {Q : D → Store → Prop} {B : Bag} {m : Int}
/-! ### the bag of a script -/
def bagB : List Mi.B := [.ret (.lst true (.cons (.cst (.int 0)) (.cons (.cst (.int 1234567891)) (.cons (.cst (.int 0)) (.cons (.lc false [1] (.blt false .abs (.cons (.var 1) .nil)) (.nm 1) (.val (.sli false (.var 0) .no (.so (.cst (.int 63))))) .yes) .nil)))))]
def bagD : Def := { ps := 1, ns := 2, mode := .pure, body := bagB }
theorem bag_rule (hf : p.fn "_law_bag" = some bagD) {ns : List Int} (hl : ns.length ≤ 1000) (h : ∀ B : Bag, B.Ok → Q (.r st.length) (st ++ [B.cell])) : Gk (p.run (n + 1) "_law_bag" [.p (.list (ns.map .int))] st) Q := by
  refine C_pure hf rfl [.list (ns.map .int)] rfl (by decide) ?_
  show Hk (exs _ [_] [some (.p (.list (ns.map .int))), none] []) _ _ _ _
  repeat trivial
  refine R_lc ?_
  refine I_val_ ?_
  repeat trivial
  refine O_slice (m := fun _ _ => True) (by rw [List.length_map]; unfold LIM; omega) ?_
  have e : cut (ns.map PyData.int) none (some 63) = (cut ns none (some 63)).map PyData.int := by
    unfold cut
    rw [List.length_map, ← List.map_drop, ← List.map_take]
  rw [e]
  have len := cut_len ns none (some 63)
  generalize cut ns none (some 63) = ks at len
  refine ⟨_, rfl, _, rfl, ?_⟩
  refine L_pure (g := fun d => match d with | .p (.int i) => some (nt (if i < 0 then -i else i)) | _ => none) (fun x hx => ?_) ?_
  · obtain ⟨y, hy, rfl⟩ := List.mem_map.mp hx
    obtain ⟨i, hi, rfl⟩ := List.mem_map.mp hy
    rfl
  · have e2 : (List.map D.p (ks.map PyData.int)).filterMap (fun d => match d with | .p (.int i) => some (nt (if i < 0 then -i else i)) | _ => none) = (ks.map fun i => PyData.int (if i < 0 then -i else i)).map D.p := by
      clear len
      induction ks with
      | nil => rfl
      | cons i ks ih =>
        rw [List.map_cons, List.map_cons, List.filterMap_cons]
        dsimp only
        rw [ih]; rfl
    rw [e2]
    refine O_fin (by rw [List.length_map]; unfold LIM; omega) ?_
    repeat trivial
    refine ⟨rfl, ?_⟩
    · have := h ⟨0, 1234567891, 0, ks.map fun i => if i < 0 then -i else i⟩ ⟨Int.le_refl _, fun x hx => ?_, by rw [List.length_map]; omega⟩
      · unfold Bag.cell at this
        rw [List.map_map] at this
        exact this
      · obtain ⟨i, _, rfl⟩ := List.mem_map.mp hx
        split <;> omega
/-! ### things alike -/
mutual
/-- no dicts within -/
def good : PyData → Bool
  | .list xs => goods xs
  | .tuple xs => goods xs
  | .dict _ => false
  | _ => true
def goods : List PyData → Bool
  | [] => true
  | x :: xs => good x && goods xs
end
mutual
/-- how many things -/
def sz : PyData → Nat
  | .list xs => szs xs + 1
  | .tuple xs => szs xs + 1
  | _ => 1
def szs : List PyData → Nat
  | [] => 0
  | x :: xs => sz x + szs xs
end
theorem goods_mem : ∀ {xs : List PyData}, goods xs = true → ∀ x ∈ xs, good x = true
  | y :: ys, h, x, hx => by
    have h : (good y && goods ys) = true := h
    rw [Bool.and_eq_true] at h
    rcases List.mem_cons.mp hx with rfl | hx
    · exact h.1
    · exact goods_mem h.2 x hx
theorem szs_app : ∀ (xs ys : List PyData), szs (xs ++ ys) = szs xs + szs ys
  | [], ys => by simp [szs]
  | x :: xs, ys => by show sz x + szs (xs ++ ys) = sz x + szs xs + szs ys; rw [szs_app xs ys]; omega
theorem sz_pos (x : PyData) : 0 < sz x := by cases x <;> simp [sz]
theorem szs_len : ∀ xs : List PyData, xs.length ≤ szs xs
  | [] => Nat.le_refl _
  | x :: xs => by
    have := szs_len xs
    have := sz_pos x
    show xs.length + 1 ≤ sz x + szs xs
    omega
def two (x : PyData) : D := .p (.tuple [x, x])
def alikeB : List Mi.B := [
  .par 2 3 (.lst true (.cons (.tup (.cons (.var 0) (.cons (.var 1) .nil))) .nil)) (.cst (.int 0)),
  .whl (.val (.cmp .Lt (.var 3) (.blt false .len (.cons (.var 2) .nil)))) [.tgt (.tp [(.nm 4), (.nm 5)]) (.idx (.var 2) (.var 3)), .aug 3 .Add (.cst (.int 1)), .ife (.eith (.val (.cmp .NotEq (.isi (.var 4) [.bool]) (.isi (.var 5) [.bool]))) (.val (.cmp .NotEq (.isi (.var 4) [.str]) (.isi (.var 5) [.str])))) [.ret (.cst (.bool false))] [], .ife (.val (.cmp .NotEq (.isi (.var 4) [.tuple, .list]) (.isi (.var 5) [.tuple, .list]))) [.ret (.cst (.bool false))] [], .ife (.val (.isi (.var 4) [.tuple, .list])) [.ife (.eith (.val (.cmp .NotEq (.isi (.var 4) [.tuple]) (.isi (.var 5) [.tuple]))) (.val (.cmp .NotEq (.blt false .len (.cons (.var 4) .nil)) (.blt false .len (.cons (.var 5) .nil))))) [.ret (.cst (.bool false))] [], .exp (.mth false (.var 2) .extend (.cons (.lzip false (.var 4) (.var 5)) .nil))] [.ife (.val (.cmp .NotEq (.var 4) (.var 5))) [.ret (.cst (.bool false))] []]],
  .ret (.cst (.bool true))]
def alikeD : Def := { ps := 2, ns := 6, mode := .pure, body := alikeB }
/-- what holds between the turns -/
def AI (v w : PyData) (r : Nat) (e : Env) (st : Store) : Prop := ∃ (xs : List PyData) (i : Nat) (e4 e5 : Option D), e = [some (.p v), some (.p w), some (.r 0), some (nt (i : Nat)), e4, e5] ∧ st = [.lst (xs.map two)] ∧ i ≤ xs.length ∧ (∀ x ∈ xs.drop i, good x = true) ∧ r = szs (xs.drop i) ∧ i + szs (xs.drop i) ≤ LIM
theorem AI.start (v w : PyData) (x : PyData) (h : good x = true) (hs : sz x ≤ LIM) {e4 e5 : Option D} : AI v w (sz x) [some (.p v), some (.p w), some (.r 0), some (nt 0), e4, e5] [.lst [two x]] :=
  ⟨[x], 0, e4, e5, rfl, rfl, Nat.zero_le _, fun y hy => by simp at hy; rw [hy]; exact h, by simp [szs], by simp [szs]; exact hs⟩
theorem eqv_bool (b : Bool) : PyData.eqv (.bool b) (.bool b) = true := by cases b <;> rfl
theorem eqv_flat {x : PyData} (h : flat x = true) : PyData.eqv x x = true := by
  cases x with
  | none => rfl
  | bool b => exact eqv_bool b
  | int i => show (i == i) = true; exact beq_self_eq_true i
  | str s => show (s == s) = true; exact beq_self_eq_true s
  | _ => cases h
theorem drop_cons {xs : List PyData} {i : Nat} (h : i < xs.length) : xs.drop i = xs[i] :: xs.drop (i + 1) := List.drop_eq_getElem_cons h
theorem O_lzip {ys : List PyData} (h : ys.length ≤ LIM) (k : Q (.p (.list (ys.map fun y => .tuple [y, y]))) st) : Gk (lzip false (.p (.list ys)) (.p (.list ys)) st).toR Q ∧ Gk (lzip false (.p (.tuple ys)) (.p (.tuple ys)) st).toR Q := by
  have e : (ys.zip ys).map (fun q => D.p (.tuple [q.1, q.2])) = (ys.map fun y => PyData.tuple [y, y]).map D.p := by
    rw [List.map_map]
    clear h k
    induction ys with
    | nil => rfl
    | cons y ys ih => rw [List.zip_cons_cons, List.map_cons, List.map_cons, ih]; rfl
  have q : Gk (fin false ((ys.zip ys).map fun q => D.p (.tuple [q.1, q.2])) st).toR Q := by
    rw [e]
    exact O_fin (by rw [List.length_map]; exact h) k
  have go : ((pures (ys.map D.p)).bind fun xs => (pures (ys.map D.p)).bind fun zs => if xs.length = zs.length then fin false ((xs.zip zs).map fun q => D.p (.tuple [q.1, q.2])) st else none) = fin false ((ys.zip ys).map fun q => D.p (.tuple [q.1, q.2])) st := by
    rw [pures_map]
    show (if ys.length = ys.length then _ else _) = _
    rw [if_pos rfl]
  exact ⟨by
    show Gk (O.toR ((pures (ys.map D.p)).bind fun xs => (pures (ys.map D.p)).bind fun zs => if xs.length = zs.length then fin false ((xs.zip zs).map fun q => D.p (.tuple [q.1, q.2])) st else none)) Q
    rw [go]; exact q, by
    show Gk (O.toR ((pures (ys.map D.p)).bind fun xs => (pures (ys.map D.p)).bind fun zs => if xs.length = zs.length then fin false ((xs.zip zs).map fun q => D.p (.tuple [q.1, q.2])) st else none)) Q
    rw [go]; exact q⟩
theorem neq_self {n : Int} {A B : Prop} (k : B) : if (!PyData.eqv (.int n) (.int n)) = true then A else B := by
  rw [if_neg (by rw [eqv_int]; simp)]; exact k
theorem two_map (ys : List PyData) : (ys.map fun y => PyData.tuple [y, y]).map D.p = ys.map two := by rw [List.map_map]; rfl
/-- the list of couples grows -/
theorem AI.grow {v w : PyData} {xs ys : List PyData} {i : Nat} {e4 e5 : Option D} {x : PyData} (hi : i < xs.length) (hx : xs[i] = x) (hg : ∀ x ∈ xs.drop i, good x = true) (hl : i + szs (xs.drop i) ≤ LIM) (hs : sz x = szs ys + 1) (hy : ∀ y ∈ ys, good y = true) :
    xs.length + ys.length ≤ LIM ∧ ∃ m, m < szs (xs.drop i) ∧ AI v w m [some (.p v), some (.p w), some (.r 0), some (nt ((i : Nat) + 1)), e4, e5] [.lst (xs.map two ++ ys.map two)] := by
  have e := drop_cons hi
  have hz : szs (xs.drop i) = sz x + szs (xs.drop (i + 1)) := by rw [e, hx]; rfl
  have l1 := szs_len ys
  have l2 := szs_len (xs.drop (i + 1))
  rw [List.length_drop] at l2
  have hd : (xs ++ ys).drop (i + 1) = xs.drop (i + 1) ++ ys := by rw [List.drop_append_of_le_length (by omega)]
  refine ⟨by omega, szs (xs.drop (i + 1)) + szs ys, by omega, xs ++ ys, i + 1, e4, e5, by simp, by rw [List.map_append], by rw [List.length_append]; omega, fun y hy' => ?_, ?_, ?_⟩
  · rw [hd] at hy'
    rcases List.mem_append.mp hy' with q | q
    · exact hg y (by rw [e]; exact List.mem_cons_of_mem _ q)
    · exact hy y q
  · rw [hd, szs_app]
  · rw [hd, szs_app]; omega
theorem alike_turn {T : Tab} {v w : PyData} {r : Nat} {e : Env} {s : Store} {Rt : D → Store → Prop} (h : AI v w r e s) : Gk (evT T (.val (.cmp .Lt (.var 3) (.blt false .len (.cons (.var 2) .nil)))) e s) fun k st1 => if k = true then Hk (exs T
    [.tgt (.tp [(.nm 4), (.nm 5)]) (.idx (.var 2) (.var 3)), .aug 3 .Add (.cst (.int 1)), .ife (.eith (.val (.cmp .NotEq (.isi (.var 4) [.bool]) (.isi (.var 5) [.bool]))) (.val (.cmp .NotEq (.isi (.var 4) [.str]) (.isi (.var 5) [.str])))) [.ret (.cst (.bool false))] [], .ife (.val (.cmp .NotEq (.isi (.var 4) [.tuple, .list]) (.isi (.var 5) [.tuple, .list]))) [.ret (.cst (.bool false))] [], .ife (.val (.isi (.var 4) [.tuple, .list])) [.ife (.eith (.val (.cmp .NotEq (.isi (.var 4) [.tuple]) (.isi (.var 5) [.tuple]))) (.val (.cmp .NotEq (.blt false .len (.cons (.var 4) .nil)) (.blt false .len (.cons (.var 5) .nil))))) [.ret (.cst (.bool false))] [], .exp (.mth false (.var 2) .extend (.cons (.lzip false (.var 4) (.var 5)) .nil))] [.ife (.val (.cmp .NotEq (.var 4) (.var 5))) [.ret (.cst (.bool false))] []]]
    e st1) (fun e2 st2 => ∃ m, m < r ∧ AI v w m e2 st2) Rt (fun _ _ => True) (fun e2 st2 => ∃ m, m < r ∧ AI v w m e2 st2) else True := by
  obtain ⟨xs, i, e4, e5, rfl, rfl, hi, hg, rfl, hl⟩ := h
  repeat trivial
  split
  · rename_i hlt
    have hlt : i < xs.length := by
      have := of_decide_eq_true hlt
      simpa using this
    have ix : index (.r 0) (nt (i : Nat)) [.lst (xs.map two)] = some (two xs[i], [.lst (xs.map two)]) := by
      show ((L2.atI (xs.map two) (i : Nat)).map fun d => (d, [Cell.lst (xs.map two)])) = _
      rw [atI_nat (by omega) (by rw [List.length_map]; omega), Int.toNat_natCast, List.getElem?_map, List.getElem?_eq_getElem hlt]
      rfl
    repeat trivial
    refine O_some ix ?_
    have gx : good xs[i] = true := hg _ (by rw [drop_cons hlt]; exact List.mem_cons_self)
    generalize hx : xs[i] = x at gx
    have flatc : sz x = 1 → ∃ m, m < szs (xs.drop i) ∧ AI v w m [some (.p v), some (.p w), some (.r 0), some (nt ((i : Nat) + 1)), some (.p x), some (.p x)] [.lst (xs.map two)] := fun h1 => by
      obtain ⟨_, m, h2, h3⟩ := AI.grow (v := v) (w := w) (ys := []) (e4 := some (.p x)) (e5 := some (.p x)) hlt hx hg hl (by rw [h1]; rfl) (fun y hy => by cases hy)
      exact ⟨m, h2, by simpa using h3⟩
    have flat_no : ∀ {A B : Prop}, flat x = true → B → if (!PyData.eqv x x) = true then A else B := fun hf k => by rw [if_neg (by rw [eqv_flat hf]; simp)]; exact k
    have seqs : ∀ {ys : List PyData}, sz x = szs ys + 1 → goods ys = true → xs.length + ys.length ≤ LIM ∧ ys.length ≤ LIM ∧ ∃ m, m < szs (xs.drop i) ∧ AI v w m [some (.p v), some (.p w), some (.r 0), some (nt ((i : Nat) + 1)), some (.p x), some (.p x)] [.lst (xs.map two ++ ys.map two)] := fun {ys} h1 h2 => by
      obtain ⟨l1, r⟩ := AI.grow (v := v) (w := w) (e4 := some (.p x)) (e5 := some (.p x)) hlt hx hg hl h1 (goods_mem h2)
      exact ⟨l1, by omega, r⟩
    have ext : ∀ {ys : List PyData} {Q : D → Store → Prop}, xs.length + ys.length ≤ LIM → Q nn [.lst (xs.map two ++ ys.map two)] → Gk (method false .extend (.r 0) [.p (.list (ys.map fun y => .tuple [y, y]))] [.lst (xs.map two)]).toR Q := fun {ys Q} h1 h2 => by
      have e : method false .extend (.r 0) [.p (.list (ys.map fun y => .tuple [y, y]))] [.lst (xs.map two)] = some (nn, [.lst (xs.map two ++ ys.map two)]) := by
        show (if (xs.map two).length + ((ys.map fun y => PyData.tuple [y, y]).map D.p).length ≤ LIM then some (nn, [Cell.lst (xs.map two ++ (ys.map fun y => PyData.tuple [y, y]).map D.p)]) else none) = _
        rw [two_map, if_pos (by rw [List.length_map, List.length_map]; exact h1)]
      exact O_some e h2
    cases x with
    | none =>
      repeat trivial
      exact flatc rfl
    | bool b =>
      repeat trivial
      refine flat_no rfl ?_
      repeat trivial
      exact flatc rfl
    | int j =>
      repeat trivial
      refine flat_no rfl ?_
      repeat trivial
      exact flatc rfl
    | str z =>
      repeat trivial
      refine flat_no rfl ?_
      repeat trivial
      exact flatc rfl
    | list ys =>
      obtain ⟨l1, l2, fin⟩ := seqs rfl gx
      repeat trivial
      refine neq_self ?_
      repeat trivial
      refine R_mth ?_
      repeat trivial
      refine R_lzip ?_
      repeat trivial
      refine (O_lzip l2 ?_).1
      repeat trivial
      refine ext l1 ?_
      repeat trivial
      try exact fin
    | tuple ys =>
      obtain ⟨l1, l2, fin⟩ := seqs rfl gx
      repeat trivial
      refine neq_self ?_
      repeat trivial
      refine R_mth ?_
      repeat trivial
      refine R_lzip ?_
      repeat trivial
      refine (O_lzip l2 ?_).2
      repeat trivial
      refine ext l1 ?_
      repeat trivial
      try exact fin
    | dict _ => cases gx
  · repeat trivial
/-- a thing is like itself -/
theorem alike_rule (hf : p.fn "_law_alike" = some alikeD) {x : PyData} (hg : good x = true) (hs : sz x ≤ LIM) (h : Q (bl true) st) : Gk (p.run (n + 1) "_law_alike" [.p x, .p x] st) Q := by
  refine C_pure hf rfl [x, x] rfl (by decide) ?_
  show Hk (exs _ (_ :: _) [some (.p x), some (.p x), none, none, none, none] []) _ _ _ _
  repeat trivial
  refine K_whl ?_
  refine Hk.mono (W_rule (c := evT (p.tab n) _) (b := exs (p.tab n) _) (N := fun _ _ => True) (AI x x) (fun r e s hI => alike_turn hI) (AI.start x x x hg hs)) (fun e s _ => ?_) (fun _ _ h => h) (fun _ _ h => h) (fun _ _ h => h)
  repeat trivial
  try exact h
end
end Mi

set_option Elab.async false
set_option linter.all false
set_option maxRecDepth 100000
set_option maxHeartbeats 4000000
/-! the text of the law as code; printed by gen.py -/
namespace K01
open PySem PySem.Spec PyProof.Rows L2 Mi
def top (i : Nat) : Stmt := PySem.Challenge.pw_headswaps_k01_forms_of_any_values.main.body.getD i (.Pass ⟨0, 0, 0, 0⟩)
def b_is_integer : List B := [
  .ret (.andC (.isi (.var 0) [.int]) (.notC (.isi (.var 0) [.bool])))]
def d_is_integer : DefT := { x := "is_integer", qual := "is_integer", params := defArgs (top 4), ps := ["thing"], N := ["thing"], scope := defScope (top 4), text := defBody (top 4), mu := [], fuel := 80, d := { ps := 1, ns := 1, mode := .pure, body := b_is_integer } }
def b_is_within : List B := [
  .ret (.andC (.call "is_integer" (.cons (.var 0) .nil)) (.chn .LtE .LtE (.var 1) (.var 0) (.var 2)))]
def d_is_within : DefT := { x := "is_within", qual := "is_within", params := defArgs (top 5), ps := ["thing", "least", "most"], N := ["thing", "least", "most"], scope := defScope (top 5), text := defBody (top 5), mu := [], fuel := 80, d := { ps := 3, ns := 3, mode := .pure, body := b_is_within } }
def b_is_name : List B := [
  .ife (.eith (.neg (.val (.isi (.var 0) [.str]))) (.eith (.neg (.val (.chn .LtE .LtE (.cst (.int 1)) (.blt false .len (.cons (.var 0) .nil)) (.glo "MOST_NAME")))) (.val (.cmp .In (.var 0) (.glo "RESERVED"))))) [.ret (.cst (.bool false))] [],
  .ret (.blt false .all (.cons (.lc false [1] (.cmp .In (.var 1) (.glo "LETTERS")) (.nm 1) (.val (.var 0)) .yes) .nil))]
def d_is_name : DefT := { x := "is_name", qual := "is_name", params := defArgs (top 6), ps := ["thing"], N := ["thing", "sign"], scope := defScope (top 6), text := defBody (top 6), mu := [], fuel := 80, d := { ps := 1, ns := 2, mode := .pure, body := b_is_name } }
def b_are_names : List B := [
  .ife (.eith (.neg (.val (.isi (.var 0) [.tuple]))) (.eith (.neg (.val (.chn .LtE .LtE (.var 1) (.blt false .len (.cons (.var 0) .nil)) (.var 2)))) (.neg (.val (.blt false .all (.cons (.lc false [3] (.call "is_name" (.cons (.var 3) .nil)) (.nm 3) (.val (.var 0)) .yes) .nil)))))) [.ret (.cst (.bool false))] [],
  .ret (.cmp .Eq (.blt false .len (.cons (.dc [3] (.var 3) (.cst (.bool true)) (.nm 3) (.val (.var 0)) .yes) .nil)) (.blt false .len (.cons (.var 0) .nil)))]
def d_are_names : DefT := { x := "are_names", qual := "are_names", params := defArgs (top 7), ps := ["thing", "least", "most"], N := ["thing", "least", "most", "one"], scope := defScope (top 7), text := defBody (top 7), mu := [], fuel := 80, d := { ps := 3, ns := 4, mode := .pure, body := b_are_names } }
def b_is_index_lot : List B := [
  .ife (.eith (.neg (.val (.isi (.var 0) [.tuple]))) (.eith (.val (.cmp .Eq (.var 0) (.tup .nil))) (.neg (.val (.blt false .all (.cons (.lc false [2] (.call "is_within" (.cons (.var 2) (.cons (.cst (.int 0)) (.cons (.bin false .Sub (.var 1) (.cst (.int 1))) .nil)))) (.nm 2) (.val (.var 0)) .yes) .nil)))))) [.ret (.cst (.bool false))] [],
  .ret (.cmp .Eq (.blt false .list (.cons (.var 0) .nil)) (.blt false .sorted (.cons (.dc [2] (.var 2) (.cst (.bool true)) (.nm 2) (.val (.var 0)) .yes) .nil)))]
def d_is_index_lot : DefT := { x := "is_index_lot", qual := "is_index_lot", params := defArgs (top 8), ps := ["thing", "many"], N := ["thing", "many", "one"], scope := defScope (top 8), text := defBody (top 8), mu := [], fuel := 80, d := { ps := 2, ns := 3, mode := .pure, body := b_is_index_lot } }
def b_is_count_tuple : List B := [
  .ret (.andC (.isi (.var 0) [.tuple]) (.andC (.cmp .Eq (.blt false .len (.cons (.var 0) .nil)) (.var 1)) (.blt false .all (.cons (.lc false [2] (.andC (.call "is_integer" (.cons (.var 2) .nil)) (.cmp .GtE (.var 2) (.cst (.int 0)))) (.nm 2) (.val (.var 0)) .yes) .nil))))]
def d_is_count_tuple : DefT := { x := "is_count_tuple", qual := "is_count_tuple", params := defArgs (top 9), ps := ["thing", "many"], N := ["thing", "many", "one"], scope := defScope (top 9), text := defBody (top 9), mu := [], fuel := 80, d := { ps := 2, ns := 3, mode := .pure, body := b_is_count_tuple } }
def b_law_take : List B := [
  .ife (.val (.cmp .Eq (.idx (.var 0) (.cst (.int 0))) (.cst (.int 0)))) [.set 4 (.idx (.bin false .Add (.sli false (.idx (.var 0) (.cst (.int 3))) (.so (.idx (.var 0) (.cst (.int 2)))) .no) (.lst false (.cons (.cst (.int 0)) .nil))) (.cst (.int 0))), .aix (.var 0) (.cst (.int 2)) .Add (.cst (.int 1)), .ife (.val (.cmp .GtE (.var 4) (.bin false .Pow (.cst (.int 10)) (.cst (.int 18))))) [.six (.var 0) (.cst (.int 0)) (.var 4)] [], .set 5 (.bin false .Add (.bin false .Add (.bin false .Mult (.idx (.var 0) (.cst (.int 1))) (.cst (.int 48271))) (.bin false .Mod (.blt false .int (.cons (.var 4) .nil)) (.cst (.int 2147483647)))) (.bin false .Mult (.cst (.int 7919)) (.idx (.var 0) (.cst (.int 2))))), .six (.var 0) (.cst (.int 1)) (.bin false .Mod (.blt false .int (.cons (.var 5) .nil)) (.cst (.int 2147483647)))] [],
  .ife (.val (.cmp .Gt (.idx (.var 0) (.cst (.int 0))) (.cst (.int 0)))) [.set 6 (.bin false .Mod (.blt false .int (.cons (.idx (.var 0) (.cst (.int 0))) .nil)) (.var 1)), .six (.var 0) (.cst (.int 0)) (.bin false .FloorDiv (.blt false .int (.cons (.idx (.var 0) (.cst (.int 0))) .nil)) (.var 1)), .ret (.var 6)] [],
  .set 2 (.bin false .Mod (.blt false .int (.cons (.bin false .Mult (.bin false .Add (.idx (.var 0) (.cst (.int 1))) (.cst (.int 1))) (.cst (.int 39373))) .nil)) (.cst (.int 1000000007))),
  .set 3 (.bin false .Mod (.blt false .int (.cons (.bin false .Mult (.bin false .Mod (.blt false .int (.cons (.bin false .Mult (.var 2) (.var 2)) .nil)) (.cst (.int 998244353))) (.cst (.int 30011))) .nil)) (.cst (.int 998244353))),
  .ret (.bin false .Mod (.blt false .int (.cons (.bin false .FloorDiv (.var 3) (.cst (.int 7))) .nil)) (.var 1))]
def d_law_take : DefT := { x := "_law_take", qual := "_law_take", params := defArgs (top 11), ps := ["bag", "many"], N := ["bag", "many", "begin", "second", "cell", "stirred", "value"], scope := defScope (top 11), text := defBody (top 11), mu := ["bag"], fuel := 80, d := { ps := 2, ns := 7, mode := .foot, body := b_law_take } }
def b_law_some : List B := [
  .ret (.idx (.var 1) (.call "_law_take" (.cons (.var 0) (.cons (.blt false .len (.cons (.var 1) .nil)) .nil))))]
def d_law_some : DefT := { x := "_law_some", qual := "_law_some", params := defArgs (top 12), ps := ["bag", "things"], N := ["bag", "things"], scope := defScope (top 12), text := defBody (top 12), mu := [], fuel := 80, d := { ps := 2, ns := 2, mode := .foot, body := b_law_some } }
def b_law_bag : List B := [
  .ret (.lst true (.cons (.cst (.int 0)) (.cons (.cst (.int 1234567891)) (.cons (.cst (.int 0)) (.cons (.lc false [1] (.blt false .abs (.cons (.var 1) .nil)) (.nm 1) (.val (.sli false (.var 0) .no (.so (.cst (.int 63))))) .yes) .nil)))))]
def d_law_bag : DefT := { x := "_law_bag", qual := "_law_bag", params := defArgs (top 13), ps := ["script"], N := ["script", "cell"], scope := defScope (top 13), text := defBody (top 13), mu := ["return"], fuel := 80, d := { ps := 1, ns := 2, mode := .pure, body := b_law_bag } }
def x_law_alike_1 : List B := [.tgt (.tp [(.nm 4), (.nm 5)]) (.idx (.var 2) (.var 3)),
  .aug 3 .Add (.cst (.int 1)),
  .ife (.eith (.val (.cmp .NotEq (.isi (.var 4) [.bool]) (.isi (.var 5) [.bool]))) (.val (.cmp .NotEq (.isi (.var 4) [.str]) (.isi (.var 5) [.str])))) [.ret (.cst (.bool false))] [],
  .ife (.val (.cmp .NotEq (.isi (.var 4) [.tuple, .list]) (.isi (.var 5) [.tuple, .list]))) [.ret (.cst (.bool false))] [],
  .ife (.val (.isi (.var 4) [.tuple, .list])) [.ife (.eith (.val (.cmp .NotEq (.isi (.var 4) [.tuple]) (.isi (.var 5) [.tuple]))) (.val (.cmp .NotEq (.blt false .len (.cons (.var 4) .nil)) (.blt false .len (.cons (.var 5) .nil))))) [.ret (.cst (.bool false))] [], .exp (.mth false (.var 2) .extend (.cons (.lzip false (.var 4) (.var 5)) .nil))] [.ife (.val (.cmp .NotEq (.var 4) (.var 5))) [.ret (.cst (.bool false))] []]]
def b_law_alike : List B := [
  .par 2 3 (.lst true (.cons (.tup (.cons (.var 0) (.cons (.var 1) .nil))) .nil)) (.cst (.int 0)),
  .whl (.val (.cmp .Lt (.var 3) (.blt false .len (.cons (.var 2) .nil)))) x_law_alike_1,
  .ret (.cst (.bool true))]
def d_law_alike : DefT := { x := "_law_alike", qual := "_law_alike", params := defArgs (top 14), ps := ["found", "due"], N := ["found", "due", "pairs", "at", "one", "other"], scope := defScope (top 14), text := defBody (top 14), mu := ["pairs"], fuel := 80, d := { ps := 2, ns := 6, mode := .pure, body := b_law_alike } }
def b_law_is_int : List B := [
  .ret (.andC (.isi (.var 0) [.int]) (.notC (.isi (.var 0) [.bool])))]
def d_law_is_int : DefT := { x := "_law_is_int", qual := "_law_is_int", params := defArgs (top 15), ps := ["thing"], N := ["thing"], scope := defScope (top 15), text := defBody (top 15), mu := [], fuel := 80, d := { ps := 1, ns := 1, mode := .pure, body := b_law_is_int } }
def b_law_is_name : List B := [
  .ife (.eith (.neg (.val (.isi (.var 0) [.str]))) (.eith (.neg (.val (.chn .LtE .LtE (.cst (.int 1)) (.blt false .len (.cons (.var 0) .nil)) (.cst (.int 8))))) (.val (.cmp .In (.var 0) (.tup (.cons (.cst (.str "lot")) (.cons (.cst (.str "none")) (.cons (.cst (.str "standing")) .nil)))))))) [.ret (.cst (.bool false))] [],
  .ret (.cmp .Eq (.lc false [1] (.cst (.int 1)) (.nm 1) (.val (.var 0)) (.val (.cmp .NotIn (.var 1) (.cst (.str "abcdefghijklmnopqrstuvwxyz"))))) (.lst false .nil))]
def d_law_is_name : DefT := { x := "_law_is_name", qual := "_law_is_name", params := defArgs (top 16), ps := ["thing"], N := ["thing", "sign"], scope := defScope (top 16), text := defBody (top 16), mu := [], fuel := 80, d := { ps := 1, ns := 2, mode := .pure, body := b_law_is_name } }
def b_law_word : List B := [
  .set 1 (.lst false (.cons (.cst (.str "a")) (.cons (.cst (.str "zz")) (.cons (.cst (.str "lot")) (.cons (.cst (.str "none")) (.cons (.cst (.str "standing")) (.cons (.cst (.str "lots")) (.cons (.cst (.str "nones")) (.cons (.cst (.str "standin")) (.cons (.cst (.str "abcdefgh")) .nil)))))))))),
  .ret (.call "_law_some" (.cons (.var 0) (.cons (.bin false .Add (.var 1) (.lst false (.cons (.cst (.str "abcdefghi")) (.cons (.cst (.str "")) (.cons (.cst (.str "A")) (.cons (.cst (.str "a1")) (.cons (.cst (.str "a ")) (.cons (.cst (.str "nos")) (.cons (.cst (.str "a-b")) (.cons (.cst .none) (.cons (.cst (.int 7)) (.cons (.cst (.bool true)) (.cons (.tup (.cons (.cst (.str "a")) .nil)) (.cons (.lst false (.cons (.cst (.str "a")) .nil)) .nil)))))))))))))) .nil)))]
def d_law_word : DefT := { x := "_law_word", qual := "_law_word", params := defArgs (top 17), ps := ["bag"], N := ["bag", "some"], scope := defScope (top 17), text := defBody (top 17), mu := [], fuel := 80, d := { ps := 1, ns := 2, mode := .foot, body := b_law_word } }
def x_law_1 : List B := [.set 11 (.andC (.isi (.var 4) [.tuple]) (.cmp .Eq (.lc false [14] (.cst (.int 1)) (.nm 14) (.val (.var 4)) (.neg (.val (.call "_law_is_name" (.cons (.var 14) .nil))))) (.lst false .nil))),
  .set 11 (.andC (.var 11) (.cmp .Eq (.lc false [13] (.cst (.int 1)) (.nm 13) (.rng (.cst (.int 0)) (.blt false .len (.cons (.var 4) .nil))) (.val (.cmp .In (.idx (.var 4) (.var 13)) (.sli false (.var 4) .no (.so (.var 13)))))) (.lst false .nil))),
  .set 11 (.andC (.var 11) (.chn .LtE .LtE (.var 9) (.blt false .len (.cons (.var 4) .nil)) (.var 10))),
  .ife (.neg (.val (.call "_law_alike" (.cons (.call "are_names" (.cons (.var 4) (.cons (.var 9) (.cons (.var 10) .nil)))) (.cons (.var 11) .nil))))) [.ret (.cst (.bool false))] []]
def x_law_2 : List B := [.set 12 (.call "_law_take" (.cons (.var 1) (.cons (.cst (.int 6)) .nil))),
  .set 11 (.andC (.isi (.var 4) [.tuple]) (.andC (.cmp .NotEq (.var 4) (.tup .nil)) (.cmp .Eq (.lc false [14] (.cst (.int 1)) (.nm 14) (.val (.var 4)) (.neg (.val (.call "_law_is_int" (.cons (.var 14) .nil))))) (.lst false .nil)))),
  .set 11 (.andC (.var 11) (.andC (.cmp .Eq (.blt false .list (.cons (.var 4) .nil)) (.blt false .sset (.cons (.var 4) .nil))) (.andC (.cmp .LtE (.cst (.int 0)) (.idx (.var 4) (.cst (.int 0)))) (.cmp .Lt (.idx (.var 4) (.neg (.cst (.int 1)))) (.var 12))))),
  .ife (.neg (.val (.call "_law_alike" (.cons (.call "is_index_lot" (.cons (.var 4) (.cons (.var 12) .nil))) (.cons (.var 11) .nil))))) [.ret (.cst (.bool false))] [],
  .set 11 (.andC (.isi (.var 4) [.tuple]) (.cmp .Eq (.blt false .len (.cons (.var 4) .nil)) (.var 12))),
  .set 11 (.andC (.var 11) (.cmp .Eq (.lc false [14] (.cst (.int 1)) (.nm 14) (.val (.var 4)) (.eith (.neg (.val (.call "_law_is_int" (.cons (.var 14) .nil)))) (.val (.cmp .Lt (.var 14) (.cst (.int 0)))))) (.lst false .nil))),
  .ife (.neg (.val (.call "_law_alike" (.cons (.call "is_count_tuple" (.cons (.var 4) (.cons (.var 12) .nil))) (.cons (.var 11) .nil))))) [.ret (.cst (.bool false))] []]
def x_law_3 : List B := [.par 7 8 (.call "_law_word" (.cons (.var 1) .nil)) (.call "_law_some" (.cons (.var 1) (.cons (.lst false (.cons (.cst (.int 0)) (.cons (.cst (.int 1)) (.cons (.neg (.cst (.int 1))) (.cons (.cst (.int 7)) (.cons (.cst (.bool true)) (.cons (.cst (.bool false)) (.cons (.cst .none) (.cons (.cst (.str "1")) (.cons (.bin false .Pow (.cst (.int 10)) (.cst (.int 40))) (.cons (.tup (.cons (.cst (.int 1)) .nil)) .nil))))))))))) .nil))),
  .par 9 10 (.bin false .Sub (.call "_law_take" (.cons (.var 1) (.cons (.cst (.int 4)) .nil))) (.cst (.int 1))) (.call "_law_take" (.cons (.var 1) (.cons (.cst (.int 9)) .nil))),
  .ife (.neg (.val (.call "_law_alike" (.cons (.lst false (.cons (.call "is_name" (.cons (.var 7) .nil)) (.cons (.call "is_integer" (.cons (.var 8) .nil)) .nil))) (.cons (.lst false (.cons (.call "_law_is_name" (.cons (.var 7) .nil)) (.cons (.call "_law_is_int" (.cons (.var 8) .nil)) .nil))) .nil))))) [.ret (.cst (.bool false))] [],
  .ife (.neg (.val (.call "_law_alike" (.cons (.call "is_within" (.cons (.var 8) (.cons (.var 9) (.cons (.var 10) .nil)))) (.cons (.andC (.call "_law_is_int" (.cons (.var 8) .nil)) (.chn .LtE .LtE (.var 9) (.var 8) (.var 10))) .nil))))) [.ret (.cst (.bool false))] [],
  .set 3 (.blt false .tuple (.cons (.lc false [13] (.call "_law_word" (.cons (.var 1) .nil)) (.nm 13) (.rng (.cst (.int 0)) (.call "_law_take" (.cons (.var 1) (.cons (.cst (.int 4)) .nil)))) .yes) .nil)),
  .for_ (.nm 4) (.val (.tup (.cons (.var 3) (.cons (.blt false .list (.cons (.var 3) .nil)) (.cons (.cst .none) (.cons (.bin false .Add (.var 3) (.var 3)) (.cons (.cst (.str "ab")) .nil))))))) x_law_1,
  .set 5 (.blt false .tuple (.cons (.lc false [13] (.call "_law_some" (.cons (.var 1) (.cons (.lst false (.cons (.cst (.int 0)) (.cons (.cst (.int 1)) (.cons (.cst (.int 2)) (.cons (.cst (.int 3)) (.cons (.neg (.cst (.int 1))) (.cons (.cst (.bool true)) (.cons (.cst .none) (.cons (.cst (.str "1")) (.cons (.bin false .Pow (.cst (.int 10)) (.cst (.int 30))) .nil)))))))))) .nil))) (.nm 13) (.rng (.cst (.int 0)) (.call "_law_take" (.cons (.var 1) (.cons (.cst (.int 4)) .nil)))) .yes) .nil)),
  .set 6 (.blt false .tuple (.cons (.blt false .sset (.cons (.lc false [13] (.call "_law_take" (.cons (.var 1) (.cons (.cst (.int 5)) .nil))) (.nm 13) (.rng (.cst (.int 0)) (.call "_law_take" (.cons (.var 1) (.cons (.cst (.int 5)) .nil)))) .yes) .nil)) .nil)),
  .for_ (.nm 4) (.val (.tup (.cons (.var 5) (.cons (.var 6) (.cons (.blt false .list (.cons (.var 6) .nil)) (.cons (.rev false (.var 6)) (.cons (.tup .nil) (.cons (.cst .none) (.cons (.cst (.int 3)) .nil))))))))) x_law_2]
def b_law : List B := [
  .set 1 (.call "_law_bag" (.cons (.var 0) .nil)),
  .for_ (.nm 2) (.rng (.cst (.int 0)) (.cst (.int 10))) x_law_3,
  .ret (.cst (.bool true))]
def d_law : DefT := { x := "law", qual := "law", params := defArgs (top 18), ps := ["script"], N := ["script", "bag", "turn", "row", "thing", "some", "lot", "word", "number", "least", "most", "right", "many", "at", "one"], scope := defScope (top 18), text := defBody (top 18), mu := [], fuel := 80, d := { ps := 1, ns := 15, mode := .pure, body := b_law } }
def cons : List (Str × PyData) := [("LETTERS", (.str "abcdefghijklmnopqrstuvwxyz")), ("RESERVED", (.tuple [(.str "lot"), (.str "none"), (.str "standing")])), ("MOST_NAME", (.int 8))]
def p : Prog := ⟨[d_is_integer, d_is_within, d_is_name, d_are_names, d_is_index_lot, d_is_count_tuple, d_law_take, d_law_some, d_law_bag, d_law_alike, d_law_is_int, d_law_is_name, d_law_word, d_law], cons⟩
theorem ok_is_integer : d_is_integer.Ok p where
  sco := ⟨rfl, rfl, rfl, by decide +kernel, rfl, by decide +kernel, by decide +kernel⟩
  cod := by kernel_rfl
  num := ⟨rfl, rfl⟩
  bnd := fun _ _ _ _ _ _ us hl => match us, hl with | [_], _ => rfl
theorem ok_is_within : d_is_within.Ok p where
  sco := ⟨rfl, rfl, rfl, by decide +kernel, rfl, by decide +kernel, by decide +kernel⟩
  cod := by kernel_rfl
  num := ⟨rfl, rfl⟩
  bnd := fun _ _ _ _ _ _ us hl => match us, hl with | [_, _, _], _ => rfl
theorem ok_is_name : d_is_name.Ok p where
  sco := ⟨rfl, rfl, rfl, by decide +kernel, rfl, by decide +kernel, by decide +kernel⟩
  cod := by kernel_rfl
  num := ⟨rfl, rfl⟩
  bnd := fun _ _ _ _ _ _ us hl => match us, hl with | [_], _ => rfl
theorem ok_are_names : d_are_names.Ok p where
  sco := ⟨rfl, rfl, rfl, by decide +kernel, rfl, by decide +kernel, by decide +kernel⟩
  cod := by kernel_rfl
  num := ⟨rfl, rfl⟩
  bnd := fun _ _ _ _ _ _ us hl => match us, hl with | [_, _, _], _ => rfl
theorem ok_is_index_lot : d_is_index_lot.Ok p where
  sco := ⟨rfl, rfl, rfl, by decide +kernel, rfl, by decide +kernel, by decide +kernel⟩
  cod := by kernel_rfl
  num := ⟨rfl, rfl⟩
  bnd := fun _ _ _ _ _ _ us hl => match us, hl with | [_, _], _ => rfl
theorem ok_is_count_tuple : d_is_count_tuple.Ok p where
  sco := ⟨rfl, rfl, rfl, by decide +kernel, rfl, by decide +kernel, by decide +kernel⟩
  cod := by kernel_rfl
  num := ⟨rfl, rfl⟩
  bnd := fun _ _ _ _ _ _ us hl => match us, hl with | [_, _], _ => rfl
theorem ok_law_take : d_law_take.Ok p where
  sco := ⟨rfl, rfl, rfl, by decide +kernel, rfl, by decide +kernel, by decide +kernel⟩
  cod := by kernel_rfl
  num := ⟨rfl, rfl⟩
  bnd := fun _ _ _ _ _ _ us hl => match us, hl with | [_, _], _ => rfl
theorem ok_law_some : d_law_some.Ok p where
  sco := ⟨rfl, rfl, rfl, by decide +kernel, rfl, by decide +kernel, by decide +kernel⟩
  cod := by kernel_rfl
  num := ⟨rfl, rfl⟩
  bnd := fun _ _ _ _ _ _ us hl => match us, hl with | [_, _], _ => rfl
theorem ok_law_bag : d_law_bag.Ok p where
  sco := ⟨rfl, rfl, rfl, by decide +kernel, rfl, by decide +kernel, by decide +kernel⟩
  cod := by kernel_rfl
  num := ⟨rfl, rfl⟩
  bnd := fun _ _ _ _ _ _ us hl => match us, hl with | [_], _ => rfl
theorem ok_law_alike : d_law_alike.Ok p where
  sco := ⟨rfl, rfl, rfl, by decide +kernel, rfl, by decide +kernel, by decide +kernel⟩
  cod := by kernel_rfl
  num := ⟨rfl, rfl⟩
  bnd := fun _ _ _ _ _ _ us hl => match us, hl with | [_, _], _ => rfl
theorem ok_law_is_int : d_law_is_int.Ok p where
  sco := ⟨rfl, rfl, rfl, by decide +kernel, rfl, by decide +kernel, by decide +kernel⟩
  cod := by kernel_rfl
  num := ⟨rfl, rfl⟩
  bnd := fun _ _ _ _ _ _ us hl => match us, hl with | [_], _ => rfl
theorem ok_law_is_name : d_law_is_name.Ok p where
  sco := ⟨rfl, rfl, rfl, by decide +kernel, rfl, by decide +kernel, by decide +kernel⟩
  cod := by kernel_rfl
  num := ⟨rfl, rfl⟩
  bnd := fun _ _ _ _ _ _ us hl => match us, hl with | [_], _ => rfl
theorem ok_law_word : d_law_word.Ok p where
  sco := ⟨rfl, rfl, rfl, by decide +kernel, rfl, by decide +kernel, by decide +kernel⟩
  cod := by kernel_rfl
  num := ⟨rfl, rfl⟩
  bnd := fun _ _ _ _ _ _ us hl => match us, hl with | [_], _ => rfl
theorem ok_law : d_law.Ok p where
  sco := ⟨rfl, rfl, rfl, by decide +kernel, rfl, by decide +kernel, by decide +kernel⟩
  cod := by kernel_rfl
  num := ⟨rfl, rfl⟩
  bnd := fun _ _ _ _ _ _ us hl => match us, hl with | [_], _ => rfl
theorem ok_all : ∀ t ∈ p.ts, t.Ok p := by
  intro t ht
  simp only [p, List.mem_cons, List.not_mem_nil, or_false] at ht
  rcases ht with rfl | rfl | rfl | rfl | rfl | rfl | rfl | rfl | rfl | rfl | rfl | rfl | rfl | rfl
  · exact ok_is_integer
  · exact ok_is_within
  · exact ok_is_name
  · exact ok_are_names
  · exact ok_is_index_lot
  · exact ok_is_count_tuple
  · exact ok_law_take
  · exact ok_law_some
  · exact ok_law_bag
  · exact ok_law_alike
  · exact ok_law_is_int
  · exact ok_law_is_name
  · exact ok_law_word
  · exact ok_law
abbrev RR : PySem.W.OpenRow := PySem.W.OpenLaw.row PySem.Challenge.rw_headswaps_k01_forms_of_any_values
def loose : List PySem.Str := ["LETTERS", "RESERVED", "MOST_NAME", "is_integer", "is_within", "is_name", "are_names", "is_index_lot", "is_count_tuple", "_law_take", "_law_some", "_law_bag", "_law_alike", "_law_is_int", "_law_is_name", "_law_word"]
theorem head (w : World) : HandSHeadRun.RunEq RR (PySem.W.view RR.prog [18]) (hookM 4 p) (obM 4 p) 1500 loose w := by
  intro os
  kernel_rfl
end K01
/-LAWINDEX 18 ID headswaps_k01_forms_of_any_values-/

set_option Elab.async false
set_option linter.all false
set_option maxRecDepth 100000
set_option maxHeartbeats 4000000
/-! K01q: what the defs of the law compute. -/
namespace K01
open PySem Mi
local macro_rules
  | `(tactic| trivial) => `(tactic| first
    | refine K_cons ?_
    | refine K_nil ?_
    | refine K_set ?_
    | refine K_par ?_
    | refine K_tgt ?_
    | refine K_six ?_
    | refine K_aix ?_
    | refine K_exp ?_
    | refine K_ret ?_
    | refine K_ife ?_
    | refine K_aug rfl ?_
    | refine R_var rfl ?_
    | refine R_cst ?_
    | refine R_glo (by kernel_rfl) ?_
    | refine R_rev ?_
    | refine K_for ?_
    | refine I_val_ ?_
    | refine R_bin ?_
    | refine R_cmp ?_
    | refine R_chn ?_
    | refine R_and ?_
    | refine R_or ?_
    | refine R_not ?_
    | refine R_tup ?_
    | refine R_lst ?_
    | refine R_call ?_
    | refine R_blt ?_
    | refine R_isi ?_
    | refine R_idx ?_
    | refine R_sli ?_
    | refine R_neg ?_
    | refine R_nil ?_
    | refine R_cons ?_
    | refine R_no ?_
    | refine R_so ?_
    | refine T_val_ ?_
    | refine T_both_ ?_
    | refine T_eith_ ?_
    | refine T_neg_ ?_
    | refine T_yes_ ?_
    | refine O_add ?_
    | refine O_sub ?_
    | refine O_mulR (by decide) ?_
    | refine O_mulL (by decide) ?_
    | refine O_mod (by decide) ?_
    | refine O_some rfl ?_
    | refine ite_no rfl ?_
    | refine ite_yes rfl ?_
    | refine ⟨_, rfl, ?_⟩
    | refine ⟨_, _, rfl, rfl, ?_⟩
    | refine ⟨Nat.le_of_ble_eq_true rfl, ?_⟩
    | refine ⟨⟨Nat.le_of_ble_eq_true rfl, Nat.le_of_ble_eq_true rfl, by decide⟩, ?_⟩)

theorem f_take : p.fn "_law_take" = some takeD := by kernel_rfl
theorem f_some : p.fn "_law_some" = some someD := by kernel_rfl
theorem f_bag : p.fn "_law_bag" = some bagD := by kernel_rfl
theorem f_alike : p.fn "_law_alike" = some alikeD := by kernel_rfl
theorem f_int : p.fn "is_integer" = some d_is_integer.d := by kernel_rfl
theorem f_within : p.fn "is_within" = some d_is_within.d := by kernel_rfl
theorem f_name : p.fn "is_name" = some d_is_name.d := by kernel_rfl
theorem f_names : p.fn "are_names" = some d_are_names.d := by kernel_rfl
theorem f_lot : p.fn "is_index_lot" = some d_is_index_lot.d := by kernel_rfl
theorem f_count : p.fn "is_count_tuple" = some d_is_count_tuple.d := by kernel_rfl
theorem f_lint : p.fn "_law_is_int" = some d_law_is_int.d := by kernel_rfl
theorem f_lname : p.fn "_law_is_name" = some d_law_is_name.d := by kernel_rfl
theorem f_word : p.fn "_law_word" = some d_law_word.d := by kernel_rfl
theorem f_law : p.fn "law" = some d_law.d := by kernel_rfl
section
variable {n : Nat} {st : Store} {Q : D → Store → Prop} {v : PyData}
def isInt : PyData → Bool
  | .int _ => true
  | _ => false
theorem int_rule (h : Q (bl (isInt v)) st) : Gk (p.run (n + 1) "is_integer" [.p v] st) Q := by
  refine C_pure f_int rfl [v] rfl (by decide) ?_
  show Hk (exs _ [_] [some (.p v)] []) _ _ _ _
  cases v <;> (repeat trivial)
theorem lint_rule (h : Q (bl (isInt v)) st) : Gk (p.run (n + 1) "_law_is_int" [.p v] st) Q := by
  refine C_pure f_lint rfl [v] rfl (by decide) ?_
  show Hk (exs _ [_] [some (.p v)] []) _ _ _ _
  cases v <;> (repeat trivial)
def within (l m : Int) : PyData → Bool
  | .int i => decide (l ≤ i) && decide (i ≤ m)
  | _ => false
theorem within_rule {l m : Int} (h : Q (bl (within l m v)) st) : Gk (p.run (n + 2) "is_within" [.p v, nt l, nt m] st) Q := by
  refine C_pure f_within rfl [v, .int l, .int m] rfl (by decide) ?_
  show Hk (exs _ [_] [some (.p v), some (nt l), some (nt m)] []) _ _ _ _
  repeat trivial
  refine int_rule ?_
  cases v with
  | int i =>
    repeat trivial
    split
    · rename_i h1
      repeat trivial
      have e : within l m (.int i) = decide (i ≤ m) := by
        show (decide (l ≤ i) && decide (i ≤ m)) = _
        rw [show decide (l ≤ i) = true from h1, Bool.true_and]
      rw [e] at h
      exact h
    · rename_i h1
      have e : within l m (.int i) = false := by
        show (decide (l ≤ i) && decide (i ≤ m)) = _
        rw [show decide (l ≤ i) = false from by simpa using h1, Bool.false_and]
      rw [e] at h
      exact h
  | _ => (repeat trivial)
/-! ### lists of ones -/
theorem shaped_list {zs : List PyData} (h : ∀ z ∈ zs, z.canLay0 = true ∧ z.depth ≤ 60) : SeqAt.shaped (.list zs) = true ∧ SeqAt.shaped (.tuple zs) = true := by
  have key : PyData.canLayAll0 zs = true ∧ PyData.depthAll zs ≤ 60 := by
    induction zs with
    | nil => exact ⟨rfl, by decide⟩
    | cons z zs ih =>
      obtain ⟨h1, h2⟩ := h z List.mem_cons_self
      obtain ⟨h3, h4⟩ := ih fun y hy => h y (List.mem_cons_of_mem _ hy)
      exact ⟨by show (z.canLay0 && PyData.canLayAll0 zs) = true; rw [h1, h3]; rfl, by show max z.depth (PyData.depthAll zs) ≤ 60; omega⟩
  have d1 : decide (PyData.depthAll zs + 1 ≤ 64) = true := decide_eq_true (by omega)
  exact ⟨by show (PyData.canLayAll0 zs && decide (PyData.depthAll zs + 1 ≤ 64)) = true; rw [key.1, d1]; rfl, by show (PyData.canLayAll0 zs && decide (PyData.depthAll zs + 1 ≤ 64)) = true; rw [key.1, d1]; rfl⟩
theorem cmp_nil {zs : List PyData} (h : ∀ z ∈ zs, z.canLay0 = true ∧ z.depth ≤ 60) : cmpB .Eq (.p (.list zs)) (.p (.list [])) st = some zs.isEmpty := by
  show (if (flat (.list zs) && flat (.list [])) || (SeqAt.shaped (.list zs) && SeqAt.shaped (.list [])) then some (PyData.eqv (.list zs) (.list [])) else none) = _
  rw [(shaped_list h).1]
  cases zs <;> rfl
theorem cmp_tnil {zs : List PyData} (h : ∀ z ∈ zs, z.canLay0 = true ∧ z.depth ≤ 60) : cmpB .Eq (.p (.tuple zs)) (.p (.tuple [])) st = some zs.isEmpty ∧ cmpB .NotEq (.p (.tuple zs)) (.p (.tuple [])) st = some (!zs.isEmpty) := by
  have e : eqOp (.p (.tuple zs)) (.p (.tuple [])) st = some zs.isEmpty := by
    show (if (flat (.tuple zs) && flat (.tuple [])) || (SeqAt.shaped (.tuple zs) && SeqAt.shaped (.tuple [])) then some (PyData.eqv (.tuple zs) (.tuple [])) else none) = _
    rw [(shaped_list h).2]
    cases zs <;> rfl
  exact ⟨e, by show (eqOp (.p (.tuple zs)) (.p (.tuple [])) st).map (!·) = _; rw [e]; rfl⟩
/-- [1 for x in xs if ..] == [] -/
def ones (xs : List PyData) (f : PyData → Bool) : List PyData := (xs.filter f).map fun _ => .int 1
theorem ones_lay {xs : List PyData} {f : PyData → Bool} : ∀ z ∈ ones xs f, z.canLay0 = true ∧ z.depth ≤ 60 := fun z hz => by
  obtain ⟨_, _, rfl⟩ := List.mem_map.mp hz
  exact ⟨rfl, by decide⟩
theorem ones_nil {xs : List PyData} {f : PyData → Bool} : (ones xs f).isEmpty = xs.all fun x => !f x := by
  unfold ones
  induction xs with
  | nil => rfl
  | cons x xs ih =>
    rw [List.filter_cons, List.all_cons, ← ih]
    cases f x <;> simp
theorem ones_len {xs : List PyData} {f : PyData → Bool} : (ones xs f).length ≤ xs.length := by
  unfold ones
  rw [List.length_map]
  exact List.length_filter_le _ _
/-- the turns of [1 for x in xs if ..] -/
theorem ones_run {xs : List PyData} {f : PyData → Bool} {step : D → Store → R (Option D)} {P : List D → Store → Prop} (h : ∀ x ∈ xs, step (.p x) st = .ok (if f x then some (nt 1) else none) st) (k : P ((ones xs f).map D.p) st) :
    Gk (lcGo (Src.get (.xs (xs.map D.p))) step (xs.map D.p).length 0 st) P := by
  refine L_pure (g := fun d => match d with | .p x => if f x then some (nt 1) else none | _ => none) (fun x hx => ?_) ?_
  · obtain ⟨y, hy, rfl⟩ := List.mem_map.mp hx
    exact h y hy
  · have e : (xs.map D.p).filterMap (fun d => match d with | .p x => if f x then some (nt 1) else none | _ => none) = (ones xs f).map D.p := by
      clear h k
      unfold ones
      induction xs with
      | nil => rfl
      | cons x xs ih =>
        rw [List.map_cons, List.filterMap_cons, List.filter_cons]
        dsimp only
        rw [ih]
        cases f x <;> rfl
    rw [e]; exact k
/-- the turns of [f(x) for x in xs], all bools -/
theorem bools_run {xs : List PyData} {f : PyData → Bool} {step : D → Store → R (Option D)} {P : List D → Store → Prop} (h : ∀ x ∈ xs, step (.p x) st = .ok (some (bl (f x))) st) (k : P ((xs.map fun x => PyData.bool (f x)).map D.p) st) :
    Gk (lcGo (Src.get (.xs (xs.map D.p))) step (xs.map D.p).length 0 st) P := by
  refine L_pure (g := fun d => match d with | .p x => some (bl (f x)) | _ => none) (fun x hx => ?_) ?_
  · obtain ⟨y, hy, rfl⟩ := List.mem_map.mp hx
    exact h y hy
  · have e : (xs.map D.p).filterMap (fun d => match d with | .p x => some (bl (f x)) | _ => none) = (xs.map fun x => PyData.bool (f x)).map D.p := by
      clear h k
      induction xs with
      | nil => rfl
      | cons x xs ih =>
        rw [List.map_cons, List.filterMap_cons]
        dsimp only
        rw [ih]; rfl
    rw [e]; exact k
theorem O_all {xs : List PyData} {f : PyData → Bool} (k : Q (bl (xs.all f)) st) : Gk (builtin false .all [.p (.list (xs.map fun x => PyData.bool (f x)))] st).toR Q := by
  have e : asBools ((xs.map fun x => PyData.bool (f x)).map D.p) = some (xs.map f) := by
    clear k
    induction xs with
    | nil => rfl
    | cons x xs ih =>
      show (asBools ((xs.map fun x => PyData.bool (f x)).map D.p)).map (f x :: ·) = _
      rw [ih]; rfl
  have e2 : builtin false .all [.p (.list (xs.map fun x => PyData.bool (f x)))] st = some (bl (xs.all f), st) := by
    show (asBools ((xs.map fun x => PyData.bool (f x)).map D.p)).map (fun bs => (bl (bs.all id), st)) = _
    rw [e]
    show some (bl ((xs.map f).all id), st) = _
    rw [List.all_map]; rfl
  exact O_some e2 k
/-! ### names -/
def LET : Str := "abcdefghijklmnopqrstuvwxyz"
def RES : List PyData := [.str "lot", .str "none", .str "standing"]
def inLet : PyData → Bool
  | .str a => subT a LET
  | _ => false
def inRes (s : Str) : Bool := RES.any fun v => PyData.eqv v (.str s)
def nameOk (s : Str) : Bool := decide ((1 : Int) ≤ s.length) && (decide ((s.length : Int) ≤ 8) && (!inRes s && (signs s).all inLet))
def nm : PyData → Bool
  | .str s => nameOk s
  | _ => false
def short : PyData → Prop
  | .str s => s.length ≤ 1000
  | _ => True
theorem len_str {s : Str} (h : s.length ≤ 1000) {Q : D → Store → Prop} (k : Q (nt (s.length : Nat)) st) : Gk (builtin false .len [.p (.str s)] st).toR Q := by
  have e : builtin false .len [.p (.str s)] st = some (nt (s.length : Nat), st) := by
    show ((if s.length ≤ LIM then some (s.length : Int) else none).map fun n => (nt n, st)) = _
    rw [if_pos (by unfold LIM; omega)]; rfl
  exact O_some e k
theorem signs_len (s : Str) : (signs s).length = s.length := by
  unfold signs
  rw [List.length_map]; rfl
theorem name_rule (hs : short v) (h : Q (bl (nm v)) st) : Gk (p.run (n + 1) "is_name" [.p v] st) Q := by
  refine C_pure f_name rfl [v] rfl (by decide) ?_
  show Hk (exs _ [_, _] [some (.p v), none] []) _ _ _ _
  cases v with
  | str s =>
    have hs : s.length ≤ 1000 := hs
    have no : nameOk s = false → Q (bl false) st := fun e => by
      have : Q (bl (nameOk s)) st := h
      rw [e] at this; exact this
    repeat trivial
    refine len_str hs ?_
    repeat trivial
    split
    · rename_i h1
      have h1 : decide ((1 : Int) ≤ s.length) = true := h1
      repeat trivial
      split
      · rename_i h2
        have h2 : decide ((s.length : Int) ≤ 8) = false := by simpa using h2
        repeat trivial
        exact no (by unfold nameOk; rw [h2]; simp)
      · rename_i h2
        have h2 : decide ((s.length : Int) ≤ 8) = true := by simpa using h2
        repeat trivial
        split
        · rename_i h3
          have h3 : inRes s = true := h3
          repeat trivial
          exact no (by unfold nameOk; rw [h3]; simp)
        · rename_i h3
          have h3 : inRes s = false := by
            have : ¬ (inRes s = true) := h3
            simpa using this
          repeat trivial
          refine R_lc ?_
          repeat trivial
          refine bools_run (f := inLet) (fun x hx => ?_) ?_
          · unfold signs at hx
            obtain ⟨c, _, rfl⟩ := List.mem_map.mp hx
            rfl
          · refine O_fin (by rw [List.length_map, signs_len]; unfold LIM; omega) ?_
            repeat trivial
            refine O_all ?_
            have e : nameOk s = (signs s).all inLet := by unfold nameOk; rw [h1, h2, h3]; rfl
            have : Q (bl (nameOk s)) st := h
            rw [e] at this
            exact this
    · rename_i h1
      have h1 : decide ((1 : Int) ≤ s.length) = false := by
        have : ¬ (decide ((1 : Int) ≤ s.length) = true) := h1
        simpa using this
      repeat trivial
      exact no (by unfold nameOk; rw [h1]; simp)
  | _ => (repeat trivial)
end
end K01

set_option Elab.async false
set_option linter.all false
set_option maxRecDepth 100000
set_option maxHeartbeats 4000000
/-! K01r: what the other defs of the law compute. -/
namespace K01
open PySem Mi
local macro_rules
  | `(tactic| trivial) => `(tactic| first
    | refine K_cons ?_
    | refine K_nil ?_
    | refine K_set ?_
    | refine K_par ?_
    | refine K_tgt ?_
    | refine K_six ?_
    | refine K_aix ?_
    | refine K_exp ?_
    | refine K_ret ?_
    | refine K_ife ?_
    | refine K_aug rfl ?_
    | refine R_var rfl ?_
    | refine R_cst ?_
    | refine R_glo (by kernel_rfl) ?_
    | refine R_rev ?_
    | refine K_for ?_
    | refine I_val_ ?_
    | refine R_bin ?_
    | refine R_cmp ?_
    | refine R_chn ?_
    | refine R_and ?_
    | refine R_or ?_
    | refine R_not ?_
    | refine R_tup ?_
    | refine R_lst ?_
    | refine R_call ?_
    | refine R_blt ?_
    | refine R_isi ?_
    | refine R_idx ?_
    | refine R_sli ?_
    | refine R_neg ?_
    | refine R_nil ?_
    | refine R_cons ?_
    | refine R_no ?_
    | refine R_so ?_
    | refine T_val_ ?_
    | refine T_both_ ?_
    | refine T_eith_ ?_
    | refine T_neg_ ?_
    | refine T_yes_ ?_
    | refine O_add ?_
    | refine O_sub ?_
    | refine O_mulR (by decide) ?_
    | refine O_mulL (by decide) ?_
    | refine O_mod (by decide) ?_
    | refine O_some rfl ?_
    | refine ite_no rfl ?_
    | refine ite_yes rfl ?_
    | refine ⟨_, rfl, ?_⟩
    | refine ⟨_, _, rfl, rfl, ?_⟩
    | refine ⟨Nat.le_of_ble_eq_true rfl, ?_⟩
    | refine ⟨⟨Nat.le_of_ble_eq_true rfl, Nat.le_of_ble_eq_true rfl, by decide⟩, ?_⟩)

section
variable {n k : Nat} {st : Store} {Q : D → Store → Prop} {v : PyData}
theorem lname_rule (hs : short v) (h : Q (bl (nm v)) st) : Gk (p.run (n + 1) "_law_is_name" [.p v] st) Q := by
  refine C_pure f_lname rfl [v] rfl (by decide) ?_
  show Hk (exs _ [_, _] [some (.p v), none] []) _ _ _ _
  cases v with
  | str s =>
    have hs : s.length ≤ 1000 := hs
    have no : nameOk s = false → Q (bl false) st := fun e => by
      have : Q (bl (nameOk s)) st := h
      rw [e] at this; exact this
    repeat trivial
    refine len_str hs ?_
    repeat trivial
    split
    · rename_i h1
      have h1 : decide ((1 : Int) ≤ s.length) = true := h1
      repeat trivial
      split
      · rename_i h2
        have h2 : decide ((s.length : Int) ≤ 8) = false := by simpa using h2
        repeat trivial
        exact no (by unfold nameOk; rw [h2]; simp)
      · rename_i h2
        have h2 : decide ((s.length : Int) ≤ 8) = true := by simpa using h2
        repeat trivial
        split
        · rename_i h3
          have h3 : inRes s = true := h3
          repeat trivial
          exact no (by unfold nameOk; rw [h3]; simp)
        · rename_i h3
          have h3 : inRes s = false := by
            have : ¬ (inRes s = true) := h3
            simpa using this
          repeat trivial
          refine R_lc ?_
          repeat trivial
          refine ones_run (f := fun x => !inLet x) (fun x hx => ?_) ?_
          · unfold signs at hx
            obtain ⟨c, _, rfl⟩ := List.mem_map.mp hx
            have e : evT (p.tab n) (.val (.cmp .NotIn (.var 1) (.cst (.str "abcdefghijklmnopqrstuvwxyz")))) [some (.p (.str s)), some (.p (sign c))] [] = .ok (!inLet (sign c)) [] := rfl
            show ((evT (p.tab n) (.val (.cmp .NotIn (.var 1) (.cst (.str "abcdefghijklmnopqrstuvwxyz")))) [some (.p (.str s)), some (.p (sign c))] []).bind _).noex = _
            rw [e]
            cases inLet (sign c) <;> rfl
          · refine O_fin (Nat.le_trans ones_len (by rw [signs_len]; unfold LIM; omega)) ?_
            repeat trivial
            refine ⟨_, cmp_nil ones_lay, ?_⟩
            have e : nameOk s = (ones (signs s) fun x => !inLet x).isEmpty := by
              rw [ones_nil]
              unfold nameOk
              rw [h1, h2, h3]
              simp
            have : Q (bl (nameOk s)) st := h
            rw [e] at this
            exact this
    · rename_i h1
      have h1 : decide ((1 : Int) ≤ s.length) = false := by
        have : ¬ (decide ((1 : Int) ≤ s.length) = true) := h1
        simpa using this
      repeat trivial
      exact no (by unfold nameOk; rw [h1]; simp)
  | _ => (repeat trivial)
/-! ### words -/
def WORDS : List PyData := [.str "a", .str "zz", .str "lot", .str "none", .str "standing", .str "lots", .str "nones", .str "standin", .str "abcdefgh", .str "abcdefghi", .str "", .str "A", .str "a1", .str "a ", .str "nos", .str "a-b", .none, .int 7, .bool true, .tuple [.str "a"], .list [.str "a"]]
theorem word_rule {B : Bag} (hc : st[k]? = some B.cell) (hB : B.Ok) (h : ∀ (x : PyData) (B' : Bag), x ∈ WORDS → B'.Ok → Q (.p x) (st.set k B'.cell)) : Gk (p.run (n + 3) "_law_word" [.r k] st) Q := by
  refine C_foot f_word rfl hc (bag_plain B) [] rfl (by decide) ?_
  show Hk (exs _ [_, _] [some (.r 0), none] [B.cell]) _ _ _ _
  repeat trivial
  refine some_rule (n := n) (k := 0) (st := [B.cell]) f_take f_some (B := B) rfl hB (xs := WORDS) (by simp [WORDS]) (by decide) fun x B' h1 h2 => ?_
  exact ⟨_, rfl, bag_plain B', h x B' h1 h2⟩
/-! ### each once -/
def addK {α : Type} [DecidableEq α] (l : List α) (a : α) : List α := if a ∈ l then l else l ++ [a]
theorem addK_le {α : Type} [DecidableEq α] : ∀ (ks l : List α), (ks.foldl addK l).length ≤ l.length + ks.length
  | [], l => by simp
  | a :: ks, l => by
    have := addK_le ks (addK l a)
    have h2 : (addK l a).length ≤ l.length + 1 := by unfold addK; split <;> simp
    rw [List.foldl_cons, List.length_cons]
    omega
theorem addK_len {α : Type} [DecidableEq α] : ∀ (ks l : List α), (ks.foldl addK l).length = l.length + ks.length ↔ ks.Nodup ∧ ∀ a ∈ ks, a ∉ l
  | [], l => by simp
  | a :: ks, l => by
    rw [List.foldl_cons, List.length_cons]
    by_cases h : a ∈ l
    · have e : addK l a = l := by unfold addK; rw [if_pos h]
      have := addK_le ks l
      rw [e]
      constructor
      · intro h2; omega
      · intro ⟨_, h2⟩; exact absurd h (h2 a List.mem_cons_self)
    · have e : addK l a = l ++ [a] := by unfold addK; rw [if_neg h]
      rw [e]
      have ih := addK_len ks (l ++ [a])
      rw [List.length_append, List.length_singleton] at ih
      rw [show l.length + (ks.length + 1) = l.length + 1 + ks.length by omega, ih, List.nodup_cons]
      constructor
      · rintro ⟨h1, h2⟩
        refine ⟨⟨fun hm => h2 a hm (by simp), h1⟩, fun b hb => ?_⟩
        rcases List.mem_cons.mp hb with rfl | hb
        · exact h
        · exact fun hl => h2 b hb (by simp [hl])
      · rintro ⟨⟨h1, h2⟩, h3⟩
        refine ⟨h2, fun b hb hl => ?_⟩
        rcases List.mem_append.mp hl with q | q
        · exact h3 b (List.mem_cons_of_mem _ hb) q
        · simp at q; rw [q] at hb; exact h1 hb
theorem addK_mem {α : Type} [DecidableEq α] {x : α} : ∀ (ks l : List α), x ∈ ks.foldl addK l ↔ x ∈ l ∨ x ∈ ks
  | [], l => by simp
  | a :: ks, l => by
    rw [List.foldl_cons, addK_mem ks (addK l a)]
    unfold addK
    split
    · rename_i h
      constructor
      · rintro (q | q)
        · exact .inl q
        · exact .inr (List.mem_cons_of_mem _ q)
      · rintro (q | q)
        · exact .inl q
        · rcases List.mem_cons.mp q with rfl | q
          · exact .inl h
          · exact .inr q
    · simp [or_assoc]
theorem addK_nodup {α : Type} [DecidableEq α] : ∀ (ks l : List α), l.Nodup → (ks.foldl addK l).Nodup
  | [], l, h => h
  | a :: ks, l, h => by
    rw [List.foldl_cons]
    refine addK_nodup ks _ ?_
    unfold addK
    split
    · exact h
    · rename_i hn
      rw [List.nodup_append]
      refine ⟨h, by simp, fun b hb c hc => ?_⟩
      simp at hc
      rw [hc]
      rintro rfl
      exact hn hb
theorem put_keys (kvs : List (Ky × D)) (q : Ky) (d : D) : (putD kvs q d).map (·.1) = addK (kvs.map (·.1)) q := by
  unfold putD addK
  by_cases h : q ∈ kvs.map (·.1)
  · have h2 : (kvs.any fun r => decide (r.1 = q)) = true := by
      obtain ⟨r, hr, e⟩ := List.mem_map.mp h
      exact List.any_eq_true.mpr ⟨r, hr, decide_eq_true e⟩
    rw [if_pos h2, if_pos h, List.map_map]
    apply List.map_congr_left
    intro r _
    dsimp only [Function.comp]
    split <;> rfl
  · have h2 : ¬ (kvs.any fun r => decide (r.1 = q)) = true := fun z => by
      obtain ⟨r, hr, e⟩ := List.any_eq_true.mp z
      exact h (List.mem_map.mpr ⟨r, hr, of_decide_eq_true e⟩)
    rw [if_neg h2, if_neg h]
    simp
theorem putAll_keys : ∀ (ps kvs : List (Ky × D)), (putAll kvs ps).map (·.1) = (ps.map (·.1)).foldl addK (kvs.map (·.1))
  | [], kvs => rfl
  | q :: ps, kvs => by
    show (putAll (putD kvs q.1 q.2) ps).map (·.1) = _
    rw [putAll_keys ps, put_keys, List.map_cons, List.foldl_cons]
def dist (xs : List PyData) : Bool := (List.range xs.length).all fun i => !((xs.take i).any fun v => PyData.eqv v (xs.getD i .none))
theorem dist_nodup {α : Type} [DecidableEq α] {f : α → PyData} (hf : ∀ a b, PyData.eqv (f a) (f b) = decide (a = b)) (ks : List α) : dist (ks.map f) = decide ks.Nodup := by
  have : dist (ks.map f) = true ↔ ks.Nodup := by
    unfold dist
    rw [List.all_eq_true, List.Nodup, List.pairwise_iff_getElem]
    constructor
    · intro h i j hi hj hij e
      have h1 := h j (by rw [List.mem_range, List.length_map]; exact hj)
      simp only [Bool.not_eq_true', List.any_eq_false] at h1
      have m : f ks[i] ∈ (ks.map f).take j := by
        rw [← List.map_take]
        refine List.mem_map.mpr ⟨ks[i], ?_, rfl⟩
        exact List.mem_take_iff_getElem.mpr ⟨i, by omega, rfl⟩
      have h2 := h1 _ m
      rw [List.getD_eq_getElem?_getD, List.getElem?_map, List.getElem?_eq_getElem hj] at h2
      simp only [Option.map_some, Option.getD_some] at h2
      rw [hf, e] at h2
      simp at h2
    · intro h i hi
      rw [List.mem_range, List.length_map] at hi
      rw [Bool.not_eq_true', List.any_eq_false]
      intro x hx
      rw [← List.map_take] at hx
      obtain ⟨a, ha, rfl⟩ := List.mem_map.mp hx
      obtain ⟨j, hj, rfl⟩ := List.mem_take_iff_getElem.mp ha
      rw [List.getD_eq_getElem?_getD, List.getElem?_map, List.getElem?_eq_getElem hi]
      simp only [Option.map_some, Option.getD_some]
      rw [hf]
      have := h j i (by omega) hi (by omega)
      simpa using this
  cases e : dist (ks.map f) with
  | true => exact (decide_eq_true (this.mp e)).symm
  | false => exact (decide_eq_false fun h => by rw [this.mpr h] at e; cases e).symm
/-- the turns of {x: True for x in xs} -/
theorem dict_run {xs : List PyData} {f : PyData → Option Ky} {step : D → Store → R (Option (Ky × D))} {P : List (Ky × D) → Store → Prop} (h : ∀ x ∈ xs, step (.p x) st = .ok ((f x).map fun q => (q, bl true)) st) (k : P ((xs.filterMap f).map fun q => (q, bl true)) st) :
    Gk (lcGo (Src.get (.xs (xs.map D.p))) step (xs.map D.p).length 0 st) P := by
  refine L_pure (g := fun d => match d with | .p x => (f x).map fun q => (q, bl true) | _ => none) (fun x hx => ?_) ?_
  · obtain ⟨y, hy, rfl⟩ := List.mem_map.mp hx
    exact h y hy
  · have e : (xs.map D.p).filterMap (fun d => match d with | .p x => (f x).map fun q => (q, bl true) | _ => none) = (xs.filterMap f).map fun q => (q, bl true) := by
      clear h k
      induction xs with
      | nil => rfl
      | cons x xs ih =>
        rw [List.map_cons, List.filterMap_cons, List.filterMap_cons]
        dsimp only
        rw [ih]
        cases f x <;> rfl
    rw [e]; exact k
def kyS : PyData → Option Ky
  | .str s => some (.inr s)
  | _ => none
def kyI : PyData → Option Ky
  | .int i => some (.inl i)
  | _ => none
end
end K01

set_option Elab.async false
set_option linter.all false
set_option maxRecDepth 100000
set_option maxHeartbeats 4000000
/-! K01s: lots of names, of numbers. -/
namespace K01
open PySem Mi
local macro_rules
  | `(tactic| trivial) => `(tactic| first
    | refine K_cons ?_
    | refine K_nil ?_
    | refine K_set ?_
    | refine K_par ?_
    | refine K_tgt ?_
    | refine K_six ?_
    | refine K_aix ?_
    | refine K_exp ?_
    | refine K_ret ?_
    | refine K_ife ?_
    | refine K_aug rfl ?_
    | refine R_var rfl ?_
    | refine R_cst ?_
    | refine R_glo (by kernel_rfl) ?_
    | refine R_rev ?_
    | refine K_for ?_
    | refine I_val_ ?_
    | refine R_bin ?_
    | refine R_cmp ?_
    | refine R_chn ?_
    | refine R_and ?_
    | refine R_or ?_
    | refine R_not ?_
    | refine R_tup ?_
    | refine R_lst ?_
    | refine R_call ?_
    | refine R_blt ?_
    | refine R_isi ?_
    | refine R_idx ?_
    | refine R_sli ?_
    | refine R_neg ?_
    | refine R_nil ?_
    | refine R_cons ?_
    | refine R_no ?_
    | refine R_so ?_
    | refine T_val_ ?_
    | refine T_both_ ?_
    | refine T_eith_ ?_
    | refine T_neg_ ?_
    | refine T_yes_ ?_
    | refine O_add ?_
    | refine O_sub ?_
    | refine O_mulR (by decide) ?_
    | refine O_mulL (by decide) ?_
    | refine O_mod (by decide) ?_
    | refine O_some rfl ?_
    | refine ite_no rfl ?_
    | refine ite_yes rfl ?_
    | refine ⟨_, rfl, ?_⟩
    | refine ⟨_, _, rfl, rfl, ?_⟩
    | refine ⟨Nat.le_of_ble_eq_true rfl, ?_⟩
    | refine ⟨⟨Nat.le_of_ble_eq_true rfl, Nat.le_of_ble_eq_true rfl, by decide⟩, ?_⟩)

section
variable {n k : Nat} {st : Store} {Q : D → Store → Prop} {v : PyData}
theorem bools_runG {xs : List PyData} {f : PyData → Bool} {step : D → Store → R (Option D)} {P : List D → Store → Prop} (h : ∀ x ∈ xs, Gk (step (.p x) st) fun o s => o = some (bl (f x)) ∧ s = st) (q : P ((xs.map fun x => PyData.bool (f x)).map D.p) st) :
    Gk (lcGo (Src.get (.xs (xs.map D.p))) step (xs.map D.p).length 0 st) P :=
  bools_run (fun x hx => by obtain ⟨a, s, e, rfl, rfl⟩ := (h x hx).eq; exact e) q
theorem ones_runG {xs : List PyData} {f : PyData → Bool} {step : D → Store → R (Option D)} {P : List D → Store → Prop} (h : ∀ x ∈ xs, Gk (step (.p x) st) fun o s => o = (if f x then some (nt 1) else none) ∧ s = st) (q : P ((ones xs f).map D.p) st) :
    Gk (lcGo (Src.get (.xs (xs.map D.p))) step (xs.map D.p).length 0 st) P :=
  ones_run (fun x hx => by obtain ⟨a, s, e, rfl, rfl⟩ := (h x hx).eq; exact e) q
/-- what the law hands over -/
def TH : PyData → Prop
  | .tuple xs => xs.length ≤ 60 ∧ ∀ x ∈ xs, short x ∧ x.canLay0 = true ∧ x.depth ≤ 60
  | .str s => s.length ≤ 1000
  | _ => True
def strsOf (xs : List PyData) : List Str := xs.filterMap fun x => match x with | .str s => some s | _ => none
def intsOf (xs : List PyData) : List Int := xs.filterMap fun x => match x with | .int i => some i | _ => none
theorem strs_of {xs : List PyData} (h : xs.all nm = true) : xs = (strsOf xs).map .str := by
  induction xs with
  | nil => rfl
  | cons x xs ih =>
    rw [List.all_cons, Bool.and_eq_true] at h
    cases x with
    | str s =>
      show _ = PyData.str s :: (strsOf xs).map .str
      rw [← ih h.2]
    | _ => exact absurd h.1 (by simp [nm])
theorem ints_of {xs : List PyData} (h : xs.all isInt = true) : xs = (intsOf xs).map .int := by
  induction xs with
  | nil => rfl
  | cons x xs ih =>
    rw [List.all_cons, Bool.and_eq_true] at h
    cases x with
    | int s =>
      show _ = PyData.int s :: (intsOf xs).map .int
      rw [← ih h.2]
    | _ => exact absurd h.1 (by simp [isInt])
def arN (l m : Int) : PyData → Bool
  | .tuple xs => decide (l ≤ (xs.length : Nat)) && (decide (((xs.length : Nat) : Int) ≤ m) && (xs.all nm && dist xs))
  | _ => false
theorem arN_t {l m : Int} {xs : List PyData} : arN l m (.tuple xs) = (decide (l ≤ (xs.length : Nat)) && (decide (((xs.length : Nat) : Int) ≤ m) && (xs.all nm && dist xs))) := rfl
theorem dlen_dist (ks : List Str) : PyData.eqv (.int ((putAll [] ((((ks.map PyData.str).filterMap kyS).map fun q => (q, bl true)) : List (Ky × D))).length : Nat)) (.int ((ks.map PyData.str).length : Nat)) = dist (ks.map .str) := by
  have e : (ks.map PyData.str).filterMap kyS = ks.map Sum.inr := by
    induction ks with
    | nil => rfl
    | cons s ks ih =>
      rw [List.map_cons, List.filterMap_cons, List.map_cons, ← ih]
      rfl
  have hk : ((ks.map (Sum.inr : Str → Ky)).map fun q => ((q, bl true) : Ky × D)).map (·.1) = ks.map Sum.inr := by
    rw [List.map_map, List.map_map]; rfl
  have l1 : (putAll [] ((ks.map (Sum.inr : Str → Ky)).map fun q => (q, bl true))).length = ((ks.map (Sum.inr : Str → Ky)).foldl addK []).length := by
    rw [← List.length_map (f := (·.1)), putAll_keys, hk]; rfl
  rw [e, eqv_int, dist_nodup (f := PyData.str) (fun a b => by show (a == b) = _; by_cases h : a = b <;> simp [h]), l1]
  have q := addK_len (ks.map (Sum.inr : Str → Ky)) []
  simp only [List.length_nil, Nat.zero_add, List.length_map, List.not_mem_nil, not_false_eq_true, implies_true, and_true] at q
  have q2 : (ks.map (Sum.inr : Str → Ky)).Nodup ↔ ks.Nodup := by
    rw [List.Nodup, List.pairwise_map]
    exact ⟨fun h => h.imp fun h e => h (by rw [e]), fun h => h.imp fun h e => h (by cases e; rfl)⟩
  rw [List.length_map]
  by_cases h : ks.Nodup
  · rw [decide_eq_true h, decide_eq_true]
    rw [q.mpr (q2.mpr h)]
  · rw [decide_eq_false h, decide_eq_false]
    intro z
    exact h (q2.mp (q.mp (by omega)))
theorem names_rule {l m : Int} (hv : TH v) (h : Q (bl (arN l m v)) st) : Gk (p.run (n + 2) "are_names" [.p v, nt l, nt m] st) Q := by
  refine C_pure f_names rfl [v, .int l, .int m] rfl (by decide) ?_
  show Hk (exs _ [_, _] [some (.p v), some (nt l), some (nt m), none] []) _ _ _ _
  cases v with
  | tuple xs =>
    obtain ⟨hl, hx⟩ := hv
    have no : arN l m (.tuple xs) = false → Q (bl false) st := fun e => by rw [e] at h; exact h
    repeat trivial
    split
    · rename_i h1
      have h1 : decide (l ≤ (xs.length : Nat)) = true := by
        have : decide (l ≤ ((xs.map D.p).length : Nat)) = true := h1
        rw [List.length_map] at this; exact this
      repeat trivial
      split
      · rename_i h2
        have h2 : decide (((xs.length : Nat) : Int) ≤ m) = false := by
          have : (!decide ((((xs.map D.p).length : Nat) : Int) ≤ m)) = true := h2
          rw [List.length_map] at this; simpa using this
        repeat trivial
        exact no (by rw [arN_t, h2]; simp)
      · rename_i h2
        have h2 : decide (((xs.length : Nat) : Int) ≤ m) = true := by
          have : ¬ (!decide ((((xs.map D.p).length : Nat) : Int) ≤ m)) = true := h2
          rw [List.length_map] at this; simpa using this
        repeat trivial
        refine R_lc ?_
        repeat trivial
        refine bools_runG (f := nm) (fun x hxm => ?_) ?_
        · refine R_step ?_
          repeat trivial
          exact name_rule (hx x hxm).1 ⟨rfl, rfl⟩
        · refine O_fin (by rw [List.length_map]; unfold LIM; omega) ?_
          repeat trivial
          refine O_all ?_
          repeat trivial
          split
          · rename_i h3
            have h3 : xs.all nm = false := by
              have : (!xs.all nm) = true := h3
              simpa using this
            repeat trivial
            exact no (by rw [arN_t, h3]; simp)
          · rename_i h3
            have h3 : xs.all nm = true := by
              have : ¬ (!xs.all nm) = true := h3
              simpa using this
            repeat trivial
            refine R_dc ?_
            repeat trivial
            refine dict_run (f := kyS) (fun x hxm => ?_) ?_
            · have := List.all_eq_true.mp h3 x hxm
              cases x with
              | str s => rfl
              | _ => exact absurd this (by simp [nm])
            · refine ⟨?_, ?_⟩
              · rw [List.length_map]
                exact Nat.le_trans (List.length_filterMap_le _ _) (by unfold LIM; omega)
              repeat trivial
              have e : arN l m (.tuple xs) = dist xs := by rw [arN_t, h1, h2, h3]; simp
              rw [e] at h
              have ex := strs_of h3
              generalize strsOf xs = ks at ex
              subst ex
              have q := dlen_dist ks
              rw [← q] at h
              rw [List.length_map] at h
              show Q (bl (PyData.eqv (.int _) (.int (((ks.map PyData.str).map D.p).length : Nat)))) st
              rw [List.length_map, List.length_map]
              exact h
    · rename_i h1
      have h1 : decide (l ≤ (xs.length : Nat)) = false := by
        have : ¬ decide (l ≤ ((xs.map D.p).length : Nat)) = true := h1
        rw [List.length_map] at this; simpa using this
      repeat trivial
      exact no (by rw [arN_t, h1]; simp)
  | _ => (repeat trivial)
/-! ### lots of numbers -/
def ordI (ns : List Int) : Bool := decide (ns = uniqI ns)
def lotOk (m : Int) : PyData → Bool
  | .tuple xs => !xs.isEmpty && (xs.all (within 0 (m - 1)) && ordI (intsOf xs))
  | _ => false
theorem lotOk_t {m : Int} {xs : List PyData} : lotOk m (.tuple xs) = (!xs.isEmpty && (xs.all (within 0 (m - 1)) && ordI (intsOf xs))) := rfl
theorem eqv_ints : ∀ ns ms : List Int, PyData.eqv (.list (ns.map .int)) (.list (ms.map .int)) = decide (ns = ms)
  | [], [] => rfl
  | [], _ :: _ => rfl
  | _ :: _, [] => rfl
  | a :: ns, b :: ms => by
    show ((a == b) && PyData.eqv (.list (ns.map .int)) (.list (ms.map .int))) = _
    rw [eqv_ints ns ms]
    by_cases h : a = b
    · subst h
      simp
    · simp [h]
theorem cmp_ints (ns ms : List Int) : cmpB .Eq (.p (.list (ns.map .int))) (.p (.list (ms.map .int))) st = some (decide (ns = ms)) := by
  have lay : ∀ (ks : List Int), ∀ z ∈ ks.map PyData.int, z.canLay0 = true ∧ z.depth ≤ 60 := fun ks z hz => by
    obtain ⟨_, _, rfl⟩ := List.mem_map.mp hz
    exact ⟨rfl, Nat.zero_le _⟩
  show (if (flat (.list _) && flat (.list _)) || (SeqAt.shaped (.list (ns.map .int)) && SeqAt.shaped (.list (ms.map .int))) then some (PyData.eqv (.list (ns.map .int)) (.list (ms.map .int))) else none) = _
  rw [(shaped_list (lay ns)).1, (shaped_list (lay ms)).1, eqv_ints]
  rfl
theorem keys_ints : ∀ kvs : List (Ky × D), ∀ ns : List Int, kvs.map (·.1) = ns.map Sum.inl → keysI kvs = some ns
  | [], [], _ => rfl
  | [], _ :: _, h => by cases h
  | _ :: _, [], h => by cases h
  | (q, d) :: kvs, a :: ns, h => by
    rw [List.map_cons, List.map_cons] at h
    injection h with h1 h2
    dsimp only at h1
    subst h1
    show (keysI kvs).map (a :: ·) = _
    rw [keys_ints kvs ns h2]; rfl
theorem addK_inl : ∀ (ns l : List Int), (ns.map (Sum.inl : Int → Ky)).foldl addK (l.map Sum.inl) = (ns.foldl addK l).map Sum.inl
  | [], l => rfl
  | a :: ns, l => by
    rw [List.map_cons, List.foldl_cons, List.foldl_cons, ← addK_inl ns]
    congr 1
    unfold addK
    by_cases h : a ∈ l
    · rw [if_pos h, if_pos (List.mem_map.mpr ⟨a, h, rfl⟩)]
    · rw [if_neg h, if_neg (fun z => by obtain ⟨b, hb, e⟩ := List.mem_map.mp z; cases e; exact h hb)]
      simp
theorem sort_uniq (ns : List Int) : sortI (ns.foldl addK []) = uniqI ns := by
  have perm : (sortI (ns.foldl addK [])).Perm (ns.foldl addK []) := List.mergeSort_perm (ns.foldl addK []) fun a b : Int => decide (a ≤ b)
  have nd : (sortI (ns.foldl addK [])).Nodup := (perm.nodup_iff).mpr (addK_nodup ns [] List.nodup_nil)
  have le : (sortI (ns.foldl addK [])).Pairwise (· ≤ ·) := (List.pairwise_mergeSort (le := fun a b : Int => decide (a ≤ b)) (fun a b c h1 h2 => by simp at *; omega) (fun a b => by simp; omega) _).imp fun h => by simpa using h
  refine ord_ext ?_ uniqI_ord fun k => ?_
  · refine (List.Pairwise.and le nd).imp fun {a b} h => ?_
    obtain ⟨h1, h2⟩ := h
    omega
  · rw [uniqI_mem, perm.mem_iff, addK_mem]
    simp
theorem kf_ints (ns : List Int) : (ns.map PyData.int).filterMap kyI = ns.map Sum.inl := by
  induction ns with
  | nil => rfl
  | cons s ks ih =>
    rw [List.map_cons, List.filterMap_cons, List.map_cons, ← ih]
    rfl
theorem lot_rule {m : Int} (hv : TH v) (h : Q (bl (lotOk m v)) st) : Gk (p.run (n + 3) "is_index_lot" [.p v, nt m] st) Q := by
  refine C_pure f_lot rfl [v, .int m] rfl (by decide) ?_
  show Hk (exs _ [_, _] [some (.p v), some (nt m), none] []) _ _ _ _
  cases v with
  | tuple xs =>
    obtain ⟨hl, hx⟩ := hv
    have no : lotOk m (.tuple xs) = false → Q (bl false) st := fun e => by rw [e] at h; exact h
    repeat trivial
    refine ⟨_, (cmp_tnil fun z hz => (hx z hz).2).1, ?_⟩
    repeat trivial
    split
    · rename_i h1
      repeat trivial
      exact no (by rw [lotOk_t, h1]; simp)
    · rename_i h1
      have h1 : xs.isEmpty = false := by simpa using h1
      repeat trivial
      refine R_lc ?_
      repeat trivial
      refine bools_runG (f := within 0 (m - 1)) (fun x hxm => ?_) ?_
      · refine R_step ?_
        repeat trivial
        exact within_rule ⟨rfl, rfl⟩
      · refine O_fin (by rw [List.length_map]; unfold LIM; omega) ?_
        repeat trivial
        refine O_all ?_
        repeat trivial
        split
        · rename_i h3
          have h3 : xs.all (within 0 (m - 1)) = false := by
            have : (!xs.all (within 0 (m - 1))) = true := h3
            simpa using this
          repeat trivial
          exact no (by rw [lotOk_t, h3]; simp)
        · rename_i h3
          have h3 : xs.all (within 0 (m - 1)) = true := by
            have : ¬ (!xs.all (within 0 (m - 1))) = true := h3
            simpa using this
          have hi : xs.all isInt = true := List.all_eq_true.mpr fun x hxm => by
            have := List.all_eq_true.mp h3 x hxm
            cases x with
            | int i => rfl
            | _ => exact absurd this (by simp [within])
          have ex := ints_of hi
          have e : lotOk m (.tuple xs) = ordI (intsOf xs) := by rw [lotOk_t, h1, h3]; rfl
          rw [e] at h
          repeat trivial
          refine O_fin (by unfold LIM; omega) ?_
          repeat trivial
          refine R_dc ?_
          repeat trivial
          refine dict_run (f := kyI) (fun x hxm => ?_) ?_
          · have := List.all_eq_true.mp hi x hxm
            cases x with
            | int s => rfl
            | _ => exact absurd this (by simp [isInt])
          · refine ⟨?_, ?_⟩
            · rw [List.length_map]
              exact Nat.le_trans (List.length_filterMap_le _ _) (by unfold LIM; omega)
            generalize intsOf xs = ns at ex h
            subst ex
            rw [kf_ints]
            have ky : keysI (putAll [] ((ns.map (Sum.inl : Int → Ky)).map fun q => (q, bl true))) = some (ns.foldl addK []) := by
              refine keys_ints _ _ ?_
              rw [putAll_keys]
              have := addK_inl ns []
              rw [← this]
              congr 1
              rw [List.map_map]
              exact List.map_congr_left (fun _ _ => rfl) |>.trans (List.map_id _)
            have lk : (ns.foldl addK []).length < 64 := by
              have := addK_le ns []
              rw [List.length_map] at hl
              simp only [List.length_nil] at this
              omega
            have es : builtin false .sorted [.r 0] [.dic (putAll [] ((ns.map (Sum.inl : Int → Ky)).map fun q => (q, bl true)))] = fin false (((uniqI ns).map PyData.int).map D.p) [.dic (putAll [] ((ns.map (Sum.inl : Int → Ky)).map fun q => (q, bl true)))] := by
              show (((keysI (putAll [] ((ns.map (Sum.inl : Int → Ky)).map fun q => (q, bl true)))).bind fun ks => if ks.length < 64 then some (sortI ks) else none).bind fun ks => fin false (ks.map nt) _) = _
              rw [ky]
              show ((if (ns.foldl addK []).length < 64 then some (sortI (ns.foldl addK [])) else none).bind fun ks => fin false (ks.map nt) _) = _
              have em : (uniqI ns).map nt = ((uniqI ns).map PyData.int).map D.p := by rw [List.map_map]; rfl
              rw [if_pos lk, sort_uniq, ← em]; rfl
            repeat trivial
            show Gk (O.toR (builtin false .sorted [.r 0] [.dic (putAll [] ((ns.map (Sum.inl : Int → Ky)).map fun q => (q, bl true)))])) _
            rw [es]
            refine O_fin ?_ ?_
            · rw [List.length_map, ← sort_uniq]
              have : (sortI (ns.foldl addK [])).length = (ns.foldl addK []).length := (List.mergeSort_perm _ _).length_eq
              rw [this]
              unfold LIM
              omega
            · refine ⟨_, cmp_ints _ _, ?_⟩
              exact h
  | _ => (repeat trivial)
/-! ### counts -/
def natOk : PyData → Bool
  | .int i => decide (0 ≤ i)
  | _ => false
def cnt (m : Int) : PyData → Bool
  | .tuple xs => decide (((xs.length : Nat) : Int) = m) && xs.all natOk
  | _ => false
theorem cnt_t {m : Int} {xs : List PyData} : cnt m (.tuple xs) = (decide (((xs.length : Nat) : Int) = m) && xs.all natOk) := rfl
theorem count_rule {m : Int} (hv : TH v) (h : Q (bl (cnt m v)) st) : Gk (p.run (n + 2) "is_count_tuple" [.p v, nt m] st) Q := by
  refine C_pure f_count rfl [v, .int m] rfl (by decide) ?_
  show Hk (exs _ [_] [some (.p v), some (nt m), none] []) _ _ _ _
  cases v with
  | tuple xs =>
    obtain ⟨hl, hx⟩ := hv
    repeat trivial
    split
    · rename_i h1
      have h1 : decide (((xs.length : Nat) : Int) = m) = true := by
        have : PyData.eqv (.int ((xs.map D.p).length : Nat)) (.int m) = true := h1
        rw [eqv_int, List.length_map] at this; exact this
      refine R_blt ?_
      repeat trivial
      refine R_lc ?_
      repeat trivial
      refine bools_runG (f := natOk) (fun x hxm => ?_) ?_
      · refine R_step ?_
        repeat trivial
        refine int_rule ?_
        cases x <;> (repeat trivial)
      · refine O_fin (by rw [List.length_map]; unfold LIM; omega) ?_
        repeat trivial
        refine O_all ?_
        rw [cnt_t, h1, Bool.true_and] at h
        exact h
    · rename_i h1
      have h1 : PyData.eqv (.int ((xs.map D.p).length : Nat)) (.int m) = false := by
        have : ¬ PyData.eqv (.int ((xs.map D.p).length : Nat)) (.int m) = true := h1
        simpa using this
      have e : cnt m (.tuple xs) = false := by
        rw [eqv_int, List.length_map] at h1
        rw [cnt_t, h1]; rfl
      rw [e] at h
      show Q (bl (PyData.eqv (.int ((xs.map D.p).length : Nat)) (.int m))) st
      rw [h1]; exact h
  | _ => (repeat trivial)
end
end K01

set_option Elab.async false
set_option linter.all false
set_option maxRecDepth 100000
set_option maxHeartbeats 4000000
/-! K01t: the turns of the law's inner loops. -/
namespace K01
open PySem Mi
local macro_rules
  | `(tactic| trivial) => `(tactic| first
    | refine K_cons ?_
    | refine K_nil ?_
    | refine K_set ?_
    | refine K_par ?_
    | refine K_tgt ?_
    | refine K_six ?_
    | refine K_aix ?_
    | refine K_exp ?_
    | refine K_ret ?_
    | refine K_ife ?_
    | refine K_aug rfl ?_
    | refine R_var rfl ?_
    | refine R_cst ?_
    | refine R_glo (by kernel_rfl) ?_
    | refine R_rev ?_
    | refine K_for ?_
    | refine I_val_ ?_
    | refine R_bin ?_
    | refine R_cmp ?_
    | refine R_chn ?_
    | refine R_and ?_
    | refine R_or ?_
    | refine R_not ?_
    | refine R_tup ?_
    | refine R_lst ?_
    | refine R_call ?_
    | refine R_blt ?_
    | refine R_isi ?_
    | refine R_idx ?_
    | refine R_sli ?_
    | refine R_neg ?_
    | refine R_nil ?_
    | refine R_cons ?_
    | refine R_no ?_
    | refine R_so ?_
    | refine T_val_ ?_
    | refine T_both_ ?_
    | refine T_eith_ ?_
    | refine T_neg_ ?_
    | refine T_yes_ ?_
    | refine O_add ?_
    | refine O_sub ?_
    | refine O_mulR (by decide) ?_
    | refine O_mulL (by decide) ?_
    | refine O_mod (by decide) ?_
    | refine O_some rfl ?_
    | refine ite_no rfl ?_
    | refine ite_yes rfl ?_
    | refine ⟨_, rfl, ?_⟩
    | refine ⟨_, _, rfl, rfl, ?_⟩
    | refine ⟨Nat.le_of_ble_eq_true rfl, ?_⟩
    | refine ⟨⟨Nat.le_of_ble_eq_true rfl, Nat.le_of_ble_eq_true rfl, by decide⟩, ?_⟩)

section
variable {n k : Nat} {st : Store} {Q : D → Store → Prop} {v : PyData} {N Bk Ct : Mi.Env → Store → Prop} {Rt : D → Store → Prop}
theorem alike_b {b : Bool} (h : Q (bl true) st) : Gk (p.run (n + 1) "_law_alike" [bl b, bl b] st) Q := alike_rule f_alike (x := .bool b) rfl (show 1 ≤ 1000000 by decide) h
theorem upto_eq (m : Nat) : upto 0 m = ((List.range m).map fun i => PyData.int ((i : Nat) : Int)).map D.p := by
  unfold upto
  rw [List.map_map, Int.sub_zero, Int.toNat_natCast]
  apply List.map_congr_left
  intro i _
  show nt (0 + (i : Nat)) = _
  rw [Int.zero_add]; rfl
theorem ones_tuple {xs : List PyData} {f : PyData → Bool} (h : xs.length ≤ 1000) {Q : D → Store → Prop} (k : Q (.p (.list (ones xs f))) st) : Gk (fin false ((ones xs f).map D.p) st).toR Q :=
  O_fin (Nat.le_trans ones_len (by unfold LIM; omega)) k
/-- whether thing[at] stands before -/
def seen (xs : List PyData) : PyData → Bool
  | .int i => (xs.take i.toNat).any fun v => PyData.eqv v (xs.getD i.toNat .none)
  | _ => false
theorem seen_dist (xs : List PyData) : (ones ((List.range xs.length).map fun i => PyData.int ((i : Nat) : Int)) (seen xs)).isEmpty = dist xs := by
  rw [ones_nil, List.all_map]
  unfold dist
  congr 1
theorem cut_take {α : Type} {xs : List α} {i : Nat} (h : i ≤ xs.length) : cut xs none (some (i : Nat)) = xs.take i := by
  have e : HT.sIx xs.length xs.length (some ((i : Nat) : Int)) = i := by
    show (if ((i : Nat) : Int) < 0 then (((i : Nat) : Int) + (xs.length : Nat)).toNat else min ((i : Nat) : Int).toNat xs.length) = i
    rw [if_neg (by omega), Int.toNat_natCast, Nat.min_eq_left h]
  unfold cut
  rw [e]
  show (xs.drop 0).take (i - 0) = _
  rw [List.drop_zero, Nat.sub_zero]
theorem seen_step {T : Tab} {xs : List PyData} {i : Nat} {env : Mi.Env} (hi : i < xs.length) (hn : xs.all nm = true) (h4 : env[4]? = some (some (.p (.tuple xs)))) (h13 : env[13]? = some (some (nt (i : Nat)))) {P : Bool → Store → Prop} (h : P (seen xs (.int (i : Nat))) st) :
    Gk (evT T (.val (.cmp .In (.idx (.var 4) (.var 13)) (.sli false (.var 4) .no (.so (.var 13))))) env st) P := by
  refine T_val_ (R_cmp (R_idx (R_var h4 (R_var h13 ?_))))
  have ix : index (.p (.tuple xs)) (nt (i : Nat)) st = some (.p xs[i], st) := by
    show ((L2.atI (xs.map D.p) (i : Nat)).map fun d => (d, st)) = _
    rw [atI_nat (by omega) (by rw [List.length_map]; omega), Int.toNat_natCast, List.getElem?_map, List.getElem?_eq_getElem hi]
    rfl
  refine O_some ix ?_
  refine R_sli (R_var h4 (R_no (R_so (R_var h13 ⟨_, rfl, ?_⟩))))
  refine O_some (v := .p (.tuple (xs.take i))) (st1 := st) (by
    show some (D.p (.tuple (cut xs none (some ((i : Nat) : Int)))), st) = _
    rw [cut_take (by omega)]) ?_
  have fl : ∀ x ∈ xs, flat x = true := fun x hx => by
    have := List.all_eq_true.mp hn x hx
    cases x with
    | str s => rfl
    | _ => exact absurd this (by simp [nm])
  have e : cmpB .In (.p xs[i]) (.p (.tuple (xs.take i))) st = some (seen xs (.int (i : Nat))) := by
    have nx := List.all_eq_true.mp hn xs[i] (List.getElem_mem hi)
    have ge : xs.getD i .none = xs[i] := by rw [List.getD_eq_getElem?_getD, List.getElem?_eq_getElem hi]; rfl
    have fa : (xs.take i).all flat = true := List.all_eq_true.mpr fun x hx => fl x (List.mem_of_mem_take hx)
    show inOp (.p xs[i]) (.p (.tuple (xs.take i))) st = _
    show _ = some ((xs.take i).any fun v => PyData.eqv v (xs.getD i .none))
    rw [ge]
    generalize xs[i] = x at nx
    cases x with
    | str s =>
      show (match pures ((xs.take i).map D.p) with
        | some vs => if flat (.str s) && vs.all flat then some (vs.any fun v => PyData.eqv v (.str s)) else none
        | none => none) = _
      rw [pures_map]
      show (if (true && (xs.take i).all flat) = true then _ else _) = _
      rw [fa]; rfl
    | _ => exact absurd nx (by simp [nm])
  exact ⟨_, e, _, rfl, h⟩
variable {a0 a2 a3 a5 a6 a7 a8 a11 a12 a13 a14 : Option D} {l m : Int}
theorem first_turn (hv : TH v) (h : ∀ r, N [a0, some (.r 0), a2, a3, some (.p v), a5, a6, a7, a8, some (nt l), some (nt m), some r, a12, a13, a14] st) :
    Hk (exs (p.tab (n + 2)) x_law_1 [a0, some (.r 0), a2, a3, some (.p v), a5, a6, a7, a8, some (nt l), some (nt m), a11, a12, a13, a14] st) N Rt Bk Ct := by
  show Hk (exs _ [_, _, _, _] _ _) _ _ _ _
  have skip : ∀ {b : Bool}, b = false → arN l m v = false → Hk (exs (p.tab (n + 2)) [.set 11 (.andC (.var 11) (.chn .LtE .LtE (.var 9) (.blt false .len (.cons (.var 4) .nil)) (.var 10))), .ife (.neg (.val (.call "_law_alike" (.cons (.call "are_names" (.cons (.var 4) (.cons (.var 9) (.cons (.var 10) .nil)))) (.cons (.var 11) .nil))))) [.ret (.cst (.bool false))] []]
      [a0, some (.r 0), a2, a3, some (.p v), a5, a6, a7, a8, some (nt l), some (nt m), some (bl b), a12, a13, a14] st) N Rt Bk Ct := fun hb e => by
    subst hb
    repeat trivial
    refine names_rule hv ?_
    rw [e]
    repeat trivial
    refine alike_b ?_
    repeat trivial
    exact h _
  cases v with
  | tuple xs =>
    obtain ⟨hl, hx⟩ := id hv
    repeat trivial
    refine R_lc ?_
    repeat trivial
    refine ones_runG (f := fun x => !nm x) (fun x hxm => ?_) ?_
    · refine R_step ?_
      repeat trivial
      refine lname_rule (hx x hxm).1 ?_
      repeat trivial
      cases nm x <;> (repeat trivial)
    · refine ones_tuple (by omega) ?_
      repeat trivial
      refine ⟨_, cmp_nil ones_lay, ?_⟩
      rw [ones_nil]
      have e1 : (xs.all fun x => !!nm x) = xs.all nm := by simp
      rw [e1]
      repeat trivial
      split
      · rename_i h1
        refine R_cmp (R_lc (I_rng_ ?_))
        repeat trivial
        refine ⟨by decide, by decide, ?_, ?_, _, rfl, ?_⟩
        · show -(2 ^ 62 : Int) ≤ ((xs.map D.p).length : Nat)
          omega
        · show (((xs.map D.p).length : Nat) : Int) < 2 ^ 62
          rw [List.length_map]
          omega
        show Gk (lcGo (Src.get (.xs (upto 0 ((xs.map D.p).length : Nat)))) _ (upto 0 ((xs.map D.p).length : Nat)).length 0 st) _
        rw [List.length_map, upto_eq]
        refine ones_runG (f := seen xs) (fun x hxm => ?_) ?_
        · obtain ⟨i, hi, rfl⟩ := List.mem_map.mp hxm
          refine R_step ?_
          refine seen_step (List.mem_range.mp hi) h1 rfl rfl ?_
          cases seen xs (.int (i : Nat)) <;> (repeat trivial)
        · refine O_fin (Nat.le_trans ones_len (by rw [List.length_map, List.length_range]; unfold LIM; omega)) ?_
          repeat trivial
          refine ⟨_, cmp_nil ones_lay, ?_⟩
          rw [seen_dist]
          repeat trivial
          split
          · rename_i h2
            have h2 : dist xs = true := h2
            repeat trivial
            split
            · rename_i h3
              have h3 : decide (l ≤ (xs.length : Nat)) = true := by
                have : decide (l ≤ ((xs.map D.p).length : Nat)) = true := h3
                rw [List.length_map] at this; exact this
              have e : arN l m (.tuple xs) = decide (((xs.map D.p).length : Nat) ≤ m) := by rw [arN_t, h1, h2, h3, List.length_map]; simp
              repeat trivial
              refine names_rule hv ?_
              rw [e]
              repeat trivial
              refine alike_b ?_
              repeat trivial
              exact h _
            · rename_i h3
              have h3 : decide (l ≤ (xs.length : Nat)) = false := by
                have : ¬ (decide (l ≤ ((xs.map D.p).length : Nat)) = true) := h3
                rw [List.length_map] at this; simpa using this
              have e : arN l m (.tuple xs) = false := by rw [arN_t, h3]; simp
              repeat trivial
              refine names_rule hv ?_
              rw [e]
              repeat trivial
              refine alike_b ?_
              repeat trivial
              exact h _
          · rename_i h2
            have h2 : dist xs = false := by
              have : ¬ (dist xs = true) := h2
              simpa using this
            have e : arN l m (.tuple xs) = false := by rw [arN_t, h2]; simp
            rw [h2]
            repeat trivial
            refine names_rule hv ?_
            rw [e]
            repeat trivial
            refine alike_b ?_
            repeat trivial
            exact h _
      · rename_i h1
        have h1 : xs.all nm = false := by
          have : ¬ (xs.all nm = true) := h1
          simpa using this
        have e : arN l m (.tuple xs) = false := by rw [arN_t, h1]; simp
        rw [h1]
        repeat trivial
        refine names_rule hv ?_
        rw [e]
        repeat trivial
        refine alike_b ?_
        repeat trivial
        exact h _
  | _ =>
    repeat trivial
    refine names_rule hv ?_
    repeat trivial
    refine alike_b ?_
    repeat trivial
    exact h _
end
end K01

set_option Elab.async false
set_option linter.all false
set_option maxRecDepth 100000
set_option maxHeartbeats 4000000
/-! K01u: the turns of the law's second inner loop. -/
namespace K01
open PySem Mi
local macro_rules
  | `(tactic| trivial) => `(tactic| first
    | refine K_nil ?_
    | refine K_set ?_
    | refine K_par ?_
    | refine K_tgt ?_
    | refine K_six ?_
    | refine K_aix ?_
    | refine K_exp ?_
    | refine K_ret ?_
    | refine K_ife ?_
    | refine K_aug rfl ?_
    | refine R_var rfl ?_
    | refine R_cst ?_
    | refine R_glo (by kernel_rfl) ?_
    | refine R_rev ?_
    | refine K_for ?_
    | refine I_val_ ?_
    | refine R_bin ?_
    | refine R_cmp ?_
    | refine R_chn ?_
    | refine R_and ?_
    | refine R_or ?_
    | refine R_not ?_
    | refine R_tup ?_
    | refine R_lst ?_
    | refine R_call ?_
    | refine R_blt ?_
    | refine R_isi ?_
    | refine R_idx ?_
    | refine R_sli ?_
    | refine R_neg ?_
    | refine R_nil ?_
    | refine R_cons ?_
    | refine R_no ?_
    | refine R_so ?_
    | refine T_val_ ?_
    | refine T_both_ ?_
    | refine T_eith_ ?_
    | refine T_neg_ ?_
    | refine T_yes_ ?_
    | refine O_add ?_
    | refine O_sub ?_
    | refine O_mulR (by decide) ?_
    | refine O_mulL (by decide) ?_
    | refine O_mod (by decide) ?_
    | refine O_some rfl ?_
    | refine ite_no rfl ?_
    | refine ite_yes rfl ?_
    | refine ⟨_, rfl, ?_⟩
    | refine ⟨_, _, rfl, rfl, ?_⟩
    | refine ⟨Nat.le_of_ble_eq_true rfl, ?_⟩
    | refine ⟨⟨Nat.le_of_ble_eq_true rfl, Nat.le_of_ble_eq_true rfl, by decide⟩, ?_⟩)

section
variable {n k : Nat} {st : Store} {Q : D → Store → Prop} {v : PyData} {N Bk Ct : Mi.Env → Store → Prop} {Rt : D → Store → Prop}
variable {a0 a2 a3 a5 a6 a7 a8 a9 a10 a11 a12 a13 a14 : Option D} {m : Int}
theorem second_end (hv : TH v) {b : Bool} (hb : b = cnt m v) (h : ∀ r, N [a0, some (.r 0), a2, a3, some (.p v), a5, a6, a7, a8, a9, a10, some r, some (nt m), a13, a14] st) :
    Hk (exs (p.tab (n + 3)) (x_law_2.drop 6) [a0, some (.r 0), a2, a3, some (.p v), a5, a6, a7, a8, a9, a10, some (bl b), some (nt m), a13, a14] st) N Rt Bk Ct := by
  show Hk (exs _ [_] _ _) _ _ _ _
  refine K_cons ?_
  repeat trivial
  refine count_rule hv ?_
  rw [← hb]
  repeat trivial
  refine alike_b ?_
  repeat trivial
  exact h _
theorem second_rest (hv : TH v) {b : Bool} (hb : b = lotOk m v) (h : ∀ r, N [a0, some (.r 0), a2, a3, some (.p v), a5, a6, a7, a8, a9, a10, some r, some (nt m), a13, a14] st) :
    Hk (exs (p.tab (n + 3)) (x_law_2.drop 3) [a0, some (.r 0), a2, a3, some (.p v), a5, a6, a7, a8, a9, a10, some (bl b), some (nt m), a13, a14] st) N Rt Bk Ct := by
  show Hk (exs _ (_ :: _ :: _ :: x_law_2.drop 6) _ _) _ _ _ _
  refine K_cons ?_
  repeat trivial
  refine lot_rule hv ?_
  rw [← hb]
  repeat trivial
  refine alike_b ?_
  repeat trivial
  refine K_cons ?_
  cases v with
  | tuple xs =>
    obtain ⟨hl, hx⟩ := id hv
    repeat trivial
    refine K_cons ?_
    refine K_set (R_and (R_var rfl ?_))
    repeat trivial
    split
    · rename_i h1
      have h1 : decide (((xs.length : Nat) : Int) = m) = true := by
        have : PyData.eqv (.int ((xs.map D.p).length : Nat)) (.int m) = true := h1
        rw [eqv_int, List.length_map] at this; exact this
      refine R_cmp (R_lc ?_)
      repeat trivial
      refine ones_runG (f := fun x => !natOk x) (fun x hxm => ?_) ?_
      · refine R_step ?_
        repeat trivial
        refine lint_rule ?_
        cases x with
        | int i =>
          repeat trivial
          have e : natOk (.int i) = !decide (i < 0) := by
            show decide (0 ≤ i) = _
            by_cases h : i < 0
            · rw [decide_eq_true h, decide_eq_false (by omega)]; rfl
            · rw [decide_eq_false h, decide_eq_true (by omega)]; rfl
          rw [e]
          cases hd : decide (i < 0) with
          | true => (repeat trivial)
          | false => (repeat trivial)
        | _ => (repeat trivial)
      · refine ones_tuple (by omega) ?_
        repeat trivial
        refine ⟨_, cmp_nil ones_lay, ?_⟩
        rw [ones_nil]
        have e1 : (xs.all fun x => !!natOk x) = xs.all natOk := by simp
        rw [e1]
        repeat trivial
        exact second_end hv (by rw [cnt_t, h1, Bool.true_and]) h
    · rename_i h1
      have h1 : PyData.eqv (.int ((xs.map D.p).length : Nat)) (.int m) = false := by
        have : ¬ PyData.eqv (.int ((xs.map D.p).length : Nat)) (.int m) = true := h1
        simpa using this
      have e : cnt m (.tuple xs) = false := by
        rw [eqv_int, List.length_map] at h1
        rw [cnt_t, h1]; rfl
      refine ⟨Nat.le_of_ble_eq_true rfl, ?_⟩
      show Hk (exs _ (x_law_2.drop 6) [a0, some (.r 0), a2, a3, some (.p (.tuple xs)), a5, a6, a7, a8, a9, a10, some (bl (PyData.eqv (.int ((xs.map D.p).length : Nat)) (.int m))), some (nt m), a13, a14] st) _ _ _ _
      rw [h1]
      exact second_end hv e.symm h
  | _ =>
    repeat trivial
    refine K_cons ?_
    repeat trivial
    exact second_end hv rfl h
/-! ### numbers in order -/
theorem lot_eq {a : Int} {ns : List Int} (ho : (a :: ns).Pairwise (· < ·)) : ((a :: ns).map PyData.int).all (within 0 (m - 1)) = (decide (0 ≤ a) && decide ((a :: ns).getLast (by simp) < m)) := by
  have lastmem := List.getLast_mem (l := a :: ns) (by simp)
  have up : ∀ x ∈ a :: ns, x ≤ (a :: ns).getLast (by simp) := fun x hx => by
    have e := List.dropLast_concat_getLast (l := a :: ns) (by simp)
    rw [← e] at hx ho
    rcases List.mem_append.mp hx with q | q
    · have := (List.pairwise_append.mp ho).2.2 x q ((a :: ns).getLast (by simp)) (List.mem_singleton.mpr rfl)
      omega
    · simp at q; omega
  have lo : ∀ x ∈ a :: ns, a ≤ x := fun x hx => by
    rcases List.mem_cons.mp hx with rfl | q
    · omega
    · have := (List.pairwise_cons.mp ho).1 x q
      omega
  have key : ((a :: ns).map PyData.int).all (within 0 (m - 1)) = true ↔ 0 ≤ a ∧ (a :: ns).getLast (by simp) < m := by
    rw [List.all_eq_true]
    constructor
    · intro h
      have h1 := h (.int a) (List.mem_map.mpr ⟨a, List.mem_cons_self, rfl⟩)
      have h2 := h (.int ((a :: ns).getLast (by simp))) (List.mem_map.mpr ⟨_, lastmem, rfl⟩)
      have h1 : (decide (0 ≤ a) && decide (a ≤ m - 1)) = true := h1
      have h2 : (decide (0 ≤ (a :: ns).getLast (by simp)) && decide ((a :: ns).getLast (by simp) ≤ m - 1)) = true := h2
      simp only [Bool.and_eq_true, decide_eq_true_eq] at h1 h2
      exact ⟨h1.1, by omega⟩
    · rintro ⟨h1, h2⟩ x hx
      obtain ⟨y, hy, rfl⟩ := List.mem_map.mp hx
      have q1 := up y hy
      have q2 := lo y hy
      show (decide (0 ≤ y) && decide (y ≤ m - 1)) = true
      simp only [Bool.and_eq_true, decide_eq_true_eq]
      omega
  cases e : ((a :: ns).map PyData.int).all (within 0 (m - 1)) with
  | true =>
    obtain ⟨h1, h2⟩ := key.mp e
    rw [decide_eq_true h1, decide_eq_true h2]; rfl
  | false =>
    by_cases h1 : 0 ≤ a
    · by_cases h2 : (a :: ns).getLast (by simp) < m
      · rw [key.mpr ⟨h1, h2⟩] at e; cases e
      · rw [decide_eq_false h2, Bool.and_false]
    · rw [decide_eq_false h1, Bool.false_and]
theorem intsOf_map (ns : List Int) : intsOf (ns.map .int) = ns := by
  induction ns with
  | nil => rfl
  | cons n ns ih =>
    show n :: intsOf (ns.map .int) = _
    rw [ih]
theorem asInts_map (ns : List Int) : asInts ((ns.map PyData.int).map D.p) = some ns := by
  induction ns with
  | nil => rfl
  | cons n ns ih =>
    show (asInts ((ns.map PyData.int).map D.p)).map (n :: ·) = _
    rw [ih]; rfl
theorem insU_len (x : Int) : ∀ l : List Int, (insU x l).length ≤ l.length + 1
  | [] => Nat.le_refl _
  | y :: l => by
    unfold insU
    split
    · simp
    · split
      · simp
      · have := insU_len x l
        simp only [List.length_cons]
        omega
theorem uniqI_len : ∀ l : List Int, (uniqI l).length ≤ l.length
  | [] => Nat.le_refl _
  | x :: l => by
    have h1 := uniqI_len l
    have h2 := insU_len x (uniqI l)
    show (insU x (uniqI l)).length ≤ _
    simp only [List.length_cons]
    omega
theorem O_sset {ns : List Int} (hl : ns.length ≤ 60) {Q : D → Store → Prop} (h : Q (.p (.list ((uniqI ns).map .int))) st) : Gk (builtin false .sset [.p (.tuple (ns.map .int))] st).toR Q ∧ Gk (builtin false .sset [.p (.list (ns.map .int))] st).toR Q := by
  have em : (uniqI ns).map nt = ((uniqI ns).map PyData.int).map D.p := by rw [List.map_map]; rfl
  have e : ((asInts ((ns.map PyData.int).map D.p)).bind fun ns => if ns.length < 64 then fin false ((uniqI ns).map nt) st else none) = fin false (((uniqI ns).map PyData.int).map D.p) st := by
    rw [asInts_map, ← em]
    show (if ns.length < 64 then _ else none) = _
    rw [if_pos (by omega)]
  have q : Gk (fin false (((uniqI ns).map PyData.int).map D.p) st).toR Q := O_fin (by rw [List.length_map]; have := uniqI_len ns; unfold LIM; omega) h
  exact ⟨by
    show Gk (O.toR ((asInts ((ns.map PyData.int).map D.p)).bind fun ns => if ns.length < 64 then fin false ((uniqI ns).map nt) st else none)) Q
    rw [e]; exact q, by
    show Gk (O.toR ((asInts ((ns.map PyData.int).map D.p)).bind fun ns => if ns.length < 64 then fin false ((uniqI ns).map nt) st else none)) Q
    rw [e]; exact q⟩
theorem second_turn (hv : TH v) {B : Bag} (hB : B.Ok) (h : ∀ (B' : Bag) (r r2 : D), B'.Ok → N [a0, some (.r 0), a2, a3, some (.p v), a5, a6, a7, a8, a9, a10, some r, some r2, a13, a14] [B'.cell]) :
    Hk (exs (p.tab (n + 3)) x_law_2 [a0, some (.r 0), a2, a3, some (.p v), a5, a6, a7, a8, a9, a10, a11, a12, a13, a14] [B.cell]) N Rt Bk Ct := by
  show Hk (exs _ (_ :: _ :: _ :: x_law_2.drop 3) _ _) _ _ _ _
  refine K_cons ?_
  repeat trivial
  refine take_rule (k := 0) f_take (B := B) rfl hB (by decide) (by decide) fun m B' h1 h2 h3 => ?_
  have h := fun r => h B' r (nt m) h3
  refine ⟨Nat.le_of_ble_eq_true rfl, ?_⟩
  show Hk (exs _ (_ :: _ :: x_law_2.drop 3) [a0, some (.r 0), a2, a3, some (.p v), a5, a6, a7, a8, a9, a10, a11, some (nt m), a13, a14] [B'.cell]) _ _ _ _
  generalize [B'.cell] = st at h
  clear h1 h2 h3
  refine K_cons ?_
  have off : lotOk m v = false → Hk (exs (p.tab (n + 3)) (x_law_2.drop 2) [a0, some (.r 0), a2, a3, some (.p v), a5, a6, a7, a8, a9, a10, some (bl false), some (nt m), a13, a14] st) N Rt Bk Ct := fun e => by
    show Hk (exs _ (_ :: x_law_2.drop 3) _ _) _ _ _ _
    refine K_cons ?_
    repeat trivial
    exact second_rest hv e.symm h
  cases v with
  | tuple xs =>
    obtain ⟨hl, hx⟩ := id hv
    refine K_set (R_and ?_)
    repeat trivial
    refine ⟨_, (cmp_tnil fun z hz => (hx z hz).2).2, ?_⟩
    repeat trivial
    split
    · rename_i h1
      have h1 : xs.isEmpty = false := by simpa using h1
      refine R_cmp (R_lc ?_)
      repeat trivial
      refine ones_runG (f := fun x => !isInt x) (fun x hxm => ?_) ?_
      · refine R_step ?_
        repeat trivial
        refine lint_rule ?_
        repeat trivial
        cases isInt x <;> (repeat trivial)
      · refine ones_tuple (by omega) ?_
        repeat trivial
        refine ⟨_, cmp_nil ones_lay, ?_⟩
        rw [ones_nil]
        have e1 : (xs.all fun x => !!isInt x) = xs.all isInt := by simp
        rw [e1]
        refine ⟨Nat.le_of_ble_eq_true rfl, ?_⟩
        cases hi : xs.all isInt with
        | false =>
          refine off ?_
          have : xs.all (within 0 (m - 1)) = false := by
            cases e : xs.all (within 0 (m - 1)) with
            | false => rfl
            | true =>
              rw [← hi]
              refine (List.all_eq_true.mpr fun x hxm => ?_).symm
              have := List.all_eq_true.mp e x hxm
              cases x with
              | int i => rfl
              | _ => exact absurd this (by simp [within])
          rw [lotOk_t, this]; simp
        | true =>
          have ex := ints_of hi
          generalize intsOf xs = ns at ex
          subst ex
          rw [List.length_map] at hl
          refine K_cons (K_set (R_and (R_var rfl ?_)))
          repeat trivial
          refine O_fin (by rw [List.length_map]; unfold LIM; omega) ?_
          repeat trivial
          refine (O_sset hl ?_).1
          refine ⟨_, cmp_ints _ _, ?_⟩
          have le : lotOk m (.tuple (ns.map .int)) = ((ns.map PyData.int).all (within 0 (m - 1)) && decide (ns = uniqI ns)) := by
            rw [lotOk_t, h1, intsOf_map]; rfl
          cases ho : decide (ns = uniqI ns) with
          | false =>
            repeat trivial
            exact second_rest hv (by rw [le, ho, Bool.and_false]) h
          | true =>
            have hs : ns.Pairwise (· < ·) := by rw [of_decide_eq_true ho]; exact uniqI_ord
            rw [ho, Bool.and_true] at le
            cases ns with
            | nil => cases h1
            | cons a ns =>
              rw [lot_eq hs] at le
              repeat trivial
              have i0 : index (.p (.tuple ((a :: ns).map .int))) (nt 0) st = some (nt a, st) := by
                show ((L2.atI (((a :: ns).map PyData.int).map D.p) 0).map fun d => (d, st)) = _
                rw [atI_nat (Int.le_refl _) (by simp <;> omega)]; rfl
              refine O_some i0 ?_
              repeat trivial
              cases h0 : decide (0 ≤ a) with
              | false =>
                refine ite_no rfl ?_
                refine ⟨Nat.le_of_ble_eq_true rfl, ?_⟩
                exact second_rest hv (by rw [le, h0]; rfl) h
              | true =>
                refine ite_yes rfl ?_
                have i1 : index (.p (.tuple ((a :: ns).map .int))) (nt (-1)) st = some (nt ((a :: ns).getLast (by simp)), st) := by
                  show ((L2.atI (((a :: ns).map PyData.int).map D.p) (-1)).map fun d => (d, st)) = _
                  have : L2.atI (((a :: ns).map PyData.int).map D.p) (-1) = some (nt ((a :: ns).getLast (by simp))) := by
                    unfold L2.atI L2.ixN
                    rw [if_neg (by decide), if_pos (by simp; omega)]
                    show (((a :: ns).map PyData.int).map D.p)[((-1 : Int) + (((a :: ns).map PyData.int).map D.p).length).toNat]? = _
                    rw [List.map_map, List.length_map, List.getElem?_map]
                    have : ((-1 : Int) + ((a :: ns).length : Nat)).toNat = (a :: ns).length - 1 := by simp only [List.length_cons]; omega
                    rw [this, ← List.getLast?_eq_getElem?, List.getLast?_eq_some_getLast (by simp)]; rfl
                  rw [this]; rfl
                refine R_cmp ?_
                repeat trivial
                refine O_some i1 ?_
                repeat trivial
                exact second_rest hv (by rw [le, h0]; rfl) h
    · rename_i h1
      have h1 : (!xs.isEmpty) = false := by simpa using h1
      refine ⟨Nat.le_of_ble_eq_true rfl, ?_⟩
      rw [h1]
      exact off (by rw [lotOk_t, h1]; rfl)
  | _ =>
    repeat trivial
    exact off rfl
end
end K01

set_option Elab.async false
set_option linter.all false
set_option maxRecDepth 100000
set_option maxHeartbeats 4000000
/-! K01v: the law. -/
namespace K01
open PySem Mi
local macro_rules
  | `(tactic| trivial) => `(tactic| first
    | refine K_nil ?_
    | refine K_set ?_
    | refine K_par ?_
    | refine K_tgt ?_
    | refine K_six ?_
    | refine K_aix ?_
    | refine K_exp ?_
    | refine K_ret ?_
    | refine K_ife ?_
    | refine K_aug rfl ?_
    | refine R_var rfl ?_
    | refine R_cst ?_
    | refine R_glo (by kernel_rfl) ?_
    | refine R_rev ?_
    | refine K_for ?_
    | refine I_val_ ?_
    | refine R_bin ?_
    | refine R_cmp ?_
    | refine R_chn ?_
    | refine R_and ?_
    | refine R_or ?_
    | refine R_not ?_
    | refine R_tup ?_
    | refine R_lst ?_
    | refine R_call ?_
    | refine R_blt ?_
    | refine R_isi ?_
    | refine R_idx ?_
    | refine R_sli ?_
    | refine R_neg ?_
    | refine R_nil ?_
    | refine R_cons ?_
    | refine R_no ?_
    | refine R_so ?_
    | refine T_val_ ?_
    | refine T_both_ ?_
    | refine T_eith_ ?_
    | refine T_neg_ ?_
    | refine T_yes_ ?_
    | refine O_add ?_
    | refine O_sub ?_
    | refine O_mulR (by decide) ?_
    | refine O_mulL (by decide) ?_
    | refine O_mod (by decide) ?_
    | refine O_some rfl ?_
    | refine ite_no rfl ?_
    | refine ite_yes rfl ?_
    | refine ⟨_, rfl, ?_⟩
    | refine ⟨_, _, rfl, rfl, ?_⟩
    | refine ⟨Nat.le_of_ble_eq_true rfl, ?_⟩
    | refine ⟨⟨Nat.le_of_ble_eq_true rfl, Nat.le_of_ble_eq_true rfl, by decide⟩, ?_⟩)

section
variable {n k : Nat} {st : Store} {Q : D → Store → Prop} {v : PyData} {N Bk Ct : Mi.Env → Store → Prop} {Rt : D → Store → Prop}
/-- a list of drawn things -/
theorem draws {l : List D} {step : D → Store → R (Option D)} {P : PyData → Prop} {B : Bag} {F : List D → Store → Prop} (hB : B.Ok) (h : ∀ (x : D) (B : Bag), B.Ok → Gk (step x [B.cell]) fun o s => ∃ (y : PyData) (B' : Bag), o = some (.p y) ∧ s = [B'.cell] ∧ B'.Ok ∧ P y)
    (q : ∀ (ys : List PyData) (B' : Bag), B'.Ok → ys.length = l.length → (∀ y ∈ ys, P y) → F (ys.map D.p) [B'.cell]) : Gk (lcGo (Src.get (.xs l)) step l.length 0 [B.cell]) F := by
  refine (L_rule (l := l) (fun i acc s => ∃ (B' : Bag) (ys : List PyData), s = [B'.cell] ∧ B'.Ok ∧ acc = ys.map D.p ∧ ys.length = i ∧ ∀ y ∈ ys, P y) (fun i x acc s hx ⟨B', ys, h1, h2, h3, h4, h5⟩ => ?_) l.length 0 [] _ (by omega) ⟨B, [], rfl, hB, rfl, rfl, fun y hy => by cases hy⟩).mono fun r s ⟨B', ys, h1, h2, h3, h4, h5⟩ => ?_
  · subst h1
    refine (h x B' h2).mono fun o s ⟨y, B2, e1, e2, e3, e4⟩ => ?_
    subst e1 e2 h3
    refine ⟨B2, ys ++ [y], rfl, e3, ?_, ?_, fun z hz => ?_⟩
    · rw [List.map_append]; rfl
    · rw [List.length_append, h4]; rfl
    · rcases List.mem_append.mp hz with q | q
      · exact h5 z q
      · rw [List.mem_singleton.mp q]; exact e4
  · subst h1
    rw [List.nil_append] at h3
    rw [h3]
    exact q ys B' h2 h4 h5
theorem O_tuple {ys : List PyData} (h : ys.length ≤ 1000) (q : Q (.p (.tuple ys)) st) : Gk (builtin false .tuple [.p (.list ys)] st).toR Q := O_finT (by unfold LIM; omega) q
theorem O_addT {xs ys : List PyData} (h : xs.length + ys.length ≤ 1000) (q : Q (.p (.tuple (xs ++ ys))) st) : Gk (binop false .Add (.p (.tuple xs)) (.p (.tuple ys)) st).toR Q := by
  have e : binop false .Add (.p (.tuple xs)) (.p (.tuple ys)) st = some (.p (.tuple (xs ++ ys)), st) := by
    show (if xs.length + ys.length ≤ LIM then some (D.p (.tuple (xs ++ ys)), st) else none) = _
    rw [if_pos (by unfold LIM; omega)]
  exact O_some e q
theorem upto_len {m : Int} (h : 0 ≤ m) : (upto 0 m).length = m.toNat := by
  unfold upto
  rw [List.length_map, List.length_range, Int.sub_zero]
def SOMES : List PyData := [.int 0, .int 1, .int 2, .int 3, .int (-1), .bool true, .none, .str "1", .int (10 ^ Int.toNat 30)]
def fine (x : PyData) : Prop := short x ∧ x.canLay0 = true ∧ x.depth ≤ 60
def fineB (x : PyData) : Bool := (match x with | .str s => decide (s.length ≤ 1000) | _ => true) && (x.canLay0 && decide (x.depth ≤ 60))
theorem fine_of {x : PyData} (h : fineB x = true) : fine x := by
  unfold fineB at h
  simp only [Bool.and_eq_true, decide_eq_true_eq] at h
  obtain ⟨h1, h2, h3⟩ := h
  refine ⟨?_, h2, h3⟩
  cases x with
  | str s => exact (show s.length ≤ 1000 from of_decide_eq_true h1)
  | _ => exact True.intro
theorem fine_words : ∀ x ∈ WORDS, fine x := fun x hx => fine_of (List.all_eq_true.mp (by decide +kernel : WORDS.all fineB = true) x hx)
theorem fine_somes : ∀ x ∈ SOMES, fine x := fun x hx => fine_of (List.all_eq_true.mp (by decide +kernel : SOMES.all fineB = true) x hx)
theorem TH_tuple {xs : List PyData} (h : xs.length ≤ 60) (hf : ∀ x ∈ xs, fine x) : TH (.tuple xs) := ⟨h, hf⟩
theorem fine_int (i : Int) : fine (.int i) := ⟨True.intro, rfl, Nat.zero_le _⟩
theorem alike_e {b c : Bool} (e : b = c) (h : Q (bl true) st) : Gk (p.run (n + 1) "_law_alike" [bl b, bl c] st) Q := by subst e; exact alike_b h
theorem alike_2 {b c : Bool} (h : Q (bl true) st) : Gk (p.run (n + 1) "_law_alike" [.p (.list [.bool b, .bool c]), .p (.list [.bool b, .bool c])] st) Q := alike_rule f_alike rfl (show 3 ≤ 1000000 by decide) h
variable {a0 a2 a3 a4 a5 a6 a7 a8 a9 a10 a11 a12 a13 a14 : Option D} {l m : Int}
theorem loop1 {B : Bag} {ys : List PyData} (hl : ys.length ≤ 20) (hy : ∀ y ∈ ys, fine y) (h : ∀ t r, N [a0, some (.r 0), a2, some (.p (.tuple ys)), t, a5, a6, a7, a8, some (nt l), some (nt m), r, a12, a13, a14] [B.cell]) :
    Hk (ex (p.tab (n + 3)) (.for_ (.nm 4) (.val (.tup (.cons (.var 3) (.cons (.blt false .list (.cons (.var 3) .nil)) (.cons (.cst .none) (.cons (.bin false .Add (.var 3) (.var 3)) (.cons (.cst (.str "ab")) .nil))))))) x_law_1)
      [a0, some (.r 0), a2, some (.p (.tuple ys)), a4, a5, a6, a7, a8, some (nt l), some (nt m), a11, a12, a13, a14] [B.cell]) N Rt Bk Ct := by
  repeat trivial
  refine O_fin (by unfold LIM; omega) ?_
  repeat trivial
  refine O_addT (by omega) ?_
  repeat trivial
  refine Hk.mono (F_rule (fun _ e s => ∃ t r, e = [a0, some (.r 0), a2, some (.p (.tuple ys)), t, a5, a6, a7, a8, some (nt l), some (nt m), r, a12, a13, a14] ∧ s = [B.cell]) (fun i x e s hx ⟨t, r, h1, h2⟩ => ?_) _ 0 _ _ (Nat.zero_add _) ⟨_, _, rfl, rfl⟩) (fun e s ⟨t, r, h1, h2⟩ => by subst h1 h2; exact h t r) (fun _ _ h => h) (fun _ _ h => h) (fun _ _ h => h)
  subst h1 h2
  have hm := List.mem_of_getElem? hx
  obtain ⟨v, hv, rfl⟩ := List.mem_map.mp hm
  refine ⟨_, rfl, ?_⟩
  refine first_turn (n := n + 1) (v := v) ?_ fun r => ⟨_, _, rfl, rfl⟩
  simp only [List.mem_cons, List.not_mem_nil, or_false] at hv
  rcases hv with rfl | rfl | rfl | rfl | rfl
  · exact TH_tuple (by omega) hy
  · exact True.intro
  · exact True.intro
  · exact TH_tuple (by rw [List.length_append]; omega) fun x hx => (List.mem_append.mp hx).elim (hy x) (hy x)
  · show (("ab" : Str)).length ≤ 1000; decide +kernel
theorem loop2 {B : Bag} (hB : B.Ok) {ys zs : List PyData} (hl : ys.length ≤ 20) (hy : ∀ y ∈ ys, fine y) (hlz : zs.length ≤ 20) (hz : ∀ y ∈ zs, fine y) (h : ∀ t r r2 (B' : Bag), B'.Ok → N [a0, some (.r 0), a2, a3, t, some (.p (.tuple ys)), some (.p (.tuple zs)), a7, a8, a9, a10, r, r2, a13, a14] [B'.cell]) :
    Hk (ex (p.tab (n + 3)) (.for_ (.nm 4) (.val (.tup (.cons (.var 5) (.cons (.var 6) (.cons (.blt false .list (.cons (.var 6) .nil)) (.cons (.rev false (.var 6)) (.cons (.tup .nil) (.cons (.cst .none) (.cons (.cst (.int 3)) .nil))))))))) x_law_2)
      [a0, some (.r 0), a2, a3, a4, some (.p (.tuple ys)), some (.p (.tuple zs)), a7, a8, a9, a10, a11, a12, a13, a14] [B.cell]) N Rt Bk Ct := by
  repeat trivial
  refine O_fin (by unfold LIM; omega) ?_
  repeat trivial
  refine Hk.mono (F_rule (fun _ e s => ∃ t r r2 B', B'.Ok ∧ e = [a0, some (.r 0), a2, a3, t, some (.p (.tuple ys)), some (.p (.tuple zs)), a7, a8, a9, a10, r, r2, a13, a14] ∧ s = [Bag.cell B']) (fun i x e s hx ⟨t, r, r2, B', h0, h1, h2⟩ => ?_) _ 0 _ _ (Nat.zero_add _) ⟨_, _, _, B, hB, rfl, rfl⟩) (fun e s ⟨t, r, r2, B', h0, h1, h2⟩ => by subst h1 h2; exact h t r r2 B' h0) (fun _ _ h => h) (fun _ _ h => h) (fun _ _ h => h)
  subst h1 h2
  have hm := List.mem_of_getElem? hx
  obtain ⟨v, hv, rfl⟩ := List.mem_map.mp hm
  refine ⟨_, rfl, ?_⟩
  refine second_turn (v := v) ?_ h0 fun B2 r r2 hB2 => ⟨_, _, _, B2, hB2, rfl, rfl⟩
  simp only [List.mem_cons, List.not_mem_nil, or_false] at hv
  rcases hv with rfl | rfl | rfl | rfl | rfl | rfl | rfl
  · exact TH_tuple (by omega) hy
  · exact TH_tuple (by omega) hz
  · exact True.intro
  · exact TH_tuple (by rw [List.length_reverse]; omega) fun x hx => hz x (List.mem_reverse.mp hx)
  · exact TH_tuple (by decide) fun x hx => by cases hx
  · exact True.intro
  · exact True.intro
theorem turn {B : Bag} (hB : B.Ok) (h : ∀ b2 b3 b4 b5 b6 b7 b8 b9 b10 b11 b12 b13 b14 (B' : Bag), B'.Ok → N [a0, some (.r 0), b2, b3, b4, b5, b6, b7, b8, b9, b10, b11, b12, b13, b14] [B'.cell]) :
    Hk (exs (p.tab (n + 3)) x_law_3 [a0, some (.r 0), a2, a3, a4, a5, a6, a7, a8, a9, a10, a11, a12, a13, a14] [B.cell]) N Rt Bk Ct := by
  show Hk (exs _ (_ :: _ :: _ :: _ :: _ :: _ :: _ :: _ :: _ :: []) _ _) _ _ _ _
  refine K_cons ?_
  repeat trivial
  refine word_rule (k := 0) (st := [B.cell]) (B := B) rfl hB fun word B1 hw hB1 => ?_
  repeat trivial
  refine some_rule (n := n + 1) (k := 0) (st := [B1.cell]) f_take f_some (B := B1) rfl hB1 (by simp) (by decide) fun num B2 hnum hB2 => ?_
  repeat trivial
  refine K_cons ?_
  repeat trivial
  refine take_rule (k := 0) (st := [B2.cell]) f_take (B := B2) rfl hB2 (by decide) (by decide) fun l B3 l1 l2 hB3 => ?_
  repeat trivial
  refine take_rule (k := 0) (st := [B3.cell]) f_take (B := B3) rfl hB3 (by decide) (by decide) fun m B4 m1 m2 hB4 => ?_
  repeat trivial
  show Hk (exs _ (_ :: _ :: _ :: _ :: _ :: _ :: _ :: []) [a0, some (.r 0), a2, a3, a4, a5, a6, some (.p word), some (.p num), some (nt (l - 1)), some (nt m), a11, a12, a13, a14] [B4.cell]) _ _ _ _
  generalize l - 1 = l'
  clear hB3 hB2 hB1 hB l1 l2 m1 m2
  refine K_cons ?_
  repeat trivial
  refine name_rule (fine_words word hw).1 ?_
  repeat trivial
  refine int_rule ?_
  repeat trivial
  refine lname_rule (fine_words word hw).1 ?_
  repeat trivial
  refine lint_rule ?_
  repeat trivial
  refine alike_2 ?_
  repeat trivial
  refine K_cons ?_
  repeat trivial
  refine within_rule ?_
  repeat trivial
  refine lint_rule ?_
  have more : ∀ st', st' = [B4.cell] → Hk (exs (p.tab (n + 3)) (x_law_3.drop 4) [a0, some (.r 0), a2, a3, a4, a5, a6, some (.p word), some (.p num), some (nt l'), some (nt m), a11, a12, a13, a14] st') N Rt Bk Ct := fun st' est => by
    subst est
    show Hk (exs _ (_ :: _ :: _ :: _ :: _ :: []) _ _) _ _ _ _
    refine K_cons (K_set (R_blt (R_cons (R_lc (I_rng_ ?_)))))
    repeat trivial
    refine take_rule (k := 0) (st := [B4.cell]) f_take (B := B4) rfl hB4 (by decide) (by decide) fun c B5 c1 c2 hB5 => ?_
    refine ⟨_, _, rfl, rfl, by decide, by decide, by omega, by omega, _, rfl, ?_⟩
    refine draws (P := fine) hB5 (fun x B hB => ?_) fun ys B6 hB6 hlen hys => ?_
    · refine R_step ?_
      repeat trivial
      refine word_rule (k := 0) (st := [B.cell]) (B := B) rfl hB fun y B' hy hB' => ?_
      exact ⟨y, B', rfl, rfl, hB', fine_words y hy⟩
    rw [upto_len c1] at hlen
    have hly : ys.length ≤ 20 := by omega
    clear hlen c1 c2 hB5 B5 c
    refine O_fin (by unfold LIM; omega) ?_
    repeat trivial
    refine O_tuple (by omega) ?_
    repeat trivial
    refine K_cons ?_
    refine loop1 hly hys fun t r => ?_
    refine K_cons (K_set (R_blt (R_cons (R_lc (I_rng_ ?_)))))
    repeat trivial
    refine take_rule (k := 0) (st := [B6.cell]) f_take (B := B6) rfl hB6 (by decide) (by decide) fun c B7 c1 c2 hB7 => ?_
    refine ⟨_, _, rfl, rfl, by decide, by decide, by omega, by omega, _, rfl, ?_⟩
    refine draws (P := fine) hB7 (fun x B hB => ?_) fun ss B8 hB8 hlen hss => ?_
    · refine R_step ?_
      repeat trivial
      refine some_rule (n := n + 1) (k := 0) (st := [B.cell]) f_take f_some (B := B) rfl hB (xs := SOMES) (by simp [SOMES]) (by decide) fun y B' hy hB' => ?_
      exact ⟨y, B', rfl, rfl, hB', fine_somes y hy⟩
    rw [upto_len c1] at hlen
    have hls : ss.length ≤ 20 := by omega
    clear hlen c1 c2 hB7 B7 c
    refine O_fin (by unfold LIM; omega) ?_
    repeat trivial
    refine O_tuple (by omega) ?_
    repeat trivial
    refine K_cons (K_set (R_blt (R_cons (R_blt (R_cons (R_lc (I_rng_ ?_)))))))
    repeat trivial
    refine take_rule (k := 0) (st := [B8.cell]) f_take (B := B8) rfl hB8 (by decide) (by decide) fun c B9 c1 c2 hB9 => ?_
    refine ⟨_, _, rfl, rfl, by decide, by decide, by omega, by omega, _, rfl, ?_⟩
    refine draws (P := fun y => isInt y = true) hB9 (fun x B hB => ?_) fun ls B10 hB10 hlen hls2 => ?_
    · refine R_step ?_
      repeat trivial
      refine take_rule (k := 0) (st := [B.cell]) f_take (B := B) rfl hB (by decide) (by decide) fun y B' _ _ hB' => ?_
      exact ⟨.int y, B', rfl, rfl, hB', rfl⟩
    rw [upto_len c1] at hlen
    have hll : ls.length ≤ 20 := by omega
    clear hlen c1 c2 hB9 B9 c
    have ex := ints_of (List.all_eq_true.mpr hls2)
    generalize intsOf ls = ns at ex
    subst ex
    rw [List.length_map] at hll
    refine O_fin (by rw [List.length_map]; unfold LIM; omega) ?_
    repeat trivial
    refine (O_sset (by omega) ?_).2
    repeat trivial
    have hu := uniqI_len ns
    refine O_tuple (by rw [List.length_map]; omega) ?_
    repeat trivial
    refine K_cons ?_
    refine loop2 hB10 hls hss (by rw [List.length_map]; omega) (fun y hy => ?_) fun t r r2 B' hB' => ?_
    · obtain ⟨i, _, rfl⟩ := List.mem_map.mp hy
      exact fine_int i
    refine K_nil ?_
    exact h _ _ _ _ _ _ _ _ _ _ _ _ _ B' hB'
  cases num with
  | int i =>
    repeat trivial
    split
    · rename_i h1
      have h1 : decide (l' ≤ i) = true := h1
      repeat trivial
      refine alike_e (show within l' m (.int i) = decide (i ≤ m) from by show (decide (l' ≤ i) && decide (i ≤ m)) = _; rw [h1, Bool.true_and]) ?_
      repeat trivial
      exact more _ rfl
    · rename_i h1
      have h1 : decide (l' ≤ i) = false := by
        have : ¬ decide (l' ≤ i) = true := h1
        simpa using this
      repeat trivial
      refine alike_e (show within l' m (.int i) = false from by show (decide (l' ≤ i) && decide (i ≤ m)) = _; rw [h1, Bool.false_and]) ?_
      repeat trivial
      exact more _ rfl
  | _ =>
    (repeat trivial) <;> (refine alike_b ?_; (repeat trivial); try exact more _ rfl)
/-- the law holds -/
theorem law_true (ns : List Int) (hl : ns.length ≤ 63) : ∃ st, p.run 4 "law" [.p (.list (ns.map .int))] [] = .ok (bl true) st := by
  have key : Gk (p.run (3 + 1) "law" [.p (.list (ns.map .int))] []) fun d _ => d = bl true := by
    refine C_pure f_law rfl [.list (ns.map .int)] rfl (by decide) ?_
    show Hk (exs _ (_ :: _ :: _ :: []) [some (.p (.list (ns.map .int))), none, none, none, none, none, none, none, none, none, none, none, none, none, none] []) _ _ _ _
    refine K_cons ?_
    repeat trivial
    refine bag_rule f_bag (by omega) fun B hB => ?_
    refine ⟨Nat.le_of_ble_eq_true rfl, ?_⟩
    refine K_cons (K_for (I_rng_ ?_))
    repeat trivial
    refine Hk.mono (F_rule (fun _ e s => ∃ a0 b2 b3 b4 b5 b6 b7 b8 b9 b10 b11 b12 b13 b14 B', Bag.Ok B' ∧ e = [a0, some (.r 0), b2, b3, b4, b5, b6, b7, b8, b9, b10, b11, b12, b13, b14] ∧ s = [Bag.cell B']) (fun i x e s hx hI => ?_) _ 0 _ _ (Nat.zero_add _) ⟨_, _, _, _, _, _, _, _, _, _, _, _, _, _, B, hB, rfl, rfl⟩) (fun e s hI => ?_) (fun _ _ h => h) (fun _ _ h => h) (fun _ _ h => h)
    · obtain ⟨a0, b2, b3, b4, b5, b6, b7, b8, b9, b10, b11, b12, b13, b14, B', hB', rfl, rfl⟩ := hI
      refine ⟨_, rfl, ?_⟩
      exact turn (n := 0) hB' fun c2 c3 c4 c5 c6 c7 c8 c9 c10 c11 c12 c13 c14 B2 hB2 => ⟨_, _, _, _, _, _, _, _, _, _, _, _, _, _, B2, hB2, rfl, rfl⟩
    · refine K_cons ?_
      repeat trivial
  obtain ⟨a, st, e, rfl⟩ := key.eq
  exact ⟨st, e⟩
end
end K01

set_option Elab.async false
set_option linter.all false
set_option maxRecDepth 100000
set_option maxHeartbeats 0
open PySem PySem.W PySem.Calls PyProof.Rows
theorem K01.name_law : (HandSHeadRun.topDef (OpenLaw.row PySem.Challenge.rw_headswaps_k01_forms_of_any_values).prog 18).name = ("law" : PySem.Str) := by kernel_rfl
theorem PySem.Challenge.cw_headswaps_k01_forms_of_any_values_holds : PySem.Challenge.rw_headswaps_k01_forms_of_any_values.Holds := by
  w_on; o_law
  refine HandSHeadRun.head_any (r := OpenLaw.row PySem.Challenge.rw_headswaps_k01_forms_of_any_values) (q := view (OpenLaw.row PySem.Challenge.rw_headswaps_k01_forms_of_any_values).prog [18]) (H := Mi.hookM 4 K01.p) (ob := Mi.obM 4 K01.p) (M := 1500) (loose := K01.loose) (d := HandSHeadRun.topDef (OpenLaw.row PySem.Challenge.rw_headswaps_k01_forms_of_any_values).prog 18) (kwd := []) (Mi.obM_eq 4 K01.p)
    (by kernel_rfl) (fun s => by kernel_rfl) K01.head (by kernel_rfl) (by kernel_rfl) (by kernel_rfl) (by rfl) (by first | assumption | decide +kernel) (by decide +kernel) ⟨rfl, rfl, rfl, rfl, rfl, by decide +kernel⟩ ?goalA ?goalB
  case goalA => w_witness2
  case goalB =>
    refine Mi.walk_mi (l := PySem.Challenge.rw_headswaps_k01_forms_of_any_values) (n := 63) (k := 4) (x := "script") (p := K01.p) (t := K01.d_law) rfl (by decide) (by kernel_rfl) ⟨rfl, by decide, by decide⟩ K01.ok_all (by rw [K01.name_law]; kernel_rfl) rfl ?goalC
    intro ns hl hb
    rw [K01.name_law]
    exact K01.law_true ns hl
