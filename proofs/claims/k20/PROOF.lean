import PyProof.Rows.All
import Wide.All
import OpenK.AllK
import Wide.FinOn
import HandS.ForMost
import HandS.ForExc
import HandS.Flow
import HandS.Defaults
import HandS.TupAny
import HandS.IsInst
import HandS.NoneIn
import HandS.ExcField
import HandS.HeadHook2
import HandS.RaiseMore
import HandS.ExcOwn
import HandS.HeadWalk
import HandS.Text
import HandS.Codes
import HandS.Iter
import HandS.Comp
import HandS.TryOnly
import HandS.HeadHook4
import HandS.HeadEnd
import HandS.ExcInit
import KE.KStateDown
import HandS.Head0
import HandS.Head1
import HandS.Head2
import KE.IntTextLaws
import PySem.Challenge.RW_planspriced_k20_texts_of_terms
section S_Lt1
set_option Elab.async false
set_option linter.all false
set_option maxRecDepth 100000
/-! Lt1: a small machine of values, stores and statements (no Python heap here): what a def computes, as a Lean function. -/
namespace Lt
open PySem

/-- data that never changes -/
inductive P where
  | non | bl (b : Bool) | int (i : Int) | str (s : List Nat) | tup (l : List P)
  deriving Inhabited
/-- an exception: its class (by its name in the module), its fields -/
structure Xc where
  cls : Str
  fs : List (Str × P)
/-- a value: data; a tuple with references in it; a reference into the store; a caught exception -/
inductive D where
  | p (x : P) | tup (l : List D) | ref (n : Nat) | exc (x : Xc)
instance : Inhabited D := ⟨.p .non⟩
/-- what changes: a list; a list that is only read; an instance (its class by name, the names that may be its fields); a dict -/
inductive SO where
  | lst (l : List D) | ro (l : List D) | ins (C : Str) (F : List Str) (fs : List (Str × D)) | dic (kvs : List (P × D))
abbrev Store := List SO
abbrev Rho := List (Option D)
inductive R (α : Type) where
  | ok (a : α) (st : Store) | ex (x : Xc) (st : Store) | no
def R.bind {α β : Type} (r : R α) (f : α → Store → R β) : R β := match r with
  | .ok a st => f a st
  | .ex x st => .ex x st
  | .no => .no
inductive Fl where
  | nx | rt (d : D) | bk | ct
inductive RS where
  | go (f : Fl) (ρ : Rho) (st : Store) | ex (x : Xc) (ρ : Rho) (st : Store) | no
abbrev EM := Rho → Store → R D
abbrev TM := Rho → Store → R Bool
abbrev AM := Rho → Store → R (List D)
abbrev SM := Rho → Store → RS
abbrev Defn := Str × Option Str
abbrev CallT := Defn → List D → Store → R D

/-! ### tuples, data -/
def pures : List D → Option (List P)
  | [] => some []
  | .p x :: r => (pures r).map (x :: ·)
  | _ :: _ => none
def mkTup (l : List D) : D := match pures l with
  | some ps => .p (.tup ps)
  | none => .tup l
def asTup : D → Option (List D)
  | .p (.tup l) => some (l.map .p)
  | .tup l => some l
  | _ => none
def isX : D → Bool
  | .exc _ => true
  | _ => false
theorem pures_map : ∀ l : List P, pures (l.map D.p) = some l
  | [] => rfl
  | x :: r => by simp [pures, pures_map r]
theorem mkTup_map (l : List P) : mkTup (l.map D.p) = .p (.tup l) := by simp [mkTup, pures_map]
def toS (l : List Nat) : Str := ⟨l.toArray⟩
mutual
def P.pd : P → PyData
  | .non => .none
  | .bl b => .bool b
  | .int i => .int i
  | .str s => .str (toS s)
  | .tup l => .tuple (P.pds l)
def P.pds : List P → List PyData
  | [] => []
  | x :: r => x.pd :: P.pds r
end
def allSome {α β : Type} (f : α → Option β) : List α → Option (List β)
  | [] => some []
  | x :: r => match f x with
    | some y => (allSome f r).map (y :: ·)
    | none => none
/-- a value as data, lists read to the depth n -/
def pdOf (st : Store) : Nat → D → Option PyData
  | _, .p x => some x.pd
  | 0, _ => none
  | n + 1, .tup l => (allSome (pdOf st n) l).map .tuple
  | n + 1, .ref i => match st[i]? with
    | some (.lst l) => (allSome (pdOf st n) l).map .list
    | some (.ro l) => (allSome (pdOf st n) l).map .list
    | _ => none
  | _ + 1, .exc _ => none

/-! ### operators -/
def line : Nat := 16777216
def intOk (i : Int) : Bool := decide (i.natAbs.log2 < 1920) || decide (i.natAbs < 10 ^ 4300)
def mulOk (i j : Int) : Bool := decide (i.natAbs < 2 ^ 64) || decide (j.natAbs < 2 ^ 64)
def okP (x : P) (st : Store) : R D := .ok (.p x) st
def addD (a b : D) (st : Store) : R D := match a, b with
  | .p (.int i), .p (.int j) => okP (.int (i + j)) st
  | .p (.str x), .p (.str y) => if x.length + y.length ≤ line then okP (.str (x ++ y)) st else .no
  | .ref i, .ref j => match st[i]?, st[j]? with
    | some (.lst x), some (.lst y) => if x.length + y.length ≤ line then .ok (.ref st.length) (st ++ [.lst (x ++ y)]) else .no
    | _, _ => .no
  | a, b => match asTup a, asTup b with
    | some x, some y => if x.length + y.length ≤ line then .ok (mkTup (x ++ y)) st else .no
    | _, _ => .no
def repL {α : Type} (l : List α) (k : Int) : List α := (List.replicate k.toNat l).flatten
def mulD (a b : D) (st : Store) : R D := match a, b with
  | .p (.int i), .p (.int j) => if mulOk i j then okP (.int (i * j)) st else .no
  | .p (.str x), .p (.int k) => if decide (k.natAbs < 2 ^ 62) && decide (x.length * k.toNat ≤ line) then okP (.str (repL x k)) st else .no
  | .ref i, .p (.int k) => match st[i]? with
    | some (.lst x) => if decide (k.natAbs < 2 ^ 62) && decide (x.length * k.toNat ≤ line) then .ok (.ref st.length) (st ++ [.lst (repL x k)]) else .no
    | _ => .no
  | _, _ => .no
def binD : Operator → D → D → Store → R D
  | .Add, a, b, st => addD a b st
  | .Mult, a, b, st => mulD a b st
  | .Sub, .p (.int i), .p (.int j), st => okP (.int (i - j)) st
  | .FloorDiv, .p (.int i), .p (.int j), st => if decide (j ≠ 0) && decide (j.natAbs < 1073741824) then okP (.int (i.fdiv j)) st else .no
  | .Mod, .p (.int i), .p (.int j), st => if decide (j ≠ 0) then okP (.int (i.fmod j)) st else .no
  | .Pow, .p (.int i), .p (.int j), st => if decide (0 ≤ j) && decide (j ≤ 1000000) && decide (i.natAbs < 2 ^ 64) then okP (.int (i ^ j.toNat)) st else .no
  | .RShift, .p (.int i), .p (.int j), st => if decide (0 ≤ j) then okP (.int (i / 2 ^ j.toNat)) st else .no
  | _, _, _, _ => .no
/-- a op= b -/
def augD : Operator → D → D → Store → R D
  | .Add, .p (.int i), .p (.int j), st => okP (.int (i + j)) st
  | .Sub, .p (.int i), .p (.int j), st => okP (.int (i - j)) st
  | .Mult, .p (.int i), .p (.int j), st => if mulOk i j then okP (.int (i * j)) st else .no
  | .Add, .p (.str x), .p (.str y), st => if x.length + y.length ≤ line then okP (.str (x ++ y)) st else .no
  | _, _, _, _ => .no
def unD : UnaryOp → D → Store → R D
  | .USub, .p (.int i), st => okP (.int (-i)) st
  | _, _, _ => .no
/-- scalars that are compared by themselves -/
def scalP : P → P → Bool
  | .non, .non => true | .non, .int _ => true | .int _, .non => true | .non, .bl _ => true | .bl _, .non => true | .non, .str _ => true | .str _, .non => true
  | .int _, .int _ => true | .bl _, .bl _ => true | .str _, .str _ => true
  | .int _, .str _ => true | .str _, .int _ => true | .bl _, .str _ => true | .str _, .bl _ => true
  | _, _ => false
def sameP : P → P → Bool
  | .non, .non => true
  | .int i, .int j => decide (i = j)
  | .bl i, .bl j => decide (i = j)
  | .str i, .str j => decide (i = j)
  | _, _ => false
def eqDeep (a b : D) (st : Store) : Option Bool := match pdOf st 64 a, pdOf st 64 b with
  | some x, some y => if SeqAt.shaped x && SeqAt.shaped y then some (PyData.eqv x y) else none
  | _, _ => none
def eqD (a b : D) (st : Store) : Option Bool := match a, b with
  | .p x, .p y => if scalP x y then some (sameP x y) else eqDeep a b st
  | a, b => eqDeep a b st
def subS (x y : List Nat) : Bool := match x with
  | [c] => decide (c ∈ y)
  | x => !(Builtin.Str.occurrences (toS y) (toS x) 0 y.length 1).isEmpty
def ofO (o : Option Bool) (st : Store) : R D := match o with
  | some b => okP (.bl b) st
  | none => .no
def cmpD : CmpOp → D → D → Store → R D
  | .Lt, .p (.int i), .p (.int j), st => okP (.bl (decide (i < j))) st
  | .LtE, .p (.int i), .p (.int j), st => okP (.bl (decide (i ≤ j))) st
  | .Gt, .p (.int i), .p (.int j), st => okP (.bl (decide (j < i))) st
  | .GtE, .p (.int i), .p (.int j), st => okP (.bl (decide (j ≤ i))) st
  | .Eq, a, b, st => ofO (eqD a b st) st
  | .NotEq, a, b, st => ofO ((eqD a b st).map not) st
  | .In, .p (.str x), .p (.str y), st => okP (.bl (subS x y)) st
  | .NotIn, .p (.str x), .p (.str y), st => okP (.bl (!subS x y)) st
  | .Is, .p .non, .p .non, st => okP (.bl true) st
  | .Is, .p _, .p .non, st => okP (.bl false) st
  | .Is, .tup _, .p .non, st => okP (.bl false) st
  | .Is, .ref _, .p .non, st => okP (.bl false) st
  | .IsNot, .p .non, .p .non, st => okP (.bl false) st
  | .IsNot, .p _, .p .non, st => okP (.bl true) st
  | .IsNot, .tup _, .p .non, st => okP (.bl true) st
  | .IsNot, .ref _, .p .non, st => okP (.bl true) st
  | _, _, _, _ => .no
/-- a value's truth -/
def truD (d : D) (st : Store) : R Bool := match d with
  | .p .non => .ok false st
  | .p (.bl b) => .ok b st
  | .p (.int i) => .ok (i != 0) st
  | .p (.str s) => if s.length ≤ line then .ok (!s.isEmpty) st else .no
  | .p (.tup l) => .ok (!l.isEmpty) st
  | .tup l => .ok (!l.isEmpty) st
  | .ref n => match st[n]? with
    | some (.lst l) => .ok (!l.isEmpty) st
    | some (.ro l) => .ok (!l.isEmpty) st
    | some (.dic kvs) => .ok (!kvs.isEmpty) st
    | _ => .no
  | .exc _ => .no
/-- the items of a sequence -/
def seqOf (d : D) (st : Store) : Option (List D) := match d with
  | .ref n => match st[n]? with
    | some (.lst l) => some l
    | some (.ro l) => some l
    | _ => none
  | d => asTup d
def atL {α : Type} (xs : List α) (i : Int) : Option α := L2.atI xs i
def ixD (a i : D) (st : Store) : R D := match a, i with
  | .p (.str s), .p (.int k) => if s.length ≤ line then (match atL s k with
    | some c => okP (.str [c]) st
    | none => .no) else .no
  | a, .p (.int k) => match seqOf a st with
    | some l => (match atL l k with
      | some d => .ok d st
      | none => .no)
    | none => .no
  | _, _ => .no
def cutL {α : Type} (l : List α) (lo hi : Option Int) : List α := (l.drop (HT.sIx l.length 0 lo)).take (HT.sIx l.length l.length hi - HT.sIx l.length 0 lo)
def slD (a : D) (lo hi : Option Int) (st : Store) : R D := match a with
  | .p (.str s) => if s.length ≤ line then okP (.str (cutL s lo hi)) st else .no
  | .p (.tup l) => okP (.tup (cutL l lo hi)) st
  | .tup l => .ok (mkTup (cutL l lo hi)) st
  | .ref n => match st[n]? with
    | some (.lst l) => .ok (.ref st.length) (st ++ [.lst (cutL l lo hi)])
    | some (.ro l) => .ok (.ref st.length) (st ++ [.lst (cutL l lo hi)])
    | _ => .no
  | _ => .no

/-! ### what is built in -/
def strI (i : Int) : List Nat := if 0 ≤ i then TL.numL i.toNat else 45 :: TL.numL (-i).toNat
/-- strings only -/
def strsOf : List D → Option (List (List Nat))
  | [] => some []
  | .p (.str s) :: r => (strsOf r).map (s :: ·)
  | _ :: _ => none
def boolsOf : List D → Option (List Bool)
  | [] => some []
  | .p (.bl s) :: r => (boolsOf r).map (s :: ·)
  | _ :: _ => none
def bLen (ds : List D) (st : Store) : R D := match ds with
  | [.p (.str s)] => if s.length ≤ line then okP (.int s.length) st else .no
  | [d] => match seqOf d st with
    | some l => okP (.int l.length) st
    | none => .no
  | _ => .no
def bAbs (ds : List D) (st : Store) : R D := match ds with
  | [.p (.int i)] => okP (.int (if i < 0 then -i else i)) st
  | _ => .no
def bInt (ds : List D) (st : Store) : R D := match ds with
  | [.p (.int i)] => okP (.int i) st
  | [.p (.bl b)] => okP (.int (if b then 1 else 0)) st
  | [.p (.str s)] => if s.length ≤ 640 then (match PySem.intText? (toS s) with
    | some n => okP (.int n) st
    | none => .no) else .no
  | _ => .no
def bStr (ds : List D) (st : Store) : R D := match ds with
  | [.p (.int i)] => if intOk i then okP (.str (strI i)) st else .no
  | [.p (.str s)] => okP (.str s) st
  | _ => .no
def bRepr (ds : List D) (st : Store) : R D := match ds with
  | [d] => match pdOf st 64 d with
    | some x => if SeqAt.shaped x && x.showable && decide (x.shown.length ≤ line) then okP (.str x.shown.cps.toList) st else .no
    | none => .no
  | _ => .no
def bAll (ds : List D) (st : Store) : R D := match ds with
  | [.ref n] => match (seqOf (.ref n) st).bind boolsOf with
    | some bs => okP (.bl (bs.all id)) st
    | none => .no
  | _ => .no
def bAny (ds : List D) (st : Store) : R D := match ds with
  | [.ref n] => match (seqOf (.ref n) st).bind boolsOf with
    | some bs => okP (.bl (bs.any id)) st
    | none => .no
  | _ => .no
def bList (ds : List D) (st : Store) : R D := match ds with
  | [d] => match seqOf d st with
    | some l => .ok (.ref st.length) (st ++ [.lst l])
    | none => .no
  | _ => .no
def bTuple (ds : List D) (st : Store) : R D := match ds with
  | [d] => match seqOf d st with
    | some l => .ok (mkTup l) st
    | none => .no
  | _ => .no
/-- a built-in function or type, called -/
def blt (x : Str) : Option (List D → Store → R D) :=
  if x = "len" then some bLen else if x = "int" then some bInt else if x = "str" then some bStr else if x = "repr" then some bRepr
  else if x = "all" then some bAll else if x = "any" then some bAny else if x = "list" then some bList else if x = "tuple" then some bTuple
  else if x = "abs" then some bAbs else none
/-- isinstance against a built-in type -/
def isTy (T : Str) (d : D) (st : Store) : Option Bool := match d with
  | .p .non => some false
  | .p (.bl _) => if T = "int" then some true else if T = "bool" then some true else some false
  | .p (.int _) => some (T = "int")
  | .p (.str _) => some (T = "str")
  | .p (.tup _) => some (T = "tuple")
  | .tup _ => some (T = "tuple")
  | .ref n => match st[n]? with
    | some (.lst _) => some (T = "list")
    | _ => none
  | .exc _ => none
def tyName (T : Str) : Bool := decide (T = "int") || decide (T = "str") || decide (T = "tuple") || decide (T = "list") || decide (T = "bool")
/-! ### methods of what is built in -/
def joinS (sep : List Nat) (l : List (List Nat)) : List Nat := TL.joinL sep l
def mList (n : Nat) (l : List D) (m : Str) (ds : List D) (st : Store) : R D :=
  if m = "append" then (match ds with
    | [d] => if l.length < line then .ok (.p .non) (st.set n (.lst (l ++ [d]))) else .no
    | _ => .no)
  else if m = "extend" then (match ds with
    | [.ref k] => (match st[k]? with
      | some (.lst l2) => if l.length + l2.length ≤ line then .ok (.p .non) (st.set n (.lst (l ++ l2))) else .no
      | _ => .no)
    | _ => .no)
  else if m = "pop" then (match ds with
    | [] => (match l.getLast? with
      | some d => .ok d (st.set n (.lst l.dropLast))
      | none => .no)
    | _ => .no)
  else if m = "reverse" then (match ds with
    | [] => .ok (.p .non) (st.set n (.lst l.reverse))
    | _ => .no)
  else .no
def mStr (s : List Nat) (m : Str) (ds : List D) (st : Store) : R D :=
  if m = "join" then (match ds with
    | [d] => (match (seqOf d st).bind strsOf with
      | some l => if (l.map List.length).sum + l.length * s.length ≤ line then okP (.str (joinS s l)) st else .no
      | none => .no)
    | _ => .no)
  else .no
/-- whose method is called -/
inductive Rcv where
  | str (s : List Nat) | lst (n : Nat) | ins (C : Str) (n : Nat)
/-- the methods of a list, of a text, that the machine has -/
def lmOk (m : Str) : Bool := decide (m = "append") || decide (m = "extend") || decide (m = "pop") || decide (m = "reverse")
def smOk (m : Str) : Bool := decide (m = "join")
def rcvD (has : Str → Str → Bool) (m : Str) (o : D) (st : Store) : Option Rcv := match o with
  | .p (.str s) => if smOk m then some (.str s) else none
  | .ref n => match st[n]? with
    | some (.lst _) => if lmOk m then some (.lst n) else none
    | some (.ins C _ fs) => if (fs.lookup m).isSome || !has C m then none else some (.ins C n)
    | _ => none
  | _ => none
def runRcv (call : CallT) (m : Str) (r : Rcv) (ds : List D) (st : Store) : R D := match r with
  | .str s => mStr s m ds st
  | .lst n => match st[n]? with
    | some (.lst l) => mList n l m ds st
    | _ => .no
  | .ins C n => call (C, some m) (.ref n :: ds) st
def fldD (xf : Str → Str → Bool) (f : Str) (o : D) (st : Store) : R D := match o with
  | .ref n => match st[n]? with
    | some (.ins _ F fs) => (match F.contains f, fs.lookup f with
      | true, some d => .ok d st
      | _, _ => .no)
    | _ => .no
  | .exc x => match xf x.cls f, x.fs.lookup f with
    | true, some p => okP p st
    | _, _ => .no
  | _ => .no
def putFd (f : Str) (v : D) : List (Str × D) → List (Str × D)
  | [] => [(f, v)]
  | (g, w) :: r => if g = f then (g, v) :: r else (g, w) :: putFd f v r
def setFld (f : Str) (o v : D) (st : Store) : Option Store := match o with
  | .ref n => match st[n]? with
    | some (.ins C F fs) => if F.contains f && decide (fs.length < 1000) then some (st.set n (.ins C F (putFd f v fs))) else none
    | _ => none
  | _ => none
/-! ### the store of a call by data alone -/
mutual
def shD (k : Nat) : D → D
  | .p x => .p x
  | .tup l => .tup (shDs k l)
  | .ref n => .ref (k + n)
  | .exc x => .exc x
def shDs (k : Nat) : List D → List D
  | [] => []
  | d :: r => shD k d :: shDs k r
end
def shO (k : Nat) : SO → SO
  | .lst l => .lst (shDs k l)
  | .ro l => .ro (shDs k l)
  | .ins C F fs => .ins C F (fs.map fun q => (q.1, shD k q.2))
  | .dic kvs => .dic (kvs.map fun q => (q.1, shD k q.2))
def allP : List D → Bool
  | [] => true
  | .p _ :: r => allP r
  | _ :: _ => false
/-- a def called: by data alone it has a store of its own -/
def callD (call : CallT) (f : Defn) (ds : List D) (st : Store) : R D :=
  if allP ds then (match call f ds [] with
    | .ok (.p x) _ => .ok (.p x) st
    | .ok d st' => .ok (shD st.length d) (st ++ st'.map (shO st.length))
    | .ex x _ => .ex x st
    | .no => .no)
  else call f ds st
end Lt
end S_Lt1

section S_Lt2
set_option Elab.async false
set_option linter.all false
set_option maxRecDepth 100000
/-! Lt2: what a text means on the machine of Lt1. -/
namespace Lt
open PySem

/-! ### pieces -/
def varM (i : Nat) : EM := fun ρ st => match ρ[i]? with
  | some (some d) => .ok d st
  | _ => .no
def cM (x : P) : EM := fun _ st => .ok (.p x) st
def op1M (f : D → Store → R D) (a : EM) : EM := fun ρ st => (a ρ st).bind f
def op2M (f : D → D → Store → R D) (a b : EM) : EM := fun ρ st => (a ρ st).bind fun x s1 => (b ρ s1).bind fun y s2 => f x y s2
/-- a comparison's bool -/
def boolR (r : R D) (k : Bool → Store → R α) : R α := r.bind fun d st => match d with
  | .p (.bl b) => k b st
  | _ => .no
def chnM (op op' : CmpOp) (a b c : EM) : EM := fun ρ st => (a ρ st).bind fun x s1 => (b ρ s1).bind fun y s2 => boolR (cmpD op x y s2) fun k s3 =>
  if k then (c ρ s3).bind fun z s4 => cmpD op' y z s4 else okP (.bl false) s3
def tvM (a : EM) : TM := fun ρ st => (a ρ st).bind truD
def tbM (a : EM) : TM := fun ρ st => boolR (a ρ st) fun b s => .ok b s
def notM (t : TM) : TM := fun ρ st => (t ρ st).bind fun b s => .ok (!b) s
def andM (t u : TM) : TM := fun ρ st => (t ρ st).bind fun b s => if b then u ρ s else .ok false s
def orM (t u : TM) : TM := fun ρ st => (t ρ st).bind fun b s => if b then .ok true s else u ρ s
def ifeM (t : TM) (a b : EM) : EM := fun ρ st => (t ρ st).bind fun k s => if k then a ρ s else b ρ s
def andE (a b : EM) : EM := fun ρ st => (a ρ st).bind fun x s => (truD x s).bind fun k s1 => if k then b ρ s1 else .ok x s1
def orE (a b : EM) : EM := fun ρ st => (a ρ st).bind fun x s => (truD x s).bind fun k s1 => if k then .ok x s1 else b ρ s1
def notE (a : EM) : EM := fun ρ st => (a ρ st).bind fun x s => (truD x s).bind fun k s1 => okP (.bl (!k)) s1
def nilA : AM := fun _ st => .ok [] st
def consA (a : EM) (r : AM) : AM := fun ρ st => (a ρ st).bind fun x s1 => if isX x then .no else (r ρ s1).bind fun xs s2 => .ok (x :: xs) s2
def tupM (a : AM) : EM := fun ρ st => (a ρ st).bind fun xs s1 => if xs.length ≤ line then .ok (mkTup xs) s1 else .no
def lstM (a : AM) : EM := fun ρ st => (a ρ st).bind fun xs s1 => if xs.length ≤ line then .ok (.ref s1.length) (s1 ++ [.lst xs]) else .no
def appM (f : List D → Store → R D) (a : AM) : EM := fun ρ st => (a ρ st).bind f
def metM (call : CallT) (has : Str → Str → Bool) (m : Str) (o : EM) (a : AM) : EM := fun ρ st => (o ρ st).bind fun x s1 => match rcvD has m x s1 with
  | some r => (a ρ s1).bind fun ds s2 => runRcv call m r ds s2
  | none => .no
def fldM (xf : Str → Str → Bool) (f : Str) (o : EM) : EM := op1M (fldD xf f) o
/-- a part of a slice -/
abbrev OM := Rho → Store → R (Option Int)
def noO : OM := fun _ st => .ok none st
def someO (a : EM) : OM := fun ρ st => (a ρ st).bind fun x s => match x with
  | .p (.int i) => .ok (some i) s
  | _ => .no
def slM (a : EM) (lo hi : OM) : EM := fun ρ st => (a ρ st).bind fun x s1 => (lo ρ s1).bind fun i s2 => (hi ρ s2).bind fun j s3 => slD x i j s3
def isiM (T : Str) (a : EM) : EM := fun ρ st => (a ρ st).bind fun x s => ofO (isTy T x s) s
/-- a new instance: then its __init__ -/
def makM (call : CallT) (C : Str) (F : List Str) (a : AM) : EM := fun ρ st => (a ρ st).bind fun ds s1 => (call (C, some "__init__") (.ref s1.length :: ds) (s1 ++ [.ins C F []])).bind fun d s2 => match d with
  | .p .non => .ok (.ref s1.length) s2
  | _ => .no

/-! ### what is walked -/
inductive Itr where
  | ls (l : List D) | live (n : Nat)
abbrev IM := Rho → Store → R Itr
def itD (d : D) (st : Store) : R Itr := match d with
  | .p (.str s) => if s.length ≤ line then .ok (.ls (s.map fun c => .p (.str [c]))) st else .no
  | .ref n => match st[n]? with
    | some (.lst _) => .ok (.live n) st
    | some (.ro _) => .ok (.live n) st
    | _ => .no
  | d => match asTup d with
    | some l => .ok (.ls l) st
    | none => .no
def itM (a : EM) : IM := fun ρ st => (a ρ st).bind itD
def rngOk (i : Int) : Bool := decide (-(2 ^ 62) ≤ i) && decide (i < 2 ^ 62)
def rngL (lo hi : Int) : List D := (List.range (hi - lo).toNat).map fun (k : Nat) => .p (.int (lo + (k : Int)))
def rngM (a : AM) : IM := fun ρ st => (a ρ st).bind fun ds s => match ds with
  | [.p (.int j)] => if rngOk j then .ok (.ls (rngL 0 j)) s else .no
  | [.p (.int i), .p (.int j)] => if rngOk i && rngOk j then .ok (.ls (rngL i j)) s else .no
  | _ => .no
/-- targets: names, tuples of targets -/
inductive Tg where
  | nm (i : Nat) | tp (l : List Tg)
mutual
def setTg (st : Store) : Tg → D → Rho → Option Rho
  | .nm i, d, ρ => some (ρ.set i (some d))
  | .tp l, d, ρ => match asTup d with
    | some xs => setTgs st l xs ρ
    | none => none
def setTgs (st : Store) : List Tg → List D → Rho → Option Rho
  | [], [], ρ => some ρ
  | t :: ts, d :: ds, ρ => match setTg st t d ρ with
    | some ρ' => setTgs st ts ds ρ'
    | none => none
  | _, _, _ => none
end
/-- the item of a turn -/
def liveAt (st : Store) (n i : Nat) : Option (Option D) := match st[n]? with
  | some (.lst l) => some l[i]?
  | some (.ro l) => some l[i]?
  | _ => none

/-! ### comprehensions -/
def wipeR (ρ : Rho) : List Nat → Rho
  | [] => ρ
  | v :: vs => (wipeR ρ vs).set v none
/-- one item: the target, the tests, the element -/
def turnC (tg : Tg) (tt : TM) (elt : EM) (ρ : Rho) (d : D) (st : Store) : R (Option D) := match setTg st tg d ρ with
  | some ρ' => (tt ρ' st).bind fun k s1 => if k then (elt ρ' s1).bind fun y s2 => if isX y then .no else .ok (some y) s2 else .ok none s1
  | none => .no
def addO (acc : List D) : Option D → List D
  | some y => acc ++ [y]
  | none => acc
def lsC (turn : D → Store → R (Option D)) : List D → List D → Store → R (List D)
  | [], acc, st => .ok acc st
  | d :: r, acc, st => (turn d st).bind fun o s1 => if acc.length < line then lsC turn r (addO acc o) s1 else .no
def liveC (turn : D → Store → R (Option D)) (n : Nat) : Nat → Nat → List D → Store → R (List D)
  | 0, _, _, _ => .no
  | m + 1, i, acc, st => match liveAt st n i with
    | some (some d) => (turn d st).bind fun o s1 => if acc.length < line then liveC turn n m (i + 1) (addO acc o) s1 else .no
    | some none => .ok acc st
    | none => .no
def liveLen (st : Store) (n : Nat) : Nat := match st[n]? with
  | some (.lst l) => l.length + 1
  | some (.ro l) => l.length + 1
  | _ => 0
def noX (ρ : Rho) : Bool := ρ.all fun o => match o with
  | some d => !isX d
  | none => true
def compM (own : List Nat) (it : IM) (tg : Tg) (tt : TM) (elt : EM) : EM := fun ρ st => if noX ρ then (it ρ st).bind fun w s1 =>
  (match w with
    | .ls l => lsC (turnC tg tt elt (wipeR ρ own)) l [] s1
    | .live n => liveC (turnC tg tt elt (wipeR ρ own)) n (liveLen s1 n) 0 [] s1).bind fun acc s2 => R.ok (D.ref s2.length) (s2 ++ [SO.lst acc]) else .no
def yesM : TM := fun _ st => .ok true st

/-! ### statements -/
def RS.of {α : Type} (r : R α) (ρ : Rho) (f : α → Store → RS) : RS := match r with
  | .ok a st => f a st
  | .ex x st => .ex x ρ st
  | .no => .no
def skipS : SM := fun ρ st => .go .nx ρ st
def seqS (a b : SM) : SM := fun ρ st => match a ρ st with
  | .go .nx ρ' st' => b ρ' st'
  | r => r
def exprS (a : EM) : SM := fun ρ st => RS.of (a ρ st) ρ fun _ s => .go .nx ρ s
def retS (a : EM) : SM := fun ρ st => RS.of (a ρ st) ρ fun d s => if isX d then .no else .go (.rt d) ρ s
def ifS (t : TM) (a b : SM) : SM := fun ρ st => RS.of (t ρ st) ρ fun k s => if k then a ρ s else b ρ s
def asgS (tg : Tg) (a : EM) : SM := fun ρ st => RS.of (a ρ st) ρ fun d s => match setTg s tg d ρ with
  | some ρ' => .go .nx ρ' s
  | none => .no
/-- a, b = x, y -/
def parS (i j : Nat) (a : AM) : SM := fun ρ st => RS.of (a ρ st) ρ fun ds s => match ds with
  | [x, y] => .go .nx ((ρ.set i (some x)).set j (some y)) s
  | _ => .no
/-- names from a list or a tuple -/
def unpS (is : List Nat) (a : EM) : SM := fun ρ st => RS.of (a ρ st) ρ fun d s => match seqOf d s with
  | some l => match setTgs s (is.map .nm) l ρ with
    | some ρ' => .go .nx ρ' s
    | none => .no
  | none => .no
def augS (i : Nat) (op : Operator) (a : EM) : SM := fun ρ st => RS.of (varM i ρ st) ρ fun x s1 => RS.of (a ρ s1) ρ fun y s2 => RS.of (augD op x y s2) ρ fun z s3 => .go .nx (ρ.set i (some z)) s3
def fldS (f : Str) (o a : EM) : SM := fun ρ st => RS.of (a ρ st) ρ fun v s1 => RS.of (o ρ s1) ρ fun x s2 => if isX v then .no else match setFld f x v s2 with
  | some s3 => .go .nx ρ s3
  | none => .no
def fldAugS (f : Str) (op : Operator) (o a : EM) : SM := fun ρ st => RS.of (o ρ st) ρ fun x s1 => if isX x then .no else RS.of (fldD (fun _ _ => false) f x s1) ρ fun v s2 => RS.of (a ρ s2) ρ fun y s3 => RS.of (augD op v y s3) ρ fun z s4 => if isX z then .no else match setFld f x z s4 with
  | some s5 => .go .nx ρ s5
  | none => .no
/-- the end of a loop's turn: on, or out -/
def loopK (r : RS) (k : Rho → Store → RS) : RS := match r with
  | .go .nx ρ st => k ρ st
  | .go .ct ρ st => k ρ st
  | .go .bk ρ st => .go .nx ρ st
  | r => r
def whlS (t : TM) (b : SM) : Nat → SM
  | 0, _, _ => .no
  | m + 1, ρ, st => RS.of (t ρ st) ρ fun k s => if k then loopK (b ρ s) (whlS t b m) else .go .nx ρ s
def lsS (tg : Tg) (b : SM) : List D → SM
  | [], ρ, st => .go .nx ρ st
  | d :: r, ρ, st => match setTg st tg d ρ with
    | some ρ' => loopK (b ρ' st) (lsS tg b r)
    | none => .no
def liveS (tg : Tg) (b : SM) (n : Nat) : Nat → Nat → SM
  | 0, _, _, _ => .no
  | m + 1, i, ρ, st => match liveAt st n i with
    | some (some d) => (match setTg st tg d ρ with
      | some ρ' => loopK (b ρ' st) (liveS tg b n m (i + 1))
      | none => .no)
    | some none => .go .nx ρ st
    | none => .no
def forS (it : IM) (tg : Tg) (b : SM) : SM := fun ρ st => RS.of (it ρ st) ρ fun w s1 => match w with
  | .ls l => lsS tg b l ρ s1
  | .live n => liveS tg b n (liveLen s1 n) 0 ρ s1
def bkS : SM := fun ρ st => .go .bk ρ st
def ctS : SM := fun ρ st => .go .ct ρ st
/-- raise C(text); raise C(e), its __init__ keeping e as the field f -/
def rseS (C : Str) : SM := fun ρ st => .ex ⟨C, []⟩ ρ st
def rseFS (C f : Str) (a : EM) : SM := fun ρ st => RS.of (a ρ st) ρ fun d s => match d with
  | .p x => .ex ⟨C, [(f, x)]⟩ ρ s
  | _ => .no
/-- try: b except C as n (slot i): h; sub x C: whether a C is caught -/
def tryS (sub : Str → Option Bool) (b : SM) (i : Option Nat) (h : SM) : SM := fun ρ st => if noX ρ then (match b ρ st with
  | .ex x ρ1 s1 => if noX ρ1 then (match sub x.cls with
    | some true => (match i with
      | some i => (match h (ρ1.set i (some (.exc x))) s1 with
        | .go f ρ2 s2 => if noX (ρ2.set i none) then .go f (ρ2.set i none) s2 else .no
        | _ => .no)
      | none => (match h ρ1 s1 with
        | .go f ρ2 s2 => if noX ρ2 then .go f ρ2 s2 else .no
        | _ => .no))
    | some false => .ex x ρ1 s1
    | none => .no) else .no
  | .go f ρ2 s2 => if noX ρ2 then .go f ρ2 s2 else .no
  | .no => .no) else .no
/-! ### a def -/
structure FD where
  np : Nat
  n : Nat
  body : CallT → SM
def startR (n : Nat) (ds : List D) : Rho := ds.map some ++ List.replicate (n - ds.length) none
def runB (fd : FD) (call : CallT) (ds : List D) (st : Store) : R D :=
  if ds.length = fd.np then (match fd.body call (startR fd.n ds) st with
    | .go .nx _ s => .ok (.p .non) s
    | .go (.rt d) _ s => .ok d s
    | .ex x _ s => .ex x s
    | _ => .no) else .no
/-- k defs deep -/
def runF (T : Defn → Option FD) : Nat → CallT
  | 0 => fun _ _ _ => .no
  | k + 1 => fun f ds st => match T f with
    | some fd => runB fd (runF T k) ds st
    | none => .no
end Lt
end S_Lt2

section S_Lt3
set_option Elab.async false
set_option linter.all false
set_option maxRecDepth 100000
/-! Lt3: from the text to the machine. -/
namespace Lt
open PySem
/-- what a name of the module stands for -/
inductive GK where
  | fn | cls (F : List Str) | exc (f : Option Str) | cst (p : P) | blt | no
/-- where a text stands: the names by slot, the kinds of names in the running scope, not within an except suite, the module's names, what calls do, turns of a while -/
structure G where
  N : List Str
  sc : List (Str × NameKind)
  own : Str → Bool
  calm : Bool
  gk : Str → GK
  meth : Str → Str → Bool
  xf : Str → Str → Bool
  sub : Str → Str → Option Bool
  call : CallT
  wf : Nat
def ixOf (x : Str) : List Str → Option Nat
  | [] => none
  | y :: r => if y = x then some 0 else (ixOf x r).map (· + 1)
def visB (sc : List (Str × NameKind)) (x : Str) : Bool := match sc.lookup x with
  | some .local => true
  | some .cell => true
  | some .free => true
  | _ => false
def locB (sc : List (Str × NameKind)) (x : Str) : Bool := match sc.lookup x with
  | some .local => true
  | some .cell => true
  | _ => false
def lclB (sc : List (Str × NameKind)) (x : Str) : Bool := match sc.lookup x with
  | some .local => true
  | _ => false
def gloB (sc : List (Str × NameKind)) (x : Str) : Bool := match sc.lookup x with
  | some .globalImplicit => true
  | _ => false
/-- no name of the machine's own -/
def plainN (x : Str) : Bool := !(x == ("__debug__" : Str)) && !(x == ("__classdict__" : Str)) && !(x == ("__name__" : Str))
def G.slot (g : G) (x : Str) : Option Nat := if visB g.sc x && plainN x then ixOf x g.N else none
def G.lslot (g : G) (x : Str) : Option Nat := if locB g.sc x && plainN x && (g.own x || lclB g.sc x) then ixOf x g.N else none
def G.glob (g : G) (x : Str) : GK := if gloB g.sc x && plainN x then g.gk x else .no
def isStar : Expr → Bool
  | .Starred .. => true
  | _ => false
def isSet : Expr → Bool
  | .Set .. => true
  | _ => false
def isSuper : Expr → Bool
  | .Call (.Name id _) [] [] _ => id == ("super" : Str)
  | _ => false
def isComp : Expr → Bool
  | .ListComp .. => true
  | .SetComp .. => true
  | .DictComp .. => true
  | _ => false
def isSlice : Expr → Bool
  | .Slice .. => true
  | _ => false
/-- tests that are more than a value's truth -/
def isTest : Expr → Bool
  | .UnaryOp .Not _ _ => true
  | .BoolOp .. => true
  | .IfExp .. => true
  | .Compare .. => true
  | _ => false
def o1 {α β : Type} (a : Option α) (f : α → β) : Option β := match a with
  | some x => some (f x)
  | none => none
def o2 {α β γ : Type} (a : Option α) (b : Option β) (f : α → β → γ) : Option γ := match a, b with
  | some x, some y => some (f x y)
  | _, _ => none
def o3 {α β γ δ : Type} (a : Option α) (b : Option β) (c : Option γ) (f : α → β → γ → δ) : Option δ := match a, b, c with
  | some x, some y, some z => some (f x y z)
  | _, _, _ => none
def oif {α : Type} (b : Bool) (a : Option α) : Option α := match b with
  | true => a
  | false => none
def cP : Const → Option P
  | .none => some .non
  | .bool b => some (.bl b)
  | .int i => some (.int i)
  | .str s => some (.str s.cps.toList)
  | _ => none
/-- a target -/
def denTg (g : G) : Nat → Expr → Option Tg
  | 0, _ => none
  | _ + 1, .Name x _ => o1 (g.lslot x) .nm
  | _, _ => none
def denTgs (g : G) : List Expr → Option (List Nat)
  | [] => some []
  | .Name x _ :: r => o2 (g.lslot x) (denTgs g r) (· :: ·)
  | _ => none
/-- the scope of a comprehension's block, as it runs -/
def relN (names sc : List (Str × NameKind)) : List (Str × NameKind) := names.map fun (n, k) => if (k == .free && sc.lookup n == some .cell) then (n, .cell) else (n, k)
def ownOf (N : List Str) : List (Str × NameKind) → List (Str × Nat)
  | [] => []
  | (x, .local) :: r => (match ixOf x N with
    | some i => (x, i) :: ownOf N r
    | none => ownOf N r)
  | (x, .cell) :: r => (match ixOf x N with
    | some i => (x, i) :: ownOf N r
    | none => ownOf N r)
  | _ :: r => ownOf N r
def blkB (N : List Str) (sc : List (Str × NameKind)) (scope : Scope) : Bool :=
  (match scope.kind with | .function => true | _ => false) && (scope.names.all fun y => decide (scope.names.lookup y.1 = some y.2)) &&
    (scope.names.all fun y => match y.2 with
      | .free => (match sc.lookup y.1 with | some .cell => true | some .free => true | _ => false)
      | _ => true)
def G.blk (g : G) (scope : Scope) : G := { g with sc := relN scope.names g.sc, own := fun x => scope.names.lookup x == some .cell }
/-- within an except suite no def is called -/
def noCall : GK → GK
  | .fn => .no
  | .cls _ => .no
  | k => k
def G.suite (g : G) : G := { g with calm := false, gk := fun x => noCall (g.gk x), meth := fun _ _ => false }
mutual
def denE (g : G) : Nat → Expr → Option EM
  | 0, _ => none
  | n + 1, e => match e with
    | .Constant c _ _ => o1 (cP c) cM
    | .Name x _ => (match g.slot x with
      | some i => some (varM i)
      | none => (match g.glob x with
        | .cst p => some (cM p)
        | _ => none))
    | .BinOp a op b _ => o2 (denE g n a) (denE g n b) (op2M (binD op))
    | .UnaryOp .Not a _ => o1 (denE g n a) notE
    | .UnaryOp op a _ => o1 (denE g n a) (op1M (unD op))
    | .BoolOp .And vs _ => denAnd g n vs
    | .BoolOp .Or vs _ => denOr g n vs
    | .IfExp t a b _ => o3 (denT g n t) (denE g n a) (denE g n b) ifeM
    | .Compare a [op] [b] _ => oif (!isSet b) (o2 (denE g n a) (denE g n b) (op2M (cmpD op)))
    | .Compare a [op, op'] [b, c] _ => oif (!isSet b && !isSet c) (o3 (denE g n a) (denE g n b) (denE g n c) (chnM op op'))
    | .Tuple es _ _ => o1 (denA g n es) tupM
    | .List es _ => o1 (denA g n es) lstM
    | .Attribute a f _ => oif (!isSuper a) (o1 (denE g n a) (fldM g.xf f))
    | .Subscript a (.Slice lo hi none _) _ => o3 (denE g n a) (denO g n lo) (denO g n hi) slM
    | .Subscript a i _ => oif (!isSlice i) (o2 (denE g n a) (denE g n i) (op2M ixD))
    | .ListComp elt [⟨tg, iter, ifs, 0⟩] scope _ => oif (g.calm && blkB g.N g.sc scope && !isSet iter)
        (match denI g n iter, denTg (g.blk scope) n tg, denIf (g.blk scope) n ifs, denE (g.blk scope) n elt with
        | some it, some t, some tt, some te => some (compM ((ownOf g.N scope.names).map (·.2)) it t tt te)
        | _, _, _, _ => none)
    | .Call (.Attribute o m apos) es [] pos => oif (!isSuper o && (apos.endLine == pos.line) && decide (es.length < 20)) (o2 (denE g n o) (denA g n es) (metM g.call g.meth m))
    | .Call (.Name x _) es [] _ => (match g.glob x with
      | .fn => o1 (denA g n es) (appM (callD g.call (x, none)))
      | .cls F => oif (g.meth x "__init__") (o1 (denA g n es) (makM g.call x F))
      | .blt => (match es with
        | [a, .Name T _] => if x = "isinstance" then (match g.glob T with
            | .blt => oif (tyName T && !isStar a) (o1 (denE g n a) (isiM T))
            | _ => none) else none
        | [a] => oif g.calm (o2 (blt x) (denA g n [a]) appM)
        | _ => none)
      | _ => none)
    | _ => none
def denT (g : G) : Nat → Expr → Option TM
  | 0, _ => none
  | n + 1, e => match e with
    | .UnaryOp .Not a _ => o1 (denT g n a) notM
    | .BoolOp .And vs _ => denAndT g n vs
    | .BoolOp .Or vs _ => denOrT g n vs
    | .Compare a [op] [b] _ => oif (!isSet b) (o1 (o2 (denE g n a) (denE g n b) (op2M (cmpD op))) tbM)
    | .Compare a [op, op'] [b, c] _ => oif (!isSet b && !isSet c) (o1 (o3 (denE g n a) (denE g n b) (denE g n c) (chnM op op')) tbM)
    | e => oif (!isTest e) (o1 (denE g n e) tvM)
def denA (g : G) : Nat → List Expr → Option AM
  | 0, _ => none
  | _ + 1, [] => some nilA
  | n + 1, e :: es => oif (!isStar e) (o2 (denE g n e) (denA g n es) consA)
def denAnd (g : G) : Nat → List Expr → Option EM
  | 0, _ => none
  | _ + 1, [] => none
  | n + 1, [a] => denE g n a
  | n + 1, a :: b :: r => o2 (denE g n a) (denAnd g n (b :: r)) andE
def denOr (g : G) : Nat → List Expr → Option EM
  | 0, _ => none
  | _ + 1, [] => none
  | n + 1, [a] => denE g n a
  | n + 1, a :: b :: r => o2 (denE g n a) (denOr g n (b :: r)) orE
def denAndT (g : G) : Nat → List Expr → Option TM
  | 0, _ => none
  | _ + 1, [] => none
  | n + 1, [a] => denT g n a
  | n + 1, a :: b :: r => o2 (denT g n a) (denAndT g n (b :: r)) andM
def denOrT (g : G) : Nat → List Expr → Option TM
  | 0, _ => none
  | _ + 1, [] => none
  | n + 1, [a] => denT g n a
  | n + 1, a :: b :: r => o2 (denT g n a) (denOrT g n (b :: r)) orM
def denO (g : G) : Nat → Option Expr → Option OM
  | 0, _ => none
  | _ + 1, none => some noO
  | n + 1, some e => o1 (denE g n e) someO
def denI (g : G) : Nat → Expr → Option IM
  | 0, _ => none
  | n + 1, e => match e with
    | .Call (.Name x _) es [] _ => (match x = "range" && decide (es.length ≤ 2) && decide (1 ≤ es.length), g.glob x with
      | true, .blt => o1 (denA g n es) rngM
      | _, _ => o1 (denE g n e) itM)
    | e => o1 (denE g n e) itM
def denIf (g : G) : Nat → List Expr → Option TM
  | 0, _ => none
  | _ + 1, [] => some yesM
  | n + 1, [c] => denT g n c
  | _, _ => none
end
mutual
def denS (g : G) : Nat → Stmt → Option SM
  | 0, _ => none
  | n + 1, st => match st with
    | .Expr (.Constant (.str _) _ _) _ => some skipS
    | .Expr e _ => oif (!isComp e) (o1 (denE g n e) exprS)
    | .Return none _ => some (retS (cM .non))
    | .Return (some e) _ => o1 (denE g n e) retS
    | .Assign [.Name x _] e _ => o2 (g.lslot x) (denE g n e) fun i a => asgS (.nm i) a
    | .Assign [.Attribute o f _] e _ => oif (!isSuper o && !isComp e) (o2 (denE g n o) (denE g n e) (fldS f))
    | .Assign [.Tuple (.Name x px :: ts) _ _] (.Call f es kw cp) _ => oif g.calm (o2 (denTgs g (.Name x px :: ts)) (denE g n (.Call f es kw cp)) unpS)
    | .AugAssign (.Name x _) op e _ => o2 (g.lslot x) (denE g n e) fun i a => augS i op a
    | .AugAssign (.Attribute o f _) op e _ => o2 (denE g n o) (denE g n e) (fldAugS f op)
    | .If c a b _ => o3 (denT g n c) (denSs g n a) (denSs g n b) ifS
    | .While c b [] _ => o2 (denT g n c) (denSs g n b) fun t b => whlS t b g.wf
    | .For tg it b [] _ => oif (g.calm && !isSet it) (o3 (denI g n it) (denTg g n tg) (denSs g n b) forS)
    | .Pass _ => some skipS
    | .Break _ => some bkS
    | .Continue _ => some ctS
    | .Raise (some (.Call (.Name C _) [e] [] _)) none _ => oif g.calm (match g.glob C, e with
      | .exc none, .Constant (.str _) _ _ => some (rseS C)
      | .exc (some f), e => oif (!isStar e) (o1 (denE g n e) (rseFS C f))
      | _, _ => none)
    | .Try body [.ExceptHandler (some (.Name C _)) none (h :: hs) _] [] [] _ => (match g.glob C with
      | .exc _ => o2 (denSs g n body) (denSs g.suite n (h :: hs)) fun b h => tryS (fun x => g.sub x C) b none h
      | _ => none)
    | .Try body [.ExceptHandler (some (.Name C _)) (some x) (h :: hs) _] [] [] _ => (match g.glob C, lclB g.sc x && plainN x, ixOf x g.N with
      | .exc _, true, some i => o2 (denSs g n body) (denSs g.suite n (h :: hs)) fun b h => tryS (fun x => g.sub x C) b (some i) h
      | _, _, _ => none)
    | _ => none
def denSs (g : G) : Nat → List Stmt → Option SM
  | 0, _ => none
  | _ + 1, [] => some skipS
  | n + 1, s :: r => o2 (denS g n s) (denSs g n r) seqS
end
end Lt
end S_Lt3

section S_Lt4
set_option Elab.async false
set_option linter.all false
set_option maxRecDepth 100000
set_option maxHeartbeats 1000000
/-! Lt4: how values of the machine stand in the abstract heap. -/
namespace Lt
open PySem PySem.Spec L2
abbrev ga := He.ga
mutual
def RepP (K : W.Frag) (H : Hp) : P → V → Prop
  | .non, v => v = .non
  | .bl b, v => v = .bl b
  | .int i, v => v = .int i
  | .str s, v => v = .str (toS s)
  | .tup l, v => ∃ a xs, v = .ref a ∧ SqT K H a xs ∧ RepPs K H l xs
def RepPs (K : W.Frag) (H : Hp) : List P → List V → Prop
  | [], xs => xs = []
  | p :: ps, xs => ∃ v r, xs = v :: r ∧ RepP K H p v ∧ RepPs K H ps r
end
mutual
def Rep (K : W.Frag) (H : Hp) (μ : List Addr) : D → V → Prop
  | .p x, v => RepP K H x v
  | .tup l, v => ∃ a xs, v = .ref a ∧ SqT K H a xs ∧ Reps K H μ l xs
  | .ref n, v => ∃ a, μ[n]? = some a ∧ v = .ref a
  | .exc _, _ => False
def Reps (K : W.Frag) (H : Hp) (μ : List Addr) : List D → List V → Prop
  | [], xs => xs = []
  | d :: ds, xs => ∃ v r, xs = v :: r ∧ Rep K H μ d v ∧ Reps K H μ ds r
end
/-- an exception's fields, its dict -/
def XFs (K : W.Frag) (H : Hp) (fs : List (Str × P)) (dd : Option Addr) : Prop :=
  (fs = [] ∧ dd = none) ∨ ∃ d vfs, dd = some d ∧ H d = some (.xd vfs) ∧ vfs.map (·.1) = fs.map (·.1) ∧ RepPs K H (fs.map (·.2)) (vfs.map (·.2))
def ExcAt (K : W.Frag) (H : Hp) (pn : List (Addr × Obj)) (x : Xc) (v : V) : Prop :=
  ∃ a oe dd, v = .ref a ∧ (a, oe) ∈ pn ∧ Zc (.ref (ga K x.cls)) dd oe ∧ (∃ vs, oe.data = .fields vs) ∧ XFs K H x.fs dd
/-- a value in a slot -/
def RepS (K : W.Frag) (H : Hp) (μ : List Addr) (pn : List (Addr × Obj)) : D → V → Prop
  | .exc x, v => ExcAt K H pn x v
  | d, v => Rep K H μ d v
def RepO (K : W.Frag) (H : Hp) (μ : List Addr) : SO → Addr → Prop
  | .lst l, a => ∃ xs, H a = some (.lst xs) ∧ Reps K H μ l xs
  | .ro l, a => ∃ o xs, H a = some (.frz o (.lst xs)) ∧ Reps K H μ l xs
  | .ins C F fs, a => (Cls K (ga K C) ∧ ∀ f ∈ F, NoAttr K (ga K C) f) ∧ ∃ dx vfs, H a = some (.ins (ga K C) dx vfs) ∧ vfs.map (·.1) = fs.map (·.1) ∧ Reps K H μ (fs.map (·.2)) (vfs.map (·.2))
  | .dic _, _ => False
structure StR (K : W.Frag) (H : Hp) (μ : List Addr) (st : Store) : Prop where
  len : μ.length = st.length
  nd : μ.Nodup
  at_ : ∀ (n : Nat) (o : SO) (a : Addr), st[n]? = some o → μ[n]? = some a → RepO K H μ o a
structure SR (K : W.Frag) (pn : List (Addr × Obj)) (H : Hp) (μ : List Addr) (σ : St) (ρ : Rho) (st : Store) : Prop where
  st : StR K H μ st
  len : σ.length = ρ.length
  var : ∀ (i : Nat) (d : D), ρ[i]? = some (some d) → ∃ v, σ[i]? = some (some v) ∧ RepS K H μ pn d v
structure Ext (μ μ' : List Addr) (H H' : Hp) : Prop where
  pre : ∃ t, μ' = μ ++ t
  old : ∀ b o, H b = some o → b ∉ μ → H' b = some o
  new : ∀ b, b ∈ μ' → b ∈ μ ∨ H b = none
  tup : ∀ a xs, Rd H a (.tup xs) → Rd H' a (.tup xs)
  xd : ∀ d fs, H d = some (.xd fs) → H' d = some (.xd fs)
section
variable {K : W.Frag} {H H' H'' : Hp} {μ μ' μ'' : List Addr} {pn : List (Addr × Obj)} {st : Store}
theorem Ext.refl : Ext μ μ H H := ⟨⟨[], by simp⟩, fun _ _ e _ => e, fun _ h => .inl h, fun _ _ e => e, fun _ _ e => e⟩
theorem Ext.trans (a : Ext μ μ' H H') (b : Ext μ' μ'' H' H'') : Ext μ μ'' H H'' := by
  obtain ⟨t, e⟩ := a.pre
  obtain ⟨u, e'⟩ := b.pre
  refine ⟨⟨t ++ u, by rw [e', e, List.append_assoc]⟩, fun b' o h hn => ?_, fun b' h => ?_, fun _ _ h => b.tup _ _ (a.tup _ _ h), fun _ _ h => b.xd _ _ (a.xd _ _ h)⟩
  · refine b.old b' o (a.old b' o h hn) fun hm => ?_
    rcases a.new b' hm with z | z
    · exact hn z
    · rw [h] at z; cases z
  · rcases b.new b' h with z | z
    · exact a.new b' z
    · cases q : H b' with
      | none => exact .inr rfl
      | some o =>
        by_cases hm : b' ∈ μ
        · exact .inl hm
        · rw [a.old b' o q hm] at z; cases z
theorem Ext.sq (x : Ext μ μ' H H') {a : Addr} {xs : List V} (h : SqT K H a xs) : SqT K H' a xs := by
  rcases h with h | h
  · exact .inl (x.tup _ _ h)
  · exact .inr h
theorem Ext.at (x : Ext μ μ' H H') {n : Nat} {a : Addr} (h : μ[n]? = some a) : μ'[n]? = some a := by
  obtain ⟨t, e⟩ := x.pre
  rw [e, List.getElem?_append_left (List.getElem?_eq_some_iff.mp h).1]
  exact h
mutual
theorem RepP.ext (x : Ext μ μ' H H') : ∀ (p : P) (v : V), RepP K H p v → RepP K H' p v
  | .non, _, h => h
  | .bl _, _, h => h
  | .int _, _, h => h
  | .str _, _, h => h
  | .tup l, _, ⟨a, xs, e, s, r⟩ => ⟨a, xs, e, x.sq s, RepPs.ext x l xs r⟩
theorem RepPs.ext (x : Ext μ μ' H H') : ∀ (l : List P) (xs : List V), RepPs K H l xs → RepPs K H' l xs
  | [], _, h => h
  | p :: ps, _, ⟨v, r, e, h1, h2⟩ => ⟨v, r, e, RepP.ext x p v h1, RepPs.ext x ps r h2⟩
end
mutual
theorem Rep.ext (x : Ext μ μ' H H') : ∀ (d : D) (v : V), Rep K H μ d v → Rep K H' μ' d v
  | .p p, v, h => RepP.ext x p v h
  | .tup l, _, ⟨a, xs, e, s, r⟩ => ⟨a, xs, e, x.sq s, Reps.ext x l xs r⟩
  | .ref n, _, ⟨a, h, e⟩ => ⟨a, x.at h, e⟩
  | .exc _, _, h => h
theorem Reps.ext (x : Ext μ μ' H H') : ∀ (l : List D) (xs : List V), Reps K H μ l xs → Reps K H' μ' l xs
  | [], _, h => h
  | p :: ps, _, ⟨v, r, e, h1, h2⟩ => ⟨v, r, e, Rep.ext x p v h1, Reps.ext x ps r h2⟩
end
theorem XFs.ext (x : Ext μ μ' H H') {fs : List (Str × P)} {dd : Option Addr} (h : XFs K H fs dd) : XFs K H' fs dd := by
  rcases h with h | ⟨d, vfs, e, h1, h2, h3⟩
  · exact .inl h
  · exact .inr ⟨d, vfs, e, x.xd _ _ h1, h2, RepPs.ext x _ _ h3⟩
theorem RepS.ext (x : Ext μ μ' H H') {d : D} {v : V} (h : RepS K H μ pn d v) : RepS K H' μ' pn d v := by
  cases d with
  | exc e =>
    obtain ⟨a, oe, dd, h1, h2, h3, h4, h5⟩ := h
    exact ⟨a, oe, dd, h1, h2, h3, h4, h5.ext x⟩
  | p p => exact RepP.ext x p v h
  | tup l => exact Rep.ext x (.tup l) v h
  | ref n => exact Rep.ext (K := K) x (.ref n) v h
theorem RepS.of {d : D} {v : V} (h : Rep K H μ d v) : RepS K H μ pn d v := by
  cases d with
  | exc e => exact (show False from h).elim
  | p p => exact h
  | tup l => exact h
  | ref n => exact h
theorem RepS.rep {d : D} {v : V} (h : RepS K H μ pn d v) (n : isX d = false) : Rep K H μ d v := by
  cases d with
  | exc e => cases n
  | p p => exact h
  | tup l => exact h
  | ref n => exact h
theorem Reps.length : ∀ {l : List D} {xs : List V}, Reps K H μ l xs → xs.length = l.length
  | [], _, h => by rw [show _ = [] from h]; rfl
  | _ :: _, _, ⟨v, r, e, _, h⟩ => by rw [e, List.length_cons, List.length_cons, Reps.length h]
theorem RepPs.length : ∀ {l : List P} {xs : List V}, RepPs K H l xs → xs.length = l.length
  | [], _, h => by rw [show _ = [] from h]; rfl
  | _ :: _, _, ⟨v, r, e, _, h⟩ => by rw [e, List.length_cons, List.length_cons, RepPs.length h]
theorem Reps.nil : Reps K H μ [] [] := rfl
theorem Reps.cons {d : D} {v : V} {l : List D} {xs : List V} (h : Rep K H μ d v) (r : Reps K H μ l xs) : Reps K H μ (d :: l) (v :: xs) := ⟨v, xs, rfl, h, r⟩
theorem Reps.get : ∀ {l : List D} {xs : List V} {i : Nat} {d : D}, Reps K H μ l xs → l[i]? = some d → ∃ v, xs[i]? = some v ∧ Rep K H μ d v
  | [], _, _, _, _, e => by simp at e
  | _ :: _, _, 0, _, ⟨v, r, e, h, _⟩, q => by
    simp at q; subst q; subst e
    exact ⟨v, rfl, h⟩
  | _ :: _, _, i + 1, _, ⟨v, r, e, _, h⟩, q => by
    subst e
    obtain ⟨w, h1, h2⟩ := Reps.get (i := i) h (by simpa using q)
    exact ⟨w, by simpa using h1, h2⟩
theorem Reps.append : ∀ {l m : List D} {xs ys : List V}, Reps K H μ l xs → Reps K H μ m ys → Reps K H μ (l ++ m) (xs ++ ys)
  | [], _, _, _, h, h' => by rw [show _ = [] from h]; exact h'
  | _ :: _, _, _, _, ⟨v, r, e, h1, h2⟩, h' => by subst e; exact ⟨v, _, rfl, h1, Reps.append h2 h'⟩
theorem Reps.take : ∀ {l : List D} {xs : List V} (n : Nat), Reps K H μ l xs → Reps K H μ (l.take n) (xs.take n)
  | [], _, _, h => by rw [show _ = [] from h]; simp [Reps]
  | _ :: _, _, 0, _ => by simp [Reps]
  | _ :: _, _, n + 1, ⟨v, r, e, h1, h2⟩ => by subst e; exact ⟨v, _, rfl, h1, Reps.take n h2⟩
theorem Reps.drop : ∀ {l : List D} {xs : List V} (n : Nat), Reps K H μ l xs → Reps K H μ (l.drop n) (xs.drop n)
  | [], _, _, h => by rw [show _ = [] from h]; simp [Reps]
  | _ :: _, _, 0, h => h
  | _ :: _, _, n + 1, ⟨v, r, e, h1, h2⟩ => by subst e; exact Reps.drop n h2
theorem Reps.reverse : ∀ {l : List D} {xs : List V}, Reps K H μ l xs → Reps K H μ l.reverse xs.reverse
  | [], _, h => by rw [show _ = [] from h]; simp [Reps]
  | d :: l, _, ⟨v, r, e, h1, h2⟩ => by
    subst e
    rw [List.reverse_cons, List.reverse_cons]
    exact (Reps.reverse h2).append (Reps.cons h1 Reps.nil)
theorem Reps.set : ∀ {l : List D} {xs : List V} {d : D} {v : V} (i : Nat), Reps K H μ l xs → Rep K H μ d v → Reps K H μ (l.set i d) (xs.set i v)
  | [], _, _, _, _, h, _ => by rw [show _ = [] from h]; simp [Reps]
  | _ :: _, _, _, _, 0, ⟨v, r, e, h1, h2⟩, h => by subst e; exact ⟨_, _, rfl, h, h2⟩
  | _ :: _, _, _, _, i + 1, ⟨v, r, e, h1, h2⟩, h => by subst e; exact ⟨_, _, rfl, h1, Reps.set i h2 h⟩
theorem Reps.rep {l : List D} {xs : List V} (h : Reps K H μ l xs) : ∀ k : Nat, Reps K H μ (List.replicate k l).flatten (List.replicate k xs).flatten
  | 0 => by simp [Reps]
  | k + 1 => by
    rw [List.replicate_succ, List.replicate_succ, List.flatten_cons, List.flatten_cons]
    exact h.append (Reps.rep h k)
theorem Reps.dropLast {l : List D} {xs : List V} (h : Reps K H μ l xs) : Reps K H μ l.dropLast xs.dropLast := by
  rw [List.dropLast_eq_take, List.dropLast_eq_take, h.length]
  exact h.take _
theorem Reps.map_p : ∀ {l : List P} {xs : List V}, Reps K H μ (l.map D.p) xs ↔ RepPs K H l xs
  | [], _ => Iff.rfl
  | p :: ps, xs => by
    constructor
    · rintro ⟨v, r, e, h1, h2⟩
      exact ⟨v, r, e, h1, Reps.map_p.mp h2⟩
    · rintro ⟨v, r, e, h1, h2⟩
      exact ⟨v, r, e, h1, Reps.map_p.mpr h2⟩
theorem pures_some : ∀ {l : List D} {ps : List P}, pures l = some ps → l = ps.map D.p
  | [], ps, h => by
    have e : ([] : List P) = ps := Option.some.inj h
    subst e; rfl
  | .p x :: r, ps, h => by
    cases q : pures r with
    | none => simp [pures, q] at h
    | some qs =>
      simp [pures, q] at h
      subst h
      rw [pures_some q]; rfl
  | .tup _ :: _, _, h => by simp [pures] at h
  | .ref _ :: _, _, h => by simp [pures] at h
  | .exc _ :: _, _, h => by simp [pures] at h
theorem Rep.mkTup {l : List D} {a : Addr} {xs : List V} (s : SqT K H a xs) (r : Reps K H μ l xs) : Rep K H μ (mkTup l) (.ref a) := by
  unfold Lt.mkTup
  cases q : pures l with
  | none => exact ⟨a, xs, rfl, s, r⟩
  | some ps =>
    rw [pures_some q] at r
    exact ⟨a, xs, rfl, s, Reps.map_p.mp r⟩
theorem isX_mkTup (l : List D) : isX (mkTup l) = false := by
  unfold Lt.mkTup
  cases pures l <;> rfl
theorem Rep.asTup {d : D} {l : List D} {v : V} (h : Rep K H μ d v) (e : asTup d = some l) : ∃ a xs, v = .ref a ∧ SqT K H a xs ∧ Reps K H μ l xs := by
  cases d with
  | p x =>
    cases x with
    | tup ps =>
      have e' : ps.map D.p = l := Option.some.inj e
      subst e'
      obtain ⟨a, xs, e1, s, r⟩ := h
      exact ⟨a, xs, e1, s, Reps.map_p.mpr r⟩
    | _ => cases e
  | tup ps =>
    have e' : ps = l := Option.some.inj e
    subst e'
    exact h
  | _ => cases e
/-! ### the store -/
theorem StR.addr (x : StR K H μ st) {n : Nat} {o : SO} (h : st[n]? = some o) : ∃ a, μ[n]? = some a ∧ RepO K H μ o a := by
  have hl : n < μ.length := by rw [x.len]; exact (List.getElem?_eq_some_iff.mp h).1
  exact ⟨μ[n], List.getElem?_eq_getElem hl, x.at_ n o _ h (List.getElem?_eq_getElem hl)⟩
theorem StR.get (x : StR K H μ st) {n : Nat} {o : SO} {v : V} (r : Rep K H μ (.ref n) v) (h : st[n]? = some o) : ∃ a, μ[n]? = some a ∧ v = .ref a ∧ RepO K H μ o a := by
  obtain ⟨a, h1, h2⟩ := r
  exact ⟨a, h1, h2, x.at_ n o a h h1⟩
/-- what stands at a place of the store is tracked, and is no tuple and no exception's dict -/
theorem RepO.there {o : SO} {a : Addr} (h : RepO K H μ o a) : ∃ u, H a = some u ∧ (∀ xs, u ≠ .tup xs) ∧ (∀ ob xs, u ≠ .frz ob (.tup xs)) ∧ ∀ fs, u ≠ .xd fs := by
  cases o with
  | lst l => obtain ⟨xs, e, _⟩ := h; exact ⟨_, e, (fun _ z => nomatch z), (fun _ _ z => nomatch z), (fun _ z => nomatch z)⟩
  | ro l => obtain ⟨o, xs, e, _⟩ := h; exact ⟨_, e, (fun _ z => nomatch z), (fun _ _ z => by injection z with _ z2; cases z2), (fun _ z => nomatch z)⟩
  | ins C F fs => obtain ⟨_, dx, vfs, e, _⟩ := h; exact ⟨_, e, (fun _ z => nomatch z), (fun _ _ z => nomatch z), (fun _ z => nomatch z)⟩
  | dic kvs => exact (show False from h).elim
theorem StR.there (x : StR K H μ st) {a : Addr} (h : a ∈ μ) : ∃ u, H a = some u ∧ (∀ xs, u ≠ .tup xs) ∧ (∀ ob xs, u ≠ .frz ob (.tup xs)) ∧ ∀ fs, u ≠ .xd fs := by
  obtain ⟨n, hn, e⟩ := List.mem_iff_getElem.mp h
  have hs : n < st.length := by rw [← x.len]; exact hn
  exact (x.at_ n st[n] a (List.getElem?_eq_getElem hs) (by rw [List.getElem?_eq_getElem hn, e])).there
theorem RepO.ext (x : Ext μ μ' H H') {o : SO} {a : Addr} (h : RepO K H μ o a) (same : H' a = H a) : RepO K H' μ' o a := by
  cases o with
  | lst l => obtain ⟨xs, e, r⟩ := h; exact ⟨xs, by rw [same]; exact e, Reps.ext x _ _ r⟩
  | ro l => obtain ⟨o, xs, e, r⟩ := h; exact ⟨o, xs, by rw [same]; exact e, Reps.ext x _ _ r⟩
  | ins C F fs => obtain ⟨c, dx, vfs, e, n, r⟩ := h; exact ⟨c, dx, vfs, by rw [same]; exact e, n, Reps.ext x _ _ r⟩
  | dic kvs => exact (show False from h).elim
/-- a new object that is not of the store -/
theorem Ext.fresh {p : Addr} {o : HO} (hp : H p = none) : Ext μ μ H (upd H p o) :=
  ⟨⟨[], by simp⟩, fun b u e _ => by rw [upd_ne (ne_of_none e hp)]; exact e, fun _ h => .inl h, fun a xs h => by
    rcases h with h | ⟨ob, h⟩
    · exact .inl (by rw [upd_ne (ne_of_none h hp)]; exact h)
    · exact .inr ⟨ob, by rw [upd_ne (ne_of_none h hp)]; exact h⟩, fun d fs h => by rw [upd_ne (ne_of_none h hp)]; exact h⟩
theorem StR.same (x : StR K H μ st) (e : Ext μ μ H H') (same : ∀ a ∈ μ, H' a = H a) : StR K H' μ st :=
  ⟨x.len, x.nd, fun n o a h1 h2 => (x.at_ n o a h1 h2).ext e (same a (List.mem_of_getElem? h2))⟩
theorem StR.fresh (x : StR K H μ st) {p : Addr} {o : HO} (hp : H p = none) : StR K (upd H p o) μ st :=
  x.same (Ext.fresh hp) fun a ha => by
    obtain ⟨u, e, _⟩ := x.there ha
    exact upd_ne (ne_of_none e hp)
/-- a new object of the store -/
theorem Ext.alloc {p : Addr} {o : HO} (hp : H p = none) : Ext μ (μ ++ [p]) H (upd H p o) := by
  have e := Ext.fresh (μ := μ) (o := o) hp
  exact ⟨⟨[p], rfl⟩, e.old, fun b h => by
    rcases List.mem_append.mp h with z | z
    · exact .inl z
    · rw [List.mem_singleton.mp z]; exact .inr hp, e.tup, e.xd⟩
theorem StR.push (x : StR K H μ st) {p : Addr} {so : SO} (hp : H p = none) (e : Ext μ (μ ++ [p]) H H') (same : ∀ a ∈ μ, H' a = H a) (h : RepO K H' (μ ++ [p]) so p) : StR K H' (μ ++ [p]) (st ++ [so]) := by
  have hn : p ∉ μ := fun z => by
    obtain ⟨u, e, _⟩ := x.there z
    rw [hp] at e; cases e
  refine ⟨by rw [List.length_append, List.length_append, x.len]; rfl, ?_, fun n o' a h1 h2 => ?_⟩
  · rw [List.nodup_append]
    exact ⟨x.nd, by simp, fun a ha b hb => by
      rw [List.mem_singleton.mp hb]
      intro z; rw [z] at ha; exact hn ha⟩
  · by_cases hlt : n < st.length
    · rw [List.getElem?_append_left hlt] at h1
      rw [List.getElem?_append_left (by rw [x.len]; exact hlt)] at h2
      exact (x.at_ n o' a h1 h2).ext e (same a (List.mem_of_getElem? h2))
    · have e1 : n = st.length := by
        have := (List.getElem?_eq_some_iff.mp h1).1
        rw [List.length_append, List.length_singleton] at this
        omega
      subst e1
      rw [List.getElem?_append_right (Nat.le_refl _), Nat.sub_self] at h1
      rw [← x.len, List.getElem?_append_right (Nat.le_refl _), Nat.sub_self] at h2
      have e3 : so = o' := by simpa using h1
      have e4 : p = a := by simpa using h2
      subst e3; subst e4
      exact h
theorem StR.alloc (x : StR K H μ st) {p : Addr} {o : HO} {so : SO} (hp : H p = none) (h : RepO K (upd H p o) (μ ++ [p]) so p) : StR K (upd H p o) (μ ++ [p]) (st ++ [so]) :=
  x.push hp (Ext.alloc hp) (fun a ha => by
    obtain ⟨u, e, _⟩ := x.there ha
    exact upd_ne (ne_of_none e hp)) h
/-- an object of the store changes -/
theorem Ext.write (x : StR K H μ st) {p : Addr} {o : HO} (hp : p ∈ μ) : Ext μ μ H (upd H p o) := by
  obtain ⟨u, e, h1, h2, h3⟩ := x.there hp
  refine ⟨⟨[], by simp⟩, fun b u' e' hb => by rw [upd_ne (fun z => hb (by rw [z]; exact hp))]; exact e', fun _ h => .inl h, fun a xs h => ?_, fun d fs h => ?_⟩
  · rcases h with h | ⟨ob, h⟩
    · exact .inl (by rw [upd_ne (fun z => by rw [z, e] at h; exact h1 _ (Option.some.inj h))]; exact h)
    · exact .inr ⟨ob, by rw [upd_ne (fun z => by rw [z, e] at h; exact h2 _ _ (Option.some.inj h))]; exact h⟩
  · rw [upd_ne (fun z => by rw [z, e] at h; exact h3 _ (Option.some.inj h))]; exact h
theorem StR.write (x : StR K H μ st) {n : Nat} {p : Addr} {o : HO} {so : SO} (hp : μ[n]? = some p) (h : RepO K (upd H p o) μ so p) : StR K (upd H p o) μ (st.set n so) := by
  refine ⟨by rw [List.length_set]; exact x.len, x.nd, fun m o' a h1 h2 => ?_⟩
  by_cases hm : m = n
  · subst hm
    rw [hp] at h2
    have e : p = a := Option.some.inj h2
    subst e
    have hlt : m < st.length := by
      have := (List.getElem?_eq_some_iff.mp h1).1
      rwa [List.length_set] at this
    rw [List.getElem?_set_self hlt] at h1
    have e3 : so = o' := Option.some.inj h1
    subst e3
    exact h
  · rw [List.getElem?_set_ne (fun z => hm z.symm)] at h1
    have ne : a ≠ p := fun z => by
      subst z
      obtain ⟨h3, e3⟩ := List.getElem?_eq_some_iff.mp h2
      obtain ⟨h4, e4⟩ := List.getElem?_eq_some_iff.mp hp
      exact hm ((List.getElem_inj x.nd).mp (e3.trans e4.symm))
    exact (x.at_ m o' a h1 h2).ext (Ext.write x (List.mem_of_getElem? hp)) (upd_ne ne)
theorem SR.ext {σ : St} {ρ : Rho} {st' : Store} (x : SR K pn H μ σ ρ st) (e : Ext μ μ' H H') (s : StR K H' μ' st') : SR K pn H' μ' σ ρ st' :=
  ⟨s, x.len, fun i d h => by
    obtain ⟨v, h1, h2⟩ := x.var i d h
    exact ⟨v, h1, h2.ext e⟩⟩
theorem SR.set {σ : St} {ρ : Rho} (x : SR K pn H μ σ ρ st) {i : Nat} {d : D} {v : V} (h : RepS K H μ pn d v) : SR K pn H μ (σ.set i (some v)) (ρ.set i (some d)) st :=
  ⟨x.st, by rw [List.length_set, List.length_set]; exact x.len, fun j d' h' => by
    by_cases hj : j = i
    · subst hj
      have hlt : j < ρ.length := by
        have := (List.getElem?_eq_some_iff.mp h').1
        rwa [List.length_set] at this
      rw [List.getElem?_set_self hlt] at h'
      have e : d = d' := by simpa using h'
      subst e
      exact ⟨v, List.getElem?_set_self (by rw [x.len]; exact hlt), h⟩
    · rw [List.getElem?_set_ne (fun z => hj z.symm)] at h'
      obtain ⟨v', h1, h2⟩ := x.var j d' h'
      exact ⟨v', by rw [List.getElem?_set_ne (fun z => hj z.symm)]; exact h1, h2⟩⟩
theorem SR.unset {σ : St} {ρ : Rho} (x : SR K pn H μ σ ρ st) {i : Nat} : SR K pn H μ (σ.set i none) (ρ.set i none) st :=
  ⟨x.st, by rw [List.length_set, List.length_set]; exact x.len, fun j d' h' => by
    by_cases hj : j = i
    · subst hj
      have hlt : j < ρ.length := by
        have := (List.getElem?_eq_some_iff.mp h').1
        rwa [List.length_set] at this
      rw [List.getElem?_set_self hlt] at h'
      cases h'
    · rw [List.getElem?_set_ne (fun z => hj z.symm)] at h'
      obtain ⟨v', h1, h2⟩ := x.var j d' h'
      exact ⟨v', by rw [List.getElem?_set_ne (fun z => hj z.symm)]; exact h1, h2⟩⟩
end
end Lt
end S_Lt4

section S_Lt5
set_option Elab.async false
set_option linter.all false
set_option maxRecDepth 100000
set_option maxHeartbeats 1000000
/-! Lt5: what the operators and the built-in calls of the machine say of Python's. -/
namespace Lt
open PySem PySem.Spec L2
/-- what is wanted of a result -/
def Post {α β : Type} (K : W.Frag) (μ : List Addr) (H : Hp) (rel : Hp → List Addr → α → β → Prop) (r : R α) (Q : β → Hp → Prop) (W : XK) : Prop := match r with
  | .ok a st' => ∀ b H' μ', Ext μ μ' H H' → StR K H' μ' st' → rel H' μ' a b → Q b H'
  | .ex x st' => ∀ dd H' μ', Ext μ μ' H H' → StR K H' μ' st' → XFs K H' x.fs dd → W (.ref (ga K x.cls)) dd H'
  | .no => False
abbrev relS (K : W.Frag) (pn : List (Addr × Obj)) : Hp → List Addr → D → V → Prop := fun H μ d v => RepS K H μ pn d v
abbrev relE {α : Type} : Hp → List Addr → α → α → Prop := fun _ _ a b => a = b
section
variable {α β γ δ : Type} {K : W.Frag} {H H' : Hp} {μ μ' : List Addr} {pn : List (Addr × Obj)} {st : Store} {W : XK}
theorem Post.base {rel : Hp → List Addr → α → β → Prop} {r : R α} {Q : β → Hp → Prop} (e : Ext μ μ' H H') (h : Post K μ H rel r Q W) : Post K μ' H' rel r Q W := by
  cases r with
  | ok a s => exact fun b H2 μ2 e2 s2 r2 => h b H2 μ2 (e.trans e2) s2 r2
  | ex x s => exact fun dd H2 μ2 e2 s2 r2 => h dd H2 μ2 (e.trans e2) s2 r2
  | no => exact h
theorem Post.bind {rel : Hp → List Addr → α → β → Prop} {rel2 : Hp → List Addr → γ → δ → Prop} {r : R α} {f : α → Store → R γ} {Q : δ → Hp → Prop} (h : Post K μ H rel2 (r.bind f) Q W) :
    Post K μ H rel r (fun v H1 => ∃ μ1 a st1, Ext μ μ1 H H1 ∧ StR K H1 μ1 st1 ∧ rel H1 μ1 a v ∧ Post K μ1 H1 rel2 (f a st1) Q W) W := by
  cases r with
  | ok a s => exact fun b H2 μ2 e2 s2 r2 => ⟨μ2, a, s, e2, s2, r2, Post.base e2 (show Post K μ H rel2 (f a s) Q W from h)⟩
  | ex x s => exact h
  | no => exact h
theorem Post.mono {rel : Hp → List Addr → α → β → Prop} {r : R α} {Q Q' : β → Hp → Prop} (h : Post K μ H rel r Q W) (m : ∀ b H', Q b H' → Q' b H') : Post K μ H rel r Q' W := by
  cases r with
  | ok a s => exact fun b H2 μ2 e2 s2 r2 => m _ _ (h b H2 μ2 e2 s2 r2)
  | ex x s => exact h
  | no => exact h
/-- a plain datum comes out -/
theorem Post.p {x : P} {Q : VK} (s : StR K H μ st) (h : Post K μ H (relS K pn) (okP x st) Q W) {v : V} (r : RepP K H x v) : Q v H := h v H μ Ext.refl s r
theorem Post.int {i : Int} {Q : VK} (s : StR K H μ st) (h : Post K μ H (relS K pn) (okP (.int i) st) Q W) : Q (.int i) H := h.p s rfl
theorem Post.bl {i : Bool} {Q : VK} (s : StR K H μ st) (h : Post K μ H (relS K pn) (okP (.bl i) st) Q W) : Q (.bl i) H := h.p s rfl
theorem Post.str {i : List Nat} {Q : VK} (s : StR K H μ st) (h : Post K μ H (relS K pn) (okP (.str i) st) Q W) : Q (.str (toS i)) H := h.p s rfl
/-- a new list comes out -/
theorem Post.lst {l : List D} {xs : List V} {Q : VK} (s : StR K H μ st) (h : Post K μ H (relS K pn) (.ok (.ref st.length) (st ++ [.lst l])) Q W) (r : Reps K H μ l xs) {p : Addr} (hp : H p = none) : Q (.ref p) (upd H p (.lst xs)) := by
  have e := Ext.alloc (μ := μ) (o := .lst xs) hp
  refine h (.ref p) _ (μ ++ [p]) e (s.alloc hp ⟨xs, upd_same, Reps.ext e _ _ r⟩) ⟨p, ?_, rfl⟩
  rw [← s.len, List.getElem?_append_right (Nat.le_refl _), Nat.sub_self]
  rfl
/-- a new tuple comes out -/
theorem Post.tup {l : List D} {xs : List V} {Q : VK} (s : StR K H μ st) (h : Post K μ H (relS K pn) (.ok (mkTup l) st) Q W) (r : Reps K H μ l xs) {p : Addr} (hp : H p = none) : Q (.ref p) (upd H p (.tup xs)) :=
  h (.ref p) _ μ (Ext.fresh hp) (s.fresh hp) (RepS.of (Rep.mkTup (SqT.of upd_same) (Reps.ext (Ext.fresh hp) _ _ r)))
/-- a tuple that is there comes out -/
theorem Post.told {l : List D} {xs : List V} {Q : VK} {a : Addr} (s : StR K H μ st) (h : Post K μ H (relS K pn) (.ok (mkTup l) st) Q W) (ha : SqT K H a xs) (r : Reps K H μ l xs) : Q (.ref a) H :=
  h (.ref a) H μ Ext.refl s (RepS.of (Rep.mkTup ha r))
theorem Post.val {d : D} {Q : VK} {v : V} (s : StR K H μ st) (h : Post K μ H (relS K pn) (.ok d st) Q W) (r : RepS K H μ pn d v) : Q v H := h v H μ Ext.refl s r
theorem toS_len (l : List Nat) : (toS l).length = l.length := by simp [toS, Str.length]
theorem toS_app (x y : List Nat) : toS x ++ toS y = toS (x ++ y) := by
  show (⟨x.toArray ++ y.toArray⟩ : Str) = ⟨(x ++ y).toArray⟩
  simp
theorem line_eq : line = sizeLine := by rw [sizeLine_eq]; rfl
theorem SqL.lst {a : Addr} {xs : List V} (h : H a = some (.lst xs)) : SqL K H a xs := SqL.of h
theorem seqOf_rep {d : D} {l : List D} {v : V} (s : StR K H μ st) (h : Rep K H μ d v) (e : seqOf d st = some l) : ∃ a xs, v = .ref a ∧ (SqL K H a xs ∨ SqT K H a xs) ∧ Reps K H μ l xs := by
  cases d with
  | ref n =>
    unfold seqOf at e
    dsimp only at e
    cases q : st[n]? with
    | none => rw [q] at e; cases e
    | some o =>
      rw [q] at e
      obtain ⟨a, h1, h2, h3⟩ := s.get h q
      cases o with
      | lst l' =>
        have e' : l' = l := Option.some.inj e
        subst e'
        obtain ⟨xs, hx, r⟩ := h3
        exact ⟨a, xs, h2, .inl (SqL.of hx), r⟩
      | ro l' =>
        have e' : l' = l := Option.some.inj e
        subst e'
        obtain ⟨ob, xs, hx, r⟩ := h3
        exact ⟨a, xs, h2, .inl (.inl (.inr ⟨ob, hx⟩)), r⟩
      | ins _ _ _ => cases e
      | dic _ => cases e
  | p x =>
    obtain ⟨a, xs, h1, h2, h3⟩ := h.asTup (show asTup (.p x) = some l from e)
    exact ⟨a, xs, h1, .inr h2, h3⟩
  | tup x =>
    obtain ⟨a, xs, h1, h2, h3⟩ := h.asTup (show asTup (.tup x) = some l from e)
    exact ⟨a, xs, h1, .inr h2, h3⟩
  | exc x => exact (show False from h).elim
end
/-! ### by values -/
section
variable {X : Cx}
theorem rep_len {α : Type} (l : List α) : ∀ k : Nat, (List.replicate k l).flatten.length = l.length * k
  | 0 => rfl
  | k + 1 => by rw [List.replicate_succ, List.flatten_cons, List.length_append, rep_len l k, Nat.mul_succ, Nat.add_comm]
theorem repL_len {α : Type} (l : List α) (k : Int) : (repL l k).length = l.length * k.toNat := rep_len l _
def rMulS : R2 := fun x y H Q => ∃ z k, x = .str z ∧ y = .int k ∧ k.natAbs < 2 ^ 62 ∧ z.length * k.toNat ≤ sizeLine ∧ Q (.str (toS (repL z.cps.toList k))) H
theorem foldl_cps (x : Array Nat) : ∀ (k : Nat) (acc : Array Nat), ((List.replicate k x).foldl (· ++ ·) acc).toList = acc.toList ++ (List.replicate k x.toList).flatten
  | 0, acc => by simp
  | k + 1, acc => by
    rw [List.replicate_succ, List.foldl_cons, foldl_cps x k (acc ++ x), List.replicate_succ, List.flatten_cons, Array.toList_append, List.append_assoc]
theorem op_mulS : OpR X (binaryOp .Mult) rMulS := by
  intro pins s σ H x y v u Q I rx ry h
  obtain ⟨z, k, rfl, rfl, hk, hl, q⟩ := h
  obtain ⟨t, rfl⟩ := rx
  obtain ⟨t', rfl⟩ := ry
  have hs := sizeLine_eq
  have key : ∀ {w' : Str}, w'.cps.toList = repL z.cps.toList k → w' = toS (repL z.cps.toList k) := fun {w'} e => Str.ext' (Array.toList_inj.mp e)
  have hd1 : ¬ k < -(2 ^ 63 : Int) := by omega
  have hd2 : ¬ k ≥ (2 ^ 63 : Int) := by omega
  refine PySem.P.mul_str (by rw [decide_eq_false hd1, decide_eq_false hd2]; rfl) (fun h1 h2 => ?_) (fun h1 h2 => ?_) ?_
  · intro hgt
    have hk1 : 0 < k := by omega
    have h3 : (z.length : Int) * k ≤ 16777216 := by
      have e1 : ((z.length * k.toNat : Nat) : Int) = (z.length : Int) * k := by
        rw [Int.natCast_mul]
        congr 1
        omega
      rw [← e1]
      omega
    have h4 : (2 ^ 63 - 1 : Int) / k < z.length := hgt
    have h5 : (2 ^ 63 - 1 : Int) < (z.length : Int) * k := by
      have := (Int.ediv_lt_iff_lt_mul hk1).mp h4
      exact this
    omega
  · show decide (z.length * k.toNat > sizeLine) = false
    exact decide_eq_false (by omega)
  · by_cases h1 : k < 1
    · rw [if_pos h1]
      have e : toS (repL z.cps.toList k) = Str.empty := by
        have : k.toNat = 0 := by omega
        unfold repL toS
        rw [this]; rfl
      refine ⟨by show 0 ≤ sizeLine; exact Nat.zero_le _, .str Str.empty, H, I.tok _, ⟨_, rfl⟩, by rw [← e]; exact q⟩
    · rw [if_neg h1]
      by_cases h2 : (k == 1 || z.length == 0) = true
      · rw [if_pos h2]
        have e : toS (repL z.cps.toList k) = z := by
          refine (key ?_).symm
          rcases Bool.or_eq_true_iff.mp h2 with h3 | h3
          · have h4 : k = 1 := by simpa using h3
            subst h4
            simp [repL]
          · have h4 : z.cps.toList = [] := by
              have : z.cps.size = 0 := by simpa [Str.length] using h3
              simpa using this
            rw [h4]
            unfold repL
            induction k.toNat with
            | zero => rfl
            | succ n ih => rw [List.replicate_succ, List.flatten_cons, List.nil_append]; exact ih
        exact ⟨.str z, H, I, ⟨_, rfl⟩, by rw [← e]; exact q⟩
      · rw [if_neg h2]
        have e : (⟨(List.replicate k.toNat z.cps).foldl (· ++ ·) #[]⟩ : Str) = toS (repL z.cps.toList k) := by
          refine key ?_
          rw [foldl_cps]
          rfl
        have ez : (⟨(List.replicate k.toNat z.cps).foldl (· ++ ·) #[]⟩ : Str).length ≤ sizeLine := by
          rw [e, toS_len]
          rw [repL_len]
          exact hl
        exact ⟨ez, .str _, H, I.tok _, ⟨_, rfl⟩, by rw [e]; exact q⟩
def rBin (K : W.Frag) : Operator → R2
  | .Add => fun x y H Q => rI0 (fun i j => .int (i + j)) x y H Q ∨ (∃ i j, x = .str i ∧ y = .str j ∧ i.length + j.length ≤ sizeLine ∧ Q (.str (i ++ j)) H) ∨ rCat x y H Q ∨ rCatA K x y H Q
  | .Mult => fun x y H Q => rI CMul (fun i j => .int (i * j)) x y H Q ∨ rMulS x y H Q ∨ rRep x y H Q
  | .Sub => rI0 fun i j => .int (i - j)
  | .FloorDiv => rI CDivN fun i j => .int (i.fdiv j)
  | .Mod => rI (fun _ j => j ≠ 0) fun i j => .int (i.fmod j)
  | .Pow => rI CPow fun i j => .int (i ^ j.toNat)
  | .RShift => rI (fun _ j => 0 ≤ j) fun i j => .int (i / 2 ^ j.toNat)
  | _ => fun _ _ _ _ => False
theorem rBin_ok : ∀ op, OpR X (binaryOp op) (rBin X.K op)
  | .Add => op_add.or (op_add_str.or (op_cat.or op_catA))
  | .Mult => op_mul.or (op_mulS.or op_rep)
  | .Sub => op_sub
  | .FloorDiv => op_fdivN
  | .Mod => op_modN
  | .Pow => op_pow
  | .RShift => op_shr
  | .MatMult => fun _ _ _ _ _ _ _ _ _ _ _ _ h => h.elim
  | .Div => fun _ _ _ _ _ _ _ _ _ _ _ _ h => h.elim
  | .LShift => fun _ _ _ _ _ _ _ _ _ _ _ _ h => h.elim
  | .BitOr => fun _ _ _ _ _ _ _ _ _ _ _ _ h => h.elim
  | .BitXor => fun _ _ _ _ _ _ _ _ _ _ _ _ h => h.elim
  | .BitAnd => fun _ _ _ _ _ _ _ _ _ _ _ _ h => h.elim
end
section
variable {K : W.Frag} {H H' : Hp} {μ μ' : List Addr} {pn : List (Addr × Obj)} {st : Store} {W : XK}
theorem Post.no {α β : Type} {rel : Hp → List Addr → α → β → Prop} {Q : β → Hp → Prop} (h : Post K μ H rel .no Q W) {C : Prop} : C := (show False from h).elim
theorem mulOk_c {i j : Int} (h : mulOk i j = true) : CMul i j := by
  unfold mulOk at h
  simp only [Bool.or_eq_true, decide_eq_true_eq] at h
  unfold CMul
  omega
/-- two lists of the store -/
theorem add_ok {a b : D} {x y : V} {Q : VK} (s : StR K H μ st) (ra : RepS K H μ pn a x) (rb : RepS K H μ pn b y) (h : Post K μ H (relS K pn) (addD a b st) Q W) : rBin K .Add x y H Q := by
  unfold addD at h
  split at h
  · cases ra; cases rb
    exact .inl ⟨_, _, rfl, rfl, h.int s⟩
  · rename_i u w
    cases ra; cases rb
    split at h
    · rename_i hl
      exact .inr (.inl ⟨_, _, rfl, rfl, by rw [toS_len, toS_len, ← line_eq]; exact hl, by rw [toS_app]; exact h.str s⟩)
    · exact h.no
  · rename_i i j
    cases e1 : st[i]? with
    | none => rw [e1] at h; exact h.no
    | some o1 =>
      cases e2 : st[j]? with
      | none => rw [e1, e2] at h; cases o1 <;> exact h.no
      | some o2 =>
        rw [e1, e2] at h
        cases o1 with
        | lst l1 =>
          cases o2 with
          | lst l2 =>
            dsimp only at h
            split at h
            · rename_i hl
              obtain ⟨p, _, rfl, xs, hx, r1⟩ := s.get ra e1
              obtain ⟨q, _, rfl, ys, hy, r2⟩ := s.get rb e2
              exact .inr (.inr (.inl ⟨p, q, xs, ys, rfl, rfl, hx, hy, by rw [r1.length, r2.length, ← line_eq]; exact hl, fun t ht => h.lst s (r1.append r2) ht⟩))
            · exact h.no
          | _ => exact h.no
        | _ => exact h.no
  · rename_i n1 n2 n3
    cases e1 : asTup a with
    | none => rw [e1] at h; exact h.no
    | some l1 =>
      cases e2 : asTup b with
      | none => rw [e1, e2] at h; exact h.no
      | some l2 =>
        rw [e1, e2] at h
        dsimp only at h
        have na : isX a = false := by cases a <;> first | rfl | cases e1
        have nb : isX b = false := by cases b <;> first | rfl | cases e2
        obtain ⟨p, xs, rfl, hx, r1⟩ := (ra.rep na).asTup e1
        obtain ⟨q, ys, rfl, hy, r2⟩ := (rb.rep nb).asTup e2
        split at h
        · rename_i hl
          refine .inr (.inr (.inr ⟨p, q, xs, ys, rfl, rfl, hx, hy, by rw [r1.length, r2.length, ← line_eq]; exact hl, fun z => ?_, fun z1 z2 => ?_, fun _ _ t ht => h.tup s (r1.append r2) ht⟩))
          · subst z
            have e : l1 = [] := by cases l1 with
              | nil => rfl
              | cons _ _ => obtain ⟨_, _, e, _⟩ := r1; cases e
            subst e
            exact h.told s hy r2
          · subst z2
            have e : l2 = [] := by cases l2 with
              | nil => rfl
              | cons _ _ => obtain ⟨_, _, e, _⟩ := r2; cases e
            subst e
            rw [List.append_nil] at h
            exact h.told s hx r1
        · exact h.no
theorem mul_ok {a b : D} {x y : V} {Q : VK} (s : StR K H μ st) (ra : RepS K H μ pn a x) (rb : RepS K H μ pn b y) (h : Post K μ H (relS K pn) (mulD a b st) Q W) : rBin K .Mult x y H Q := by
  unfold mulD at h
  split at h
  · cases ra; cases rb
    split at h
    · rename_i hc
      exact .inl ⟨_, _, rfl, rfl, mulOk_c hc, h.int s⟩
    · exact h.no
  · cases ra; cases rb
    split at h
    · rename_i hc
      simp only [Bool.and_eq_true, decide_eq_true_eq] at hc
      exact .inr (.inl ⟨_, _, rfl, rfl, hc.1, by rw [toS_len, ← line_eq]; exact hc.2, h.str s⟩)
    · exact h.no
  · rename_i i k
    cases rb
    cases e1 : st[i]? with
    | none => rw [e1] at h; exact h.no
    | some o1 =>
      rw [e1] at h
      cases o1 with
      | lst l1 =>
        dsimp only at h
        split at h
        · rename_i hc
          simp only [Bool.and_eq_true, decide_eq_true_eq] at hc
          obtain ⟨p, _, rfl, xs, hx, r1⟩ := s.get ra e1
          exact .inr (.inr ⟨p, k, xs, rfl, rfl, hx, by omega, by omega, by rw [r1.length, ← line_eq]; exact hc.2, fun t ht => h.lst s (r1.rep _) ht⟩)
        · exact h.no
      | _ => exact h.no
  · exact h.no
theorem bin_ok {op : Operator} {a b : D} {x y : V} {Q : VK} (s : StR K H μ st) (ra : RepS K H μ pn a x) (rb : RepS K H μ pn b y) (h : Post K μ H (relS K pn) (binD op a b st) Q W) : rBin K op x y H Q := by
  unfold binD at h
  split at h
  · exact add_ok s ra rb h
  · exact mul_ok s ra rb h
  · cases ra; cases rb
    exact ⟨_, _, rfl, rfl, h.int s⟩
  · cases ra; cases rb
    split at h
    · rename_i hc
      simp only [Bool.and_eq_true, decide_eq_true_eq] at hc
      exact ⟨_, _, rfl, rfl, hc, h.int s⟩
    · exact h.no
  · cases ra; cases rb
    split at h
    · rename_i hc
      exact ⟨_, _, rfl, rfl, of_decide_eq_true hc, h.int s⟩
    · exact h.no
  · cases ra; cases rb
    split at h
    · rename_i hc
      simp only [Bool.and_eq_true, decide_eq_true_eq] at hc
      exact ⟨_, _, rfl, rfl, ⟨hc.1.1, hc.1.2, hc.2⟩, h.int s⟩
    · exact h.no
  · cases ra; cases rb
    split at h
    · rename_i hc
      exact ⟨_, _, rfl, rfl, of_decide_eq_true hc, h.int s⟩
    · exact h.no
  · exact h.no
/-- op= -/
def rAug : Operator → TIp
  | .Add => fun x y H Q => (∃ i j, x = .int i ∧ y = .int j ∧ Q (.int (i + j)) H) ∨ ∃ i j, x = .str i ∧ y = .str j ∧ i.length + j.length ≤ sizeLine ∧ Q (.str (i ++ j)) H
  | .Sub => fun x y H Q => ∃ i j, x = .int i ∧ y = .int j ∧ Q (.int (i - j)) H
  | .Mult => fun x y H Q => ∃ i j, x = .int i ∧ y = .int j ∧ CMul i j ∧ Q (.int (i * j)) H
  | _ => fun _ _ _ _ => False
theorem PIp.of {X : Cx} {op : Operator} {r : R2} (h : OpR X (inplaceOp op) r) : PIp X op r := fun pins s σ H x y v u Q I r1 r2 q => h pins s σ H x y v u Q I r1 r2 q
theorem rAug_op {X : Cx} : ∀ op, OpR X (inplaceOp op) (rAug op)
  | .Add => fun pins s σ H x y v u Q I r1 r2 q => by
    rcases q with ⟨i, j, e1, e2, q⟩ | ⟨i, j, e1, e2, z, q⟩
    · exact iop_add pins s σ H x y v u Q I r1 r2 ⟨i, j, e1, e2, q⟩
    · exact iop_add_str pins s σ H x y v u Q I r1 r2 ⟨i, j, e1, e2, z, q⟩
  | .Sub => iop_sub
  | .Mult => iop_mul
  | .FloorDiv => fun _ _ _ _ _ _ _ _ _ _ _ _ h => h.elim
  | .Mod => fun _ _ _ _ _ _ _ _ _ _ _ _ h => h.elim
  | .Pow => fun _ _ _ _ _ _ _ _ _ _ _ _ h => h.elim
  | .RShift => fun _ _ _ _ _ _ _ _ _ _ _ _ h => h.elim
  | .MatMult => fun _ _ _ _ _ _ _ _ _ _ _ _ h => h.elim
  | .Div => fun _ _ _ _ _ _ _ _ _ _ _ _ h => h.elim
  | .LShift => fun _ _ _ _ _ _ _ _ _ _ _ _ h => h.elim
  | .BitOr => fun _ _ _ _ _ _ _ _ _ _ _ _ h => h.elim
  | .BitXor => fun _ _ _ _ _ _ _ _ _ _ _ _ h => h.elim
  | .BitAnd => fun _ _ _ _ _ _ _ _ _ _ _ _ h => h.elim
theorem aug_ok {op : Operator} {a b : D} {x y : V} {Q : VK} (s : StR K H μ st) (ra : RepS K H μ pn a x) (rb : RepS K H μ pn b y) (h : Post K μ H (relS K pn) (augD op a b st) Q W) : rAug op x y H Q := by
  unfold augD at h
  split at h
  · cases ra; cases rb
    exact .inl ⟨_, _, rfl, rfl, h.int s⟩
  · cases ra; cases rb
    exact ⟨_, _, rfl, rfl, h.int s⟩
  · cases ra; cases rb
    split at h
    · rename_i hc
      exact ⟨_, _, rfl, rfl, mulOk_c hc, h.int s⟩
    · exact h.no
  · cases ra; cases rb
    split at h
    · rename_i hl
      exact .inr ⟨_, _, rfl, rfl, by rw [toS_len, toS_len, ← line_eq]; exact hl, by rw [toS_app]; exact h.str s⟩
    · exact h.no
  · exact h.no
def rUn : UnaryOp → V → Hp → VK → Prop
  | .USub => rU fun i => .int (-i)
  | _ => fun _ _ _ => False
theorem rUn_ok {X : Cx} : ∀ op, UnR X (unaryOp op) (rUn op)
  | .USub => un_neg
  | .UAdd => fun _ _ _ _ _ _ _ _ _ h => h.elim
  | .Not => fun _ _ _ _ _ _ _ _ _ h => h.elim
  | .Invert => fun _ _ _ _ _ _ _ _ _ h => h.elim
theorem un_ok {op : UnaryOp} {a : D} {x : V} {Q : VK} (s : StR K H μ st) (ra : RepS K H μ pn a x) (h : Post K μ H (relS K pn) (unD op a st) Q W) : rUn op x H Q := by
  unfold unD at h
  split at h
  · cases ra
    exact ⟨_, rfl, h.int s⟩
  · exact h.no
end
end Lt
end S_Lt5

section S_Lt6
set_option Elab.async false
set_option linter.all false
set_option maxRecDepth 100000
set_option maxHeartbeats 1000000
/-! Lt6: comparisons, truth, items, slices, built-in calls. -/
namespace Lt
open PySem PySem.Spec L2
section
variable {K : W.Frag} {H H' : Hp} {μ μ' : List Addr} {pn : List (Addr × Obj)} {st : Store} {W : XK}
mutual
theorem RepP.dp : ∀ (p : P) (v : V), RepP K H p v → Dp K H v p.pd
  | .non, _, h => by rw [show _ = V.non from h]; exact .non
  | .bl b, _, h => by rw [show _ = V.bl b from h]; exact .bl b
  | .int i, _, h => by rw [show _ = V.int i from h]; exact .int i
  | .str x, _, h => by rw [show _ = V.str (toS x) from h]; exact .str _
  | .tup l, _, ⟨a, xs, e, s, r⟩ => by rw [e]; exact .tup s (RepPs.dp l xs r)
theorem RepPs.dp : ∀ (l : List P) (xs : List V), RepPs K H l xs → DpAll K H xs (P.pds l)
  | [], _, h => by rw [show _ = [] from h]; exact .nil
  | p :: ps, _, ⟨v, r, e, h1, h2⟩ => by rw [e]; exact .cons (RepP.dp p v h1) (RepPs.dp ps r h2)
end
theorem pdOf_p (st : Store) (n : Nat) (x : P) : pdOf st n (.p x) = some x.pd := by cases n <;> rfl
theorem allSome_dp {f : D → Option PyData} : ∀ {l : List D} {xs : List V} {ds : List PyData}, (∀ d ∈ l, ∀ v y, Rep K H μ d v → f d = some y → Dp K H v y) → Reps K H μ l xs → allSome f l = some ds → DpAll K H xs ds
  | [], _, _, _, h, e => by
    rw [show _ = [] from h]
    have e' : ([] : List PyData) = _ := Option.some.inj e
    rw [← e']; exact .nil
  | d :: l, _, ds, hf, ⟨v, r, e1, h1, h2⟩, e => by
    subst e1
    unfold allSome at e
    cases q : f d with
    | none => rw [q] at e; cases e
    | some y =>
      rw [q] at e
      dsimp only at e
      cases q2 : allSome f l with
      | none => rw [q2] at e; cases e
      | some ys =>
        rw [q2] at e
        have e' : y :: ys = ds := Option.some.inj e
        subst e'
        exact .cons (hf d List.mem_cons_self v y h1 q) (allSome_dp (fun d' hd => hf d' (List.mem_cons_of_mem _ hd)) h2 q2)
theorem pdOf_dp (s : StR K H μ st) : ∀ (n : Nat) (d : D) (v : V) (y : PyData), Rep K H μ d v → pdOf st n d = some y → Dp K H v y
  | n, .p x, v, y, h, e => by
    rw [pdOf_p] at e
    rw [← Option.some.inj e]
    exact RepP.dp x v h
  | 0, .tup _, _, _, _, e => by cases e
  | 0, .ref _, _, _, _, e => by cases e
  | _, .exc _, _, _, h, _ => (show False from h).elim
  | n + 1, .tup l, v, y, ⟨a, xs, e1, hs, r⟩, e => by
    have e' : (allSome (pdOf st n) l).map PyData.tuple = some y := e
    cases q : allSome (pdOf st n) l with
    | none => rw [q] at e'; cases e'
    | some ds =>
      rw [q] at e'
      rw [← Option.some.inj e', e1]
      exact .tup hs (allSome_dp (fun d _ v y h1 h2 => pdOf_dp s n d v y h1 h2) r q)
  | n + 1, .ref i, v, y, h, e => by
    have e' : (match st[i]? with
      | some (.lst l) => (allSome (pdOf st n) l).map PyData.list
      | some (.ro l) => (allSome (pdOf st n) l).map PyData.list
      | _ => none) = some y := e
    cases q : st[i]? with
    | none => rw [q] at e'; cases e'
    | some o =>
      rw [q] at e'
      obtain ⟨a, h1, h2, h3⟩ := s.get h q
      have go : ∀ {l : List D} {xs : List V}, (allSome (pdOf st n) l).map PyData.list = some y → SqL K H a xs → Reps K H μ l xs → Dp K H v y := fun {l xs} e2 hs r => by
        cases q2 : allSome (pdOf st n) l with
        | none => rw [q2] at e2; cases e2
        | some ds =>
          rw [q2] at e2
          rw [← Option.some.inj e2, h2]
          exact .lst hs (allSome_dp (fun d _ v y h1 h2 => pdOf_dp s n d v y h1 h2) r q2)
      cases o with
      | lst l =>
        obtain ⟨xs, hx, r⟩ := h3
        exact go e' (SqL.of hx) r
      | ro l =>
        obtain ⟨ob, xs, hx, r⟩ := h3
        exact go e' (.inl (.inr ⟨ob, hx⟩)) r
      | ins _ _ _ => cases e'
      | dic _ => cases e'
theorem isX_pd {d : D} {n : Nat} {y : PyData} (e : pdOf st n d = some y) : isX d = false := by
  cases d with
  | exc x => cases n <;> cases e
  | _ => rfl
/-! ### comparing -/
def rEqA (K : PySem.W.Frag) : R2 := fun x y H Q => rEq x y H Q ∨ rEqD K x y H Q
def rNeA (K : PySem.W.Frag) : R2 := fun x y H Q => rNe x y H Q ∨ rNeD K x y H Q
theorem scal_dec {x y : P} (h : scalP x y = true) {v u : V} (r1 : RepP K H x v) (r2 : RepP K H y u) : scal v u = true ∧ decide (v = u) = sameP x y := by
  cases x <;> cases y <;> first
    | (cases h; done)
    | (cases r1; cases r2; refine ⟨rfl, ?_⟩; simp [sameP, toS])
theorem deep_dp {a b : D} {x y : V} {k : Bool} (s : StR K H μ st) (ra : RepS K H μ pn a x) (rb : RepS K H μ pn b y) (h : eqDeep a b st = some k) :
    ∃ d e, Dp K H x d ∧ Dp K H y e ∧ SeqAt.shaped d = true ∧ SeqAt.shaped e = true ∧ PyData.eqv d e = k := by
  unfold eqDeep at h
  split at h
  · rename_i d e e1 e2
    split at h
    · rename_i hs
      simp only [Bool.and_eq_true] at hs
      exact ⟨d, e, pdOf_dp s _ _ _ _ (ra.rep (isX_pd e1)) e1, pdOf_dp s _ _ _ _ (rb.rep (isX_pd e2)) e2, hs.1, hs.2, Option.some.inj h⟩
    · cases h
  · cases h
theorem eq_rule {a b : D} {x y : V} {k : Bool} (s : StR K H μ st) (ra : RepS K H μ pn a x) (rb : RepS K H μ pn b y) (h : eqD a b st = some k) :
    (scal x y = true ∧ decide (x = y) = k) ∨ ∃ d e, Dp K H x d ∧ Dp K H y e ∧ SeqAt.shaped d = true ∧ SeqAt.shaped e = true ∧ PyData.eqv d e = k := by
  unfold eqD at h
  split at h
  · split at h
    · rename_i hs
      obtain ⟨h1, h2⟩ := scal_dec hs ra rb
      exact .inl ⟨h1, h2.trans (Option.some.inj h)⟩
    · exact .inr (deep_dp s ra rb h)
  · exact .inr (deep_dp s ra rb h)
def rInS (neg : Bool) : R2 := fun x y H Q => (∃ (c : Nat) (z : Str), x = .str ⟨#[c]⟩ ∧ y = .str z ∧ Q (.bl (if neg then !decide (c ∈ z.cps.toList) else decide (c ∈ z.cps.toList))) H) ∨
  ∃ i j, x = .str i ∧ y = .str j ∧ Q (.bl (if neg then !(!(Builtin.Str.occurrences j i 0 j.length 1).isEmpty) else !(Builtin.Str.occurrences j i 0 j.length 1).isEmpty)) H
def rCmp (K : PySem.W.Frag) : CmpOp → R2
  | .Lt => rI0 fun i j => .bl (decide (i < j))
  | .LtE => rI0 fun i j => .bl (decide (i ≤ j))
  | .Gt => rI0 fun i j => .bl (decide (j < i))
  | .GtE => rI0 fun i j => .bl (decide (j ≤ i))
  | .Eq => rEqA K
  | .NotEq => rNeA K
  | .In => rInS false
  | .NotIn => rInS true
  | .Is => fun x y H Q => y = .non ∧ Q (.bl (decide (x = .non))) H
  | .IsNot => fun x y H Q => y = .non ∧ Q (.bl (!decide (x = .non))) H
theorem rCmp_ok {X : Cx} (hu : X.A.units + 64 < cLine) : ∀ op, OpR X (compareOp op) (rCmp X.K op)
  | .Lt => op_lt
  | .LtE => op_le
  | .Gt => op_gt
  | .GtE => op_ge
  | .Eq => op_eq.or (op_eqD hu)
  | .NotEq => op_ne.or (op_neD hu)
  | .In => op_in_sign.or op_in_str
  | .NotIn => op_notIn_sign.or op_notIn_str
  | .Is => op_isN
  | .IsNot => op_notN
theorem in_ok {x y : List Nat} {neg : Bool} {Q : VK} (s : StR K H μ st) (h : Post K μ H (relS K pn) (okP (.bl (if neg then !subS x y else subS x y)) st) Q W) : rInS neg (.str (toS x)) (.str (toS y)) H Q := by
  have h := h.bl s
  cases neg with
  | false =>
    have h : Q (.bl (subS x y)) H := h
    unfold subS at h
    split at h
    · exact .inl ⟨_, toS y, rfl, rfl, h⟩
    · refine .inr ⟨toS x, toS y, rfl, rfl, ?_⟩
      rw [toS_len]
      exact h
  | true =>
    have h : Q (.bl (!subS x y)) H := h
    unfold subS at h
    split at h
    · exact .inl ⟨_, toS y, rfl, rfl, h⟩
    · refine .inr ⟨toS x, toS y, rfl, rfl, ?_⟩
      rw [toS_len]
      exact h
theorem cmp_ok {op : CmpOp} {a b : D} {x y : V} {Q : VK} (s : StR K H μ st) (ra : RepS K H μ pn a x) (rb : RepS K H μ pn b y) (h : Post K μ H (relS K pn) (cmpD op a b st) Q W) : rCmp K op x y H Q := by
  unfold cmpD at h
  split at h
  · cases ra; cases rb; exact ⟨_, _, rfl, rfl, h.bl s⟩
  · cases ra; cases rb; exact ⟨_, _, rfl, rfl, h.bl s⟩
  · cases ra; cases rb; exact ⟨_, _, rfl, rfl, h.bl s⟩
  · cases ra; cases rb; exact ⟨_, _, rfl, rfl, h.bl s⟩
  · cases e : eqD a b st with
    | none => rw [e] at h; exact h.no
    | some k =>
      rw [e] at h
      rcases eq_rule s ra rb e with ⟨h1, h2⟩ | ⟨d, e', h1, h2, h3, h4, h5⟩
      · exact .inl ⟨h1, by rw [h2]; exact h.bl s⟩
      · exact .inr ⟨d, e', h1, h2, h3, h4, by rw [h5]; exact h.bl s⟩
  · cases e : eqD a b st with
    | none => rw [e] at h; exact h.no
    | some k =>
      rw [e] at h
      rcases eq_rule s ra rb e with ⟨h1, h2⟩ | ⟨d, e', h1, h2, h3, h4, h5⟩
      · exact .inl ⟨h1, by rw [h2]; exact h.bl s⟩
      · exact .inr ⟨d, e', h1, h2, h3, h4, by rw [h5]; exact h.bl s⟩
  · cases ra; cases rb; exact in_ok (neg := false) s h
  · cases ra; cases rb; exact in_ok (neg := true) s h
  · cases ra; cases rb; exact ⟨rfl, h.bl s⟩
  · rename_i z hz
    cases rb
    refine ⟨rfl, ?_⟩
    have e : decide (x = V.non) = false := decide_eq_false fun e => by
      subst e
      cases z with
      | non => exact hz rfl
      | tup l => obtain ⟨_, _, e, _⟩ := ra; cases e
      | _ => cases ra
    rw [e]; exact h.bl s
  · cases rb
    obtain ⟨_, _, e, _⟩ := ra
    subst e
    exact ⟨rfl, h.bl s⟩
  · cases rb
    obtain ⟨_, _, e⟩ := ra
    subst e
    exact ⟨rfl, h.bl s⟩
  · cases ra; cases rb; exact ⟨rfl, h.bl s⟩
  · rename_i z hz
    cases rb
    refine ⟨rfl, ?_⟩
    have e : decide (x = V.non) = false := decide_eq_false fun e => by
      subst e
      cases z with
      | non => exact hz rfl
      | tup l => obtain ⟨_, _, e, _⟩ := ra; cases e
      | _ => cases ra
    rw [e]; exact h.bl s
  · cases rb
    obtain ⟨_, _, e, _⟩ := ra
    subst e
    exact ⟨rfl, h.bl s⟩
  · cases rb
    obtain ⟨_, _, e⟩ := ra
    subst e
    exact ⟨rfl, h.bl s⟩
  · exact h.no
/-- a comparison gives a bool -/
theorem cmp_bl {op : CmpOp} {a b : D} {x y : V} {Q : Bool → Hp → Prop} {rel : Hp → List Addr → Bool → Bool → Prop} (hrel : ∀ H μ b, rel H μ b b) (s : StR K H μ st) (ra : RepS K H μ pn a x) (rb : RepS K H μ pn b y)
    (h : Post K μ H rel (boolR (cmpD op a b st) fun k s1 => .ok k s1) Q W) : rCmp K op x y H fun z H1 => ∃ k, z = .bl k ∧ Q k H1 := by
  refine cmp_ok (pn := pn) (W := W) s ra rb ?_
  unfold boolR at h
  refine (h.bind (rel := relS K pn)).mono fun z H1 ⟨μ1, d, s1, e1, t1, r1, p1⟩ => ?_
  split at p1
  · cases r1
    exact ⟨_, rfl, p1 _ H1 μ1 Ext.refl t1 (hrel _ _ _)⟩
  · exact p1.no
/-! ### truth -/
theorem tru_rule {d : D} {x : V} {Q : Bool → Hp → Prop} {rel : Hp → List Addr → Bool → Bool → Prop} (hrel : ∀ H μ b, rel H μ b b) (s : StR K H μ st) (ra : RepS K H μ pn d x) (h : Post K μ H rel (truD d st) Q W) :
    ∃ k, TruV K x H k ∧ Q k H := by
  have fin : ∀ {k : Bool}, Post K μ H rel (.ok k st) Q W → Q k H := fun {k} z => z k H μ Ext.refl s (hrel _ _ _)
  have emp : ∀ {l : List D} {xs : List V}, Reps K H μ l xs → (!l.isEmpty) = !xs.isEmpty := fun {l xs} r => by
    cases l with
    | nil => rw [show xs = [] from r]; rfl
    | cons _ _ => obtain ⟨_, _, e, _⟩ := r; rw [e]; rfl
  unfold truD at h
  split at h
  · cases ra; exact ⟨false, rfl, fin h⟩
  · cases ra; exact ⟨_, rfl, fin h⟩
  · cases ra; exact ⟨_, rfl, fin h⟩
  · rename_i l
    cases ra
    split at h
    · rename_i hl
      refine ⟨!l.isEmpty, ⟨by rw [toS_len, ← line_eq]; exact hl, ?_⟩, fin h⟩
      rw [toS_len]
      cases l with
      | nil => rfl
      | cons a r =>
        have : ((r.length : Int) + 1 != 0) = true := by
          rw [bne_iff_ne]; omega
        simp [this]
    · exact h.no
  · obtain ⟨a, xs, e, hs, r⟩ := ra
    subst e
    have r' : Reps K H μ _ xs := Reps.map_p.mpr r
    exact ⟨_, .inr (.inl ⟨xs, hs, by rw [← emp r', List.isEmpty_map]⟩), fin h⟩
  · obtain ⟨a, xs, e, hs, r⟩ := ra
    subst e
    exact ⟨_, .inr (.inl ⟨xs, hs, emp r⟩), fin h⟩
  · rename_i n
    split at h
    · rename_i l q
      obtain ⟨a, h1, h2, xs, h3, h4⟩ := s.get ra q
      subst h2
      exact ⟨_, .inl ⟨xs, SqL.of h3, emp h4⟩, fin h⟩
    · rename_i l q
      obtain ⟨a, h1, h2, ob, xs, h3, h4⟩ := s.get ra q
      subst h2
      exact ⟨_, .inl ⟨xs, .inl (.inr ⟨ob, h3⟩), emp h4⟩, fin h⟩
    · rename_i l q
      obtain ⟨a, h1, h2, h3⟩ := s.get ra q
      exact (show False from h3).elim
    · exact h.no
  · exact h.no
/-! ### items, slices -/
theorem atI_rep {l : List D} {xs : List V} {i : Int} {d : D} (r : Reps K H μ l xs) (h : atL l i = some d) : ∃ v, atI xs i = some v ∧ Rep K H μ d v := by
  unfold atL atI at h
  unfold atI
  rw [r.length]
  cases q : ixN l.length i with
  | none => rw [q] at h; cases h
  | some j =>
    rw [q] at h
    exact Reps.get r h
theorem ix_ok {a i : D} {x y : V} {Q : VK} (s : StR K H μ st) (ra : RepS K H μ pn a x) (ri : RepS K H μ pn i y) (h : Post K μ H (relS K pn) (ixD a i st) Q W) : rIx K x y H Q := by
  unfold ixD at h
  split at h
  · rename_i z k
    cases ra; cases ri
    split at h
    · rename_i hl
      cases q : atL z k with
      | none => rw [q] at h; exact h.no
      | some c =>
        rw [q] at h
        exact .inr (.inr ⟨_, k, c, rfl, rfl, by rw [toS_len, ← line_eq]; exact hl, q, h.str s⟩)
    · exact h.no
  · cases ri
    cases q : seqOf a st with
    | none => rw [q] at h; exact h.no
    | some l =>
      rw [q] at h
      dsimp only at h
      have na : isX a = false := by cases a <;> first | rfl | cases q
      obtain ⟨p, xs, e, hs, r⟩ := seqOf_rep s (ra.rep na) q
      subst e
      cases q2 : atL l _ with
      | none => rw [q2] at h; exact h.no
      | some d =>
        rw [q2] at h
        obtain ⟨v, h1, h2⟩ := atI_rep r q2
        have h' := h.val s (RepS.of h2)
        rcases hs with hs | hs
        · exact .inl ⟨p, xs, _, v, rfl, rfl, hs, h1, h'⟩
        · exact .inr (.inl ⟨p, xs, _, v, rfl, rfl, hs, h1, h'⟩)
  · exact h.no
theorem cutL_reps {l : List D} {xs : List V} (r : Reps K H μ l xs) (lo hi : Option Int) : Reps K H μ (cutL l lo hi) (cutV xs lo hi) := by
  unfold cutL cutV
  rw [r.length]
  exact Reps.take _ (Reps.drop _ r)
theorem cutL_map {α β : Type} (f : α → β) (l : List α) (lo hi : Option Int) : cutL (l.map f) lo hi = (cutL l lo hi).map f := by
  unfold cutL
  rw [List.length_map, List.map_take, List.map_drop]
def rSlAll (K : PySem.W.Frag) : V → Option Int → Option Int → Hp → VK → Prop := fun x lo hi H Q => rSlS x lo hi H Q ∨ rSlA K x lo hi H Q ∨ rSlL K x lo hi H Q
theorem rSlAll_ok {X : Cx} : SlR X (rSlAll X.K) := sl_str.or (sl_tupA.or sl_list)
theorem cutS_toS (z : List Nat) (lo hi : Option Int) : cutS (toS z) lo hi = toS (cutL z lo hi) := by
  refine Str.ext' (Array.toList_inj.mp ?_)
  unfold cutS cutL toS
  simp [Str.length]
theorem sl_ok {a : D} {lo hi : Option Int} {x : V} {Q : VK} (s : StR K H μ st) (ra : RepS K H μ pn a x) (h : Post K μ H (relS K pn) (slD a lo hi st) Q W) : rSlAll K x lo hi H Q := by
  have tupC : ∀ {l : List D} {p : Addr} {xs : List V}, SqT K H p xs → Reps K H μ l xs → Post K μ H (relS K pn) (.ok (mkTup (cutL l lo hi)) st) Q W → rSlAll K (.ref p) lo hi H Q := fun {l p xs} hs r h => by
    refine .inr (.inl ⟨p, xs, rfl, hs, fun ⟨z1, z2⟩ => ?_, fun _ t ht => h.tup s (cutL_reps r lo hi) ht⟩)
    have e : cutL l lo hi = l := by
      unfold cutL
      rw [← r.length, z1, z2, r.length, List.drop_zero, Nat.sub_zero, List.take_length]
    rw [e] at h
    exact h.told s hs r
  unfold slD at h
  split at h
  · cases ra
    split at h
    · rename_i hl
      exact .inl ⟨_, rfl, by rw [toS_len, ← line_eq]; exact hl, by rw [cutS_toS]; exact h.str s⟩
    · exact h.no
  · rename_i l
    obtain ⟨p, xs, e, hs, r⟩ := ra
    subst e
    refine tupC hs (Reps.map_p.mpr r) ?_
    rw [cutL_map, mkTup_map]
    exact h
  · obtain ⟨p, xs, e, hs, r⟩ := ra
    subst e
    exact tupC hs r h
  · split at h
    · rename_i l q
      obtain ⟨p, h1, h2, xs, h3, h4⟩ := s.get ra q
      subst h2
      exact .inr (.inr ⟨p, xs, rfl, SqL.of h3, fun t ht => h.lst s (cutL_reps h4 lo hi) ht⟩)
    · rename_i l q
      obtain ⟨p, h1, h2, ob, xs, h3, h4⟩ := s.get ra q
      subst h2
      exact .inr (.inr ⟨p, xs, rfl, .inl (.inr ⟨ob, h3⟩), fun t ht => h.lst s (cutL_reps h4 lo hi) ht⟩)
    · exact h.no
  · exact h.no
end
end Lt
end S_Lt6

section S_Lt7
set_option Elab.async false
set_option linter.all false
set_option maxRecDepth 100000
set_option maxHeartbeats 1000000
/-! Lt7: calls of what is built in. -/
namespace Lt
open PySem PySem.Spec L2
theorem toS_tl (l : List Nat) : TL.tl (toS l) = l := rfl
theorem str_eq (i : Int) : Str.ofString (toString i) = toS (strI i) := by
  refine TL.ext_tl ?_
  rw [toS_tl]
  unfold strI
  by_cases h : 0 ≤ i
  · rw [if_pos h]
    obtain ⟨n, rfl⟩ := Int.eq_ofNat_of_zero_le h
    exact TL.tl_num n
  · rw [if_neg h]
    obtain ⟨n, rfl⟩ : ∃ n : Nat, i = -((n : Int) + 1) := ⟨(-i - 1).toNat, by omega⟩
    have e1 : (- -((n : Int) + 1)).toNat = n + 1 := by omega
    rw [e1]
    have e2 : toString (-((n : Int) + 1)) = "-" ++ toString (n + 1) := by
      have : (-((n : Int) + 1)) = Int.negSucc n := rfl
      rw [this]
      rfl
    rw [e2, TL.tl_ofString, String.toList_append, List.map_append]
    have e3 := TL.tl_num (n + 1)
    rw [TL.tl_ofString] at e3
    have e4 : toString (((n + 1 : Nat)) : Int) = toString (n + 1) := rfl
    rw [e4] at e3
    rw [e3]
    rfl
def BltOk (X : Cx) (f : List D → Store → R D) (u : Value) : Prop := ∃ r, CallR X u r ∧ ∀ {μ : List Addr} {H : Hp} {st : Store} {ds : List D} {vs : List V} {Q : VK} {W : XK} {pn : List (Addr × Obj)},
  StR X.K H μ st → Reps X.K H μ ds vs → Post X.K μ H (relS X.K pn) (f ds st) Q W → r vs H Q
section
variable {K : PySem.W.Frag} {H : Hp} {μ : List Addr} {pn : List (Addr × Obj)} {st : Store} {W : XK}
theorem reps1 {d : D} {vs : List V} (h : Reps K H μ [d] vs) : ∃ v, vs = [v] ∧ Rep K H μ d v := by
  obtain ⟨v, r, e, h1, h2⟩ := h
  rw [show r = [] from h2] at e
  exact ⟨v, e, h1⟩
theorem strsOf_rep : ∀ {l : List D} {xs : List V} {ss : List (List Nat)}, Reps K H μ l xs → strsOf l = some ss → xs = (ss.map toS).map V.str
  | [], _, _, h, e => by
    rw [show _ = [] from h]
    have e' : ([] : List (List Nat)) = _ := Option.some.inj e
    rw [← e']; rfl
  | .p x :: l, _, ss, ⟨v, r, e1, h1, h2⟩, e => by
    cases x with
    | str s =>
      cases q : strsOf l with
      | none => simp [strsOf, q] at e
      | some ys =>
        simp [strsOf, q] at e
        rw [← e, e1, strsOf_rep h2 q, show v = V.str (toS s) from h1]
        rfl
    | _ => cases e
  | .tup _ :: _, _, _, _, e => by cases e
  | .ref _ :: _, _, _, _, e => by cases e
  | .exc _ :: _, _, _, _, e => by cases e
theorem boolsOf_rep : ∀ {l : List D} {xs : List V} {ss : List Bool}, Reps K H μ l xs → boolsOf l = some ss → xs = ss.map V.bl
  | [], _, _, h, e => by
    rw [show _ = [] from h]
    have e' : ([] : List Bool) = _ := Option.some.inj e
    rw [← e']; rfl
  | .p x :: l, _, ss, ⟨v, r, e1, h1, h2⟩, e => by
    cases x with
    | bl s =>
      cases q : boolsOf l with
      | none => simp [boolsOf, q] at e
      | some ys =>
        simp [boolsOf, q] at e
        rw [← e, e1, boolsOf_rep h2 q, show v = V.bl s from h1]
        rfl
    | _ => cases e
  | .tup _ :: _, _, _, _, e => by cases e
  | .ref _ :: _, _, _, _, e => by cases e
  | .exc _ :: _, _, _, _, e => by cases e
end
section
variable {X : Cx}
theorem len_ok : BltOk X bLen (.builtin "len") := by
  refine ⟨_, call_len, fun {μ H st ds vs Q W pn} s r h => ?_⟩
  unfold bLen at h
  split at h
  · rename_i z
    obtain ⟨v, rfl, h1⟩ := reps1 r
    cases h1
    split at h
    · rename_i hl
      exact ⟨_, z.length, rfl, ⟨by rw [toS_len, ← line_eq]; exact hl, (toS_len z).symm⟩, h.int s⟩
    · exact h.no
  · rename_i d _
    obtain ⟨v, rfl, h1⟩ := reps1 r
    cases q : seqOf d st with
    | none => rw [q] at h; exact h.no
    | some l =>
      rw [q] at h
      obtain ⟨a, xs, rfl, hs, r1⟩ := seqOf_rep s h1 q
      refine ⟨_, l.length, rfl, ?_, h.int s⟩
      rcases hs with hs | hs
      · exact .inl ⟨xs, hs, r1.length.symm⟩
      · exact .inr ⟨xs, hs, r1.length.symm⟩
  · exact h.no
theorem abs_ok : BltOk X bAbs (.builtin "abs") := by
  refine ⟨_, call_abs, fun {μ H st ds vs Q W pn} s r h => ?_⟩
  unfold bAbs at h
  split at h
  · obtain ⟨v, rfl, h1⟩ := reps1 r
    cases h1
    exact ⟨_, rfl, h.int s⟩
  · exact h.no
theorem int_ok : BltOk X bInt (.type "int") := by
  refine ⟨_, call_int1.or call_int_str, fun {μ H st ds vs Q W pn} s r h => ?_⟩
  unfold bInt at h
  split at h
  · obtain ⟨v, rfl, h1⟩ := reps1 r
    cases h1
    exact .inl (.inl ⟨_, rfl, h.int s⟩)
  · obtain ⟨v, rfl, h1⟩ := reps1 r
    cases h1
    exact .inl (.inr ⟨_, rfl, h.int s⟩)
  · rename_i z
    obtain ⟨v, rfl, h1⟩ := reps1 r
    cases h1
    split at h
    · rename_i hl
      cases q : PySem.intText? (toS z) with
      | none => rw [q] at h; exact h.no
      | some n =>
        rw [q] at h
        exact .inr ⟨_, n, rfl, q, by rw [toS_len]; exact hl, h.int s⟩
    · exact h.no
  · exact h.no
/-- the machine's setting of the longest text of an int is as it came -/
def NoDig (K : PySem.W.Frag) : Prop := PySem.W.nsIn K cStatics "sys.int_max_str_digits" = some none
theorem noDig_of {K : PySem.W.Frag} {h : Heap} {mc : Str → Option Value} (hd : NoDig K) (hK : K.In h) (N : h.Ns cStatics mc) : mc "sys.int_max_str_digits" = none := by
  obtain ⟨ob, ds, n, e1, e2, _, e4⟩ := N
  have e := hd
  unfold NoDig PySem.W.nsIn at e
  split at e
  · rename_i q
    have z := hK _ _ q
    rw [e1] at z
    cases z
    cases e2
    split at e
    · cases e
    · rename_i w
      rw [← e4]
      unfold nsFind findBy
      rw [← Array.find?_toList, w]
      rfl
  · cases e
def rStrI : List V → Hp → VK → Prop := fun xs H Q => ∃ i : Int, xs = [.int i] ∧ i.natAbs < 10 ^ 4300 ∧ Q (.str (Str.ofString (toString i))) H
theorem call_str_big (hc : X.calm = true) (hd : NoDig X.K) : CallR X (.type "str") rStrI := by
  intro pins s σ H xs us Q I r h
  obtain ⟨i, rfl, hi, q⟩ := h
  obtain ⟨u, rfl, ru⟩ := vals1 r
  obtain ⟨t, rfl⟩ := ru
  refine PyProof.Rows.str_of_int_or (I.ok.hd hc) ?_ (fun _ => ⟨.str _, H, I.tok _, ⟨_, rfl⟩, q⟩) fun z => absurd hi (Nat.not_lt.mpr z)
  obtain ⟨mc, h1, _⟩ := I.nolimit
  exact ⟨mc, h1, noDig_of hd I.kIn h1⟩
theorem str_ok (hc : X.calm = true) (hd : NoDig X.K) : BltOk X bStr (.type "str") := by
  refine ⟨_, call_str_int.or ((call_str_big hc hd).or SkE.call_str_str), fun {μ H st ds vs Q W pn} s r h => ?_⟩
  unfold bStr at h
  split at h
  · obtain ⟨v, rfl, h1⟩ := reps1 r
    cases h1
    split at h
    · rename_i hl
      unfold intOk at hl
      simp only [Bool.or_eq_true, decide_eq_true_eq] at hl
      rcases hl with hl | hl
      · exact .inl ⟨_, rfl, hl, by rw [str_eq]; exact h.str s⟩
      · exact .inr (.inl ⟨_, rfl, hl, by rw [str_eq]; exact h.str s⟩)
    · exact h.no
  · obtain ⟨v, rfl, h1⟩ := reps1 r
    cases h1
    exact .inr (.inr ⟨_, rfl, h.str s⟩)
  · exact h.no
def rRepr (K : PySem.W.Frag) : List V → Hp → VK → Prop := fun xs H Q => ∃ x d, xs = [x] ∧ Dp K H x d ∧ SeqAt.shaped d = true ∧ d.showable = true ∧ d.shown.length ≤ sizeLine ∧ Q (.str d.shown) H
theorem call_repr (hg : X.A.guards = some []) (hu : X.A.units + 65 < cLine) : CallR X (.builtin "repr") (rRepr X.K) := by
  intro pins s σ H xs us Q I r h
  obtain ⟨x, d, rfl, hd, sh, hs, hz, q⟩ := h
  obtain ⟨u, rfl, rx⟩ := vals1 r
  have hdep := SeqAt.depth_of_shaped sh
  have hno : d.hasDict = false := PyData.hasDict_of_canLay d (SeqAt.canLay_of_shaped sh)
  have fin : ∀ {h' : Heap} {t : Tok} {tk : Nat}, (∀ b o, s.heap.get? b = some o → h'.get? b = some o) → EP X pins σ Q (.str d.shown t) { s with heap := h', toks := tk } := fun {h' t tk} k => ⟨.str d.shown, H, I.kept k, ⟨t, rfl⟩, q⟩
  cases d with
  | none => cases hd; cases rx; exact PySem.P.repr_of_none (fin fun _ _ e => e)
  | bool b => cases hd; cases rx; exact PySem.P.repr_of_bool (fin fun _ _ e => e)
  | int i =>
    cases hd
    obtain ⟨t, rfl⟩ := rx
    exact PySem.P.repr_of_int (by simpa [PyData.showable] using hs) (fin fun _ _ e => e)
  | str z =>
    cases hd
    obtain ⟨t, rfl⟩ := rx
    exact PySem.P.repr_of_str (fin fun _ _ e => e) hz
  | list ds =>
    obtain ⟨as, rd⟩ := Dp.reads I _ x u hd rx
    cases hd
    cases rx
    exact repr_of_reads' rd hs (PyData.noDict_hsm hno) hg (by omega) (fun _ _ e => e) (fun h' t tk k => fin k) hz
  | tuple ds =>
    obtain ⟨as, rd⟩ := Dp.reads I _ x u hd rx
    cases hd
    cases rx
    exact repr_of_reads' rd hs (PyData.noDict_hsm hno) hg (by omega) (fun _ _ e => e) (fun h' t tk k => fin k) hz
  | dict kvs => cases hd
theorem repr_ok (hg : X.A.guards = some []) (hu : X.A.units + 65 < cLine) : BltOk X bRepr (.builtin "repr") := by
  refine ⟨_, call_repr hg hu, fun {μ H st ds vs Q W pn} s r h => ?_⟩
  unfold bRepr at h
  split at h
  · rename_i d
    obtain ⟨v, rfl, h1⟩ := reps1 r
    cases q : pdOf st 64 d with
    | none => rw [q] at h; exact h.no
    | some x =>
      rw [q] at h
      dsimp only at h
      split at h
      · rename_i hc
        simp only [Bool.and_eq_true, decide_eq_true_eq] at hc
        have e : Q (.str (toS x.shown.cps.toList)) H := h.str s
        have e2 : toS x.shown.cps.toList = x.shown := Str.ext' (Array.toList_inj.mp rfl)
        rw [e2] at e
        exact ⟨v, x, rfl, pdOf_dp s _ _ _ _ h1 q, hc.1.1, hc.1.2, by rw [← line_eq]; exact hc.2, e⟩
      · exact h.no
  · exact h.no
/-- a list of the store, by its items -/
theorem seqL_rep {K : PySem.W.Frag} {H : Hp} {μ : List Addr} {st : Store} {n : Nat} {l : List D} {v : V} (s : StR K H μ st) (h : Rep K H μ (.ref n) v) (e : seqOf (.ref n) st = some l) : ∃ a xs, v = .ref a ∧ SqL K H a xs ∧ Reps K H μ l xs := by
  have e : (match st[n]? with
    | some (.lst l) => some l
    | some (.ro l) => some l
    | _ => none) = some l := e
  cases q : st[n]? with
  | none => rw [q] at e; cases e
  | some o =>
    rw [q] at e
    obtain ⟨a, h1, h2, h3⟩ := s.get h q
    cases o with
    | lst l' =>
      have e' : l' = l := Option.some.inj e
      subst e'
      obtain ⟨xs, hx, r⟩ := h3
      exact ⟨a, xs, h2, SqL.of hx, r⟩
    | ro l' =>
      have e' : l' = l := Option.some.inj e
      subst e'
      obtain ⟨ob, xs, hx, r⟩ := h3
      exact ⟨a, xs, h2, .inl (.inr ⟨ob, hx⟩), r⟩
    | ins _ _ _ => cases e
    | dic _ => cases e
theorem all_ok (hc : X.calm = true) : BltOk X bAll (.builtin "all") := by
  refine ⟨_, cr_all hc, fun {μ H st ds vs Q W pn} s r h => ?_⟩
  unfold bAll at h
  split at h
  · rename_i n
    obtain ⟨v, rfl, h1⟩ := reps1 r
    cases q : seqOf (.ref n) st with
    | none => rw [q] at h; exact h.no
    | some l =>
      rw [q] at h
      dsimp only [Option.bind] at h
      cases q2 : boolsOf l with
      | none => rw [q2] at h; exact h.no
      | some bs =>
        rw [q2] at h
        obtain ⟨a, xs, e, hs, r1⟩ := seqL_rep s h1 q
        subst e
        have e := boolsOf_rep r1 q2
        subst e
        exact ⟨a, bs, rfl, hs, h.bl s⟩
  · exact h.no
theorem any_ok (hc : X.calm = true) : BltOk X bAny (.builtin "any") := by
  refine ⟨_, cr_any hc, fun {μ H st ds vs Q W pn} s r h => ?_⟩
  unfold bAny at h
  split at h
  · rename_i n
    obtain ⟨v, rfl, h1⟩ := reps1 r
    cases q : seqOf (.ref n) st with
    | none => rw [q] at h; exact h.no
    | some l =>
      rw [q] at h
      dsimp only [Option.bind] at h
      cases q2 : boolsOf l with
      | none => rw [q2] at h; exact h.no
      | some bs =>
        rw [q2] at h
        obtain ⟨a, xs, e, hs, r1⟩ := seqL_rep s h1 q
        subst e
        have e := boolsOf_rep r1 q2
        subst e
        exact ⟨a, bs, rfl, hs, h.bl s⟩
  · exact h.no
theorem list_ok : BltOk X bList (.type "list") := by
  refine ⟨_, call_list_of, fun {μ H st ds vs Q W pn} s r h => ?_⟩
  unfold bList at h
  split at h
  · rename_i d
    obtain ⟨v, rfl, h1⟩ := reps1 r
    cases q : seqOf d st with
    | none => rw [q] at h; exact h.no
    | some l =>
      rw [q] at h
      obtain ⟨a, xs, rfl, hs, r1⟩ := seqOf_rep s h1 q
      exact ⟨a, xs, rfl, hs, fun t ht => h.lst s r1 ht⟩
  · exact h.no
theorem tuple_ok : BltOk X bTuple (.type "tuple") := by
  refine ⟨_, call_tuple_of, fun {μ H st ds vs Q W pn} s r h => ?_⟩
  unfold bTuple at h
  split at h
  · rename_i d
    obtain ⟨v, rfl, h1⟩ := reps1 r
    cases q : seqOf d st with
    | none => rw [q] at h; exact h.no
    | some l =>
      rw [q] at h
      obtain ⟨a, xs, rfl, hs, r1⟩ := seqOf_rep s h1 q
      refine ⟨a, xs, rfl, ?_⟩
      rcases hs with hs | hs
      · exact .inl ⟨hs, fun t ht => h.tup s r1 ht⟩
      · exact .inr ⟨hs, h.told s hs r1⟩
  · exact h.no
/-- a built-in function or a built-in type -/
def bltV (x : Str) (u : Value) : Prop := bootBuiltins x = some u ∧ ((∃ id, u = .builtin id) ∨ ∃ T, u = .type T)
theorem blt_ok (hc : X.calm = true) (hdg : NoDig X.K) (hg : X.A.guards = some []) (hu : X.A.units + 65 < cLine) {x : Str} {f : List D → Store → R D} (h : blt x = some f) : ∃ u, bltV x u ∧ BltOk X f u := by
  unfold blt at h
  split at h
  · rename_i e; subst e; cases h; exact ⟨_, ⟨by decide +kernel, .inl ⟨_, rfl⟩⟩, len_ok⟩
  split at h
  · rename_i e; subst e; cases h; exact ⟨_, ⟨by decide +kernel, .inr ⟨_, rfl⟩⟩, int_ok⟩
  split at h
  · rename_i e; subst e; cases h; exact ⟨_, ⟨by decide +kernel, .inr ⟨_, rfl⟩⟩, str_ok hc hdg⟩
  split at h
  · rename_i e; subst e; cases h; exact ⟨_, ⟨by decide +kernel, .inl ⟨_, rfl⟩⟩, repr_ok hg hu⟩
  split at h
  · rename_i e; subst e; cases h; exact ⟨_, ⟨by decide +kernel, .inl ⟨_, rfl⟩⟩, all_ok hc⟩
  split at h
  · rename_i e; subst e; cases h; exact ⟨_, ⟨by decide +kernel, .inl ⟨_, rfl⟩⟩, any_ok hc⟩
  split at h
  · rename_i e; subst e; cases h; exact ⟨_, ⟨by decide +kernel, .inr ⟨_, rfl⟩⟩, list_ok⟩
  split at h
  · rename_i e; subst e; cases h; exact ⟨_, ⟨by decide +kernel, .inr ⟨_, rfl⟩⟩, tuple_ok⟩
  split at h
  · rename_i e; subst e; cases h; exact ⟨_, ⟨by decide +kernel, .inl ⟨_, rfl⟩⟩, abs_ok⟩
  · cases h
/-- isinstance against a built-in type -/
theorem ty_cases {T : Str} (h : tyName T = true) : T = "int" ∨ T = "str" ∨ T = "tuple" ∨ T = "list" ∨ T = "bool" := by
  unfold tyName at h
  simp only [Bool.or_eq_true, decide_eq_true_eq] at h
  rcases h with (((h | h) | h) | h) | h
  · exact .inl h
  · exact .inr (.inl h)
  · exact .inr (.inr (.inl h))
  · exact .inr (.inr (.inr (.inl h)))
  · exact .inr (.inr (.inr (.inr h)))
def tyOf (T : Str) : String := if T = "int" then "int" else if T = "str" then "str" else if T = "tuple" then "tuple" else if T = "list" then "list" else "bool"
theorem ty_boot {T : Str} (h : tyName T = true) : bootBuiltins T = some (.type (tyOf T)) := by
  rcases ty_cases h with e | e | e | e | e <;> subst e <;> decide +kernel
/-- a value's built-in type -/
theorem sq_ty {K : PySem.W.Frag} {H : Hp} {a : Addr} {xs : List V} (h : SqT K H a xs) : TyX K H (.ref a) (.type "tuple") := by
  rcases h with (h | ⟨o, h⟩) | ⟨o, its, n, hk, hc, _⟩
  · exact .base (.tup h)
  · exact .fTuple h
  · exact .kTuple hk hc
theorem isi_ok {T : Str} {d : D} {v : V} {H : Hp} {μ : List Addr} {st : Store} {W : XK} {pn : List (Addr × Obj)} {Q : VK} (hT : tyName T = true) (s : StR X.K H μ st) (r : RepS X.K H μ pn d v) (h : Post X.K μ H (relS X.K pn) (ofO (isTy T d st) st) Q W) :
    rIsi X.K [v, .ty (tyOf T)] H Q := by
  have go : ∀ {n a : String} {b : Bool}, kitB a n = some b → TyX X.K H v (.type a) → Q (.bl b) H → rIsi X.K [v, .ty n] H Q := fun {n a b} e ty q => ⟨v, .ty n, _, _, b, rfl, .ty n, ty, kit_ty e, q⟩
  unfold isTy at h
  split at h
  · cases r
    have h := h.bl s
    rcases ty_cases hT with e | e | e | e | e <;> subst e <;> exact go (by decide +kernel) (.base .non) h
  · cases r
    rcases ty_cases hT with e | e | e | e | e <;> subst e <;> exact go (by decide +kernel) (.base (.bl _)) (Post.bl (i := _) s h)
  · cases r
    have h := h.bl s
    rcases ty_cases hT with e | e | e | e | e <;> subst e <;> exact go (by decide +kernel) (.base (.int _)) h
  · cases r
    have h := h.bl s
    rcases ty_cases hT with e | e | e | e | e <;> subst e <;> exact go (by decide +kernel) (.base (.str _)) h
  · obtain ⟨a, xs, e1, hs, _⟩ := r
    subst e1
    have h := h.bl s
    rcases ty_cases hT with e | e | e | e | e <;> subst e <;> exact go (by decide +kernel) (sq_ty hs) h
  · obtain ⟨a, xs, e1, hs, _⟩ := r
    subst e1
    have h := h.bl s
    rcases ty_cases hT with e | e | e | e | e <;> subst e <;> exact go (by decide +kernel) (sq_ty hs) h
  · split at h
    · rename_i l q
      obtain ⟨a, h1, h2, xs, h3, h4⟩ := s.get r q
      subst h2
      have h := h.bl s
      rcases ty_cases hT with e | e | e | e | e <;> subst e <;> exact go (by decide +kernel) (.base (.lst h3)) h
    · exact h.no
  · exact h.no
end
end Lt
end S_Lt7

section S_Lt8
set_option Elab.async false
set_option linter.all false
set_option maxRecDepth 100000
set_option maxHeartbeats 1000000
/-! Lt8: a def and its promise; the context in which a text is read. -/
namespace Lt
open PySem PySem.Spec L2
open PyProof.Rows hiding St
/-- what a def promises: what the machine's function F gives -/
def spF (K : PySem.W.Frag) (np : Nat) (F : List D → Store → R D) : Sp := fun vs H Q E => vs.length = np ∧ ∃ μ ds st, Reps K H μ ds vs ∧ StR K H μ st ∧ Post K μ H (fun H' μ' d v => Rep K H' μ' d v) (F ds st) Q E
/-- a def keeps a promise wherever no repr is under way -/
structure FnL (P : Program) (w : World) (K : PySem.W.Frag) (mg : Str → Option Value) (base : Heap) (k : Nat) (f : Addr) (fd : FuncData) (ps : List Str) (sp : Sp) : Prop where
  len : ∀ vs H Q E, sp vs H Q E → vs.length = ps.length
  run : ∀ (A : Around) (outer : List Env) (s : Shared) (H : Hp) (args : Args) (us : List Value) (vs : List V) (Q : VK) (E : XK), Room k A → A.guards = some [] → Env0 P w K mg base A outer s H → BindsTo s fd args (ps.zip us) → Vals vs us →
    sp vs H Q E → codeAny (model P w) A (.call (.ref f) args) (CR (L2.CX P w) outer P w H s Q E) s
section
variable {P : Program} {w : World} {K : PySem.W.Frag} {mg : Str → Option Value} {base : Heap} {f : Addr} {fd : FuncData}
theorem FnL.mono {j k : Nat} {ps : List Str} {sp : Sp} (F : FnL P w K mg base j f fd ps sp) (h : j ≤ k) : FnL P w K mg base k f fd ps sp := ⟨F.len, fun A outer s H args us vs Q E hr => F.run A outer s H args us vs Q E (hr.mono h)⟩
theorem guards_deeper {A : Around} {env : Env} : (A.deeper env).guards = A.guards := rfl
/-- a def of the text keeps its promise, by its body -/
theorem FnL.of {x qual : Str} {params : Arguments} {body : List Stmt} {scope : Scope} {dvs : List V} {kws : List (Str × V)} {N ps : List Str} {k : Nat} {sp : Sp} (F : FunD K x qual params body scope dvs kws f fd) (S : FnScope N ps scope)
    (len : ∀ vs H Q E, sp vs H Q E → vs.length = ps.length)
    (hb : ∀ (cd : Value) (A : Around) (outer : List Env) (s : Shared) (H : Hp) (vs : List V) (Q : VK) (E : XK), Room k (A.deeper (envOfC qual scope s.heap.objs.size f cd)) → A.guards = some [] → sp vs H Q E →
      ∃ t, PSs (cxOf (L2.CX P w) P w K mg base N qual scope f cd A outer s H E) body t ∧ t { nx := fun _ H' => Q .non H', rt := Q } (start N vs) H) : FnL P w K mg base (k + 1) f fd ps sp := by
  obtain ⟨c0, d0, vd, vk, dc, vm, na, cd, ct, sl, rfl, look, code, _, _⟩ := F.ex
  refine ⟨len, fun A outer s H args us vs Q E room gu e0 bind rel hsp => ?_⟩
  have at_ : ∀ b o, base.get? b = some o → s.heap.get? b = some o := fun b o z => (e0.bs b o z).1
  have written : K.In s.heap := e0.mod.kin.keeps at_
  have many := len _ _ _ _ hsp
  have kinds : ∀ y ∈ ps.zip us, scope.names.lookup y.1 = some .local ∨ (scope.names.lookup y.1 = some .cell ∧ ((cellsFrom (s.heap.objs.size + 1) scope.names []).lookup y.1).isSome = true) := by
    rintro ⟨n, v⟩ hy
    cases S.par n (List.of_mem_zip hy).1 with
    | inl q => exact .inl q
    | inr q => exact .inr ⟨q, PySem.W.cellsFrom_some _ _ _ (.inl q)⟩
  refine codeAny_call_function room.depth (written _ _ look) rfl S.co S.gen rfl (PySem.W.codeRec_of written code) (bind _ _ _ _ ?_)
  refine wpAny_newFunctionEnv_cells S.kind kinds fun env hev s1 ic => ?_
  subst hev
  refine ⟨(e0.mod.nolimit.keeps at_).keeps ic.toInCall.keep, codeAny_func ?_⟩
  obtain ⟨t, ht, hq⟩ := hb cd A outer s H vs Q E (room.deeper _) gu hsp
  have I := inv_start (CX := L2.CX P w) (E := E) S room.hd e0 many rel ic
  refine wpAny_mono (ht.run [] s1 (start N vs) H _ I hq) (fun fl s2 z => ?_) fun e s2 z => z
  cases fl with
  | next =>
    obtain ⟨σ2, H2, J, q⟩ := z
    exact ⟨V.non, H2, J.os, J.bare, J.base, J.hok, rfl, q⟩
  | ret u =>
    obtain ⟨v, σ2, H2, J, r2, q⟩ := z
    exact ⟨v, H2, J.os, J.bare, J.base, J.hok, r2, q⟩
  | brk => obtain ⟨_, _, _, q⟩ := z; exact q.elim
  | cont => obtain ⟨_, _, _, q⟩ := z; exact q.elim
end
section
variable {X : Cx} {k : Nat} {f C : Addr} {fd : FuncData} {ps : List Str} {sp : Sp} {E : XK}
/-- a call of it from a body -/
theorem FnL.call {pins : List (Addr × Obj)} {σ : L2.St} {H : Hp} {s : Shared} {Q : VK} {us : List Value} {vs : List V} (F : FnL X.prog X.w X.K X.mg X.base k f fd ps sp) (hr : Room k X.A) (gu : X.A.guards = some []) (hb : Binds X.K fd ps []) (hx : PassesAt (L2.CX X.prog X.w) X σ E)
    (I : Inv X pins σ H s) (r : Vals vs us) (h : sp vs H Q E) : wpAny (model X.prog X.w) X.A (PySem.call (.ref f) us) (EP X pins σ Q) X.xe s := by
  have many : us.length = ps.length := by rw [← r.length]; exact F.len _ _ _ _ h
  have bt := hb s us I.kIn (by rw [List.append_nil]; exact many)
  rw [List.append_nil] at bt
  refine wpAny_call (codeAny_mono (F.run X.A X.stack s H ⟨us, []⟩ us vs Q E hr gu I.env0 bt r h) fun res s2 z => ?_)
  cases res with
  | error e => exact hx pins H s e s2 I z
  | ok fl => cases fl <;> first | exact z.elim | exact I.after z
theorem guards_make {A : Around} {us : List Value} {kw : List (Str × Value)} : (A.under (.builtin "type.__call__" ⟨.ref C :: us, kw⟩)).guards = A.guards := by
  cases A
  first
    | rfl
    | simp [Around.under, Code.isGuard, guardIds]
/-- an instance made, by its __init__ -/
theorem FnL.make {pins : List (Addr × Obj)} {σ : L2.St} {H : Hp} {s : Shared} {Q : VK} {us : List Value} {vs : List V} (M : Mk X.K C f) (F : FnL X.prog X.w X.K X.mg X.base k f fd ps sp) (hr : Room (k + 1) X.A) (gu : X.A.guards = some []) (hb : Binds X.K fd ps []) (hx : PassesAt (L2.CX X.prog X.w) X σ E)
    (I : Inv X pins σ H s) (r : Vals vs us) (h : ∀ x dx, H x = none → H dx = none → dx ≠ x → sp (.ref x :: vs) (upd (upd H dx (.own x)) x (.ins C dx [])) (fun v H2 => v = .non ∧ Q (.ref x) H2) E) :
    wpAny (model X.prog X.w) X.A (PySem.call (.ref C) us) (EP X pins σ Q) X.xe s := by
  have w1 := h (s.heap.objs.size + 1) s.heap.objs.size (I.hok.fresh (Nat.le_succ _)) (I.hok.fresh (Nat.le_refl _)) (Nat.ne_of_lt (Nat.lt_succ_self _))
  have J := Inv.made (C := C) I
  have rr : Vals (V.ref (s.heap.objs.size + 1) :: vs) (Value.ref (s.heap.objs.size + 1) :: us) := .cons rfl r
  have many : (Value.ref (s.heap.objs.size + 1) :: us).length = ps.length := by rw [← rr.length]; exact F.len _ _ _ _ w1
  have bt := hb _ (Value.ref (s.heap.objs.size + 1) :: us) J.kIn (by rw [List.append_nil]; exact many)
  rw [List.append_nil] at bt
  refine wpAny_call (make_map (f := f) I.kIn M.makes M.init (beq_iff_eq.mp M.fn) (codeAny_mono (F.run _ X.stack _ _ ⟨Value.ref (s.heap.objs.size + 1) :: us, []⟩ _ _ _ E (hr.make C us []) (guards_make.trans gu) (J.env0.make C us []) bt rr w1) fun res s2 z => ?_))
  cases res with
  | error e => exact hx pins _ _ e s2 J z
  | ok fl =>
    cases fl with
    | ret u =>
      obtain ⟨v, H', J2, rv, ev, q⟩ := J.after z
      subst ev
      exact ⟨rv, ⟨V.ref (s.heap.objs.size + 1), H', J2, rfl, q⟩⟩
    | next => exact z.elim
    | brk => exact z.elim
    | cont => exact z.elim
end
/-! ### a call by data alone -/
section
variable {K : PySem.W.Frag} {H H' : Hp} {μ μ' : List Addr} {st st' : Store} {pn : List (Addr × Obj)} {W : XK}
mutual
theorem Rep.shift : ∀ (d : D) (v : V), Rep K H μ' d v → Rep K H (μ ++ μ') (shD μ.length d) v
  | .p x, v, h => h
  | .tup l, v, ⟨a, xs, e, s, r⟩ => ⟨a, xs, e, s, Reps.shift l xs r⟩
  | .ref n, v, ⟨a, h, e⟩ => ⟨a, by rw [List.getElem?_append_right (Nat.le_add_right _ _), Nat.add_sub_cancel_left]; exact h, e⟩
  | .exc _, _, h => h
theorem Reps.shift : ∀ (l : List D) (xs : List V), Reps K H μ' l xs → Reps K H (μ ++ μ') (shDs μ.length l) xs
  | [], _, h => h
  | d :: ds, _, ⟨v, r, e, h1, h2⟩ => ⟨v, r, e, Rep.shift d v h1, Reps.shift ds r h2⟩
end
theorem shDs_map (k : Nat) : ∀ l : List D, shDs k l = l.map (shD k)
  | [] => rfl
  | d :: r => by rw [shDs, shDs_map k r]; rfl
theorem RepO.shift {o : SO} {a : Addr} (h : RepO K H μ' o a) : RepO K H (μ ++ μ') (shO μ.length o) a := by
  cases o with
  | lst l => obtain ⟨xs, e, r⟩ := h; exact ⟨xs, e, Reps.shift _ _ r⟩
  | ro l => obtain ⟨o, xs, e, r⟩ := h; exact ⟨o, xs, e, Reps.shift _ _ r⟩
  | ins C F fs =>
    obtain ⟨c, dx, vfs, e, n, r⟩ := h
    refine ⟨c, dx, vfs, e, by rw [List.map_map]; exact n, ?_⟩
    have q := Reps.shift (μ := μ) _ _ r
    rw [shDs_map, List.map_map] at q
    rw [List.map_map]
    exact q
  | dic kvs => exact h
theorem Reps.allP : ∀ {l : List D} {xs : List V}, allP l = true → Reps K H μ l xs → Reps K H μ' l xs
  | [], _, _, h => h
  | .p x :: r, _, a, ⟨v, t, e, h1, h2⟩ => ⟨v, t, e, h1, Reps.allP (l := r) a h2⟩
  | .tup _ :: _, _, a, _ => by cases a
  | .ref _ :: _, _, a, _ => by cases a
  | .exc _ :: _, _, a, _ => by cases a
/-- from no store at all -/
theorem Ext.nil (e : Ext [] μ' H H') (s : StR K H μ st) : Ext μ (μ ++ μ') H H' :=
  ⟨⟨μ', rfl⟩, fun b o h _ => e.old b o h (by simp), fun b h => by
    rcases List.mem_append.mp h with z | z
    · exact .inl z
    · rcases e.new b z with y | y
      · cases y
      · exact .inr y, e.tup, e.xd⟩
theorem Ext.nil0 (e : Ext [] μ' H H') : Ext μ μ H H' := ⟨⟨[], by simp⟩, fun b o h _ => e.old b o h (by simp), fun b h => .inl h, e.tup, e.xd⟩
theorem StR.nil0 (e : Ext [] μ' H H') (s : StR K H μ st) : StR K H' μ st := s.same e.nil0 fun a ha => by
  obtain ⟨u, hu, _⟩ := s.there ha
  rw [hu]
  exact e.old a u hu (by simp)
theorem StR.join (e : Ext [] μ' H H') (s : StR K H μ st) (s' : StR K H' μ' st') : StR K H' (μ ++ μ') (st ++ st'.map (shO st.length)) := by
  refine ⟨by rw [List.length_append, List.length_append, List.length_map, s.len, s'.len], ?_, fun n o a h1 h2 => ?_⟩
  · rw [List.nodup_append]
    refine ⟨s.nd, s'.nd, fun a ha b hb z => ?_⟩
    subst z
    obtain ⟨u, hu, _⟩ := s.there ha
    rcases e.new a hb with y | y
    · cases y
    · rw [hu] at y; cases y
  · by_cases hn : n < st.length
    · rw [List.getElem?_append_left hn] at h1
      rw [List.getElem?_append_left (by rw [s.len]; exact hn)] at h2
      have ha : a ∈ μ := List.mem_of_getElem? h2
      obtain ⟨u, hu, _⟩ := s.there ha
      exact (s.at_ n o a h1 h2).ext (e.nil s) (by rw [hu]; exact e.old a u hu (by simp))
    · rw [List.getElem?_append_right (by omega)] at h1
      rw [List.getElem?_append_right (by rw [s.len]; omega), s.len] at h2
      rw [List.getElem?_map] at h1
      cases q : st'[n - st.length]? with
      | none => rw [q] at h1; cases h1
      | some o' =>
        rw [q] at h1
        have e1 : shO st.length o' = o := Option.some.inj h1
        rw [← e1, ← s.len]
        exact (s'.at_ _ o' a q (by rw [← s.len] at h2 ⊢; exact h2)).shift
theorem callD_ok {call : CallT} {f : Defn} {ds : List D} {vs : List V} {np : Nat} {Q : VK} (hl : vs.length = np) (s : StR K H μ st) (r : Reps K H μ ds vs) (h : Post K μ H (relS K pn) (callD call f ds st) Q W) : spF K np (call f) vs H Q W := by
  refine ⟨hl, ?_⟩
  unfold callD at h
  split at h
  · rename_i ha
    have s0 : StR K H [] [] := ⟨rfl, List.nodup_nil, fun n o a h1 _ => by simp at h1⟩
    refine ⟨[], ds, [], Reps.allP ha r, s0, ?_⟩
    cases q : call f ds [] with
    | no => rw [q] at h; exact h.no
    | ex x s1 =>
      rw [q] at h
      exact fun dd H1 μ1 e1 t1 xf => h dd H1 μ e1.nil0 (s.nil0 e1) xf
    | ok d s1 =>
      rw [q] at h
      cases d with
      | p x => exact fun v H1 μ1 e1 t1 rx => h v H1 μ e1.nil0 (s.nil0 e1) rx
      | tup l => exact fun v H1 μ1 e1 t1 rx => h v H1 (μ ++ μ1) (e1.nil s) (StR.join e1 s t1) (by rw [← s.len]; exact RepS.of (Rep.shift _ _ rx))
      | ref n => exact fun v H1 μ1 e1 t1 rx => h v H1 (μ ++ μ1) (e1.nil s) (StR.join e1 s t1) (by rw [← s.len]; exact RepS.of (Rep.shift _ _ rx))
      | exc x => exact fun v H1 μ1 e1 t1 rx => (show False from rx).elim
  · refine ⟨μ, ds, st, r, s, ?_⟩
    cases q : call f ds st with
    | no => rw [q] at h; exact h.no
    | ex x s1 => rw [q] at h; exact h
    | ok d s1 =>
      rw [q] at h
      exact fun v H1 μ1 e1 t1 rx => h v H1 μ1 e1 t1 (RepS.of rx)
end
end Lt
end S_Lt8

section S_Lt9
set_option Elab.async false
set_option linter.all false
set_option maxRecDepth 100000
set_option maxHeartbeats 1000000
/-! Lt9: each form of an expression: what the machine says of it, Python does. -/
namespace Lt
open PySem PySem.Spec L2
/-! ### readings by the machine -/
def tE (K : PySem.W.Frag) (pn : List (Addr × Obj)) (W : WX) (m : EM) : TE := fun σ H Q => ∃ μ ρ st, SR K pn H μ σ ρ st ∧ Post K μ H (relS K pn) (m ρ st) Q (fun c d H' => W c d σ H')
def tT (K : PySem.W.Frag) (pn : List (Addr × Obj)) (W : WX) (m : TM) : TT := fun σ H Q => ∃ μ ρ st, SR K pn H μ σ ρ st ∧ Post K μ H relE (m ρ st) Q (fun c d H' => W c d σ H')
def tA (K : PySem.W.Frag) (pn : List (Addr × Obj)) (W : WX) (m : AM) : TA := fun σ H Q => ∃ μ ρ st, SR K pn H μ σ ρ st ∧ Post K μ H (fun H' μ' ds vs => Reps K H' μ' ds vs) (m ρ st) Q (fun c d H' => W c d σ H')
def tOp (K : PySem.W.Frag) (pn : List (Addr × Obj)) (W : WX) (m : OM) : TO := fun σ H Q => ∃ μ ρ st, SR K pn H μ σ ρ st ∧ Post K μ H relE (m ρ st) Q (fun c d H' => W c d σ H')
section
variable {K : PySem.W.Frag} {pn : List (Addr × Obj)} {Wx : WX} {σ : L2.St} {H : Hp} {μ : List Addr} {ρ : Rho} {st : Store}
/-- a part, then the rest -/
theorem bindE {α β : Type} {m : EM} {f : D → Store → R α} {rel : Hp → List Addr → α → β → Prop} {Q : β → Hp → Prop} (x : SR K pn H μ σ ρ st) (h : Post K μ H rel ((m ρ st).bind f) Q (fun c d H' => Wx c d σ H')) {Q' : VK}
    (k : ∀ v H1 μ1 d st1, Ext μ μ1 H H1 → SR K pn H1 μ1 σ ρ st1 → RepS K H1 μ1 pn d v → Post K μ1 H1 rel (f d st1) Q (fun c d H' => Wx c d σ H') → Q' v H1) : tE K pn Wx m σ H Q' :=
  ⟨μ, ρ, st, x, h.bind.mono fun v H1 ⟨μ1, d, st1, e, t, r, p⟩ => k v H1 μ1 d st1 e (x.ext e t) r p⟩
theorem bindT {α β : Type} {m : TM} {f : Bool → Store → R α} {rel : Hp → List Addr → α → β → Prop} {Q : β → Hp → Prop} (x : SR K pn H μ σ ρ st) (h : Post K μ H rel ((m ρ st).bind f) Q (fun c d H' => Wx c d σ H')) {Q' : Bool → Hp → Prop}
    (k : ∀ b H1 μ1 st1, Ext μ μ1 H H1 → SR K pn H1 μ1 σ ρ st1 → Post K μ1 H1 rel (f b st1) Q (fun c d H' => Wx c d σ H') → Q' b H1) : tT K pn Wx m σ H Q' :=
  ⟨μ, ρ, st, x, (h.bind (rel := relE)).mono fun v H1 ⟨μ1, d, st1, e, t, r, p⟩ => by
    have r' : d = v := r
    subst r'
    exact k d H1 μ1 st1 e (x.ext e t) p⟩
theorem bindA {α β : Type} {m : AM} {f : List D → Store → R α} {rel : Hp → List Addr → α → β → Prop} {Q : β → Hp → Prop} (x : SR K pn H μ σ ρ st) (h : Post K μ H rel ((m ρ st).bind f) Q (fun c d H' => Wx c d σ H')) {Q' : List V → Hp → Prop}
    (k : ∀ vs H1 μ1 ds st1, Ext μ μ1 H H1 → SR K pn H1 μ1 σ ρ st1 → Reps K H1 μ1 ds vs → Post K μ1 H1 rel (f ds st1) Q (fun c d H' => Wx c d σ H') → Q' vs H1) : tA K pn Wx m σ H Q' :=
  ⟨μ, ρ, st, x, (h.bind (rel := fun H' μ' ds vs => Reps K H' μ' ds vs)).mono fun v H1 ⟨μ1, d, st1, e, t, r, p⟩ => k v H1 μ1 d st1 e (x.ext e t) r p⟩
theorem bindO {α β : Type} {m : OM} {f : Option Int → Store → R α} {rel : Hp → List Addr → α → β → Prop} {Q : β → Hp → Prop} (x : SR K pn H μ σ ρ st) (h : Post K μ H rel ((m ρ st).bind f) Q (fun c d H' => Wx c d σ H')) {Q' : Option Int → Hp → Prop}
    (k : ∀ b H1 μ1 st1, Ext μ μ1 H H1 → SR K pn H1 μ1 σ ρ st1 → Post K μ1 H1 rel (f b st1) Q (fun c d H' => Wx c d σ H') → Q' b H1) : tOp K pn Wx m σ H Q' :=
  ⟨μ, ρ, st, x, (h.bind (rel := relE)).mono fun v H1 ⟨μ1, d, st1, e, t, r, p⟩ => by
    have r' : d = v := r
    subst r'
    exact k d H1 μ1 st1 e (x.ext e t) p⟩
end
section
variable {X : Cx} {e : Expr} {t t' : TE} {c c' : TT} {es : List Expr} {a a' : TA}
theorem _root_.L2.PE.imp (h : PE X e t) (i : ∀ σ H Q, t' σ H Q → t σ H Q) : PE X e t' := ⟨fun pins s σ H Q I q => h.run pins s σ H Q I (i _ _ _ q)⟩
theorem _root_.L2.PT.imp (h : PT X e c) (i : ∀ σ H Q, c' σ H Q → c σ H Q) : PT X e c' := ⟨fun pins s σ H Q I q => h.run pins s σ H Q I (i _ _ _ q)⟩
theorem _root_.L2.PW.imp (h : PW X e c) (i : ∀ σ H Q, c' σ H Q → c σ H Q) : PW X e c' := ⟨fun wh pins s σ H Q I q => h.run wh pins s σ H Q I (i _ _ _ q)⟩
theorem _root_.L2.PA.imp (h : PA X es a) (i : ∀ σ H Q, a' σ H Q → a σ H Q) : PA X es a' := ⟨fun pos pins s σ H Q I q => h.run pos pins s σ H Q I (i _ _ _ q)⟩
end
/-- what the machine says of a part -/
abbrev LE (X : Cx) (W : WX) (e : Expr) (m : EM) : Prop := PE X e (tE X.K X.pn W m)
abbrev LT (X : Cx) (W : WX) (e : Expr) (m : TM) : Prop := PT X e (tT X.K X.pn W m)
abbrev LA (X : Cx) (W : WX) (es : List Expr) (m : AM) : Prop := PA X es (tA X.K X.pn W m)
abbrev LO (X : Cx) (W : WX) (e : Option Expr) (m : OM) : Prop := PO X e (tOp X.K X.pn W m)
section
variable {X : Cx} {W : WX} {a b e : Expr} {ma mb mc : EM} {pos : Pos}
theorem le_const {c : Const} {x : P} {j : Nat} (h : cP c = some x) : LE X W (.Constant c j pos) (cM x) := by
  have fin : ∀ {v : V} {t : TE}, (∀ H, RepP X.K H x v) → PE X (.Constant c j pos) (tC v) → LE X W (.Constant c j pos) (cM x) := fun {v t} r p =>
    p.imp fun σ H Q ⟨μ, ρ, st, s, h⟩ => h.p s.st (r H)
  cases c with
  | none => cases h; exact fin (t := tC .non) (fun _ => rfl) pe_non
  | bool b => cases h; exact fin (t := tC .non) (fun _ => rfl) pe_bl
  | int i => cases h; exact fin (t := tC .non) (fun _ => rfl) pe_int
  | str s => cases h; exact fin (t := tC .non) (v := .str s) (fun _ => by
      show V.str s = V.str (toS s.cps.toList)
      exact congrArg V.str (Str.ext' (Array.toList_inj.mp rfl))) pe_str
  | _ => cases h
theorem le_var {i : Nat} {x : Str} (hN : X.N[i]? = some x) (hv : Vis X.env.scope x) (h1 : (x == ("__debug__" : Str)) = false) (h2 : (x == ("__classdict__" : Str)) = false) : LE X W (.Name x pos) (varM i) :=
  (pe_var hN hv h1 h2).imp fun σ H Q ⟨μ, ρ, st, s, h⟩ => by
    unfold varM at h
    split at h
    · rename_i d q
      obtain ⟨v, h1, h2⟩ := s.var i d q
      exact ⟨v, h1, h.val s.st h2⟩
    · exact h.no
theorem le_cst {x : Str} {p : P} {v : V} {u : Value} (hg : Gl X x) (hm : X.mg x = some u) (r : RelV v u) (hr : ∀ H, RepP X.K H p v) (h1 : (x == ("__debug__" : Str)) = false) : LE X W (.Name x pos) (cM p) :=
  (pe_glob hg hm r h1).imp fun σ H Q ⟨μ, ρ, st, s, h⟩ => h.p s.st (hr H)
theorem le_bin {op : Operator} (ha : LE X W a ma) (hb : LE X W b mb) : LE X W (.BinOp a op b pos) (op2M (binD op) ma mb) :=
  (pe_op (rBin_ok op) ha hb).imp fun σ H Q ⟨μ, ρ, st, s, h⟩ => bindE s h fun v H1 μ1 d1 st1 e1 s1 r1 p1 => bindE s1 p1 fun u H2 μ2 d2 st2 e2 s2 r2 p2 => bin_ok s2.st (r1.ext e2) r2 p2
theorem le_un {op : UnaryOp} (ha : LE X W a ma) : LE X W (.UnaryOp op a pos) (op1M (unD op) ma) :=
  (pe_un (rUn_ok op) ha).imp fun σ H Q ⟨μ, ρ, st, s, h⟩ => bindE s h fun v H1 μ1 d1 st1 e1 s1 r1 p1 => un_ok s1.st r1 p1
theorem set_mark {op : CmpOp} (h : isSet b = false) : behindInMarks op b = false := by
  cases b <;> first | rfl | cases h
theorem le_cmp {op : CmpOp} (hu : X.A.units + 64 < cLine) (hs : isSet b = false) (ha : LE X W a ma) (hb : LE X W b mb) : LE X W (.Compare a [op] [b] pos) (op2M (cmpD op) ma mb) :=
  (pe_cmpR (rCmp_ok hu op) ha hb (set_mark hs)).imp fun σ H Q ⟨μ, ρ, st, s, h⟩ => bindE s h fun v H1 μ1 d1 st1 e1 s1 r1 p1 => bindE s1 p1 fun u H2 μ2 d2 st2 e2 s2 r2 p2 => cmp_ok s2.st (r1.ext e2) r2 p2
theorem lt_cmp {op : CmpOp} (hu : X.A.units + 64 < cLine) (hs : isSet b = false) (ha : LE X W a ma) (hb : LE X W b mb) : LT X W (.Compare a [op] [b] pos) (tbM (op2M (cmpD op) ma mb)) :=
  (pt_cmpR (rCmp_ok hu op) ha hb (set_mark hs)).imp fun σ H Q ⟨μ, ρ, st, s, h⟩ => by
    have h' : Post X.K μ H relE ((ma ρ st).bind fun x s1 => (mb ρ s1).bind fun y s2 => boolR (cmpD op x y s2) fun k s3 => .ok k s3) Q (fun c d H' => W c d σ H') := by
      have e : tbM (op2M (cmpD op) ma mb) ρ st = ((ma ρ st).bind fun x s1 => (mb ρ s1).bind fun y s2 => boolR (cmpD op x y s2) fun k s3 => .ok k s3) := by
        unfold tbM op2M boolR
        cases ma ρ st with
        | ok x s1 =>
          show (R.bind ((mb ρ s1).bind _) _ : R Bool) = (mb ρ s1).bind _
          cases mb ρ s1 <;> rfl
        | ex _ _ => rfl
        | no => rfl
      rw [← e]; exact h
    exact bindE s h' fun v H1 μ1 d1 st1 e1 s1 r1 p1 => bindE s1 p1 fun u H2 μ2 d2 st2 e2 s2 r2 p2 => cmp_bl (fun _ _ _ => rfl) s2.st (r1.ext e2) r2 p2
theorem set_last {op op' : CmpOp} {c : Expr} (hb : isSet b = false) (hc : isSet c = false) : lastMarks [op, op'] [b, c] = false := set_mark hc
theorem le_chn {op op' : CmpOp} {c : Expr} (hu : X.A.units + 64 < cLine) (hs : isSet b = false) (hs' : isSet c = false) (ha : LE X W a ma) (hb : LE X W b mb) (hc : LE X W c mc) : LE X W (.Compare a [op, op'] [b, c] pos) (chnM op op' ma mb mc) :=
  (pe_chain (rCmp_ok hu op) (rCmp_ok hu op') ha hb hc (set_last hs hs')).imp fun σ H Q ⟨μ, ρ, st, s, h⟩ => bindE s h fun v H1 μ1 d1 st1 e1 s1 r1 p1 => bindE s1 p1 fun u H2 μ2 d2 st2 e2 s2 r2 p2 => by
    refine cmp_ok (pn := X.pn) s2.st (r1.ext e2) r2 ((p2.bind (rel := relS X.K X.pn)).mono fun z H3 ⟨μ3, d3, st3, e3, t3, r3, p3⟩ => ?_)
    split at p3
    · rename_i k
      cases r3
      refine ⟨k, rfl, ?_⟩
      cases k with
      | false => exact Post.bl (i := false) t3 p3
      | true => exact bindE (s2.ext e3 t3) p3 fun w H4 μ4 d4 st4 e4 s4 r4 p4 => cmp_ok s4.st (r2.ext (e3.trans e4)) r4 p4
    · exact p3.no
theorem lt_chn {op op' : CmpOp} {c : Expr} (hu : X.A.units + 64 < cLine) (hs : isSet b = false) (hs' : isSet c = false) (ha : LE X W a ma) (hb : LE X W b mb) (hc : LE X W c mc) : LT X W (.Compare a [op, op'] [b, c] pos) (tbM (chnM op op' ma mb mc)) :=
  (pt_chain (rCmp_ok hu op) (rCmp_ok hu op') ha hb hc (set_last hs hs')).imp fun σ H Q ⟨μ, ρ, st, s, h⟩ => by
    have h' : Post X.K μ H relE ((ma ρ st).bind fun x s1 => (mb ρ s1).bind fun y s2 => boolR (cmpD op x y s2) fun k s3 => if k then (mc ρ s3).bind fun z s4 => boolR (cmpD op' y z s4) (fun k s5 => .ok k s5) else .ok false s3) Q (fun c d H' => W c d σ H') := by
      have e : tbM (chnM op op' ma mb mc) ρ st = ((ma ρ st).bind fun x s1 => (mb ρ s1).bind fun y s2 => boolR (cmpD op x y s2) fun k s3 => if k then (mc ρ s3).bind fun z s4 => boolR (cmpD op' y z s4) (fun k s5 => .ok k s5) else .ok false s3) := by
        unfold tbM chnM boolR
        cases ma ρ st with
        | ok x s1 =>
          show (R.bind ((mb ρ s1).bind _) _ : R Bool) = (mb ρ s1).bind _
          cases mb ρ s1 with
          | ok y s2 =>
            show (R.bind ((cmpD op x y s2).bind _) _ : R Bool) = (cmpD op x y s2).bind _
            cases cmpD op x y s2 with
            | ok d s3 =>
              show (R.bind (match d with | .p (.bl b) => _ | _ => .no) _ : R Bool) = match d with | .p (.bl b) => _ | _ => .no
              split
              · rename_i k
                cases k with
                | true =>
                  show (R.bind ((mc ρ s3).bind _) _ : R Bool) = (mc ρ s3).bind _
                  cases mc ρ s3 <;> rfl
                | false => rfl
              · rfl
            | ex _ _ => rfl
            | no => rfl
          | ex _ _ => rfl
          | no => rfl
        | ex _ _ => rfl
        | no => rfl
      rw [← e]; exact h
    refine bindE s h' fun v H1 μ1 d1 st1 e1 s1 r1 p1 => bindE s1 p1 fun u H2 μ2 d2 st2 e2 s2 r2 p2 => ?_
    refine cmp_ok (pn := X.pn) s2.st (r1.ext e2) r2 ((p2.bind (rel := relS X.K X.pn)).mono fun z H3 ⟨μ3, d3, st3, e3, t3, r3, p3⟩ => ?_)
    split at p3
    · rename_i k
      cases r3
      refine ⟨k, rfl, ?_⟩
      cases k with
      | false => exact ⟨false, rfl, p3 false _ μ3 Ext.refl t3 rfl⟩
      | true => exact bindE (s2.ext e3 t3) p3 fun w H4 μ4 d4 st4 e4 s4 r4 p4 => cmp_bl (fun _ _ _ => rfl) s4.st (r2.ext (e3.trans e4)) r4 p4
    · exact p3.no
/-! ### truth -/
theorem test_plain (h : isTest e = false) : ∀ whole, isTrue e X.env whole = (do let v ← whole; standAt e.pos; holding [v] (truthy v)) := by
  intro whole
  cases e with
  | UnaryOp op x p => cases op <;> first | rfl | cases h
  | BoolOp _ _ _ => cases h
  | IfExp _ _ _ _ => cases h
  | Compare _ _ _ _ => cases h
  | _ => rfl
theorem lt_tru (h : isTest e = false) (he : LE X W e ma) : LT X W e (tvM ma) :=
  (pt_truth he (test_plain h)).imp fun σ H Q ⟨μ, ρ, st, s, h⟩ => bindE s h fun v H1 μ1 d1 st1 e1 s1 r1 p1 => tru_rule (fun _ _ _ => rfl) s1.st r1 p1
end
end Lt
end S_Lt9

section S_Lt10
set_option Elab.async false
set_option linter.all false
set_option maxRecDepth 100000
set_option maxHeartbeats 1000000
/-! Lt10: and, or, not, displays, fields, slices, items. -/
namespace Lt
open PySem PySem.Spec L2
section
variable {X : Cx} {W : WX} {a b e : Expr} {ma mb mc : EM} {ta tb : TM} {pos : Pos} {rest : List Expr}
/-! ### and, or, not -/
theorem le_or (ha : LE X W a ma) (hb : LE X W (.BoolOp .Or (b :: rest) pos) mb) : LE X W (.BoolOp .Or (a :: b :: rest) pos) (orE ma mb) :=
  (pe_orT ha hb).imp fun σ H Q ⟨μ, ρ, st, s, h⟩ => bindE s h fun v H1 μ1 d1 st1 e1 s1 r1 p1 => by
    obtain ⟨k, tk, μ2, k', st2, e2, t2, r2, p2⟩ := tru_rule (rel := relE) (fun _ _ _ => rfl) s1.st r1 p1.bind
    have ek : k' = k := r2
    subst ek
    refine ⟨k', tk, ?_⟩
    cases k' with
    | true => exact Post.val t2 p2 (r1.ext e2)
    | false => exact ⟨μ2, ρ, st2, s1.ext e2 t2, p2⟩
theorem le_and (ha : LE X W a ma) (hb : LE X W (.BoolOp .And (b :: rest) pos) mb) : LE X W (.BoolOp .And (a :: b :: rest) pos) (andE ma mb) :=
  (pe_andT ha hb).imp fun σ H Q ⟨μ, ρ, st, s, h⟩ => bindE s h fun v H1 μ1 d1 st1 e1 s1 r1 p1 => by
    obtain ⟨k, tk, μ2, k', st2, e2, t2, r2, p2⟩ := tru_rule (rel := relE) (fun _ _ _ => rfl) s1.st r1 p1.bind
    have ek : k' = k := r2
    subst ek
    refine ⟨k', tk, ?_⟩
    cases k' with
    | false => exact Post.val t2 p2 (r1.ext e2)
    | true => exact ⟨μ2, ρ, st2, s1.ext e2 t2, p2⟩
theorem le_one {op : BoolOp} (ha : LE X W a ma) : LE X W (.BoolOp op [a] pos) ma := pe_one ha
theorem le_not (ha : LE X W a ma) : LE X W (.UnaryOp .Not a pos) (notE ma) :=
  (pe_notT ha).imp fun σ H Q ⟨μ, ρ, st, s, h⟩ => bindE s h fun v H1 μ1 d1 st1 e1 s1 r1 p1 => by
    obtain ⟨k, tk, μ2, k', st2, e2, t2, r2, p2⟩ := tru_rule (rel := relE) (fun _ _ _ => rfl) s1.st r1 p1.bind
    have ek : k' = k := r2
    subst ek
    exact ⟨k', tk, p2.bl t2⟩
/-! ### tests -/
abbrev LW (X : Cx) (W : WX) (e : Expr) (m : TM) : Prop := PW X e (tT X.K X.pn W m)
theorem lw_and (ha : LT X W a ta) (hb : LW X W (.BoolOp .And (b :: rest) pos) tb) : LW X W (.BoolOp .And (a :: b :: rest) pos) (andM ta tb) :=
  (pw_and ha hb).imp fun σ H Q ⟨μ, ρ, st, s, h⟩ => bindT s h fun k H1 μ1 st1 e1 s1 p1 => by
    cases k with
    | true => exact ⟨μ1, ρ, st1, s1, p1⟩
    | false => exact p1 false H1 μ1 Ext.refl s1.st rfl
theorem lw_or (ha : LT X W a ta) (hb : LW X W (.BoolOp .Or (b :: rest) pos) tb) : LW X W (.BoolOp .Or (a :: b :: rest) pos) (orM ta tb) :=
  (pw_or ha hb).imp fun σ H Q ⟨μ, ρ, st, s, h⟩ => bindT s h fun k H1 μ1 st1 e1 s1 p1 => by
    cases k with
    | false => exact ⟨μ1, ρ, st1, s1, p1⟩
    | true => exact p1 true H1 μ1 Ext.refl s1.st rfl
theorem lw_and1 (ha : LT X W a ta) : LW X W (.BoolOp .And [a] pos) ta := pw_and1 ha
theorem lw_or1 (ha : LT X W a ta) : LW X W (.BoolOp .Or [a] pos) ta := pw_or1 ha
theorem lt_not (ha : LT X W a ta) : LT X W (.UnaryOp .Not a pos) (notM ta) :=
  (pt_not ha).imp fun σ H Q ⟨μ, ρ, st, s, h⟩ => bindT s h fun k H1 μ1 st1 e1 s1 p1 => p1 (!k) H1 μ1 Ext.refl s1.st rfl
theorem le_if (hc : LT X W e ta) (ha : LE X W a ma) (hb : LE X W b mb) : LE X W (.IfExp e a b pos) (ifeM ta ma mb) :=
  (pe_ifExp hc ha hb).imp fun σ H Q ⟨μ, ρ, st, s, h⟩ => bindT s h fun k H1 μ1 st1 e1 s1 p1 => by
    cases k with
    | true => exact ⟨μ1, ρ, st1, s1, p1⟩
    | false => exact ⟨μ1, ρ, st1, s1, p1⟩
/-! ### arguments, displays -/
variable {es : List Expr} {mr : AM}
theorem star_cons (h : isStar e = false) (es : List Expr) (env : Env) : starEach (e :: es) env = (false, eval e env) :: starEach es env := by
  cases e <;> first | rfl | cases h
def noStar : List Expr → Prop
  | [] => True
  | e :: es => isStar e = false ∧ noStar es
theorem star_any (pos : Pos) (env : Env) : ∀ {es : List Expr}, noStar es → (backTo pos (starEach es env)).any (·.1) = false
  | [], _ => rfl
  | e :: es, ⟨h, r⟩ => by
    rw [star_cons h]
    exact star_any pos env (es := es) r
theorem star_all (pos : Pos) (env : Env) : ∀ {es : List Expr}, noStar es → (backTo pos (starEach es env)).all (fun x => !x.1) = true
  | [], _ => rfl
  | e :: es, ⟨h, r⟩ => by
    rw [star_cons h]
    exact star_all pos env (es := es) r
theorem la_nil : LA X W [] nilA := pa_nil.imp fun σ H Q ⟨μ, ρ, st, s, h⟩ => h [] H μ Ext.refl s.st Reps.nil
theorem la_cons (hs : isStar e = false) (ha : LE X W e ma) (hr : LA X W es mr) : LA X W (e :: es) (consA ma mr) :=
  (pa_cons ha hr (star_cons hs es _)).imp fun σ H Q ⟨μ, ρ, st, s, h⟩ => bindE s h fun v H1 μ1 d1 st1 e1 s1 r1 p1 => by
    cases q : isX d1 with
    | true => rw [q] at p1; exact p1.no
    | false =>
      rw [q] at p1
      exact bindA s1 p1 fun vs H2 μ2 ds st2 e2 s2 r2 p2 => p2 (v :: vs) H2 μ2 Ext.refl s2.st (Reps.cons (Rep.ext e2 _ _ (r1.rep q)) r2)
theorem le_tup {x1 : Nat} (h : LA X W es mr) : LE X W (.Tuple es x1 pos) (tupM mr) :=
  (pe_tup h).imp fun σ H Q ⟨μ, ρ, st, s, h⟩ => bindA s h fun vs H1 μ1 ds st1 e1 s1 r1 p1 => by
    split at p1
    · rename_i hl
      exact ⟨by rw [r1.length, ← line_eq]; exact hl, fun p hp => p1.tup s1.st r1 hp⟩
    · exact p1.no
theorem le_lst (h : LA X W es mr) : LE X W (.List es pos) (lstM mr) :=
  (pe_lst h).imp fun σ H Q ⟨μ, ρ, st, s, h⟩ => bindA s h fun vs H1 μ1 ds st1 e1 s1 r1 p1 => by
    split at p1
    · rename_i hl
      exact ⟨by rw [r1.length, ← line_eq]; exact hl, fun p hp => p1.lst s1.st r1 hp⟩
    · exact p1.no
/-! ### slices, items -/
variable {lo hi : Option Expr} {ml mh : OM}
theorem lo_none : LO X W none noO := ⟨fun pins s σ H Q I ⟨μ, ρ, st, r, h⟩ => po_none.run pins s σ H Q I (h none H μ Ext.refl r.st rfl)⟩
theorem lo_some (ha : LE X W e ma) : LO X W (some e) (someO ma) := ⟨fun pins s σ H Q I ⟨μ, ρ, st, r, h⟩ => (po_some ha).run pins s σ H Q I (bindE r h fun v H1 μ1 d1 st1 e1 s1 r1 p1 => by
  split at p1
  · cases r1
    exact ⟨_, rfl, p1 _ H1 μ1 Ext.refl s1.st rfl⟩
  · exact p1.no)⟩
theorem le_sl {p2 : Pos} (ha : LE X W a ma) (hl : LO X W lo ml) (hh : LO X W hi mh) : LE X W (.Subscript a (.Slice lo hi none p2) pos) (slM ma ml mh) :=
  (pe_slice rSlAll_ok ha hl hh).imp fun σ H Q ⟨μ, ρ, st, s, h⟩ => bindE s h fun v H1 μ1 d1 st1 e1 s1 r1 p1 => bindO s1 p1 fun i H2 μ2 st2 e2 s2 p2 => bindO s2 p2 fun j H3 μ3 st3 e3 s3 p3 => sl_ok s3.st (r1.ext (e2.trans e3)) p3
theorem ix_plain (h : isSlice b = false) : PlainIx b := fun o i => by
  cases b <;> first | rfl | cases h
theorem le_ix (hs : isSlice b = false) (ha : LE X W a ma) (hb : LE X W b mb) : LE X W (.Subscript a b pos) (op2M ixD ma mb) :=
  (pe_ix ix_seq ha hb (ix_plain hs)).imp fun σ H Q ⟨μ, ρ, st, s, h⟩ => bindE s h fun v H1 μ1 d1 st1 e1 s1 r1 p1 => bindE s1 p1 fun u H2 μ2 d2 st2 e2 s2 r2 p2 => ix_ok s2.st (r1.ext e2) r2 p2
/-! ### fields -/
theorem base_plain (h : isSuper a = false) (m : Str) (env : Env) : attributeBase a m env (eval a env) = eval a env := by
  unfold attributeBase
  split
  · rename_i id x p
    have h' : (id == ("super" : Str)) = false := h
    have e : (id != ("super" : Str)) = true := by
      show (!(id == ("super" : Str))) = true
      rw [h']; rfl
    rw [e]
    rfl
  · rfl
/-- what the class of an exception with a field must have -/
def XcOk (K : PySem.W.Frag) (x : Str) (f : Str) : Prop := XfC K (ga K x) ∧ PySem.W.findIn K (.ref (ga K x)) f = some none
theorem lookup_of : ∀ {fs : List (Str × D)} {vfs : List (Str × V)} {K : PySem.W.Frag} {H : Hp} {μ : List Addr} {f : Str} {d : D}, vfs.map (·.1) = fs.map (·.1) → Reps K H μ (fs.map (·.2)) (vfs.map (·.2)) → fs.lookup f = some d → ∃ v, vfs.lookup f = some v ∧ Rep K H μ d v
  | [], _, _, _, _, _, _, _, _, e => by cases e
  | (g, d') :: fs, [], _, _, _, _, _, h, _, _ => by cases h
  | (g, d') :: fs, (g', v') :: vfs, K, H, μ, f, d, h, ⟨v, r, e1, h1, h2⟩, e => by
    have eg : g' = g := (List.cons.inj h).1
    obtain ⟨rfl, rfl⟩ := List.cons.inj e1
    subst eg
    rw [List.lookup_cons] at e ⊢
    cases q : (f == g') with
    | true =>
      rw [q] at e
      have e' : d' = d := Option.some.inj e
      subst e'
      exact ⟨v', rfl, h1⟩
    | false =>
      rw [q] at e
      exact lookup_of (List.cons.inj h).2 h2 e
theorem lookup_no : ∀ {fs : List (Str × D)} {vfs : List (Str × V)} {f : Str}, vfs.map (·.1) = fs.map (·.1) → fs.lookup f = none → vfs.lookup f = none
  | [], [], _, _, _ => rfl
  | [], _ :: _, _, h, _ => by cases h
  | _ :: _, [], _, h, _ => by cases h
  | (g, d') :: fs, (g', v') :: vfs, f, h, e => by
    have eg : g' = g := (List.cons.inj h).1
    subst eg
    rw [List.lookup_cons] at e ⊢
    cases q : (f == g') with
    | true => rw [q] at e; cases e
    | false => rw [q] at e; exact lookup_no (List.cons.inj h).2 e
theorem lookup_map {fs : List (Str × P)} {f : Str} : (fs.map fun q => (q.1, D.p q.2)).lookup f = (fs.lookup f).map D.p := by
  induction fs with
  | nil => rfl
  | cons q fs ih =>
    obtain ⟨g, x⟩ := q
    rw [List.map_cons, List.lookup_cons, List.lookup_cons, ih]
    cases (f == g) <;> rfl
theorem le_fld {f : Str} {xf : Str → Str → Bool} (hb : isSuper a = false) (hx : ∀ x, xf x f = true → XcOk X.K x f) (ha : LE X W a ma) : LE X W (.Attribute a f pos) (fldM xf f ma) := by
  refine ⟨fun pins s σ H Q I h => ?_⟩
  obtain ⟨μ, ρ, st, r, h⟩ := h
  refine attr_of (base_plain hb f _) (thn (ha.run pins s σ H (fun x H1 => ∃ μ1 d st1, StR X.K H1 μ1 st1 ∧ RepS X.K H1 μ1 X.pn d x ∧ Post X.K μ1 H1 (relS X.K X.pn) (fldD xf f d st1) Q (fun c d H' => W c d σ H')) I (bindE r h fun v H1 μ1 d1 st1 e1 s1 r1 p1 => ⟨μ1, d1, st1, s1.st, r1, p1⟩)) fun u s1 ⟨x, H1, I1, rx, μ1, d, st1, t1, r1, p1⟩ => ?_)
  unfold fldD at p1
  split at p1
  · rename_i n
    split at p1
    · rename_i C F fs q
      obtain ⟨p, h1, h2, ⟨hc, hn⟩, dx, vfs, h3, h4, h5⟩ := t1.get r1 q
      subst h2
      obtain rfl : u = Value.ref p := rx
      split at p1
      · rename_i d' hF hl
        obtain ⟨v, h6, h7⟩ := lookup_of h4 h5 hl
        exact getattr_ok I1 h3 hc (hn f (List.contains_iff_mem.mp hF)) h6 fun u' s2 I2 ru => ⟨v, H1, I2, ru, p1.val t1 (RepS.of h7)⟩
      · exact p1.no
    · exact p1.no
  · rename_i xc
    split at p1
    · rename_i y hxf hl
      obtain ⟨p, oe, dd, h1, h2, hz, ⟨vs, hd⟩, hf⟩ := r1
      subst h1
      obtain rfl : u = Value.ref p := rx
      obtain ⟨T, hno⟩ := hx xc.cls hxf
      rcases hf with ⟨z, _⟩ | ⟨d, vfs, rfl, ea, h4, h5⟩
      · rw [z] at hl; cases hl
      · obtain ⟨ha, _⟩ := I1.pin (p, oe) (List.mem_append_left _ h2)
        have hx2 : ObjOk X.prog X.w H1 s1.heap d (.xd vfs) := I1.hok d _ ea
        obtain ⟨mA, hns, hr⟩ := hx2
        obtain ⟨od, ho, hlk⟩ := lookIn_ns hns
        have hl' : (xc.fs.map fun q => (q.1, D.p q.2)).lookup f = some (.p y) := by rw [lookup_map, hl]; rfl
        have h5' : Reps X.K H1 μ1 ((xc.fs.map fun q => (q.1, D.p q.2)).map (·.2)) (vfs.map (·.2)) := by
          rw [List.map_map]
          have := Reps.map_p (μ := μ1).mpr h5
          rw [List.map_map] at this
          exact this
        obtain ⟨v, h6, h7⟩ := lookup_of (by rw [List.map_map]; exact h4) h5' hl'
        obtain ⟨u, hu, ru⟩ := RelO.some_of (v := v) (o := mA f) (by rw [← h6]; exact hr f)
        have J : PySem.W.InstAt s1.heap p oe (ga X.K xc.cls) (some od) := ⟨ha, hz.1, by unfold PySem.W.notCls; rw [hd] <;> rfl, by rw [hz.2]; exact ho⟩
        exact HandSPX.exc_get I1.kIn J T.ga T.gg T.exC (PySem.W.findObj_own T.hdC hno rfl (by rw [hlk, hu])) (handed_of ru) ⟨v, H1, I1.tok _, ru, p1.p t1 h7⟩
    · exact p1.no
  · exact p1.no
end
end Lt
end S_Lt10

section S_Lt11
set_option Elab.async false
set_option linter.all false
set_option maxRecDepth 100000
set_option maxHeartbeats 1000000
/-! Lt11: calls. -/
namespace Lt
open PySem PySem.Spec L2
/-- what calls mean in X, k defs deep: the defs by name, the methods -/
structure CallsOk (X : Cx) (k : Nat) (isF : Str → Prop) (has : Str → Str → Bool) (call : CallT) : Prop where
  fn : ∀ x, isF x → (Room (k + 1) X.A ∧ X.A.guards = some []) ∧ ∃ a fd ps, X.mg x = some (.ref a) ∧ PySem.W.keepIn X.K (.ref a) = true ∧ Binds X.K fd ps [] ∧ FnL X.prog X.w X.K X.mg X.base k a fd ps (spF X.K ps.length (call (x, none))) ∧ ∀ ds st, ds.length ≠ ps.length → call (x, none) ds st = .no
  me : ∀ C m, has C m = true → (Room (k + 1) X.A ∧ X.A.guards = some []) ∧ ∃ a fd ps, Meth X.K (ga X.K C) m a ∧ Binds X.K fd ps [] ∧ FnL X.prog X.w X.K X.mg X.base k a fd ps (spF X.K ps.length (call (C, some m))) ∧ ∀ ds st, ds.length ≠ ps.length → call (C, some m) ds st = .no
/-- an exception out of a call is taken -/
def Lets (X : Cx) (W : WX) : Prop := ∀ σ, PassesAt (L2.CX X.prog X.w) X σ (WE W σ)
/-- a class whose instances are made -/
structure ClsOk (K : PySem.W.Frag) (mg : Str → Option Value) (C : Str) (F : List Str) : Prop where
  at_ : mg C = some (.ref (ga K C))
  makes : PySem.W.makesIn K (ga K C) = true
  kp : PySem.W.keepIn K (.ref (ga K C)) = true
  cls : Cls K (ga K C)
  na : ∀ f ∈ F, NoAttr K (ga K C) f
section
variable {X : Cx} {W : WX} {a b e : Expr} {ma mb mc : EM} {pos : Pos} {es : List Expr} {mr : AM} {k : Nat} {call : CallT} {pins : List (Addr × Obj)} {σ : L2.St} {H : Hp} {s : Shared} {μ : List Addr} {ρ : Rho} {st : Store}
theorem vals_nil {us : List Value} (h : Vals [] us) : us = [] := by cases h; rfl
/-- the arguments, then the call -/
theorem args_ok {α β : Type} {first : List Value} {f : Value} {g : List D → Store → R α} {rel : Hp → List Addr → α → β → Prop} {Q : β → Hp → Prop} {Q' : VK} (hk : PySem.W.keepIn X.K f = true) (ns : noStar es) (hn : es = [] → mr = nilA) (ha : LA X W es mr) (I : Inv X pins σ H s) (r : SR X.K X.pn H μ σ ρ st)
    (h : Post X.K μ H rel ((mr ρ st).bind g) Q (fun c d H' => W c d σ H'))
    (run : ∀ us s1 vs H1 μ1 ds st1, Inv X pins σ H1 s1 → Ext μ μ1 H H1 → SR X.K X.pn H1 μ1 σ ρ st1 → Vals vs us → Reps X.K H1 μ1 ds vs → Post X.K μ1 H1 rel (g ds st1) Q (fun c d H' => W c d σ H') → wpAny (model X.prog X.w) X.A (PySem.call f (first ++ us)) (EP X pins σ Q') X.xe s1) :
    wpAny (model X.prog X.w) X.A (callWith pos f first (backTo pos (starEach es X.env)) (backToKw pos (keywordEach [] X.env))) (EP X pins σ Q') X.xe s := by
  cases es with
  | nil =>
    rw [hn rfl] at h
    exact PySem.W.callWith_K0 I.kIn hk (run [] s [] H μ [] st I Ext.refl r .nil Reps.nil h)
  | cons e es =>
    refine PySem.W.callWith_K (h₀ := X.base) I.ok.mod.kin hk (thn (ha.run pos pins s σ H (fun vs H1 => ∃ μ1 ds st1, Ext μ μ1 H H1 ∧ SR X.K X.pn H1 μ1 σ ρ st1 ∧ Reps X.K H1 μ1 ds vs ∧ Post X.K μ1 H1 rel (g ds st1) Q (fun c d H' => W c d σ H')) I
      (bindA r h fun vs H1 μ1 ds st1 e1 s1 r1 p1 => ⟨μ1, ds, st1, e1, s1, r1, p1⟩)) fun us s1 ⟨vs, H1, I1, rv, μ1, ds, st1, e1, s1', r1, p1⟩ => ⟨I1.kIn, run us s1 vs H1 μ1 ds st1 I1 e1 s1' rv r1 p1⟩) (star_cons ns.1 es X.env) (star_any pos X.env ns.2)
/-- the arguments, then a method of what is built in -/
theorem args_blt {α β : Type} {first : List Value} {id : String} {g : List D → Store → R α} {rel : Hp → List Addr → α → β → Prop} {Q : β → Hp → Prop} {Q' : VK} (ns : noStar es) (hn : es = [] → mr = nilA) (ha : LA X W es mr) (I : Inv X pins σ H s) (r : SR X.K X.pn H μ σ ρ st)
    (h : Post X.K μ H rel ((mr ρ st).bind g) Q (fun c d H' => W c d σ H'))
    (run : ∀ us s1 vs H1 μ1 ds st1, Inv X pins σ H1 s1 → Ext μ μ1 H H1 → SR X.K X.pn H1 μ1 σ ρ st1 → Vals vs us → Reps X.K H1 μ1 ds vs → Post X.K μ1 H1 rel (g ds st1) Q (fun c d H' => W c d σ H') → wpAny (model X.prog X.w) X.A (PySem.call (.builtin id) (first ++ us)) (EP X pins σ Q') X.xe s1) :
    wpAny (model X.prog X.w) X.A (callWith pos (.builtin id) first (backTo pos (starEach es X.env)) (backToKw pos (keywordEach [] X.env))) (EP X pins σ Q') X.xe s := by
  cases es with
  | nil =>
    rw [hn rfl] at h
    exact Calls.callWith_builtin rfl (PySem.evalArgs_none (run [] s [] H μ [] st I Ext.refl r .nil Reps.nil h))
  | cons e es =>
    have hA := ha.run pos pins s σ H (fun vs H1 => ∃ μ1 ds st1, Ext μ μ1 H H1 ∧ SR X.K X.pn H1 μ1 σ ρ st1 ∧ Reps X.K H1 μ1 ds vs ∧ Post X.K μ1 H1 rel (g ds st1) Q (fun c d H' => W c d σ H')) I
      (bindA r h fun vs H1 μ1 ds st1 e1 s1 r1 p1 => ⟨μ1, ds, st1, e1, s1, r1, p1⟩)
    rw [star_cons ns.1 es X.env] at hA ⊢
    refine Calls.callWith_builtin (by show (false || (backTo pos (starEach es X.env)).any (·.1)) = false; rw [star_any pos X.env ns.2]; rfl) (Calls.evalArgs_plain ?_)
    exact thn hA fun us s1 ⟨vs, H1, I1, rv, μ1, ds, st1, e1, s1', r1, p1⟩ => run us s1 vs H1 μ1 ds st1 I1 e1 s1' rv r1 p1
/-- a call with the store as it stands -/
theorem call_ok {K : PySem.W.Frag} {pn : List (Addr × Obj)} {E : XK} {f : Defn} {ds : List D} {vs : List V} {np : Nat} {Q : VK} (hl : vs.length = np) (s : StR K H μ st) (r : Reps K H μ ds vs) (h : Post K μ H (relS K pn) (call f ds st) Q E) : spF K np (call f) vs H Q E := by
  refine ⟨hl, μ, ds, st, r, s, ?_⟩
  cases q : call f ds st with
  | no => rw [q] at h; exact h.no
  | ex x s1 => rw [q] at h; exact h
  | ok d s1 =>
    rw [q] at h
    exact fun v H1 μ1 e1 t1 rx => h v H1 μ1 e1 t1 (RepS.of rx)
theorem callD_no {f : Defn} {ds : List D} (h : ∀ st, call f ds st = .no) (st : Store) : callD call f ds st = .no := by
  unfold callD
  split
  · rw [h]
  · exact h st
/-- f(..), f a def of the text -/
theorem le_app {x : Str} {p : Pos} {isF : Str → Prop} {has : Str → Str → Bool} (hc : CallsOk X k isF has call) (tk : Lets X W) (hf : isF x) (hg : Gl X x) (hd : (x == ("__debug__" : Str)) = false) (ns : noStar es) (hn : es = [] → mr = nilA) (ha : LA X W es mr) : LE X W (.Call (.Name x p) es [] pos) (appM (callD call (x, none)) mr) := by
  refine ⟨fun pins s σ H Q I ⟨μ, ρ, st, r, h⟩ => ?_⟩
  obtain ⟨⟨hroom, hgu⟩, a, fd, ps, hm, hk, hb, F, hl⟩ := hc.fn x hf
  refine wpAny_Call_Name_kw (ld_glob I hg hm ?_ hd)
  refine args_ok hk ns hn ha I r h fun us s1 vs H1 μ1 ds st1 I1 e1 s1' rv r1 p1 => ?_
  have hlen : vs.length = ps.length := by
    by_cases q : ds.length = ps.length
    · rw [r1.length]; exact q
    · rw [callD_no (fun st => hl ds st q)] at p1
      exact p1.no
  exact F.call (hroom.mono (Nat.le_succ k)) hgu hb (tk σ) I1 rv (callD_ok hlen s1'.st r1 p1)
/-- C(..) -/
theorem le_make {C : Str} {p : Pos} {F : List Str} {isF : Str → Prop} {has : Str → Str → Bool} (hc : CallsOk X k isF has call) (tk : Lets X W) (cl : ClsOk X.K X.mg C F) (hi : has C "__init__" = true) (hg : Gl X C) (hd : (C == ("__debug__" : Str)) = false) (ns : noStar es) (hn : es = [] → mr = nilA) (ha : LA X W es mr) : LE X W (.Call (.Name C p) es [] pos) (makM call C F mr) := by
  refine ⟨fun pins s σ H Q I ⟨μ, ρ, st, r, h⟩ => ?_⟩
  obtain ⟨⟨hroom, hgu⟩, a, fd, ps, hm, hb, F, hl⟩ := hc.me C _ hi
  refine wpAny_Call_Name_kw (ld_glob I hg cl.at_ ?_ hd)
  refine args_ok cl.kp ns hn ha I r h fun us s1 vs H1 μ1 ds st1 I1 e1 s1' rv r1 p1 => ?_
  refine F.make ⟨cl.makes, hm.at_, hm.fn, cl.kp⟩ hroom hgu hb (tk σ) I1 rv fun x dx hx hdx ne => ?_
  have f1 := Ext.fresh (μ := μ1) (o := .own x) hdx
  have t1 := s1'.st.fresh (o := .own x) hdx
  have hx' : upd H1 dx (.own x) x = none := by rw [upd_ne (fun z => ne z.symm)]; exact hx
  have f2 := Ext.alloc (μ := μ1) (o := .ins (ga X.K C) dx []) hx'
  have t2 := t1.alloc (so := .ins C _ []) hx' ⟨⟨cl.cls, cl.na⟩, dx, [], upd_same, rfl, Reps.nil⟩
  have rr : Reps X.K (upd (upd H1 dx (.own x)) x (.ins (ga X.K C) dx [])) (μ1 ++ [x]) (.ref st1.length :: ds) (.ref x :: vs) :=
    Reps.cons ⟨x, by rw [← s1'.st.len, List.getElem?_append_right (Nat.le_refl _), Nat.sub_self]; rfl, rfl⟩ (Reps.ext (f1.trans f2) _ _ r1)
  have p2 := Post.bind (rel := relS X.K X.pn) (p1.base (f1.trans f2))
  refine call_ok (pn := X.pn) ?_ t2 rr (p2.mono fun v H2 ⟨μ2, d, st2, e2, t3, r2, p3⟩ => ?_)
  · by_cases q : (D.ref st1.length :: ds).length = ps.length
    · rw [rr.length]; exact q
    · rw [hl _ _ q] at p2
      exact p2.no
  · split at p3
    · cases r2
      exact ⟨rfl, p3 _ H2 μ2 Ext.refl t3 ⟨x, (e2.at (by rw [← s1'.st.len, List.getElem?_append_right (Nat.le_refl _), Nat.sub_self]; rfl)), rfl⟩⟩
    · exact p3.no
/-- a built-in function or type, by one argument -/
theorem le_blt {x : Str} {p : Pos} {f : List D → Store → R D} (hc : X.calm = true) (hdg : NoDig X.K) (hgu : X.A.guards = some []) (hu : X.A.units + 65 < cLine) (hb : blt x = some f) (hg : Gl X x) (hm : X.mg x = none) (hnm : x ≠ "__name__") (hd : (x == ("__debug__" : Str)) = false)
    (hs : isStar e = false) (ha : LA X W [e] mr) : LE X W (.Call (.Name x p) [e] [] pos) (appM f mr) := by
  obtain ⟨u, ⟨hv, hk⟩, r, cr, ok⟩ := blt_ok hc hdg hgu hu hb
  have imp : ∀ σ H Q, tE X.K X.pn W (appM f mr) σ H Q → tCB r (tA X.K X.pn W mr) σ H Q := fun σ H Q ⟨μ, ρ, st, s, h⟩ => bindA s h fun vs H1 μ1 ds st1 e1 s1 r1 p1 => ok s1.st r1 p1
  rcases hk with ⟨id, rfl⟩ | ⟨T, rfl⟩
  · exact (pe_callB cr hg hm hv ha hnm hd (star_cons hs [] _)).imp imp
  · exact (pe_callTy cr hg hm hv ha hnm hd (star_cons hs [] _)).imp imp
/-- isinstance(a, T) -/
theorem le_isi {x T : Str} {p p2 : Pos} (hx : x = "isinstance") (hT : tyName T = true) (hg : Gl X x) (hm : X.mg x = none) (hgT : Gl X T) (hmT : X.mg T = none) (hnT : T ≠ "__name__") (hdT : (T == ("__debug__" : Str)) = false) (hs : isStar a = false) (ha : LE X W a ma) :
    LE X W (.Call (.Name x p) [a, .Name T p2] [] pos) (isiM T ma) := by
  subst hx
  have h2 := pa_cons ha (pa_cons (pe_bltn (v := .ty (tyOf T)) (pos := p2) hgT hmT (ty_boot hT) rfl hnT hdT) pa_nil) (star_cons hs _ _)
  exact (pe_callB call_isi hg hm (by decide +kernel) h2 (by decide) (by decide) (star_cons hs _ _)).imp fun σ H Q ⟨μ, ρ, st, s, h⟩ => bindE s h fun v H1 μ1 d1 st1 e1 s1 r1 p1 => isi_ok hT s1.st r1 p1
end
end Lt
end S_Lt11

section S_Lt12
set_option Elab.async false
set_option linter.all false
set_option maxRecDepth 100000
set_option maxHeartbeats 1000000
/-! Lt12: method calls. -/
namespace Lt
open PySem PySem.Spec L2
/-- a method of what is built in -/
def BM (T : String) (m : Str) (id : String) : Prop := PlainAttrs T ∧ Slot T m id ∧ typeOf (.builtin id) = pure (.type "method_descriptor")
section
variable {X : Cx} {W : WX} {μ : List Addr} {H : Hp} {st : Store} {pn : List (Addr × Obj)} {Wx : XK}
theorem getLast_at {l : List D} {d : D} (h : l.getLast? = some d) : l[l.length - 1]? = some d := by rw [← h, List.getLast?_eq_getElem?]
theorem lm_ok {m : Str} (h : lmOk m = true) : ∃ id r, BM "list" m id ∧ MtM X id r ∧ ∀ {μ : List Addr} {H : Hp} {st : Store} {n : Nat} {l : List D} {p : Addr} {xs : List V} {ds : List D} {vs : List V} {Q : VK} {Wx : XK},
    StR X.K H μ st → μ[n]? = some p → st[n]? = some (.lst l) → H p = some (.lst xs) → Reps X.K H μ l xs → Reps X.K H μ ds vs → Post X.K μ H (relS X.K pn) (mList n l m ds st) Q Wx → r (.ref p) vs H Q := by
  have wr : ∀ {μ : List Addr} {H : Hp} {st : Store} {n : Nat} {l' : List D} {p : Addr} {ys : List V} {d : D} {v : V} {Q : VK} {Wx : XK}, StR X.K H μ st → μ[n]? = some p → Reps X.K H μ l' ys → Rep X.K H μ d v → Post X.K μ H (relS X.K pn) (.ok d (st.set n (.lst l'))) Q Wx → Q v (upd H p (.lst ys)) :=
    fun {μ H st n l' p ys d v Q Wx} s hp r rd h => by
      have e := Ext.write (o := .lst ys) s (List.mem_of_getElem? hp)
      exact h v _ μ e (s.write hp ⟨ys, upd_same, Reps.ext e _ _ r⟩) (RepS.of (Rep.ext e _ _ rd))
  unfold lmOk at h
  simp only [Bool.or_eq_true, decide_eq_true_eq] at h
  rcases h with ((h | h) | h) | h <;> subst h
  · refine ⟨_, _, ⟨PySem.F.plainAttrs_list, PySem.F.slot_list_append, PySem.F.type_list_append⟩, mt_append, fun {μ H st n l p xs ds vs Q Wx} s hp hn hH r rd h => ?_⟩
    unfold mList at h
    rw [if_pos rfl] at h
    split at h
    · obtain ⟨v, rfl, h1⟩ := reps1 rd
      split at h
      · rename_i hl
        exact ⟨p, xs, v, rfl, rfl, hH, by rw [r.length, ← line_eq]; exact hl, wr s hp (r.append (Reps.cons h1 Reps.nil)) (show Rep X.K H μ (.p .non) .non from rfl) h⟩
      · exact h.no
    · exact h.no
  · refine ⟨_, _, ⟨PySem.F.plainAttrs_list, PySem.F.slot_list_extend, PySem.F.type_list_extend⟩, mt_extend, fun {μ H st n l p xs ds vs Q Wx} s hp hn hH r rd h => ?_⟩
    unfold mList at h
    rw [if_neg (by decide), if_pos rfl] at h
    split at h
    · obtain ⟨v, rfl, h1⟩ := reps1 rd
      split at h
      · rename_i l2 q
        obtain ⟨b, h2, rfl, zs, h3, h4⟩ := s.get h1 q
        split at h
        · rename_i hl
          exact ⟨p, b, xs, zs, rfl, rfl, hH, h3, by rw [r.length, h4.length, ← line_eq]; exact hl, wr s hp (r.append h4) (show Rep X.K H μ (.p .non) .non from rfl) h⟩
        · exact h.no
      · exact h.no
    · exact h.no
  · refine ⟨_, _, ⟨PySem.F.plainAttrs_list, PySem.F.slot_list_pop, PySem.F.type_list_pop⟩, mt_pop, fun {μ H st n l p xs ds vs Q Wx} s hp hn hH r rd h => ?_⟩
    unfold mList at h
    rw [if_neg (by decide), if_neg (by decide), if_pos rfl] at h
    split at h
    · cases rd
      split at h
      · rename_i d q
        obtain ⟨v, h1, h2⟩ := r.get (getLast_at q)
        exact ⟨p, xs, v, rfl, rfl, hH, by rw [r.length]; exact h1, wr s hp r.dropLast h2 h⟩
      · exact h.no
    · exact h.no
  · refine ⟨_, _, ⟨PySem.F.plainAttrs_list, PySem.F.slot_list_reverse, PySem.F.type_list_reverse⟩, mt_reverse, fun {μ H st n l p xs ds vs Q Wx} s hp hn hH r rd h => ?_⟩
    unfold mList at h
    rw [if_neg (by decide), if_neg (by decide), if_neg (by decide), if_pos rfl] at h
    split at h
    · cases rd
      exact ⟨p, xs, rfl, rfl, hH, wr s hp r.reverse (show Rep X.K H μ (.p .non) .non from rfl) h⟩
    · exact h.no
theorem join_eq (s : List Nat) (l : List (List Nat)) : Txt.join (toS s) (l.map toS) = toS (joinS s l) := SX.join_S s l
theorem sm_ok {m : Str} (h : smOk m = true) : ∃ id r, BM "str" m id ∧ MtM X id r ∧ ∀ {μ : List Addr} {H : Hp} {st : Store} {z : List Nat} {ds : List D} {vs : List V} {Q : VK} {Wx : XK},
    StR X.K H μ st → Reps X.K H μ ds vs → Post X.K μ H (relS X.K pn) (mStr z m ds st) Q Wx → r (.str (toS z)) vs H Q := by
  have e := of_decide_eq_true h
  subst e
  refine ⟨_, _, ⟨PySem.F.plainAttrs_str, PySem.F.slot_str_join, PySem.F.type_str_join⟩, mt_join, fun {μ H st z ds vs Q Wx} s rd h => ?_⟩
  unfold mStr at h
  rw [if_pos rfl] at h
  split at h
  · obtain ⟨v, rfl, h1⟩ := reps1 rd
    rename_i d
    cases q : seqOf d st with
    | none => rw [q] at h; exact h.no
    | some l =>
      rw [q] at h
      dsimp only [Option.bind] at h
      cases q2 : strsOf l with
      | none => rw [q2] at h; exact h.no
      | some ss =>
        rw [q2] at h
        dsimp only at h
        split at h
        · rename_i hl
          obtain ⟨a, xs, rfl, hs, r⟩ := seqOf_rep s h1 q
          have e := strsOf_rep r q2
          subst e
          refine ⟨_, a, ss.map toS, rfl, rfl, hs, ?_, by rw [join_eq]; exact h.str s⟩
          have e2 : (ss.map toS).map (·.length) = ss.map List.length := by
            rw [List.map_map]
            exact List.map_congr_left fun x _ => toS_len x
          rw [e2, List.length_map, toS_len]
          exact hl
        · exact h.no
  · exact h.no
end
section
variable {X : Cx} {W : WX} {a b e : Expr} {ma mb mc : EM} {pos : Pos} {es : List Expr} {mr : AM} {k : Nat} {call : CallT} {pins : List (Addr × Obj)} {σ : L2.St} {H : Hp} {s : Shared} {μ : List Addr} {ρ : Rho} {st : Store}
/-- o.m(..): o, then the method, then the rest -/
theorem mcall_of {o : Expr} {m : Str} {apos : Pos} {A : Around} {E : Value → Shared → Prop} {Q : Value → Shared → Prop} (hb : isSuper o = false) (hl : (apos.endLine == pos.line) = true) (hn : es.length < 20) (ns : noStar es)
    (h : wpAny (model X.prog X.w) A (eval o X.env) (fun ov s1 => wpAny (model X.prog X.w) A (getMethod ov m (plainOf o X.env)) (fun fx s2 => wpAny (model X.prog X.w) A (callWith pos fx.1 fx.2 (backTo pos (starEach es X.env)) (backToKw pos (keywordEach [] X.env))) Q E s2) E s1) E s) :
    wpAny (model X.prog X.w) A (eval (.Call (.Attribute o m apos) es [] pos) X.env) Q E s := by
  rw [arm_eval_Call, base_plain hb]
  refine wpAny_bind (wpAny_mono h (fun ov s1 h1 => ?_) fun _ _ x => x)
  refine wpAny_bind (wpAny_standAt ?_)
  have hf : methodCallForm (es.length + ([] : List Keyword).length) (backTo pos (starEach es X.env)) (backToKw pos (keywordEach [] X.env)) = true := by
    unfold methodCallForm
    have e1 : (backTo pos (starEach es X.env)).all (fun x => !x.1) = true := star_all pos X.env ns
    rw [Bool.and_eq_true, Bool.and_eq_true]
    refine ⟨⟨e1, rfl⟩, decide_eq_true ?_⟩
    show es.length + 0 + 0 < 30
    omega
  rw [mcall_line hf hl]
  exact wpAny_bind (wpAny_holding (wpAny_mono h1 (fun fx s2 h2 => h2) fun _ _ x => x))
theorem le_met {o : Expr} {mo : EM} {m : Str} {apos : Pos} {isF : Str → Prop} {has : Str → Str → Bool} (hc : CallsOk X k isF has call) (tk : Lets X W) (hb : isSuper o = false) (hl : (apos.endLine == pos.line) = true) (hle : es.length < 20) (ns : noStar es) (hn : es = [] → mr = nilA) (ho : LE X W o mo) (ha : LA X W es mr) :
    LE X W (.Call (.Attribute o m apos) es [] pos) (metM call has m mo mr) := by
  refine ⟨fun pins s σ H Q I ⟨μ, ρ, st, r, h⟩ => ?_⟩
  refine mcall_of hb hl hle ns (thn (ho.run pins s σ H (fun x H1 => ∃ μ1 d st1, SR X.K X.pn H1 μ1 σ ρ st1 ∧ RepS X.K H1 μ1 X.pn d x ∧ Post X.K μ1 H1 (relS X.K X.pn) (match rcvD has m d st1 with
    | some r => (mr ρ st1).bind fun ds s2 => runRcv call m r ds s2
    | none => .no) Q (fun c d H' => W c d σ H')) I (bindE r h fun v H1 μ1 d1 st1 e1 s1 r1 p1 => ⟨μ1, d1, st1, s1, r1, p1⟩)) fun u s1 ⟨x, H1, I1, rx, μ1, d, st1, t1, r1, p1⟩ => ?_)
  cases q : rcvD has m d st1 with
  | none => rw [q] at p1; exact p1.no
  | some rc =>
    rw [q] at p1
    dsimp only at p1
    unfold rcvD at q
    split at q
    · split at q
      · rename_i z hm
        cases Option.some.inj q
        cases r1
        obtain ⟨id, rr, bm, mt, ok⟩ := sm_ok (X := X) (pn := X.pn) hm
        refine getMethod_builtin (T := "str") ?_ bm.1 bm.2.1 bm.2.2 ?_ ?_
        · obtain ⟨t, rfl⟩ := rx
          exact typeIs_str s1 _ t
        · obtain ⟨t, rfl⟩ := rx
          exact fun _ e => nomatch e
        · exact args_blt (first := [u]) ns hn ha I1 t1 p1 fun us s2 vs H2 μ2 ds st2 I2 e2 s2' rv r2 p2 => mt pins s2 σ H2 _ vs u us Q I2 (by obtain ⟨t, rfl⟩ := rx; exact ⟨t, rfl⟩) rv (ok s2'.st r2 p2)
      · cases q
    · rename_i n
      split at q
      · rename_i l hl2
        split at q
        · rename_i hm
          cases Option.some.inj q
          obtain ⟨p, h1, rfl, xs, h3, h4⟩ := t1.st.get r1 hl2
          obtain rfl : u = Value.ref p := rx
          obtain ⟨id, rr, bm, mt, ok⟩ := lm_ok (X := X) (pn := X.pn) hm
          obtain ⟨z, its, nn, rv0, hl0, e0⟩ := I1.lstM h3
          refine getMethod_builtin (T := "list") ⟨_, e0, rfl⟩ bm.1 bm.2.1 bm.2.2 (fun a e => by cases e; exact ⟨_, e0, rfl⟩) ?_
          refine args_blt (first := [.ref p]) ns hn ha I1 t1 p1 fun us s2 vs H2 μ2 ds st2 I2 e2 s2' rv r2 p2 => ?_
          unfold runRcv at p2
          dsimp only at p2
          split at p2
          · rename_i l2 q2
            obtain ⟨p', h1', h6, ys, h7, h8⟩ := s2'.st.get (v := .ref p) ⟨p, e2.at h1, rfl⟩ q2
            have ep : p = p' := V.ref.inj h6
            subst ep
            exact mt pins s2 σ H2 (.ref p) vs (.ref p) us Q I2 (show RelV (.ref p) (.ref p) from rfl) rv (ok s2'.st h1' q2 h7 h8 r2 p2)
          · exact p2.no
        · cases q
      · rename_i C F fs hl2
        split at q
        · cases q
        · rename_i hm
          cases Option.some.inj q
          simp only [Bool.or_eq_true, Bool.not_eq_true', not_or, Bool.not_eq_true, Bool.not_eq_false] at hm
          obtain ⟨p, h1, rfl, ⟨hcl, hna⟩, dx, vfs, h3, h4, h5⟩ := t1.st.get r1 hl2
          obtain rfl : u = Value.ref p := rx
          obtain ⟨⟨hroom, hgu⟩, a, fd, ps, hme, hbi, F', hln⟩ := hc.me C m hm.2
          have hno : vfs.lookup m = none := lookup_no h4 (by
            cases z : fs.lookup m with
            | none => rfl
            | some _ => rw [z] at hm; exact absurd hm.1 (by simp))
          refine getmeth_ok I1 h3 hcl hme hno ?_
          refine args_ok (first := [.ref p]) hme.kp ns hn ha I1 t1 p1 fun us s2 vs H2 μ2 ds st2 I2 e2 s2' rv r2 p2 => ?_
          have rr : Reps X.K H2 μ2 (.ref n :: ds) (.ref p :: vs) := Reps.cons ⟨p, e2.at h1, rfl⟩ r2
          have p3 : Post X.K μ2 H2 (relS X.K X.pn) (call (C, some m) (.ref n :: ds) st2) Q (fun c d H' => W c d σ H') := p2
          have hlen : (V.ref p :: vs).length = ps.length := by
            by_cases z : (D.ref n :: ds).length = ps.length
            · rw [rr.length]; exact z
            · rw [hln _ _ z] at p3
              exact p3.no
          exact F'.call (us := .ref p :: us) (hroom.mono (Nat.le_succ k)) hgu hbi (tk σ) I2 (.cons (show RelV (.ref p) (.ref p) from rfl) rv) (call_ok hlen s2'.st rr p3)
      · cases q
    · cases q
end
end Lt
end S_Lt12

section S_Lt13
set_option Elab.async false
set_option linter.all false
set_option maxRecDepth 100000
set_option maxHeartbeats 1000000
/-! Lt13: what is walked; targets. -/
namespace Lt
open PySem PySem.Spec L2
/-- an iterator walks what the machine walks -/
def WalkR (K : PySem.W.Frag) : Hp → List Addr → Itr → It → Prop := fun H μ w J => match w with
  | .ls l => ∀ μ' H', Ext μ μ' H H' → ∀ i, (∀ d, l[i]? = some d → J.go i H' ∧ ∀ x H'', J.yld i H' x H'' → H'' = H' ∧ Rep K H' μ' d x) ∧ (l[i]? = none → J.stop i H')
  | .live n => ∃ a, μ[n]? = some a ∧ J = Itl K a
def tI (K : PySem.W.Frag) (pn : List (Addr × Obj)) (W : WX) (m : IM) : TI := fun σ H R => ∃ μ ρ st, SR K pn H μ σ ρ st ∧ Post K μ H (WalkR K) (m ρ st) R (fun c d H' => W c d σ H')
abbrev LI (X : Cx) (W : WX) (tg e : Expr) (m : IM) : Prop := PI X tg e (tI X.K X.pn W m)
mutual
/-- the slots of a target -/
def tgSl : Tg → List Nat
  | .nm i => [i]
  | .tp l => tgSls l
def tgSls : List Tg → List Nat
  | [] => []
  | t :: ts => tgSl t ++ tgSls ts
end
def gT (K : PySem.W.Frag) (pn : List (Addr × Obj)) (tg : Tg) : TG := fun v σ H q => ∃ μ ρ st d ρ', SR K pn H μ σ ρ st ∧ RepS K H μ pn d v ∧ setTg st tg d ρ = some ρ' ∧ ∀ σ', SR K pn H μ σ' ρ' st → (∀ vs, (∀ i ∈ tgSl tg, i ∈ vs) → wipe σ' vs = wipe σ vs) → q σ' H
theorem wipe_at {σ : L2.St} {i : Nat} : ∀ {vs : List Nat}, i ∈ vs → (wipe σ vs)[i]? = if i < σ.length then some none else none
  | v :: vs, h => by
    unfold wipe
    by_cases hv : v = i
    · subst hv
      by_cases hl : v < σ.length
      · rw [if_pos hl, List.getElem?_set_self (by rw [wipe_length]; exact hl)]
      · rw [if_neg hl, List.getElem?_eq_none (by rw [List.length_set, wipe_length]; omega)]
    · rw [List.getElem?_set_ne hv]
      exact wipe_at ((List.mem_cons.mp h).resolve_left fun e => hv e.symm)
theorem wipe_out {σ : L2.St} {i : Nat} : ∀ {vs : List Nat}, i ∉ vs → (wipe σ vs)[i]? = σ[i]?
  | [], _ => rfl
  | v :: vs, h => by
    unfold wipe
    rw [List.getElem?_set_ne (fun e => h (by rw [e]; exact List.mem_cons_self))]
    exact wipe_out fun e => h (List.mem_cons_of_mem _ e)
theorem wipe_eq {σ τ : L2.St} {vs : List Nat} (hl : σ.length = τ.length) (h : ∀ i, i ∉ vs → σ[i]? = τ[i]?) : wipe σ vs = wipe τ vs := by
  refine List.ext_getElem? fun i => ?_
  by_cases hi : i ∈ vs
  · rw [wipe_at hi, wipe_at hi, hl]
  · rw [wipe_out hi, wipe_out hi, h i hi]
abbrev LG (X : Cx) (e : Expr) (tg : Tg) : Prop := PG X e (gT X.K X.pn tg)
theorem _root_.L2.PI.or {X : Cx} {tg e : Expr} {w w' : TI} (h : PI X tg e w) (h' : PI X tg e w') : PI X tg e (fun σ H R => w σ H R ∨ w' σ H R) := ⟨fun pins s σ H R I q => q.elim (h.run pins s σ H R I) (h'.run pins s σ H R I)⟩
theorem _root_.L2.PI.imp {X : Cx} {tg e : Expr} {w w' : TI} (h : PI X tg e w) (i : ∀ σ H R, w' σ H R → w σ H R) : PI X tg e w' := ⟨fun pins s σ H R I q => h.run pins s σ H R I (i _ _ _ q)⟩
theorem _root_.L2.PG.imp {X : Cx} {e : Expr} {g g' : TG} (h : PG X e g) (i : ∀ v σ H Q, g' v σ H Q → g v σ H Q) : PG X e g' := ⟨fun pins s σ H v u Q I r q => h.run pins s σ H v u Q I r (i _ _ _ _ q)⟩
section
variable {X : Cx} {W : WX} {tg e : Expr} {m : EM} {pos : Pos}
theorem li_val (he : LE X W e m) : LI X W tg e (itM m) :=
  ((pi_list he).or ((pi_tup he).or (pi_str he))).imp fun σ H R ⟨μ, ρ, st, s, h⟩ => by
    unfold itM at h
    cases q : m ρ st with
    | no => rw [q] at h; exact h.no
    | ex x s1 =>
      rw [q] at h
      exact .inl ⟨μ, ρ, st, s, by rw [q]; exact h⟩
    | ok d s1 =>
      rw [q] at h
      have key : ∀ {C : V → Hp → Prop}, (∀ v H1 μ1, Ext μ μ1 H H1 → StR X.K H1 μ1 s1 → RepS X.K H1 μ1 X.pn d v → Post X.K μ1 H1 (WalkR X.K) (itD d s1) R (fun c d H' => W c d σ H') → C v H1) → tE X.K X.pn W m σ H C := fun {C} k => ⟨μ, ρ, st, s, by
        rw [q]
        exact fun v H1 μ1 e1 t1 r1 => k v H1 μ1 e1 t1 r1 (Post.base e1 (show Post X.K μ H (WalkR X.K) (itD d s1) R _ from h))⟩
      have tupC : ∀ {l : List D} {v : V} {a : Addr} {xs : List V} {H1 : Hp} {μ1 : List Addr}, StR X.K H1 μ1 s1 → v = .ref a → SqT X.K H1 a xs → Reps X.K H1 μ1 l xs → Post X.K μ1 H1 (WalkR X.K) (.ok (.ls l) s1) R (fun c d H' => W c d σ H') → ∃ a, v = .ref a ∧ (∃ xs, SqT X.K H1 a xs) ∧ R (Itt X.K a) H1 := fun {l v a xs H1 μ1} t1 e hs r p => by
        refine ⟨a, e, ⟨xs, hs⟩, p (Itt X.K a) H1 μ1 Ext.refl t1 fun μ' H' e' i => ⟨fun d hd => ?_, fun hd => ?_⟩⟩
        · obtain ⟨x, h1, h2⟩ := r.get hd
          refine ⟨⟨xs, x, e'.sq hs, h1⟩, fun y H'' hy => ⟨hy.1, ?_⟩⟩
          have h3 := hy.2 xs (e'.sq hs)
          rw [h1] at h3
          cases h3
          exact Rep.ext e' _ _ h2
        · refine ⟨xs, e'.sq hs, ?_⟩
          rw [r.length]
          exact List.getElem?_eq_none_iff.mp hd
      cases d with
      | ref n =>
        refine .inl (key fun v H1 μ1 e1 t1 r1 p1 => ?_)
        unfold itD at p1
        dsimp only at p1
        cases z : s1[n]? with
        | none => rw [z] at p1; exact p1.no
        | some o =>
          rw [z] at p1
          obtain ⟨a, h1, h2, h3⟩ := t1.get r1 z
          cases o with
          | lst l =>
            obtain ⟨xs, h4, h5⟩ := h3
            exact ⟨a, h2, ⟨xs, SqL.of h4⟩, p1 _ H1 μ1 Ext.refl t1 ⟨a, h1, rfl⟩⟩
          | ro l =>
            obtain ⟨ob, xs, h4, h5⟩ := h3
            exact ⟨a, h2, ⟨xs, .inl (.inr ⟨ob, h4⟩)⟩, p1 _ H1 μ1 Ext.refl t1 ⟨a, h1, rfl⟩⟩
          | ins _ _ _ => exact p1.no
          | dic _ => exact p1.no
      | tup l =>
        refine .inr (.inl (key fun v H1 μ1 e1 t1 r1 p1 => ?_))
        obtain ⟨a, xs, h1, h2, h3⟩ := r1
        exact tupC t1 h1 h2 h3 p1
      | exc x => exact (show False from h).elim
      | p x =>
        cases x with
        | tup l =>
          refine .inr (.inl (key fun v H1 μ1 e1 t1 r1 p1 => ?_))
          obtain ⟨a, xs, h1, h2, h3⟩ := r1
          exact tupC t1 h1 h2 (Reps.map_p.mpr h3) p1
        | str z =>
          refine .inr (.inr (key fun v H1 μ1 e1 t1 r1 p1 => ?_))
          cases r1
          unfold itD at p1
          dsimp only at p1
          split at p1
          · refine ⟨toS z, rfl, p1 _ H1 μ1 Ext.refl t1 fun μ' H' e' i => ⟨fun d hd => ?_, fun hd => ?_⟩⟩
            · rw [List.getElem?_map] at hd
              cases hz : z[i]? with
              | none => rw [hz] at hd; cases hd
              | some c =>
                rw [hz] at hd
                cases hd
                have hz' : (toS z).cps[i]? = some c := by
                  show (z.toArray)[i]? = some c
                  rw [List.getElem?_toArray]; exact hz
                refine ⟨?_, fun x H'' hy => ⟨hy.1, ?_⟩⟩
                · show i < z.toArray.size
                  rw [List.size_toArray]
                  exact (List.getElem?_eq_some_iff.mp hz).1
                · obtain ⟨c', h1, h2⟩ := hy.2
                  rw [hz'] at h1
                  cases h1
                  rw [h2]
                  rfl
            · rw [List.getElem?_map] at hd
              show z.toArray.size ≤ i
              rw [List.size_toArray]
              cases hz : z[i]? with
              | none => exact List.getElem?_eq_none_iff.mp hz
              | some c => rw [hz] at hd; cases hd
          · exact p1.no
        | _ => exact (show False from h).elim
theorem rng_walk {K : PySem.W.Frag} {H : Hp} {μ : List Addr} {lo hi : Int} : WalkR K H μ (.ls (rngL lo hi)) (L2.Itr lo (hi - lo).toNat) := fun μ' H' e' i => by
  unfold rngL
  refine ⟨fun d hd => ?_, fun hd => ?_⟩
  · rw [List.getElem?_map] at hd
    by_cases hi : i < (hi - lo).toNat
    · rw [List.getElem?_range hi] at hd
      cases hd
      exact ⟨hi, fun x H'' hy => ⟨hy.1, hy.2⟩⟩
    · rw [List.getElem?_eq_none (by simpa using hi)] at hd
      cases hd
  · rw [List.getElem?_map] at hd
    show (hi - lo).toNat ≤ i
    by_cases hi : i < (hi - lo).toNat
    · rw [List.getElem?_range hi] at hd
      cases hd
    · omega
theorem rng_ok {i : Int} (h : rngOk i = true) : -(2 ^ 62) ≤ i ∧ i < 2 ^ 62 := by
  unfold rngOk at h
  simpa only [Bool.and_eq_true, decide_eq_true_eq] using h
theorem li_rng1 {a : Expr} {p : Pos} {mr : AM} (hg : Gl X "range") (hm : X.mg "range" = none) (hs : isStar a = false) (ha : LA X W [a] mr) (hl : ∀ ρ st ds s1, mr ρ st = .ok ds s1 → ds.length = 1) : LI X W tg (.Call (.Name "range" p) [a] [] pos) (rngM mr) :=
  (pi_range1 hg hm ha (star_cons hs [] _)).imp fun σ H R ⟨μ, ρ, st, s, h⟩ => by
    cases q : mr ρ st with
    | no => unfold rngM at h; rw [q] at h; exact h.no
    | ex x s1 => exact ⟨μ, ρ, st, s, by unfold rngM at h; rw [q] at h ⊢; exact h⟩
    | ok ds0 s0 =>
      have hl0 := hl _ _ _ _ q
      refine ⟨μ, ρ, st, s, ?_⟩
      unfold rngM at h
      rw [q] at h ⊢
      intro vs H1 μ1 e1 t1 r1
      have p1 := Post.base e1 (show Post X.K μ H (WalkR X.K) _ R (fun c d H' => W c d σ H') from h)
      dsimp only [Lt.R.bind] at p1
      split at p1
      · obtain ⟨v, rfl, h1⟩ := reps1 r1
        cases h1
        split at p1
        · rename_i j hj
          obtain ⟨h2, h3⟩ := rng_ok hj
          exact ⟨_, rfl, h2, h3, by have := p1 (L2.Itr 0 (j - 0).toNat) H1 μ1 Ext.refl t1 rng_walk; simpa using this⟩
        · exact p1.no
      · cases hl0
      · exact p1.no
theorem reps2 {K : PySem.W.Frag} {H : Hp} {μ : List Addr} {d d' : D} {vs : List V} (h : Reps K H μ [d, d'] vs) : ∃ v v', vs = [v, v'] ∧ Rep K H μ d v ∧ Rep K H μ d' v' := by
  obtain ⟨v, r, e, h1, h2⟩ := h
  obtain ⟨v', e2, h3⟩ := reps1 h2
  exact ⟨v, v', by rw [e, e2], h1, h3⟩
theorem li_rng2 {a b : Expr} {p : Pos} {mr : AM} (hg : Gl X "range") (hm : X.mg "range" = none) (hs : isStar a = false) (hs2 : isStar b = false) (ha : LA X W [a, b] mr) (hl : ∀ ρ st ds s1, mr ρ st = .ok ds s1 → ds.length = 2) : LI X W tg (.Call (.Name "range" p) [a, b] [] pos) (rngM mr) :=
  (pi_range2 hg hm ha (by rw [star_cons hs, star_cons hs2]; rfl) (star_cons hs2 [] _)).imp fun σ H R ⟨μ, ρ, st, s, h⟩ => by
    cases q : mr ρ st with
    | no => unfold rngM at h; rw [q] at h; exact h.no
    | ex x s1 => exact ⟨μ, ρ, st, s, by unfold rngM at h; rw [q] at h ⊢; exact h⟩
    | ok ds0 s0 =>
      have hl0 := hl _ _ _ _ q
      refine ⟨μ, ρ, st, s, ?_⟩
      unfold rngM at h
      rw [q] at h ⊢
      intro vs H1 μ1 e1 t1 r1
      have p1 := Post.base e1 (show Post X.K μ H (WalkR X.K) _ R (fun c d H' => W c d σ H') from h)
      dsimp only [Lt.R.bind] at p1
      split at p1
      · cases hl0
      · obtain ⟨v, v', rfl, h1, h2⟩ := reps2 r1
        cases h1
        cases h2
        split at p1
        · rename_i i j hj
          simp only [Bool.and_eq_true] at hj
          obtain ⟨h2, h3⟩ := rng_ok hj.1
          obtain ⟨h4, h5⟩ := rng_ok hj.2
          exact ⟨_, _, rfl, ⟨h2, h3, h4, h5⟩, p1 _ H1 μ1 Ext.refl t1 rng_walk⟩
        · exact p1.no
      · exact p1.no
/-- a name as a target -/
theorem lg_name {i : Nat} {x : Str} (hN : X.N.Nodup) (hi : X.N[i]? = some x) (hx : Loc X.env.scope x) (hf : X.fn x = true ∨ X.env.scope.names.lookup x = some .local) : LG X (.Name x pos) (.nm i) :=
  (pg_name hN hi hx hf).imp fun v σ H Q ⟨μ, ρ, st, d, ρ', s, r, e, q⟩ => by
    unfold setTg at e
    cases e
    refine q _ (s.set r) fun vs hv => wipe_eq (by rw [List.length_set]) fun j hj => ?_
    have ne : i ≠ j := fun e => hj (by rw [← e]; exact hv i (by simp [tgSl]))
    rw [List.getElem?_set_ne ne]
end
end Lt
end S_Lt13

section S_Lt14
set_option Elab.async false
set_option linter.all false
set_option maxRecDepth 100000
set_option maxHeartbeats 1000000
/-! Lt14: statements. -/
namespace Lt
open PySem PySem.Spec L2
/-- what is wanted of a statement's end -/
def PostS (K : PySem.W.Frag) (pn : List (Addr × Obj)) (μ : List Addr) (H : Hp) (W : WX) (r : RS) (D : Ends) : Prop := match r with
  | .go .nx ρ st => ∀ σ' H' μ', Ext μ μ' H H' → SR K pn H' μ' σ' ρ st → D.nx σ' H'
  | .go .bk ρ st => ∀ σ' H' μ', Ext μ μ' H H' → SR K pn H' μ' σ' ρ st → D.bk σ' H'
  | .go .ct ρ st => ∀ σ' H' μ', Ext μ μ' H H' → SR K pn H' μ' σ' ρ st → D.ct σ' H'
  | .go (.rt d) ρ st => ∀ v σ' H' μ', Ext μ μ' H H' → SR K pn H' μ' σ' ρ st → Rep K H' μ' d v → D.rt v H'
  | .ex x ρ st => ∀ dd σ' H' μ', Ext μ μ' H H' → SR K pn H' μ' σ' ρ st → XFs K H' x.fs dd → W (.ref (ga K x.cls)) dd σ' H'
  | .no => False
def tS (K : PySem.W.Frag) (pn : List (Addr × Obj)) (W : WX) (m : SM) : TS := fun D σ H => ∃ μ ρ st, SR K pn H μ σ ρ st ∧ PostS K pn μ H W (m ρ st) D
abbrev LS (X : Cx) (W : WX) (s : Stmt) (m : SM) : Prop := PS X s (tS X.K X.pn W m)
abbrev LSs (X : Cx) (W : WX) (s : List Stmt) (m : SM) : Prop := PSs X s (tS X.K X.pn W m)
theorem _root_.L2.PS.imp {X : Cx} {s : Stmt} {t t' : TS} (h : PS X s t) (i : ∀ D σ H, t' D σ H → t D σ H) : PS X s t' := ⟨fun pins s σ H D I q => h.run pins s σ H D I (i _ _ _ q)⟩
theorem _root_.L2.PSs.imp {X : Cx} {s : List Stmt} {t t' : TS} (h : PSs X s t) (i : ∀ D σ H, t' D σ H → t D σ H) : PSs X s t' := ⟨fun pins s σ H D I q => h.run pins s σ H D I (i _ _ _ q)⟩
section
variable {K : PySem.W.Frag} {pn : List (Addr × Obj)} {μ μ' : List Addr} {H H' : Hp} {W : WX} {r : RS} {D D' : Ends} {σ : L2.St} {ρ : Rho} {st : Store}
theorem PostS.base (e : Ext μ μ' H H') (h : PostS K pn μ H W r D) : PostS K pn μ' H' W r D := by
  cases r with
  | go f ρ s => cases f with
    | nx => exact fun σ' H2 μ2 e2 s2 => h σ' H2 μ2 (e.trans e2) s2
    | bk => exact fun σ' H2 μ2 e2 s2 => h σ' H2 μ2 (e.trans e2) s2
    | ct => exact fun σ' H2 μ2 e2 s2 => h σ' H2 μ2 (e.trans e2) s2
    | rt d => exact fun v σ' H2 μ2 e2 s2 => h v σ' H2 μ2 (e.trans e2) s2
  | ex x ρ s => exact fun dd σ' H2 μ2 e2 s2 => h dd σ' H2 μ2 (e.trans e2) s2
  | no => exact h
theorem PostS.no (h : PostS K pn μ H W .no D) {C : Prop} : C := (show False from h).elim
/-- an expression's part of a statement -/
theorem PostS.of {α β : Type} {rel : Hp → List Addr → α → β → Prop} {m : R α} {f : α → Store → RS} {Q : β → Hp → Prop} (x : SR K pn H μ σ ρ st) (h : PostS K pn μ H W (RS.of m ρ f) D)
    (k : ∀ v H1 μ1 d st1, Ext μ μ1 H H1 → SR K pn H1 μ1 σ ρ st1 → rel H1 μ1 d v → PostS K pn μ1 H1 W (f d st1) D → Q v H1) : Post K μ H rel m Q (fun c d H' => W c d σ H') := by
  cases m with
  | ok d s => exact fun v H1 μ1 e1 t1 r1 => k v H1 μ1 d s e1 (x.ext e1 t1) r1 (PostS.base e1 h)
  | ex xc s => exact fun dd H1 μ1 e1 t1 xf => h dd σ H1 μ1 e1 (x.ext e1 t1) xf
  | no => exact h
/-- a part, then the rest -/
theorem PostS.seq {m : SM} {N : L2.St → Hp → Prop} (h : PostS K pn μ H W (match r with
    | .go .nx ρ' st' => m ρ' st'
    | r => r) D) (k : ∀ σ' H' μ' ρ' st', Ext μ μ' H H' → SR K pn H' μ' σ' ρ' st' → PostS K pn μ' H' W (m ρ' st') D → N σ' H') : PostS K pn μ H W r { D with nx := N } := by
  cases r with
  | go f ρ s => cases f with
    | nx => exact fun σ' H2 μ2 e2 s2 => k σ' H2 μ2 ρ s e2 s2 (PostS.base e2 h)
    | bk => exact h
    | ct => exact h
    | rt d => exact h
  | ex x ρ s => exact h
  | no => exact h
/-- a turn of a loop, then the rest -/
theorem PostS.loop {m : Rho → Store → RS} {N : L2.St → Hp → Prop} (h : PostS K pn μ H W (loopK r m) D)
    (k : ∀ σ' H' μ' ρ' st', Ext μ μ' H H' → SR K pn H' μ' σ' ρ' st' → PostS K pn μ' H' W (m ρ' st') D → N σ' H') : PostS K pn μ H W r { D with nx := N, ct := N, bk := D.nx } := by
  cases r with
  | go f ρ s => cases f with
    | nx => exact fun σ' H2 μ2 e2 s2 => k σ' H2 μ2 ρ s e2 s2 (PostS.base e2 h)
    | ct => exact fun σ' H2 μ2 e2 s2 => k σ' H2 μ2 ρ s e2 s2 (PostS.base e2 h)
    | bk => exact h
    | rt d => exact h
  | ex x ρ s => exact h
  | no => exact h
end
section
variable {X : Cx} {W : WX} {a b e o : Expr} {ma mo mb : EM} {mt : TM} {pos : Pos} {s : Stmt} {ss : List Stmt} {m m' : SM}
theorem ls_nil : LSs X W [] skipS := pss_nil.imp fun D σ H ⟨μ, ρ, st, r, h⟩ => h σ H μ Ext.refl r
theorem ls_skip (h : PS X s tNext) : LS X W s skipS := h.imp fun D σ H ⟨μ, ρ, st, r, h⟩ => h σ H μ Ext.refl r
theorem ls_break : LS X W (.Break pos) bkS := ps_break.imp fun D σ H ⟨μ, ρ, st, r, h⟩ => h σ H μ Ext.refl r
theorem ls_cont : LS X W (.Continue pos) ctS := ps_continue.imp fun D σ H ⟨μ, ρ, st, r, h⟩ => h σ H μ Ext.refl r
theorem ls_cons (h1 : LS X W s m) (h2 : LSs X W ss m') : LSs X W (s :: ss) (seqS m m') :=
  (pss_cons h1 h2).imp fun D σ H ⟨μ, ρ, st, r, h⟩ => ⟨μ, ρ, st, r, PostS.seq h fun σ' H' μ' ρ' st' e' s' p' => ⟨μ', ρ', st', s', p'⟩⟩
theorem sw_plain (h : isComp e = false) {t : Option Expr} {l : Nat} {env : Env} : swapsWith e t l env = pure false := by
  cases e <;> first | rfl | cases h
theorem ls_expr (hc : isComp e = false) (he : LE X W e ma) : LS X W (.Expr e pos) (exprS ma) :=
  (ps_expr he (sw_plain hc)).imp fun D σ H ⟨μ, ρ, st, r, h⟩ => ⟨μ, ρ, st, r, PostS.of r h fun v H1 μ1 d st1 e1 s1 r1 p1 => p1 σ H1 μ1 Ext.refl s1⟩
theorem ls_ret (he : LE X W e ma) : LS X W (.Return (some e) pos) (retS ma) :=
  (ps_ret he).imp fun D σ H ⟨μ, ρ, st, r, h⟩ => ⟨μ, ρ, st, r, PostS.of r h fun v H1 μ1 d st1 e1 s1 r1 p1 => by
    cases q : isX d with
    | true => rw [q] at p1; exact p1.no
    | false =>
      rw [q] at p1
      exact p1 v σ H1 μ1 Ext.refl s1 (r1.rep q)⟩
theorem ls_retN : LS X W (.Return none pos) (retS (cM .non)) :=
  ps_retN.imp fun D σ H ⟨μ, ρ, st, r, h⟩ => h .non σ H μ Ext.refl r (show RepP X.K H .non .non from rfl)
theorem ls_if {x y : List Stmt} (ht : LT X W e mt) (h1 : LSs X W x m) (h2 : LSs X W y m') : LS X W (.If e x y pos) (ifS mt m m') :=
  (ps_if ht h1 h2).imp fun D σ H ⟨μ, ρ, st, r, h⟩ => ⟨μ, ρ, st, r, PostS.of (rel := relE) r h fun v H1 μ1 d st1 e1 s1 r1 p1 => by
    have e' : d = v := r1
    subst e'
    cases d with
    | true => exact ⟨μ1, ρ, st1, s1, p1⟩
    | false => exact ⟨μ1, ρ, st1, s1, p1⟩⟩
theorem ls_while {n : Nat} (hp : PassesOwn (model X.prog X.w) X.A X.env X.xe) (ht : LT X W e mt) (hb : LSs X W ss m) : LS X W (.While e ss [] pos) (whlS mt m n) :=
  (ps_while hp ht hb).imp fun D σ H hw => by
    refine ⟨fun k σ' H' => tS X.K X.pn W (whlS mt m k) D σ' H', ⟨n, hw⟩, fun k σ' H' ⟨μ, ρ, st, r, h⟩ => ?_⟩
    cases k with
    | zero => exact h.no
    | succ k =>
      refine ⟨μ, ρ, st, r, PostS.of (rel := relE) r h fun v H1 μ1 d st1 e1 s1 r1 p1 => ?_⟩
      have e' : d = v := r1
      subst e'
      cases d with
      | false => exact p1 σ' H1 μ1 Ext.refl s1
      | true => exact ⟨fun σ2 H2 => tS X.K X.pn W (whlS mt m k) D σ2 H2, fun σ2 H2 q => ⟨k, Nat.lt_succ_self k, q⟩, μ1, ρ, st1, s1, PostS.loop p1 fun σ2 H2 μ2 ρ2 st2 e2 s2 p2 => ⟨μ2, ρ2, st2, s2, p2⟩⟩
theorem fold_plain (h : isSet e = false) (env : Env) : ∀ x, foldedSetIterable e env x = pure x := fun x => by
  cases e <;> first | rfl | cases h
theorem live_lst {K : PySem.W.Frag} {H : Hp} {μ : List Addr} {st : Store} {n i : Nat} {a : Addr} {o : Option D} (s : StR K H μ st) (ha : μ[n]? = some a) (h : liveAt st n i = some o) : ∃ l xs, SqL K H a xs ∧ Reps K H μ l xs ∧ l[i]? = o := by
  unfold liveAt at h
  split at h
  · rename_i l q
    obtain ⟨p, h1, h2, xs, h3, h4⟩ := s.get (v := .ref a) ⟨a, ha, rfl⟩ q
    cases V.ref.inj h2
    exact ⟨l, xs, SqL.of h3, h4, Option.some.inj h⟩
  · rename_i l q
    obtain ⟨p, h1, h2, ob, xs, h3, h4⟩ := s.get (v := .ref a) ⟨a, ha, rfl⟩ q
    cases V.ref.inj h2
    exact ⟨l, xs, .inl (.inr ⟨ob, h3⟩), h4, Option.some.inj h⟩
  · cases h
theorem ls_for {tg it : Expr} {mi : IM} {t : Tg} (hp : PassesOwn (model X.prog X.w) X.A X.env X.xe) (hc : X.calm = true) (hs : isSet it = false) (hi : LI X W tg it mi) (hg : LG X tg t) (hb : LSs X W ss m) : LS X W (.For tg it ss [] pos) (forS mi t m) :=
  (ps_for hp hc hi hg hb (fold_plain hs _)).imp fun D σ H ⟨μ, ρ, st, r, h⟩ => ⟨μ, ρ, st, r, PostS.of (rel := WalkR X.K) r h fun J H1 μ1 w st1 e1 s1 r1 p1 => by
    cases w with
    | ls l =>
      have r1 : ∀ μ' H', Ext μ1 μ' H1 H' → ∀ i, (∀ d, l[i]? = some d → J.go i H' ∧ ∀ x H'', J.yld i H' x H'' → H'' = H' ∧ Rep X.K H' μ' d x) ∧ (l[i]? = none → J.stop i H') := r1
      refine ⟨fun i k σ' H' => k = l.length - i ∧ ∃ μ' ρ' st', Ext μ1 μ' H1 H' ∧ SR X.K X.pn H' μ' σ' ρ' st' ∧ PostS X.K X.pn μ' H' W (lsS t m (l.drop i) ρ' st') D, ⟨l.length, rfl, μ1, ρ, st1, Ext.refl, s1, p1⟩, ?_⟩
      rintro i k σ' H' ⟨rfl, μ', ρ', st', e', s', p'⟩
      obtain ⟨go, stop⟩ := r1 μ' H' e' i
      cases hd : l[i]? with
      | none =>
        have hl := List.getElem?_eq_none_iff.mp hd
        rw [List.drop_eq_nil_of_le hl] at p'
        exact .inl ⟨stop hd, p' σ' H' μ' Ext.refl s'⟩
      | some d =>
        have hlt := (List.getElem?_eq_some_iff.mp hd).1
        rw [List.drop_eq_getElem_cons hlt, (List.getElem?_eq_some_iff.mp hd).2] at p'
        obtain ⟨g1, g2⟩ := go d hd
        refine .inr ⟨g1, fun σ2 H2 => ∃ μ2 ρ2 st2, Ext μ1 μ2 H1 H2 ∧ SR X.K X.pn H2 μ2 σ2 ρ2 st2 ∧ PostS X.K X.pn μ2 H2 W (lsS t m (l.drop (i + 1)) ρ2 st2) D, fun σ2 H2 q => ⟨l.length - (i + 1), by omega, rfl, q⟩, fun x H2 hy => ?_⟩
        obtain ⟨rfl, rx⟩ := g2 x H2 hy
        unfold lsS at p'
        cases ht : setTg st' t d ρ' with
        | none => rw [ht] at p'; exact p'.no
        | some ρ2 =>
          rw [ht] at p'
          exact ⟨μ', ρ', st', d, ρ2, s', RepS.of rx, ht, fun σ2 s2 _ => ⟨μ', ρ2, st', s2, PostS.loop p' fun σ3 H3 μ3 ρ3 st3 e3 s3 p3 => ⟨μ3, ρ3, st3, e'.trans e3, s3, p3⟩⟩⟩
    | live n =>
      obtain ⟨a, ha, rfl⟩ := r1
      refine ⟨fun i k σ' H' => ∃ μ' ρ' st', Ext μ1 μ' H1 H' ∧ SR X.K X.pn H' μ' σ' ρ' st' ∧ PostS X.K X.pn μ' H' W (liveS t m n k i ρ' st') D, ⟨_, μ1, ρ, st1, Ext.refl, s1, p1⟩, ?_⟩
      rintro i k σ' H' ⟨μ', ρ', st', e', s', p'⟩
      cases k with
      | zero => exact p'.no
      | succ k =>
        unfold liveS at p'
        cases hd : liveAt st' n i with
        | none => rw [hd] at p'; exact p'.no
        | some o =>
          rw [hd] at p'
          obtain ⟨l, xs, h1, h2, h3⟩ := live_lst s'.st (e'.at ha) hd
          cases o with
          | none =>
            refine .inl ⟨⟨xs, h1, ?_⟩, p' σ' H' μ' Ext.refl s'⟩
            rw [h2.length]
            exact List.getElem?_eq_none_iff.mp h3
          | some d =>
            obtain ⟨v, h4, h5⟩ := h2.get h3
            refine .inr ⟨⟨xs, v, h1, h4⟩, fun σ2 H2 => ∃ μ2 ρ2 st2, Ext μ1 μ2 H1 H2 ∧ SR X.K X.pn H2 μ2 σ2 ρ2 st2 ∧ PostS X.K X.pn μ2 H2 W (liveS t m n k (i + 1) ρ2 st2) D, fun σ2 H2 q => ⟨k, Nat.lt_succ_self k, q⟩, fun x H2 hy => ?_⟩
            obtain ⟨rfl, hy2⟩ := hy
            have e5 := hy2 xs h1
            rw [h4] at e5
            cases e5
            dsimp only at p'
            cases ht : setTg st' t d ρ' with
            | none => rw [ht] at p'; exact p'.no
            | some ρ2 =>
              rw [ht] at p'
              exact ⟨μ', ρ', st', d, ρ2, s', RepS.of h5, ht, fun σ2 s2 _ => ⟨μ', ρ2, st', s2, PostS.loop p' fun σ3 H3 μ3 ρ3 st3 e3 s3 p3 => ⟨μ3, ρ3, st3, e'.trans e3, s3, p3⟩⟩⟩⟩
/-! ### assignments -/
theorem ls_set {x : Str} {i : Nat} {px : Pos} (hc : isComp e = false) (hN : X.N.Nodup) (hi : X.N[i]? = some x) (hx : Loc X.env.scope x) (hf : X.fn x = true ∨ X.env.scope.names.lookup x = some .local) (he : LE X W e ma) : LS X W (.Assign [.Name x px] e pos) (asgS (.nm i) ma) :=
  (ps_set hN hi hx he (sw_plain hc) hf).imp fun D σ H ⟨μ, ρ, st, r, h⟩ => ⟨μ, ρ, st, r, PostS.of r h fun v H1 μ1 d st1 e1 s1 r1 p1 => p1 _ H1 μ1 Ext.refl (s1.set r1)⟩
theorem ls_aug {x : Str} {i : Nat} {px : Pos} {op : Operator} (hN : X.N.Nodup) (hi : X.N[i]? = some x) (hx : Loc X.env.scope x) (hf : X.fn x = true ∨ X.env.scope.names.lookup x = some .local) (he : LE X W e ma) : LS X W (.AugAssign (.Name x px) op e pos) (augS i op ma) :=
  (ps_aug hN hi hx he (PIp.of (rAug_op op)) hf).imp fun D σ H ⟨μ, ρ, st, r, h⟩ => by
    unfold augS at h
    cases q : ρ[i]? with
    | none => unfold varM at h; rw [q] at h; exact h.no
    | some o => cases o with
      | none => unfold varM at h; rw [q] at h; exact h.no
      | some d =>
        unfold varM at h
        rw [q] at h
        obtain ⟨v, h1, h2⟩ := r.var i d q
        have h : PostS X.K X.pn μ H W (RS.of (ma ρ st) ρ fun y s2 => RS.of (augD op d y s2) ρ fun z s3 => .go .nx (ρ.set i (some z)) s3) D := h
        refine ⟨v, h1, μ, ρ, st, r, PostS.of r h fun u H1 μ1 d1 st1 e1 s1 r1 p1 => ?_⟩
        exact aug_ok s1.st (h2.ext e1) r1 (PostS.of (rel := relS X.K X.pn) s1 p1 fun z H2 μ2 d2 st2 e2 s2 r2 p2 => p2 _ H2 μ2 Ext.refl (s2.set r2))
theorem putFd_keys (f : Str) (v : D) (y : V) : ∀ {fs : List (Str × D)} {vfs : List (Str × V)}, vfs.map (·.1) = fs.map (·.1) → (putF f y vfs).map (·.1) = (putFd f v fs).map (·.1)
  | [], [], _ => rfl
  | [], _ :: _, h => by cases h
  | _ :: _, [], h => by cases h
  | (g, d) :: fs, (g', v') :: vfs, h => by
    have eg : g' = g := (List.cons.inj h).1
    subst eg
    have ih := putFd_keys f v y (List.cons.inj h).2
    unfold putF putFd
    by_cases q : g' = f
    · simp [q, (List.cons.inj h).2]
    · simp [q, ih]
theorem putFd_reps {K : PySem.W.Frag} {H : Hp} {μ : List Addr} {f : Str} {v : D} {y : V} (hv : Rep K H μ v y) : ∀ {fs : List (Str × D)} {vfs : List (Str × V)}, vfs.map (·.1) = fs.map (·.1) → Reps K H μ (fs.map (·.2)) (vfs.map (·.2)) → Reps K H μ ((putFd f v fs).map (·.2)) ((putF f y vfs).map (·.2))
  | [], [], _, _ => Reps.cons hv Reps.nil
  | [], _ :: _, h, _ => by cases h
  | _ :: _, [], h, _ => by cases h
  | (g, d) :: fs, (g', v') :: vfs, h, r => by
    have eg : g' = g := (List.cons.inj h).1
    subst eg
    obtain ⟨x, t, e, h1, h2⟩ := r
    obtain ⟨rfl, rfl⟩ := List.cons.inj e
    have ih := putFd_reps (f := f) hv (List.cons.inj h).2 h2
    unfold putF putFd
    by_cases q : g' = f
    · rw [if_pos (by simpa using q), if_pos q]
      exact Reps.cons hv h2
    · rw [if_neg (by simpa using q), if_neg q]
      exact Reps.cons h1 ih
/-- a field is set: what stands after it -/
theorem setFld_ok {K : PySem.W.Frag} {H : Hp} {μ : List Addr} {st st' : Store} {f : Str} {d v : D} {x y : V} {pn : List (Addr × Obj)} (s : StR K H μ st) (r : RepS K H μ pn d x) (rv : Rep K H μ v y) (h : setFld f d v st = some st') :
    ∃ a C dx vfs, x = .ref a ∧ H a = some (.ins (ga K C) dx vfs) ∧ Cls K (ga K C) ∧ NoAttr K (ga K C) f ∧ vfs.length < 1000 ∧ Ext μ μ H (upd H a (.ins (ga K C) dx (putF f y vfs))) ∧ StR K (upd H a (.ins (ga K C) dx (putF f y vfs))) μ st' := by
  unfold setFld at h
  split at h
  · split at h
    · rename_i n C F fs q
      split at h
      · rename_i hc
        simp only [Bool.and_eq_true, decide_eq_true_eq] at hc
        cases h
        obtain ⟨a, h1, h2, ⟨hcl, hna⟩, dx, vfs, h3, h4, h5⟩ := s.get r q
        have e := Ext.write (o := .ins (ga K C) dx (putF f y vfs)) s (List.mem_of_getElem? h1)
        refine ⟨a, C, dx, vfs, h2, h3, hcl, hna f (List.contains_iff_mem.mp hc.1), ?_, e, s.write h1 ⟨⟨hcl, hna⟩, dx, _, upd_same, putFd_keys f v y h4, Reps.ext e _ _ (putFd_reps rv h4 h5)⟩⟩
        have : vfs.length = fs.length := by
          have := congrArg List.length h4
          simpa using this
        omega
      · cases h
    · cases h
  · cases h
theorem ls_fld {f : Str} {po : Pos} (hc : isComp e = false) (ho : LE X W o mo) (he : LE X W e ma) : LS X W (.Assign [.Attribute o f po] e pos) (fldS f mo ma) :=
  (ps_fld ho he (sw_plain hc)).imp fun D σ H ⟨μ, ρ, st, r, h⟩ => ⟨μ, ρ, st, r, PostS.of r h fun v H1 μ1 d st1 e1 s1 r1 p1 => ⟨μ1, ρ, st1, s1, PostS.of s1 p1 fun x H2 μ2 d2 st2 e2 s2 r2 p2 => by
    cases q : isX d with
    | true => rw [q] at p2; exact p2.no
    | false =>
      rw [q] at p2
      rw [if_neg Bool.false_ne_true] at p2
      cases z : setFld f d2 d st2 with
      | none => rw [z] at p2; exact p2.no
      | some st3 =>
        rw [z] at p2
        obtain ⟨a, C, dx, vfs, h1, h2, h3, h4, h5, h6, h7⟩ := setFld_ok s2.st r2 (Rep.ext e2 _ _ (r1.rep q)) z
        exact ⟨a, _, dx, vfs, h1, h2, h3, h4, h5, p2 σ _ μ2 h6 (s2.ext h6 h7)⟩⟩⟩
theorem ls_fldaug {f : Str} {po : Pos} {op : Operator} (ho : LE X W o mo) (he : LE X W e ma) : LS X W (.AugAssign (.Attribute o f po) op e pos) (fldAugS f op mo ma) := by
  refine ⟨fun pins s σ H D I ⟨μ, ρ, st, r, h⟩ => ?_⟩
  refine wpAny_AugAssign_AttributeAny (thn (ho.run pins s σ H (fun x H1 => ∃ μ1 d st1, SR X.K X.pn H1 μ1 σ ρ st1 ∧ isX d = false ∧ RepS X.K H1 μ1 X.pn d x ∧ PostS X.K X.pn μ1 H1 W (RS.of (fldD (fun _ _ => false) f d st1) ρ fun v s2 => RS.of (ma ρ s2) ρ fun y s3 => RS.of (augD op v y s3) ρ fun z s4 => if isX z then .no else match setFld f d z s4 with
    | some s5 => .go .nx ρ s5
    | none => .no) D) I ⟨μ, ρ, st, r, PostS.of r h fun v H1 μ1 d st1 e1 s1 r1 p1 => by
    cases q : isX d with
    | true => rw [q] at p1; exact p1.no
    | false =>
      rw [q] at p1
      exact ⟨μ1, d, st1, s1, q, r1, p1⟩⟩) fun u s1 ⟨x, H1, I1, rx, μ1, d, st1, t1, nx, r1, p1⟩ => ?_)
  cases q : fldD (fun _ _ => false) f d st1 with
  | no => rw [q] at p1; exact p1.no
  | ex xc s2 =>
    unfold fldD at q
    split at q
    · split at q
      · split at q <;> cases q
      · cases q
    · split at q <;> cases q
    · cases q
  | ok dv s2 =>
    rw [q] at p1
    unfold fldD at q
    split at q
    · rename_i n
      split at q
      · rename_i C F fs q2
        obtain ⟨p, h1, h2, ⟨hc, hn⟩, dx, vfs, h3, h4, h5⟩ := t1.st.get r1 q2
        subst h2
        obtain rfl : u = Value.ref p := rx
        split at q
        · rename_i d' hF hl
          cases q
          obtain ⟨v, h6, h7⟩ := lookup_of h4 h5 hl
          refine getattr_ok I1 h3 hc (hn f (List.contains_iff_mem.mp hF)) h6 fun w s3 I3 rw' => ?_
          have p2 : PostS X.K X.pn μ1 H1 W (RS.of (ma ρ st1) ρ fun y s3 => RS.of (augD op dv y s3) ρ fun z s4 => if isX z then .no else match setFld f (.ref n) z s4 with
            | some s5 => .go .nx ρ s5
            | none => .no) D := p1
          refine thn (he.run pins s3 σ H1 (fun y H2 => ∃ μ2 d2 st2, Ext μ1 μ2 H1 H2 ∧ SR X.K X.pn H2 μ2 σ ρ st2 ∧ RepS X.K H2 μ2 X.pn d2 y ∧ PostS X.K X.pn μ2 H2 W (RS.of (augD op dv d2 st2) ρ fun z s4 => if isX z then .no else match setFld f (.ref n) z s4 with
            | some s5 => .go .nx ρ s5
            | none => .no) D) I3 ⟨μ1, ρ, st1, t1, PostS.of t1 p2 fun v H2 μ2 d2 st2 e2 s2 r2 p2 => ⟨μ2, d2, st2, e2, s2, r2, p2⟩⟩) fun w3 s4 ⟨y, H2, I4, ry, μ2, d2, st2, e2, t2, r2, p3⟩ => ?_
          refine thn (PIp.of (rAug_op op) pins s4 σ H2 v y w w3 _ I4 rw' ry (aug_ok (Q := fun z H3 => ∃ μ3 dz st3, Ext μ2 μ3 H2 H3 ∧ SR X.K X.pn H3 μ3 σ ρ st3 ∧ RepS X.K H3 μ3 X.pn dz z ∧ PostS X.K X.pn μ3 H3 W (if isX dz then .no else match setFld f (.ref n) dz st3 with
            | some s5 => .go .nx ρ s5
            | none => .no) D) t2.st (RepS.of (Rep.ext e2 _ _ h7)) r2 (PostS.of (rel := relS X.K X.pn) t2 p3 fun z H3 μ3 dz st3 e3 s3 r3 p3 => ⟨μ3, dz, st3, e3, s3, r3, p3⟩))) fun w5 s5 ⟨z, H3, I5, rz, μ3, dz, st3, e3, t3, r3, p4⟩ => ?_
          cases hx : isX dz with
          | true => rw [hx] at p4; exact p4.no
          | false =>
            rw [hx, if_neg Bool.false_ne_true] at p4
            cases q5 : setFld f (.ref n) dz st3 with
            | none => rw [q5] at p4; exact p4.no
            | some s6 =>
              rw [q5] at p4
              obtain ⟨a, C', dx', vfs', g1, g2, g3, g4, g5, g6, g7⟩ := setFld_ok (x := .ref p) t3.st (RepS.of (pn := X.pn) (show Rep X.K H3 μ3 (.ref n) (.ref p) from ⟨p, (e2.trans e3).at h1, rfl⟩)) (r3.rep hx) q5
              cases V.ref.inj g1
              exact setattr_ok I5 g2 g3 g4 g5 rz fun s6 I6 => ⟨σ, _, I6, p4 σ _ μ3 g6 (t3.ext g6 g7)⟩
        · cases q
      · cases q
    · cases nx
    · cases q
end
end Lt
end S_Lt14

section S_Lt15
set_option Elab.async false
set_option linter.all false
set_option maxRecDepth 100000
set_option maxHeartbeats 1000000
/-! Lt15: unpacking, raise, try. -/
namespace Lt
open PySem PySem.Spec L2
section
variable {K : PySem.W.Frag} {pn pn' : List (Addr × Obj)} {μ μ' : List Addr} {H H' : Hp} {W : WX} {σ : L2.St} {ρ : Rho} {st : Store}
theorem noX_at {ρ : Rho} (h : noX ρ = true) {i : Nat} {d : D} (e : ρ[i]? = some (some d)) : isX d = false := by
  unfold noX at h
  have := List.all_eq_true.mp h _ (List.mem_of_getElem? e)
  simpa using this
theorem SR.noX (x : SR K pn H μ σ ρ st) (h : noX ρ = true) : SR K pn' H μ σ ρ st :=
  ⟨x.st, x.len, fun i d e => by
    obtain ⟨v, h1, h2⟩ := x.var i d e
    exact ⟨v, h1, RepS.of (h2.rep (noX_at h e))⟩⟩
theorem RepS.pins (hs : ∀ p ∈ pn, p ∈ pn') {d : D} {v : V} (h : RepS K H μ pn d v) : RepS K H μ pn' d v := by
  cases d with
  | exc x =>
    obtain ⟨a, oe, dd, h1, h2, h3⟩ := h
    exact ⟨a, oe, dd, h1, hs _ h2, h3⟩
  | p _ => exact h
  | tup _ => exact h
  | ref _ => exact h
theorem SR.pins (hs : ∀ p ∈ pn, p ∈ pn') (x : SR K pn H μ σ ρ st) : SR K pn' H μ σ ρ st :=
  ⟨x.st, x.len, fun i d e => by
    obtain ⟨v, h1, h2⟩ := x.var i d e
    exact ⟨v, h1, h2.pins hs⟩⟩
end
section
variable {X : Cx} {W : WX} {a b e o : Expr} {ma mo mb : EM} {mt : TM} {pos : Pos} {s : Stmt} {ss : List Stmt} {m m' : SM}
/-! ### several names from a sequence -/
def nameOf : Expr → Option Str
  | .Name x _ => some x
  | _ => none
/-- targets that are names, with their slots -/
def NmsOk (X : Cx) : List Expr → List Nat → Prop
  | [], [] => True
  | e :: es, i :: is => (∃ x p, e = .Name x p ∧ X.N[i]? = some x ∧ Loc X.env.scope x ∧ (X.fn x = true ∨ X.env.scope.names.lookup x = some .local)) ∧ NmsOk X es is
  | _, _ => False
def gNs : List Nat → TGs
  | [] => gNil
  | i :: is => gCons (gName i) (gNs is)
theorem pgs_nms (hN : X.N.Nodup) : ∀ {es : List Expr} {is : List Nat}, NmsOk X es is → PGs X es (gNs is) ∧ (assignEach es X.env).length = is.length ∧ (assignEach es X.env).findIdx? (·.1) = none
  | [], [], _ => ⟨pgs_nil, rfl, rfl⟩
  | [], _ :: _, h => h.elim
  | _ :: _, [], h => h.elim
  | e :: es, i :: is, ⟨⟨x, p, he, hi, hx, hf⟩, h⟩ => by
    subst he
    obtain ⟨h1, h2, h3⟩ := pgs_nms hN h
    refine ⟨pgs_cons (pg_name hN hi hx hf) h1 rfl, ?_, ?_⟩
    · show ((false, assign (.Name x p) X.env) :: assignEach es X.env).length = _
      rw [List.length_cons, h2, List.length_cons]
    · show ((false, assign (.Name x p) X.env) :: assignEach es X.env).findIdx? (·.1) = none
      rw [List.findIdx?_cons]
      simp [h3]
theorem setTgs_nms {K : PySem.W.Frag} {pn : List (Addr × Obj)} {H : Hp} {μ : List Addr} {st : Store} {Q : L2.St → Hp → Prop} : ∀ {is : List Nat} {l : List D} {xs : List V} {σ : L2.St} {ρ ρ' : Rho}, SR K pn H μ σ ρ st → Reps K H μ l xs → setTgs st (is.map .nm) l ρ = some ρ' →
    (∀ σ', SR K pn H μ σ' ρ' st → Q σ' H) → xs.length = is.length ∧ gNs is xs σ H Q
  | [], [], xs, σ, ρ, ρ', s, r, e, q => by
    cases r
    cases e
    exact ⟨rfl, rfl, q σ s⟩
  | i :: is, d :: l, xs, σ, ρ, ρ', s, ⟨v, t, e1, h1, h2⟩, e, q => by
    subst e1
    have e2 : setTgs st (is.map .nm) l (ρ.set i (some d)) = some ρ' := e
    obtain ⟨h3, h4⟩ := setTgs_nms (s.set (RepS.of h1)) h2 e2 q
    exact ⟨by rw [List.length_cons, h3, List.length_cons], v, t, rfl, h4⟩
  | [], _ :: _, _, _, _, _, _, _, e, _ => by cases e
  | _ :: _, [], _, _, _, _, _, _, e, _ => by cases e
theorem _root_.L2.PG.or {X : Cx} {e : Expr} {g g' : TG} (h : PG X e g) (h' : PG X e g') : PG X e (fun v σ H Q => g v σ H Q ∨ g' v σ H Q) := ⟨fun pins s σ H v u Q I r q => q.elim (h.run pins s σ H v u Q I r) (h'.run pins s σ H v u Q I r)⟩
theorem ls_unp {es : List Expr} {is : List Nat} {k : Nat} {pt p2 : Pos} {fe : Expr} {as : List Expr} {kw : List Keyword} (hc : X.calm = true) (hN : X.N.Nodup) (h : NmsOk X es is) (he : LE X W (.Call fe as kw p2) ma) :
    LS X W (.Assign [.Tuple es k pt] (.Call fe as kw p2) pos) (unpS is ma) := by
  obtain ⟨h1, h2, h3⟩ := pgs_nms hN h
  refine (ps_asg he ((pg_tup (k := k) (pos := pt) hc h1 h2 h3).or (pg_unl (k := k) (pos := pt) hc h1 h2 h3)) rfl rfl rfl).imp fun D σ H ⟨μ, ρ, st, r, h⟩ => ⟨μ, ρ, st, r, PostS.of r h fun v H1 μ1 d st1 e1 s1 r1 p1 => ?_⟩
  cases q : seqOf d st1 with
  | none => rw [q] at p1; exact p1.no
  | some l =>
    rw [q] at p1
    dsimp only at p1
    cases z : setTgs st1 (is.map .nm) l ρ with
    | none => rw [z] at p1; exact p1.no
    | some ρ' =>
      rw [z] at p1
      have na : isX d = false := by cases d <;> first | rfl | cases q
      obtain ⟨p, xs, rfl, hs, r2⟩ := seqOf_rep s1.st (r1.rep na) q
      obtain ⟨g1, g2⟩ := setTgs_nms s1 r2 z fun σ' s' => p1 σ' H1 μ1 Ext.refl s'
      rcases hs with hs | hs
      · exact .inr ⟨p, xs, rfl, hs, g1, g2⟩
      · exact .inl ⟨p, xs, rfl, hs, g1, g2⟩
/-! ### raise -/
/-- C('text'), C without own __init__ -/
def XcMk (K : PySem.W.Frag) (C : Addr) : Prop := ∃ B newId initId bm, ExcBaseFacts B newId initId bm ∧ PySem.W.excIn K C bm newId = true
theorem ls_raise {C : Str} {z : Str} {j : Nat} {p p1 p2 : Pos} (hc : X.calm = true) (tk : Takes X W) (hm : XcMk X.K (ga X.K C)) (gC : X.mg C = some (.ref (ga X.K C))) (kC : PySem.W.keepIn X.K (.ref (ga X.K C)) = true) (r : Raises X (.ref (ga X.K C))) (hg : Gl X C) (hd : (C == ("__debug__" : Str)) = false) :
    LS X W (.Raise (some (.Call (.Name C p) [.Constant (.str z) j p1] [] p2)) none pos) (rseS C) := by
  obtain ⟨B, n, i, bm, F, q⟩ := hm
  exact (ps_raise hc tk (pmk_own F q gC kC r hg hd)).imp fun D σ H ⟨μ, ρ, st, s, h⟩ => h none σ H μ Ext.refl s (.inl ⟨rfl, rfl⟩)
/-- C(e), its __init__ keeps e as f -/
def RaiseF (X : Cx) (C f : Str) : Prop := ∀ {te : TE} {e : Expr} {p pos : Pos}, PE X e te → isStar e = false → Gl X C → PMk X (.Call (.Name C p) [e] [] pos) (fun σ H Q => te σ H fun v H1 => ∀ dd, H1 dd = none → Q (.ref (ga X.K C)) (some dd) (upd H1 dd (.xd [(f, v)])))
theorem ls_raiseF {C f : Str} {p p2 : Pos} (hc : X.calm = true) (tk : Takes X W) (hr : RaiseF X C f) (hg : Gl X C) (hs : isStar e = false) (he : LE X W e ma) : LS X W (.Raise (some (.Call (.Name C p) [e] [] p2)) none pos) (rseFS C f ma) :=
  (ps_raise hc tk (hr he hs hg)).imp fun D σ H ⟨μ, ρ, st, s, h⟩ => ⟨μ, ρ, st, s, PostS.of s h fun v H1 μ1 d st1 e1 s1 r1 p1 dd hdd => by
    cases d with
    | p x =>
      have f1 := Ext.fresh (μ := μ1) (o := .xd [(f, v)]) hdd
      exact p1 (some dd) σ _ μ1 f1 (s1.ext f1 (s1.st.fresh hdd)) (.inr ⟨dd, [(f, v)], rfl, upd_same, rfl, v, [], rfl, RepP.ext f1 _ _ r1, rfl⟩)
    | tup _ => exact p1.no
    | ref _ => exact p1.no
    | exc _ => exact p1.no⟩
/-! ### try -/
/-- no exception leaves -/
def WF : WX := fun _ _ _ _ => False
theorem takes_no {X : Cx} : Takes X WF := fun u s' ⟨_, _, _, _, _, _, _, _, _, _, _, _, _, _, _, _, w⟩ => w.elim
theorem PostS.toPins {K : PySem.W.Frag} {pn pn' : List (Addr × Obj)} {μ : List Addr} {H : Hp} {W : WX} {f : Fl} {ρ : Rho} {st : Store} {D : Ends} (hx : noX ρ = true) (h : PostS K pn μ H W (.go f ρ st) D) {W' : WX} : PostS K pn' μ H W' (.go f ρ st) D := by
  cases f with
  | nx => exact fun σ' H' μ' e s => h σ' H' μ' e (s.noX hx)
  | bk => exact fun σ' H' μ' e s => h σ' H' μ' e (s.noX hx)
  | ct => exact fun σ' H' μ' e s => h σ' H' μ' e (s.noX hx)
  | rt d => exact fun v σ' H' μ' e s r => h v σ' H' μ' e (s.noX hx) r
theorem ls_tryOnly {x : Str} {np pos' : Pos} {b0 : Stmt} {hs : List Stmt} {sub : Str → Option Bool} (hst : X.stack = X.env :: X.outer) (hf : X.env.frame = some X.env.locals) (hc : Names X x (.ref (ga X.K x))) (tk : Takes X W)
    (hsub : ∀ y k, sub y = some k → PySem.W.exmOne X.K (.ref (ga X.K y)) (.ref (ga X.K x)) = some k)
    (hb : ∀ (W : WX) (pn : List (Addr × Obj)) (xe : Value → Shared → Prop), Takes (X.tr pn xe) W → PassesOwn (model X.prog X.w) X.A X.env xe → LSs (X.tr pn xe) W ss m)
    (hsu : ∀ (a : Addr) (oe : Obj) (pn : List (Addr × Obj)), LSs (X.suite a ((a, oe) :: pn)) WF (b0 :: hs) m') :
    LS X W (.Try ss [.ExceptHandler (some (.Name x np)) none (b0 :: hs) pos'] [] [] pos) (tryS sub m none m') := by
  refine (ps_try_only (tb := fun W' => fun D σ H => ∀ pn, tS X.K pn W' m D σ H) (ts := fun a cls d => fun D σ H => ∀ oe pn, Zc cls d oe → (∃ vs, oe.data = .fields vs) → tS X.K ((a, oe) :: pn) WF m' D σ H) hst hf hc tk
    (fun W' pn xe t p => (hb W' pn xe t p).imp fun D σ H q => q pn) (fun a oe cls d pn hz hd => (hsu a oe pn).imp fun D σ H q => q oe pn hz hd)).imp fun D σ H ⟨μ, ρ, st, s, h⟩ pn => ?_
  unfold tryS at h
  split at h
  · rename_i hn
    refine ⟨μ, ρ, st, s.noX hn, ?_⟩
    cases q : m ρ st with
    | no => rw [q] at h; exact h.no
    | go f ρ2 s2 =>
      rw [q] at h
      dsimp only at h
      split at h
      · rename_i hx; exact h.toPins hx
      · exact h.no
    | ex xc ρ1 s1 =>
      rw [q] at h
      dsimp only at h
      split at h
      · rename_i hx
        intro dd σ' H' μ' e' s' xf
        cases z : sub xc.cls with
        | none => rw [z] at h; exact h.no
        | some k =>
          rw [z] at h
          refine ⟨k, hsub _ _ z, fun hk a ha oe pn2 hz hd => ?_, fun hk => ?_⟩
          · subst hk
            dsimp only at h
            refine ⟨μ', ρ1, s1, s'.noX hx, ?_⟩
            cases q2 : m' ρ1 s1 with
            | no => rw [q2] at h; exact h.no
            | ex _ _ _ => rw [q2] at h; exact h.no
            | go f ρ2 s2 =>
              rw [q2] at h
              dsimp only at h
              split at h
              · rename_i hx2; exact (h.base e').toPins hx2
              · exact h.no
          · subst hk
            exact h dd σ' H' μ' e' (s'.noX hx) xf
      · exact h.no
  · exact h.no
theorem PostS.unset {K : PySem.W.Frag} {pn pn' : List (Addr × Obj)} {μ : List Addr} {H : Hp} {W W' : WX} {f : Fl} {ρ : Rho} {st : Store} {D : Ends} {i : Nat} (hx : noX (ρ.set i none) = true) (h : PostS K pn μ H W (.go f (ρ.set i none) st) D) :
    PostS K pn' μ H W' (.go f ρ st) { nx := fun σ' H' => D.nx (σ'.set i none) H', rt := D.rt, bk := fun σ' H' => D.bk (σ'.set i none) H', ct := fun σ' H' => D.ct (σ'.set i none) H' } := by
  cases f with
  | nx => exact fun σ' H' μ' e s => h _ H' μ' e ((s.unset (i := i)).noX hx)
  | bk => exact fun σ' H' μ' e s => h _ H' μ' e ((s.unset (i := i)).noX hx)
  | ct => exact fun σ' H' μ' e s => h _ H' μ' e ((s.unset (i := i)).noX hx)
  | rt d => exact fun v σ' H' μ' e s r => h v _ H' μ' e ((s.unset (i := i)).noX hx) r
theorem ls_tryAs {x n : Str} {i : Nat} {np pos' : Pos} {b0 : Stmt} {hs : List Stmt} {sub : Str → Option Bool} (hst : X.stack = X.env :: X.outer) (hf : X.env.frame = some X.env.locals) (hN : X.N.Nodup) (hi : X.N[i]? = some n) (hln : X.env.kindOf n = some .local) (hc : Names X x (.ref (ga X.K x))) (tk : Takes X W)
    (hsub : ∀ y k, sub y = some k → PySem.W.exmOne X.K (.ref (ga X.K y)) (.ref (ga X.K x)) = some k)
    (hb : ∀ (W : WX) (pn : List (Addr × Obj)) (xe : Value → Shared → Prop), Takes (X.tr pn xe) W → PassesOwn (model X.prog X.w) X.A X.env xe → LSs (X.tr pn xe) W ss m)
    (hsu : ∀ (a : Addr) (oe : Obj) (pn : List (Addr × Obj)), LSs (X.suite a ((a, oe) :: pn)) WF (b0 :: hs) m') :
    LS X W (.Try ss [.ExceptHandler (some (.Name x np)) (some n) (b0 :: hs) pos'] [] [] pos) (tryS sub m (some i) m') := by
  refine (ps_try_as (tb := fun W' => fun D σ H => ∀ pn, tS X.K pn W' m D σ H) (ts := fun a cls d => fun D σ H => ∀ oe pn, Zc cls d oe → (∃ vs, oe.data = .fields vs) → tS X.K ((a, oe) :: pn) WF m' D σ H) hst hf hN hi hln hc tk
    (fun W' pn xe t p => (hb W' pn xe t p).imp fun D σ H q => q pn) (fun a oe cls d pn hz hd => (hsu a oe pn).imp fun D σ H q => q oe pn hz hd)).imp fun D σ H ⟨μ, ρ, st, s, h⟩ pn => ?_
  unfold tryS at h
  split at h
  · rename_i hn
    refine ⟨μ, ρ, st, s.noX hn, ?_⟩
    cases q : m ρ st with
    | no => rw [q] at h; exact h.no
    | go f ρ2 s2 =>
      rw [q] at h
      dsimp only at h
      split at h
      · rename_i hx; exact h.toPins hx
      · exact h.no
    | ex xc ρ1 s1 =>
      rw [q] at h
      dsimp only at h
      split at h
      · rename_i hx
        intro dd σ' H' μ' e' s' xf
        cases z : sub xc.cls with
        | none => rw [z] at h; exact h.no
        | some k =>
          rw [z] at h
          refine ⟨k, hsub _ _ z, fun hk a ha oe pn2 hz hd => ?_, fun hk => ?_⟩
          · subst hk
            dsimp only at h
            refine ⟨μ', ρ1.set i (some (.exc xc)), s1, (s'.noX (pn' := (a, oe) :: pn2) hx).set (show ExcAt X.K H' ((a, oe) :: pn2) xc (.ref a) from ⟨a, oe, dd, rfl, List.mem_cons_self, hz, hd, xf⟩), ?_⟩
            cases q2 : m' (ρ1.set i (some (.exc xc))) s1 with
            | no => rw [q2] at h; exact h.no
            | ex _ _ _ => rw [q2] at h; exact h.no
            | go f ρ2 s2 =>
              rw [q2] at h
              dsimp only at h
              split at h
              · rename_i hx2; exact (h.base e').unset hx2
              · exact h.no
          · subst hk
            exact h dd σ' H' μ' e' (s'.noX hx) xf
      · exact h.no
  · exact h.no
end
end Lt
end S_Lt15

section S_Lt16
set_option Elab.async false
set_option linter.all false
set_option maxRecDepth 100000
set_option maxHeartbeats 2000000
/-! Lt16: list comprehensions that exceptions may leave. -/
namespace Lt
open PySem PySem.Spec L2
open PyProof.Rows hiding St
/-! ### exceptions of a frame L -/
/-- as XE, the frame that notes by its own name -/
def XL (X : Cx) (L : Addr) (W : WX) (u : Value) (z : Shared) : Prop :=
  ∃ (a : Addr) (B : Heap) (t : Shared) (ps : List (Addr × Obj)) (σ : L2.St) (H : Hp) (c : Value) (d : Option Addr), u = .ref a ∧ Inv X ps σ H t ∧ (∀ b o, t.heap.get? b = some o → b ∉ frs X.stack → B.get? b = some o) ∧ t.heap.UpToSlots z.heap ∧
    Sky B X.stack a (Zc c d) L z.heap ∧ H a = none ∧ z.os = t.os ∧ AllBare z.gens ∧ W c d σ H
def TakesL (X : Cx) (L : Addr) (W : WX) : Prop := ∀ u z, XL X L W u z → X.xe u z
theorem takesL_of {X : Cx} {W : WX} (t : Takes X W) : TakesL X X.env.locals W := t
theorem XL.of_call {X : Cx} {L : Addr} {W : WX} {ps : List (Addr × Obj)} {σ : L2.St} {H : Hp} {s z : Shared} {u : Value} (I : Inv X ps σ H s) (c : L2.CX X.prog X.w X.stack H s (WE W σ) u z) : XL X L W u z := by
  obtain ⟨a0, B0, H0, c0, d0, e0, fl0, _⟩ := id c
  obtain ⟨a, B, t, qs, τ, H1, cl, d, e1, J, nb, up, sky, na, os, ag, w⟩ := XE.of_call (W := W) I (fun _ _ _ h => h) c
  rw [e0] at e1
  cases e1
  obtain ⟨_, _, _, oe, vs, T, oT, ts, g1, _, g2, g3, _, _, g4, g5, g6⟩ := fl0
  refine ⟨a0, B, t, qs, τ, H1, cl, d, e0, J, nb, up, .inr (.inl ?_), na, os, ag, w⟩
  rcases sky with ⟨_, _, _, oe', vs', k1, _, k2, k3⟩ | fl | ⟨_, _, _, oe', vs', T', oT', ts', k1, _, k2, k3, _, _, k4, k5, k6⟩
  · rw [g1] at k1; cases k1
    rw [g2] at k2; cases k2
    rw [g3] at k3; cases k3
  · exact fl
  · rw [g1] at k1; cases k1
    rw [g2] at k2; cases k2
    rw [g3] at k3; cases k3
    rw [g4] at k4; cases k4
    rw [g5] at k5; cases k5
    rw [g6] at k6; cases k6
theorem lets_of {X : Cx} {L : Addr} {W : WX} (t : TakesL X L W) : Lets X W := fun σ ps H s e z I c => t e z (XL.of_call I c)
/-! ### the block's end, its frame known -/
def cEnd (M : Model) (A : Around) (E : Value → Shared → Prop) (use : Option (Value → Sem Unit)) (Q : Value → Shared → Prop) (acc : Value) (ce : Env) (r : Result) (z : Shared) : Prop :=
  match r, use with
  | .ok _, none => ∃ m, z.heap.Ns ce.locals m ∧ ∀ h, Heap.SameBut ce.locals z.heap h → Q acc { z with heap := h }
  | .ok _, some f => wpAny M A (f acc) (fun _ y => ∃ m, y.heap.Ns ce.locals m ∧ ∀ h, Heap.SameBut ce.locals y.heap h → Q .none { y with heap := h }) E z
  | .error x, _ => ∃ m, z.heap.Ns ce.locals m ∧ ∀ h, Heap.SameBut ce.locals z.heap h → wpAny M A (passOn "comprehension.variables-let-go" x ce : Sem Value) (fun _ _ => False) E { z with heap := h }
theorem compr_end {M : Model} {A : Around} {E : Value → Shared → Prop} {s : Shared} {env : Env} {e : Expr} {scope : Scope} {pos : Pos} {nw fst : Sem Value} {g : Comprehension} {gs : List Comprehension} {cl : List (Str × Addr)} {use : Option (Value → Sem Unit)} {Q : Value → Shared → Prop}
    (k1 : clausesOf e = g :: gs) (k2 : ∀ x, foldedSetIterable g.iter env x = pure x) (k3 : closureFor scope env = pure cl) (k4 : scope.kind = .function) (k5 : ∀ x ∈ scope.names, x.2 = .local → scope.names.lookup x.1 = some .local)
    (h : wpAny M A fst (fun x t1 => wpAny M A (pyIter x) (fun it t2 => wpAny M A nw (fun acc t3 => wpAny M A (newFunctionEnv scope env.globals cl [] env.qual none .none (some env)) (fun ce t4 =>
        codeAny M A (.compStart e 0 it acc { ce with scope := relabel scope env }) (cEnd M A E use Q acc { ce with scope := relabel scope env }) t4) E t3) E t2) E t1) E s) :
    wpAny M A (comprehension e scope env pos nw false fst use) Q E s := by
  unfold comprehension
  rw [k3, k1]
  refine wpAny_bind (wpAny_mono h (fun x t1 h1 => wpAny_bind (wpAny_standAt (wpAny_bind (wpAny_of_eq (k2 x) (wpAny_bind (wpAny_holding (wpAny_mono h1 (fun it t2 h2 => ?_) fun _ _ y => y))))))) fun _ _ y => y)
  refine wpAny_standIf (wpAny_bind (wpAny_mono h2 (fun acc t3 h3 => wpAny_bind (wpAny_pure (wpAny_bind (wpAny_mono h3 (fun ce t4 h4 => ?_) fun _ _ y => y)))) fun _ _ y => y))
  dsimp only
  generalize hcv : ({ ce with scope := relabel scope env } : Env) = cv at h4
  have hkc : cv.scope.kind = .function := by rw [← hcv]; exact k4
  have hv : ∀ x ∈ (scope.names.filter fun x => (x.2 == .local || x.2 == .cell) && x.1 != (".0" : Str)).reverse, x.2 = .local → cv.kindOf x.1 = some .local := fun x hx hl => by
    rw [← hcv]
    exact lookup_relabel_local (k5 x (List.mem_filter.mp (List.mem_reverse.mp hx)).1 hl)
  have hv2 : ∀ x ∈ (scope.names.filter fun x => (x.2 == .local || x.2 == .cell) && x.1 != (".0" : Str)).reverse.drop 1 ++ (scope.names.filter fun x => (x.2 == .local || x.2 == .cell) && x.1 != (".0" : Str)).reverse.take 1, x.2 = .local → cv.kindOf x.1 = some .local := fun x hx hl =>
    (List.mem_append.mp hx).elim (fun y => hv x (List.mem_of_mem_drop y) hl) fun y => hv x (List.mem_of_mem_take y) hl
  refine wpAny_holding (wpAny_bind (wpAny_attempt (wpAny_holding (wpAny_run ?_))))
  have h5 := h4
  rw [← hcv] at h5
  refine codeAny_mono h5 fun r z hr => ?_
  rw [hcv] at hr
  cases r with
  | ok f =>
    cases use with
    | none =>
      obtain ⟨m, hn, hq⟩ := hr
      refine wpAny_bind (wpAny_holding ?_)
      have go := fun (co : List (Str × NameKind) → List Value) => wpAny_comp_letGo (cellsOf := co) (M := M) (A := A) (E := E) (cenv := cv) (Q := fun _ y => wpAny M A (pure (f := Sem) acc) Q E y) hkc _ z m hv hn fun h m' _ sb => wpAny_pure (hq h sb)
      subst hcv
      exact go _
    | some f2 =>
      refine wpAny_bind (wpAny_rule (wpAny_bind (wpAny_holding (wpAny_mono hr (fun _ y hy => ?_) fun _ _ y => y))))
      obtain ⟨m, hn, hq⟩ := hy
      have go := fun (co : List (Str × NameKind) → List Value) => wpAny_comp_letGo (cellsOf := co) (M := M) (A := A) (E := E) (cenv := cv) (Q := fun _ y => wpAny M A (pure (f := Sem) .none) Q E y) hkc _ y m hv2 hn fun h m' _ sb => wpAny_pure (hq h sb)
      subst hcv
      exact wpAny_bind (go _)
  | error x =>
    have hr' : ∃ m, z.heap.Ns cv.locals m ∧ ∀ h, Heap.SameBut cv.locals z.heap h → wpAny M A (passOn "comprehension.variables-let-go" x cv : Sem Value) (fun _ _ => False) E { z with heap := h } := by cases use <;> exact hr
    obtain ⟨m, hn, hq⟩ := hr'
    refine wpAny_bind (wpAny_holding ?_)
    have go := fun (co : List (Str × NameKind) → List Value) => wpAny_comp_letGo (cellsOf := co) (M := M) (A := A) (E := E) (cenv := cv) (Q := fun _ y => wpAny M A (passOn "comprehension.variables-let-go" x cv : Sem Value) Q E y) hkc _ z m hv hn fun h m' _ sb => wpAny_mono (hq h sb) (fun _ _ f => f.elim) fun _ _ y => y
    subst hcv
    exact go _
/-! ### an exception leaves the block -/
theorem frames_keep {B B' h h' : Heap} : ∀ {l : List Env}, h.FunFrames B l → (∀ L ∈ frs l, h'.get? L = h.get? L) → (∀ L ∈ frs l, B'.get? L = none) → h'.FunFrames B' l
  | [], _, _, _ => trivial
  | env :: l, ⟨hk, ⟨L, o, hf, hn, ho, hd⟩, hr⟩, k, n => by
    have mL : L ∈ frs (env :: l) := List.mem_filterMap.mpr ⟨env, List.mem_cons_self, hf⟩
    have mono : ∀ b ∈ frs l, b ∈ frs (env :: l) := fun b hb => by
      obtain ⟨e, he, q⟩ := List.mem_filterMap.mp hb
      exact List.mem_filterMap.mpr ⟨e, List.mem_cons_of_mem _ he, q⟩
    exact ⟨hk, ⟨L, o, hf, n L mL, (k L mL).trans ho, hd⟩, frames_keep hr (fun b hb => k b (mono b hb)) fun b hb => n b (mono b hb)⟩
/-- the block's locals at C are gone from the ground -/
theorem held_but {B h h' : Heap} {l : List Env} {a C L : Addr} {Z : Obj → Prop} (x : HandSPX.HeldZ B l a Z L h) (sb : Heap.SameBut C h h') (hC : C ∉ frs l) (hB : ∃ o, B.get? C = some o) : HandSPX.HeldZ (PySem.W.hideAll B [C]) l a Z L h' := by
  obtain ⟨x1, x2, x3, oe, vs, T, oT, ts, g1, g0, g2, g3, g7, g8, g4, g5, g6⟩ := x
  obtain ⟨oB, eB⟩ := hB
  have sub : ∀ {b o}, (PySem.W.hideAll B [C]).get? b = some o → B.get? b = some o := fun e => PySem.W.of_hideAll _ e
  have nn : ∀ {b}, B.get? b = none → (PySem.W.hideAll B [C]).get? b = none := fun {b} e => by
    cases q : (PySem.W.hideAll B [C]).get? b with
    | none => rfl
    | some o => rw [sub q] at e; cases e
  have ne : ∀ {b}, B.get? b = none → b ≠ C := fun e z => by rw [z, eB] at e; cases e
  refine ⟨fun b o e => ?_, nn x2, frames_keep x3 (fun b hb => sb.2 b fun z => hC (z ▸ hb)) fun b hb => nn (x3.mem hb).1, oe, vs, T, oT, ts, (sb.2 a (ne x2)).trans g1, g0, g2, g3, nn g7, g8, (sb.2 T (ne g7)).trans g4, g5, g6⟩
  have nb : b ≠ C := fun z => by
    rw [z, PySem.W.hideAll_none [C] List.mem_cons_self] at e; cases e
  exact (sb.2 b nb).trans (x1 b o (sub e))
theorem land_any {M : Model} {A : Around} {E : Value → Shared → Prop} {B : Heap} {env : Env} {outer : List Env} {L a : Addr} {Z : Obj → Prop} {s : Shared} {Q : Unit → Shared → Prop} (hZ : HandSPX.Steady Z) (hfr : A.frames = some (env :: outer)) (hf : env.frame = some L)
    (x : Sky B (env :: outer) a Z L s.heap) (q : ∀ h', HandSPX.HeldZ B (env :: outer) a Z L h' → s.heap.UpToSlots h' → Q () { s with heap := h' }) : wpAny M A (noteFrame (.ref a) env) Q E s := by
  rcases x with ⟨hB, hn, hl, oe, vs, he, hz, hd, h1⟩ | fl | hh
  · exact HandSPX.look_newZ hZ hfr hl hf he hB hn hd h1 hz q
  · exact HandSPX.looks_onZ hZ hfr hf fl q
  · exact HandSPX.againZ hf hh.2.2.2 (q s.heap hh (Heap.UpToSlots.refl _))
theorem note_same {e : Value} {x y : Env} (h : x.frame = y.frame) : noteFrame e x = noteFrame e y := by
  unfold noteFrame PySem.frameOf
  rw [h]
/-- the context of a block from which exceptions may come -/
abbrev bx (X : Cx) (L : Addr) (W : WX) (σ : L2.St) (s : Shared) (H : Hp) (scope : Scope) (ce : Env) (fp : List Addr) : Cx := (X.blk s H scope ce fp).wish fun u z => XL (X.blk s H scope ce fp) L (fun c d _ H' => W c d σ H') u z
theorem bx_takes {X : Cx} {L : Addr} {W : WX} {σ : L2.St} {s : Shared} {H : Hp} {scope : Scope} {ce : Env} {fp : List Addr} : TakesL (bx X L W σ s H scope ce fp) L (fun c d _ H' => W c d σ H') := fun u z ⟨a, B, t, ps, τ, H', c, d, e, J, r⟩ => ⟨a, B, t, ps, τ, H', c, d, e, J.unwish, r⟩
section
variable {X : Cx}
theorem lcX {L : Addr} {W : WX} {E0 : Env} {outer0 : List Env} {pins : List (Addr × Obj)} {s : Shared} {σ : L2.St} {H : Hp} {Q : VK} {elt tg iter : Expr} {ifs : List Expr} {scope : Scope} {own : List (Str × Nat)} {pos pos' : Pos} {wi : TI} {g : TG} {tt : TT} {te : TE} {use : Option (Value → Sem Unit)} {Qf : Value → Shared → Prop}
    (tk : TakesL X L W) (hst : X.stack = E0 :: outer0) (hfE : E0.frame = some L) (hfX : X.env.frame = some L)
    (hc : X.calm = true) (hN : X.N.Nodup) (I : Inv X pins σ H s) (hi : PI X tg iter wi) (ok : BlkOk X.N X.env.scope scope own)
    (hg : ∀ s1 H1 C cl fp, PG (bx X L W σ s1 H1 scope (compEnvC scope cl C X.env) fp) tg g) (ht : ∀ s1 H1 C cl fp, PTs (bx X L W σ s1 H1 scope (compEnvC scope cl C X.env) fp) ifs tt)
    (he : ∀ s1 H1 C cl fp, PE (bx X L W σ s1 H1 scope (compEnvC scope cl C X.env) fp) elt te) (hs : ∀ x, foldedSetIterable iter X.env x = pure x) (h : tLc wi g tt te (own.map (·.2)) σ H Q)
    (fin : ∀ D C z m H', Inv X pins σ H' z → Q (.ref D) H' → z.heap.Ns C m → FpOk X pins H' C → ∀ ce : Env, ce.locals = C → cEnd (model X.prog X.w) X.A X.xe use Qf (.ref D) ce (.ok .next) z) :
    wpAny (model X.prog X.w) X.A (comprehension (.ListComp elt [⟨tg, iter, ifs, 0⟩] scope pos) scope X.env pos' (newList []) false (eval iter X.env) use) Qf X.xe s := by
  have hfree : ∀ y ∈ scope.names, y.2 = .free → ∃ c, X.env.cells.lookup y.1 = some c := fun y hy e => (ok.free y hy e).elim (fun k => I.ok.has _ (.inl k)) fun k => I.ok.has _ (.inr k)
  refine compr_end (use := use) rfl hs (closure_ok hfree) ok.kind (fun y hy e => by rw [ok.uniq y hy, e]) (thn (hi.run pins s σ H _ I h) fun xv s1 hx => thn hx fun itv s2 h2 => ?_)
  obtain ⟨it, fp, tn, J, H2, e, I2, T, st2, f2, q⟩ := h2
  subst e
  refine wpAny_newObj_type (newEnv_comp ?_) (by show 0 ≤ sizeLine; decide)
  generalize hD : s2.heap.objs.size = D
  obtain ⟨Wt, ⟨m0, w0⟩, turn⟩ := q D (I2.hok.fresh (Nat.le_of_eq hD))
  generalize hs3 : ({ s2 with heap := s2.heap.push { cls := .type "list", data := .seq ([] : List Value).toArray } } : Shared) = s3
  have h3 : s3.heap = s2.heap.push { cls := .type "list", data := .seq ([] : List Value).toArray } := by rw [← hs3]
  have I3 : Inv X pins σ (upd H2 D (.lst [])) s3 := by
    rw [← hs3]
    exact I2.laid (t' := s2.toks) (fun b o e => Heap.get?_push_of_some _ e) (Nat.le_of_eq hD) ⟨Nat.zero_le _, [], 0, .nil, by rw [← hD]; exact Heap.get?_push_size _ rfl⟩
  have f3 : ∀ b ∈ fp, FpOk X pins (upd H2 D (.lst [])) b ∧ b < s3.heap.objs.size := fun b hb => by
    obtain ⟨o, e, _⟩ := T.obj _ _ st2 b hb
    have lt := Heap.lt_size e
    exact ⟨⟨by rw [upd_ne (by rw [← hD]; exact Nat.ne_of_lt lt)]; exact (f2 b hb).1, (f2 b hb).2⟩, by rw [h3, Heap.size_push]; exact Nat.lt_succ_of_lt lt⟩
  have I4 := block_start I3 ok hN f3
  have pg := hg s3 (upd H2 D (.lst [])) s3.heap.objs.size (cellsFrom (s3.heap.objs.size + 1) scope.names (cloFrom X.env.cells scope.names [])) fp
  have pt := ht s3 (upd H2 D (.lst [])) s3.heap.objs.size (cellsFrom (s3.heap.objs.size + 1) scope.names (cloFrom X.env.cells scope.names [])) fp
  have pe := he s3 (upd H2 D (.lst [])) s3.heap.objs.size (cellsFrom (s3.heap.objs.size + 1) scope.names (cloFrom X.env.cells scope.names [])) fp
  show codeAny _ _ (.compStart (.ListComp elt [⟨tg, iter, ifs, 0⟩] scope pos) 0 (.ref it) (.ref D) (compEnvC scope (cellsFrom (s3.heap.objs.size + 1) scope.names (cloFrom X.env.cells scope.names [])) s3.heap.objs.size X.env))
    (cEnd (model X.prog X.w) X.A X.xe use Qf (.ref D) (compEnvC scope (cellsFrom (s3.heap.objs.size + 1) scope.names (cloFrom X.env.cells scope.names [])) s3.heap.objs.size X.env)) { s3 with heap := pushCells (s3.heap.push { cls := .type "dict", data := .dict #[] }) scope.names }
  have nfp : ∀ b ∈ fp, (upd H2 D (.lst [])) b = none := fun b hb => (f3 b hb).1.1
  have cF : (compEnvC scope (cellsFrom (s3.heap.objs.size + 1) scope.names (cloFrom X.env.cells scope.names [])) s3.heap.objs.size X.env).frame = X.env.frame := rfl
  generalize hce : compEnvC scope (cellsFrom (s3.heap.objs.size + 1) scope.names (cloFrom X.env.cells scope.names [])) s3.heap.objs.size X.env = ce at I4 pg pt pe cF ⊢
  have cL : ce.locals = s3.heap.objs.size := by rw [← hce]; rfl
  generalize hH3 : upd H2 D (.lst []) = H3 at I3 I4 pg pt pe w0 nfp f3
  generalize hs4 : ({ s3 with heap := pushCells (s3.heap.push { cls := .type "dict", data := .dict #[] }) scope.names } : Shared) = s4 at I4 ⊢
  have st4 : tn 0 s4.heap := T.keep _ _ _ st2 fun b _ o e => by rw [← hs4]; exact pushCells_keeps _ _ _ _ (Heap.get?_push_of_some _ (by rw [h3]; exact Heap.get?_push_of_some _ e))
  -- back in the def's context
  have back : ∀ {ps : List (Addr × Obj)} {τ : L2.St} {H' : Hp} {z : Shared}, Inv (X.blk s3 H3 scope ce fp) ps τ H' z → Inv X pins σ H' z ∧ (∃ m, z.heap.Ns ce.locals m) ∧ FpOk X pins H' ce.locals := fun {ps τ H' z} J' => by
    refine ⟨I3.call' (ch := fp) J'.os J'.base J'.hok J'.bare fun b hb => ⟨(f3 b hb).1.2.2.2.1, (f3 b hb).1.2.1, (f3 b hb).1.2.2.2.2.1, (f3 b hb).1.2.2.2.2.2⟩, ?_, I3.fpOk (Nat.le_of_eq cL.symm) J'.free⟩
    obtain ⟨m, hn, _⟩ := J'.loc
    exact ⟨m, hn⟩
  -- an exception of the block
  have conv : ∀ u z, XL (X.blk s3 H3 scope ce fp) L (fun c d _ H' => W c d σ H') u z → notedBy (model X.prog X.w) X.A ce (fun e y => cEnd (model X.prog X.w) X.A X.xe use Qf (.ref D) ce (.error e) y) u z := by
    rintro _ z ⟨a, B, t, ps, τ, H', c, d, rfl, J', nb, up, sky, na, os, ag, w⟩
    obtain ⟨J2, ⟨m, hn⟩, f⟩ := back J'
    have hfr : X.A.frames = some (E0 :: outer0) := by rw [I.ok.frames, hst]
    have sky : Sky B (E0 :: outer0) a (Zc c d) L z.heap := by rw [← hst]; exact sky
    unfold notedBy
    rw [note_same (show ce.frame = E0.frame by rw [cF, hfX, hfE])]
    refine land_any Zc.steady hfr hfE sky fun h1 hh up1 => ?_
    have hC : ce.locals ∉ frs (E0 :: outer0) := fun hm => by
      rw [← hst] at hm
      rcases List.mem_cons.mp (I3.stkSub _ hm) with y | y
      · exact f.2.1 y
      · exact f.2.2.1 y
    obtain ⟨oL, x1, x2, hoL, x3⟩ := id hn
    have eB := nb _ oL hoL (by show ce.locals ∉ frs X.stack; rw [hst]; exact hC)
    have hn1 : h1.Ns ce.locals m := ⟨oL, x1, x2, hh.1 _ _ eB, x3⟩
    have end_ : ∃ m, h1.Ns ce.locals m ∧ ∀ h2, Heap.SameBut ce.locals h1 h2 → wpAny (model X.prog X.w) X.A (passOn "comprehension.variables-let-go" (.ref a) ce : Sem Value) (fun _ _ => False) X.xe { z with heap := h2 } := by
      refine ⟨m, hn1, fun h2 sb => ?_⟩
      have hh2 := held_but hh sb hC ⟨oL, eB⟩
      obtain ⟨_, _, _, oe, vs, T', oT, ts, g1, _, g2, g3, _⟩ := id hh2
      unfold PySem.passOn
      refine wpAny_bind (wpAny_field g1 g2 g3 ?_)
      rw [if_neg (show ¬ ((Value.ref T' == Value.none) = true) from by simp)]
      obtain ⟨f0, f1, f2', f3', f4, f5⟩ := f
      have hid : ∀ {b o}, (PySem.W.hideAll t.heap [ce.locals]).get? b = some o → t.heap.get? b = some o ∧ b ≠ ce.locals := fun {b o} e => ⟨PySem.W.of_hideAll _ e, fun y => by
        rw [y, PySem.W.hideAll_none [ce.locals] List.mem_cons_self] at e; cases e⟩
      have J3 : Inv X pins σ H' { t with heap := PySem.W.hideAll t.heap [ce.locals] } := J2.turned (t' := t.toks) (fun b o hb e => PySem.W.hideAll_get _ e (by simpa using hb)) f0 f1 f3' f4 f5
      have fl : wpAny (model X.prog X.w) X.A (setFlight (.ref a) ce.frame) (fun _ y => wpAny (model X.prog X.w) X.A (throw (.ref a) : Sem Value) (fun _ _ => False) X.xe y) X.xe { z with heap := h2 } := by
        rw [cF, hfX]
        refine HandSPX.setFlight_onZ hh2 fun h4 hh4 up4 => wpAny_throw (tk _ _ ?_)
        refine ⟨a, _, _, pins, σ, H', c, d, rfl, J3, fun b o e hb => ?_, fun b o e hd => ?_, .inr (.inr (by rw [hst]; exact hh4)), na, os, ag, w⟩
        · obtain ⟨e1, e2⟩ := hid e
          exact PySem.W.hideAll_get _ (nb b o e1 hb) (by simpa using e2)
        · obtain ⟨e1, e2⟩ := hid e
          obtain ⟨sl, e3⟩ := (up.trans up1) b o e1 hd
          obtain ⟨sl2, e4⟩ := up4 b _ ((sb.2 b e2).trans e3) hd
          exact ⟨sl2, e4⟩
      first
        | exact wpAny_bind (wpAny_pure (wpAny_bind fl))
        | exact wpAny_bind fl
    cases use <;> exact end_
  have stat : ∀ {τ : L2.St} {H' : Hp} {z : Shared}, Inv (X.blk s3 H3 scope ce fp) [] τ H' z → (∀ b ∈ fp, H' b = none) → ∀ b ∈ fp, FpOk (X.blk s3 H3 scope ce fp) [] H' b := fun {τ H' z} I' hn b hb =>
    ⟨hn b hb, (I'.ok.exf b hb).1, I'.ok.exfs b hb, .inl hb, fun x c e => (I'.ok.exf b hb).2 x c e, fun p hp => absurd (show p ∈ ([] : List (Addr × Obj)) ++ [] from hp) (by simp)⟩
  have loop : codeAny (model X.prog X.w) X.A (.compLoop (.ListComp elt [⟨tg, iter, ifs, 0⟩] scope pos) 0 (.ref it) (.ref D) ce) (cEnd (model X.prog X.w) X.A X.xe use Qf (.ref D) ce) s4 := by
    refine compLoop_any (fun n z => ∃ i H', Inv (X.blk s3 H3 scope ce fp) [] (wipe σ (own.map (·.2))) H' z ∧ tn i z.heap ∧ (∀ b ∈ fp, H' b = none) ∧ Wt i n H') ?_ m0 ⟨0, H3, I4, st4, nfp, w0⟩
    rintro n s5 ⟨i, H5, I5, st5, n5, w5⟩
    rcases turn i n H5 w5 with ⟨stop, qq⟩ | ⟨go, Nx, hNx, step⟩
    · refine thnF (T.done (X.blk s3 H3 scope ce fp) rfl rfl rfl hc i [] s5 _ H5 (fun _ _ => False) I5 (stat I5 n5) st5 stop) fun r s6 ⟨hr, I6⟩ => ?_
      subst hr
      obtain ⟨J2, ⟨m, hn⟩, f⟩ := back I6
      exact fin D ce.locals s6 m H5 J2 qq hn f ce rfl
    · refine thnF (T.item (X.blk s3 H3 scope ce fp) rfl rfl rfl hc i [] s5 _ H5 (fun _ _ => False) I5 (stat I5 n5) st5 go) fun r s6 ⟨u, hr, h6⟩ => ?_
      subst hr
      refine thnF h6 fun _ s7 ⟨x, H7, I7, r7, y7, st7, n7⟩ => ?_
      have I7' := (I7.pinned (stat I7 n7) (T.obj _ _ st7)).wish fun u z => XL (X.blk s3 H3 scope ce fp) L (fun c d _ H' => W c d σ H') u z
      refine wpAny_mono (pg.run _ s7 _ H7 x u _ I7' r7 (step x H7 y7)) (fun _ s8 ⟨σ8, H8, I8, hw8, q8⟩ => ?_) conv
      refine wpAny_mono (pt.run _ s8 σ8 H8 _ I8 q8) (fun b s9 ⟨H9, I9, q9⟩ => ?_) conv
      have rest : ∀ {z : Shared} {H' : Hp}, Inv (X.blk s3 H3 scope ce fp) ([] ++ pinsAt fp s7.heap) σ8 H' z → Nx H' → ∃ m, m < n ∧ ∃ i H', Inv (X.blk s3 H3 scope ce fp) [] (wipe σ (own.map (·.2))) H' z ∧ tn i z.heap ∧ (∀ b ∈ fp, H' b = none) ∧ Wt i m H' := fun {z H'} I' nx => by
        obtain ⟨m', hm, w'⟩ := hNx H' nx
        have pin' : ∀ b ∈ fp, ∀ o, s7.heap.get? b = some o → z.heap.get? b = some o ∧ H' b = none := fun b hb o e => ⟨(I'.pin (b, o) (List.mem_append_right _ (List.mem_append_right _ (mem_pinsAt hb e)))).1, (I'.pin (b, o) (List.mem_append_right _ (List.mem_append_right _ (mem_pinsAt hb e)))).2.1⟩
        refine ⟨m', hm, i + 1, H', (I'.unpinned (pins := [])).weak (by rw [← hw8, wipe_length]) (fun j v e => by rw [← hw8] at e; exact (wipe_some e).1), T.keep _ _ _ st7 fun b hb o e => (pin' b hb o e).1, fun b hb => ?_, w'⟩
        obtain ⟨o, e, _⟩ := T.obj _ _ st7 b hb
        exact (pin' b hb o e).2
      cases b with
      | false =>
        simp only [Bool.false_eq_true, if_false] at q9 ⊢
        exact rest I9.unwish q9
      | true =>
        simp only [if_true] at q9 ⊢
        refine wpAny_mono (pe.run _ s9 σ8 H9 _ I9 q9) (fun y s10 ⟨yv, H10, I10, r10, acc, hD10, hz10, nx⟩ => ?_) conv
        exact app_ok (X := X.blk s3 H3 scope ce fp) I10.unwish hD10 hz10 r10 fun s11 I11 => rest I11 nx
  exact codeAny_compStart_list loop (T.self X.A 0 _ _ _ st4 loop)
end
end Lt
end S_Lt16

section S_Lt17
set_option Elab.async false
set_option linter.all false
set_option maxRecDepth 100000
set_option maxHeartbeats 2000000
/-! Lt17: list comprehensions by the machine. -/
namespace Lt
open PySem PySem.Spec L2
/-- tuples and exceptions' dicts are kept, the store's places too: enough for values -/
structure Wk (μ μ' : List Addr) (H H' : Hp) : Prop where
  pre : ∃ t, μ' = μ ++ t
  tup : ∀ a xs, Rd H a (.tup xs) → Rd H' a (.tup xs)
section
variable {K : PySem.W.Frag} {μ μ' : List Addr} {H H' : Hp}
theorem Wk.at (x : Wk μ μ' H H') {n : Nat} {a : Addr} (h : μ[n]? = some a) : μ'[n]? = some a := by
  obtain ⟨t, e⟩ := x.pre
  rw [e, List.getElem?_append_left (List.getElem?_eq_some_iff.mp h).1]
  exact h
theorem Wk.sq (x : Wk μ μ' H H') {a : Addr} {xs : List V} (h : SqT K H a xs) : SqT K H' a xs := h.elim (fun h => .inl (x.tup _ _ h)) .inr
mutual
theorem RepP.wk (x : Wk μ μ' H H') : ∀ (p : P) (v : V), RepP K H p v → RepP K H' p v
  | .non, _, h => h
  | .bl _, _, h => h
  | .int _, _, h => h
  | .str _, _, h => h
  | .tup l, _, ⟨a, xs, e, s, r⟩ => ⟨a, xs, e, x.sq s, RepPs.wk x l xs r⟩
theorem RepPs.wk (x : Wk μ μ' H H') : ∀ (l : List P) (xs : List V), RepPs K H l xs → RepPs K H' l xs
  | [], _, h => h
  | p :: ps, _, ⟨v, r, e, h1, h2⟩ => ⟨v, r, e, RepP.wk x p v h1, RepPs.wk x ps r h2⟩
end
mutual
theorem Rep.wk (x : Wk μ μ' H H') : ∀ (d : D) (v : V), Rep K H μ d v → Rep K H' μ' d v
  | .p p, v, h => RepP.wk x p v h
  | .tup l, _, ⟨a, xs, e, s, r⟩ => ⟨a, xs, e, x.sq s, Reps.wk x l xs r⟩
  | .ref n, _, ⟨a, h, e⟩ => ⟨a, x.at h, e⟩
  | .exc _, _, h => h
theorem Reps.wk (x : Wk μ μ' H H') : ∀ (l : List D) (xs : List V), Reps K H μ l xs → Reps K H' μ' l xs
  | [], _, h => h
  | p :: ps, _, ⟨v, r, e, h1, h2⟩ => ⟨v, r, e, Rep.wk x p v h1, Reps.wk x ps r h2⟩
end
theorem RepO.wk (x : Wk μ μ' H H') {o : SO} {a : Addr} (h : RepO K H μ o a) (same : H' a = H a) : RepO K H' μ' o a := by
  cases o with
  | lst l => obtain ⟨xs, e, r⟩ := h; exact ⟨xs, by rw [same]; exact e, Reps.wk x _ _ r⟩
  | ro l => obtain ⟨o, xs, e, r⟩ := h; exact ⟨o, xs, by rw [same]; exact e, Reps.wk x _ _ r⟩
  | ins C F fs => obtain ⟨c, dx, vfs, e, n, r⟩ := h; exact ⟨c, dx, vfs, by rw [same]; exact e, n, Reps.wk x _ _ r⟩
  | dic kvs => exact (show False from h).elim
theorem StR.wk {st : Store} (x : Wk μ μ H H') (s : StR K H μ st) (same : ∀ a ∈ μ, H' a = H a) : StR K H' μ st :=
  ⟨s.len, s.nd, fun n o a h1 h2 => (s.at_ n o a h1 h2).wk x (same a (List.mem_of_getElem? h2))⟩
theorem SR.wk {σ : L2.St} {ρ : Rho} {st : Store} (x : Wk μ μ H H') (s : SR K [] H μ σ ρ st) (same : ∀ a ∈ μ, H' a = H a) : SR K [] H' μ σ ρ st :=
  ⟨s.st.wk x same, s.len, fun i d e => by
    obtain ⟨v, h1, h2⟩ := s.var i d e
    refine ⟨v, h1, ?_⟩
    cases d with
    | exc y => obtain ⟨_, _, _, _, h, _⟩ := h2; cases h
    | p y => exact RepP.wk x y v h2
    | tup l => exact Rep.wk x (.tup l) v h2
    | ref n => exact Rep.wk (K := K) x (.ref n) v h2⟩
/-- a list beside the store is written -/
theorem Wk.aside {D : Addr} {xs ys : List V} (hD : H D = some (.lst xs)) : Wk μ μ H (upd H D (.lst ys)) := ⟨⟨[], by simp⟩, fun a zs h => by
  rcases h with h | ⟨o, h⟩
  · exact .inl (by rw [upd_ne (fun e => by rw [e, hD] at h; cases h)]; exact h)
  · exact .inr ⟨o, by rw [upd_ne (fun e => by rw [e, hD] at h; cases h)]; exact h⟩⟩
/-- the ground of it all knows nothing of it -/
theorem Ext.aside {μ0 : List Addr} {H0 : Hp} {D : Addr} {ys : List V} (e : Ext μ0 μ H0 H) (hD : H0 D = none) : Ext μ0 μ H0 (upd H D (.lst ys)) :=
  ⟨e.pre, fun b o h hb => by rw [upd_ne (fun z => by rw [z, hD] at h; cases h)]; exact e.old b o h hb, e.new, fun a xs h => by
    have h0 := h
    rcases h with h' | ⟨o, h'⟩
    · have ne : a ≠ D := fun z => by rw [z, hD] at h'; cases h'
      rcases e.tup a xs h0 with k | ⟨o, k⟩
      · exact .inl (by rw [upd_ne ne]; exact k)
      · exact .inr ⟨o, by rw [upd_ne ne]; exact k⟩
    · have ne : a ≠ D := fun z => by rw [z, hD] at h'; cases h'
      rcases e.tup a xs h0 with k | ⟨o, k⟩
      · exact .inl (by rw [upd_ne ne]; exact k)
      · exact .inr ⟨o, by rw [upd_ne ne]; exact k⟩, fun d fs h => by
    rw [upd_ne (fun z => by rw [z, hD] at h; cases h)]
    exact e.xd d fs h⟩
/-- a part, the ground kept -/
theorem Post.bind0 {α β γ δ : Type} {W : XK} {μ0 : List Addr} {H0 : Hp} {rel : Hp → List Addr → α → β → Prop} {rel2 : Hp → List Addr → γ → δ → Prop} {r : R α} {f : α → Store → R γ} {Q : δ → Hp → Prop} (e : Ext μ0 μ H0 H) (h : Post K μ0 H0 rel2 (r.bind f) Q W) :
    Post K μ H rel r (fun v H1 => ∃ μ1 a st1, Ext μ μ1 H H1 ∧ StR K H1 μ1 st1 ∧ rel H1 μ1 a v ∧ Post K μ0 H0 rel2 (f a st1) Q W) W := by
  cases r with
  | ok a s => exact fun b H2 μ2 e2 s2 r2 => ⟨μ2, a, s, e2, s2, r2, h⟩
  | ex x s => exact fun dd H2 μ2 e2 s2 xf => h dd H2 μ2 (e.trans e2) s2 xf
  | no => exact h
theorem SR.wipe {pn : List (Addr × Obj)} {σ : L2.St} {ρ : Rho} {st : Store} (s : SR K pn H μ σ ρ st) : ∀ vs : List Nat, SR K pn H μ (L2.wipe σ vs) (wipeR ρ vs) st
  | [] => s
  | v :: vs => (SR.wipe s vs).unset
end
section
variable {X : Cx} {W : WX} {L : Addr} {E0 : Env} {outer0 : List Env} {elt tg iter : Expr} {ifs : List Expr} {scope : Scope} {own : List (Str × Nat)} {pos : Pos} {mi : IM} {t : Tg} {mt : TM} {me : EM}
/-- what the block's parts must be -/
structure BlkL (X : Cx) (L : Addr) (W : WX) (scope : Scope) (own : List (Str × Nat)) (elt tg : Expr) (ifs : List Expr) (t : Tg) (mt : TM) (me : EM) : Prop where
  ok : BlkOk X.N X.env.scope scope own
  sl : ∀ i ∈ tgSl t, i ∈ own.map (·.2)
  g : ∀ σ s1 H1 C cl fp, LG (bx X L W σ s1 H1 scope (compEnvC scope cl C X.env) fp) tg t
  t : ∀ σ s1 H1 C cl fp, PTs (bx X L W σ s1 H1 scope (compEnvC scope cl C X.env) fp) ifs (tT X.K [] (fun c d _ H' => W c d σ H') mt)
  e : ∀ σ s1 H1 C cl fp, LE (bx X L W σ s1 H1 scope (compEnvC scope cl C X.env) fp) (fun c d _ H' => W c d σ H') elt me
/-- one turn -/
theorem turn_ok {K : PySem.W.Frag} {σ : L2.St} {own : List Nat} {t : Tg} {mt : TM} {me : EM} {μ0 μ : List Addr} {H0 H : Hp} {D : Addr} {acc : List Lt.D} {xs : List V} {ρ : Rho} {st : Store} {d : Lt.D} {x : V} {Q : VK} {k : List Lt.D → Store → R Lt.D} {pn : List (Addr × Obj)} {Nx : Hp → Prop}
    (hsl : ∀ i ∈ tgSl t, i ∈ own) (hD0 : H0 D = none) (e : Ext μ0 μ H0 H) (hDμ : D ∉ μ) (hD : H D = some (.lst xs)) (r : Reps K H μ acc xs) (s : SR K [] H μ (wipe σ own) ρ st) (rx : Rep K H μ d x)
    (h : Post K μ0 H0 (relS K pn) ((turnC t mt me ρ d st).bind fun o s1 => if acc.length < line then k (addO acc o) s1 else .no) Q (fun c d H' => W c d σ H'))
    (nx : ∀ H' μ' acc' xs' st', Ext μ0 μ' H0 H' → D ∉ μ' → H' D = some (.lst xs') → Reps K H' μ' acc' xs' → SR K [] H' μ' (wipe σ own) ρ st' → Post K μ0 H0 (relS K pn) (k acc' st') Q (fun c d H' => W c d σ H') → Nx H') :
    gT K [] t x (wipe σ own) H fun σ2 H2 => wipe σ2 own = wipe σ own ∧ tT K [] (fun c d _ H' => W c d σ H') mt σ2 H2 fun b H3 =>
      if b = true then tE K [] (fun c d _ H' => W c d σ H') me σ2 H3 fun y H4 => ∃ acc, H4 D = some (.lst acc) ∧ acc.length < sizeLine ∧ Nx (upd H4 D (.lst (acc ++ [y]))) else Nx H3 := by
  unfold turnC at h
  cases q : setTg st t d ρ with
  | none => rw [q] at h; exact h.no
  | some ρ2 =>
    rw [q] at h
    refine ⟨μ, ρ, st, d, ρ2, s, RepS.of rx, q, fun σ2 s2 hw => ⟨(hw own hsl).trans (wipe_eq (wipe_length _ _) fun j hj => wipe_out hj), μ, ρ2, st, s2, ?_⟩⟩
    have assoc : ∀ {α β γ : Type} (a : R α) (f : α → Store → R β) (g : β → Store → R γ), (a.bind f).bind g = a.bind fun x s => (f x s).bind g := fun a f g => by cases a <;> rfl
    dsimp only at h
    rw [assoc] at h
    have keepD : ∀ {H' : Hp} {μ' : List Addr}, Ext μ μ' H H' → H' D = some (.lst xs) ∧ D ∉ μ' := fun {H' μ'} e' => ⟨e'.old D _ hD hDμ, fun hm => by
      rcases e'.new D hm with z | z
      · exact hDμ z
      · rw [hD] at z; cases z⟩
    refine (Post.bind0 (rel := relE) e h).mono fun b H1 ⟨μ1, b', st1, e1, t1, r1, p1⟩ => ?_
    have eb : b' = b := r1
    subst eb
    cases b' with
    | false =>
      obtain ⟨h1, h2⟩ := keepD e1
      have p1 : Post K μ0 H0 (relS K pn) (if acc.length < line then k (addO acc none) st1 else .no) Q (fun c d H' => W c d σ H') := p1
      split at p1
      · exact nx H1 μ1 acc xs st1 (e.trans e1) h2 h1 (Reps.ext e1 _ _ r) (s.ext e1 t1) p1
      · exact p1.no
    | true =>
      have p1 : Post K μ0 H0 (relS K pn) (((me ρ2 st1).bind fun y s2 => if isX y then .no else .ok (some y) s2).bind fun o s1 => if acc.length < line then k (addO acc o) s1 else .no) Q (fun c d H' => W c d σ H') := p1
      rw [assoc] at p1
      refine ⟨μ1, ρ2, st1, s2.ext e1 t1, (Post.bind0 (rel := relS K []) (e.trans e1) p1).mono fun y H2 ⟨μ2, dy, st2, e2, t2, r2, p2⟩ => ?_⟩
      cases hx : isX dy with
      | true => rw [hx] at p2; exact p2.no
      | false =>
        rw [hx] at p2
        have p2 : Post K μ0 H0 (relS K pn) (if acc.length < line then k (acc ++ [dy]) st2 else .no) Q (fun c d H' => W c d σ H') := p2
        obtain ⟨h1, h2⟩ := keepD (e1.trans e2)
        split at p2
        · rename_i hl
          refine ⟨xs, h1, by rw [r.length, ← line_eq]; exact hl, ?_⟩
          have wk : Wk μ2 μ2 H2 (upd H2 D (.lst (xs ++ [y]))) := Wk.aside h1
          have same : ∀ a ∈ μ2, upd H2 D (.lst (xs ++ [y])) a = H2 a := fun a ha => upd_ne fun z => h2 (z ▸ ha)
          exact nx _ μ2 (acc ++ [dy]) (xs ++ [y]) st2 ((e.trans (e1.trans e2)).aside hD0) h2 upd_same (Reps.wk wk _ _ ((Reps.ext (e1.trans e2) _ _ r).append (Reps.cons (r2.rep hx) Reps.nil))) ((s.ext (e1.trans e2) t2).wk wk same) p2
        · exact p2.no
theorem lc_red (hb : BlkL X L W scope own elt tg ifs t mt me) {σ : L2.St} {H : Hp} {Q : VK} (h : tE X.K X.pn W (compM (own.map (·.2)) mi t mt me) σ H Q) :
    tLc (tI X.K X.pn W mi) (gT X.K [] t) (tT X.K [] (fun c d _ H' => W c d σ H') mt) (tE X.K [] (fun c d _ H' => W c d σ H') me) (own.map (·.2)) σ H Q := by
  obtain ⟨μ, ρ, st, s, h⟩ := h
  unfold compM at h
  split at h
  · rename_i hn
    refine ⟨μ, ρ, st, s, (Post.bind (rel := WalkR X.K) h).mono fun J H1 ⟨μ1, w, st1, e1, t1, rw1, p1⟩ D hD => ?_⟩
    have s1 : SR X.K [] H1 μ1 (wipe σ (own.map (·.2))) (wipeR ρ (own.map (·.2))) st1 := ((s.ext e1 t1).noX hn).wipe _
    have f1 := Ext.fresh (μ := μ1) (o := .lst []) hD
    have nD : D ∉ μ1 := fun z => by
      obtain ⟨u, e, _⟩ := t1.there z
      rw [hD] at e; cases e
    have fin : ∀ {H' : Hp} {μ' : List Addr} {acc : List Lt.D} {xs : List V} {st' : Store}, Ext μ1 μ' H1 H' → D ∉ μ' → H' D = some (.lst xs) → Reps X.K H' μ' acc xs → StR X.K H' μ' st' →
        Post X.K μ1 H1 (relS X.K X.pn) (R.bind (R.ok acc st') fun acc s2 => R.ok (Lt.D.ref s2.length) (s2 ++ [SO.lst acc])) Q (fun c d H' => W c d σ H') → Q (.ref D) H' := fun {H' μ' acc xs st'} e' h1 h2 r t' p => by
      have ex : Ext μ1 (μ' ++ [D]) H1 H' := ⟨by
        obtain ⟨u, eu⟩ := e'.pre
        exact ⟨u ++ [D], by rw [eu, List.append_assoc]⟩, e'.old, fun b hb => by
        rcases List.mem_append.mp hb with z | z
        · exact e'.new b z
        · rw [List.mem_singleton.mp z]; exact .inr hD, e'.tup, e'.xd⟩
      have wk : Wk μ' (μ' ++ [D]) H' H' := ⟨⟨[D], rfl⟩, fun _ _ h => h⟩
      refine p (.ref D) H' (μ' ++ [D]) ex ⟨by rw [List.length_append, List.length_append, t'.len]; rfl, ?_, fun n o a g1 g2 => ?_⟩ ⟨D, ?_, rfl⟩
      · rw [List.nodup_append]
        exact ⟨t'.nd, by simp, fun a ha b hb z => by rw [List.mem_singleton.mp hb] at z; exact h1 (z ▸ ha)⟩
      · by_cases hlt : n < st'.length
        · rw [List.getElem?_append_left hlt] at g1
          rw [List.getElem?_append_left (by rw [t'.len]; exact hlt)] at g2
          exact (t'.at_ n o a g1 g2).wk wk rfl
        · have en : n = st'.length := by
            have := (List.getElem?_eq_some_iff.mp g1).1
            rw [List.length_append, List.length_singleton] at this
            omega
          subst en
          rw [List.getElem?_append_right (Nat.le_refl _), Nat.sub_self] at g1
          rw [← t'.len, List.getElem?_append_right (Nat.le_refl _), Nat.sub_self] at g2
          cases g1
          cases g2
          exact ⟨xs, h2, Reps.wk wk _ _ r⟩
      · rw [← t'.len, List.getElem?_append_right (Nat.le_refl _), Nat.sub_self]
        first | rfl | done
    have same1 : ∀ a ∈ μ1, upd H1 D (.lst []) a = H1 a := fun a ha => upd_ne fun z => nD (z ▸ ha)
    have s2 : SR X.K [] (upd H1 D (.lst [])) μ1 (wipe σ (own.map (·.2))) (wipeR ρ (own.map (·.2))) st1 := s1.ext f1 (t1.fresh hD)
    cases w with
    | ls l =>
      have rw1 : ∀ μ' H', Ext μ1 μ' H1 H' → ∀ i, (∀ d, l[i]? = some d → J.go i H' ∧ ∀ x H'', J.yld i H' x H'' → H'' = H' ∧ Rep X.K H' μ' d x) ∧ (l[i]? = none → J.stop i H') := rw1
      refine ⟨fun i k H' => k = l.length - i ∧ ∃ μ' acc xs st', Ext μ1 μ' H1 H' ∧ D ∉ μ' ∧ H' D = some (.lst xs) ∧ Reps X.K H' μ' acc xs ∧ SR X.K [] H' μ' (wipe σ (own.map (·.2))) (wipeR ρ (own.map (·.2))) st' ∧
        Post X.K μ1 H1 (relS X.K X.pn) ((lsC (turnC t mt me (wipeR ρ (own.map (·.2)))) (l.drop i) acc st').bind fun acc s2 => R.ok (Lt.D.ref s2.length) (s2 ++ [SO.lst acc])) Q (fun c d H' => W c d σ H'),
        ⟨l.length, rfl, μ1, [], [], st1, f1, nD, upd_same, Reps.nil, s2, p1⟩, ?_⟩
      rintro i k H' ⟨rfl, μ', acc, xs, st', e', h1, h2, r', s', p'⟩
      obtain ⟨go, stop⟩ := rw1 μ' H' e' i
      cases hd : l[i]? with
      | none =>
        rw [List.drop_eq_nil_of_le (List.getElem?_eq_none_iff.mp hd)] at p'
        exact .inl ⟨stop hd, fin e' h1 h2 r' s'.st p'⟩
      | some d =>
        have hlt := (List.getElem?_eq_some_iff.mp hd).1
        rw [List.drop_eq_getElem_cons hlt, (List.getElem?_eq_some_iff.mp hd).2] at p'
        obtain ⟨g1, g2⟩ := go d hd
        refine .inr ⟨g1, fun H2 => ∃ μ' acc xs st', Ext μ1 μ' H1 H2 ∧ D ∉ μ' ∧ H2 D = some (.lst xs) ∧ Reps X.K H2 μ' acc xs ∧ SR X.K [] H2 μ' (wipe σ (own.map (·.2))) (wipeR ρ (own.map (·.2))) st' ∧
          Post X.K μ1 H1 (relS X.K X.pn) ((lsC (turnC t mt me (wipeR ρ (own.map (·.2)))) (l.drop (i + 1)) acc st').bind fun acc s2 => R.ok (Lt.D.ref s2.length) (s2 ++ [SO.lst acc])) Q (fun c d H' => W c d σ H'), fun H2 q => ⟨l.length - (i + 1), by omega, rfl, q⟩, fun x H2 hy => ?_⟩
        obtain ⟨rfl, rx⟩ := g2 x H2 hy
        unfold lsC at p'
        have assoc : ∀ {α β γ : Type} (a : R α) (f : α → Store → R β) (g : β → Store → R γ), (a.bind f).bind g = a.bind fun x s => (f x s).bind g := fun a f g => by cases a <;> rfl
        have ite : ∀ {α β : Type} (c : Prop) [Decidable c] (a : R α) (f : α → Store → R β), (if c then a else R.no).bind f = if c then a.bind f else R.no := fun c _ a f => by split <;> rfl
        rw [assoc] at p'
        simp only [ite] at p'
        exact turn_ok (k := fun acc s => (lsC (turnC t mt me (wipeR ρ (own.map (·.2)))) (l.drop (i + 1)) acc s).bind fun acc s2 => R.ok (Lt.D.ref s2.length) (s2 ++ [SO.lst acc])) hb.sl hD e' h1 h2 r' s' rx p' fun H3 μ3 acc3 xs3 st3 e3 n3 d3 r3 s3 p3 => ⟨μ3, acc3, xs3, st3, e3, n3, d3, r3, s3, p3⟩
    | live n =>
      obtain ⟨a, ha, rfl⟩ := rw1
      refine ⟨fun i k H' => ∃ μ' acc xs st', Ext μ1 μ' H1 H' ∧ D ∉ μ' ∧ H' D = some (.lst xs) ∧ Reps X.K H' μ' acc xs ∧ SR X.K [] H' μ' (wipe σ (own.map (·.2))) (wipeR ρ (own.map (·.2))) st' ∧
        Post X.K μ1 H1 (relS X.K X.pn) ((liveC (turnC t mt me (wipeR ρ (own.map (·.2)))) n k i acc st').bind fun acc s2 => R.ok (Lt.D.ref s2.length) (s2 ++ [SO.lst acc])) Q (fun c d H' => W c d σ H'),
        ⟨_, μ1, [], [], st1, f1, nD, upd_same, Reps.nil, s2, p1⟩, ?_⟩
      rintro i k H' ⟨μ', acc, xs, st', e', h1, h2, r', s', p'⟩
      cases k with
      | zero => exact p'.no
      | succ k =>
        unfold liveC at p'
        cases hd : liveAt st' n i with
        | none => rw [hd] at p'; exact p'.no
        | some o =>
          rw [hd] at p'
          obtain ⟨l, ys, g1, g2, g3⟩ := live_lst s'.st (e'.at ha) hd
          cases o with
          | none =>
            refine .inl ⟨⟨ys, g1, ?_⟩, fin e' h1 h2 r' s'.st p'⟩
            rw [g2.length]
            exact List.getElem?_eq_none_iff.mp g3
          | some d =>
            obtain ⟨v, g4, g5⟩ := g2.get g3
            refine .inr ⟨⟨ys, v, g1, g4⟩, fun H2 => ∃ μ' acc xs st', Ext μ1 μ' H1 H2 ∧ D ∉ μ' ∧ H2 D = some (.lst xs) ∧ Reps X.K H2 μ' acc xs ∧ SR X.K [] H2 μ' (wipe σ (own.map (·.2))) (wipeR ρ (own.map (·.2))) st' ∧
              Post X.K μ1 H1 (relS X.K X.pn) ((liveC (turnC t mt me (wipeR ρ (own.map (·.2)))) n k (i + 1) acc st').bind fun acc s2 => R.ok (Lt.D.ref s2.length) (s2 ++ [SO.lst acc])) Q (fun c d H' => W c d σ H'), fun H2 q => ⟨k, Nat.lt_succ_self k, q⟩, fun x H2 hy => ?_⟩
            obtain ⟨rfl, hy2⟩ := hy
            have e5 := hy2 ys g1
            rw [g4] at e5
            cases e5
            dsimp only at p'
            have assoc : ∀ {α β γ : Type} (a : R α) (f : α → Store → R β) (g : β → Store → R γ), (a.bind f).bind g = a.bind fun x s => (f x s).bind g := fun a f g => by cases a <;> rfl
            have ite : ∀ {α β : Type} (c : Prop) [Decidable c] (a : R α) (f : α → Store → R β), (if c then a else R.no).bind f = if c then a.bind f else R.no := fun c _ a f => by split <;> rfl
            rw [assoc] at p'
            simp only [ite] at p'
            exact turn_ok (k := fun acc s => (liveC (turnC t mt me (wipeR ρ (own.map (·.2)))) n k (i + 1) acc s).bind fun acc s2 => R.ok (Lt.D.ref s2.length) (s2 ++ [SO.lst acc])) hb.sl hD e' h1 h2 r' s' g5 p' fun H3 μ3 acc3 xs3 st3 e3 n3 d3 r3 s3 p3 => ⟨μ3, acc3, xs3, st3, e3, n3, d3, r3, s3, p3⟩
  · exact h.no
theorem le_lc (tk : TakesL X L W) (hst : X.stack = E0 :: outer0) (hfE : E0.frame = some L) (hfX : X.env.frame = some L) (hc : X.calm = true) (hN : X.N.Nodup) (hs : isSet iter = false) (hi : LI X W tg iter mi) (hb : BlkL X L W scope own elt tg ifs t mt me) :
    LE X W (.ListComp elt [⟨tg, iter, ifs, 0⟩] scope pos) (compM (own.map (·.2)) mi t mt me) := by
  refine ⟨fun pins s σ H Q I h => ?_⟩
  rw [eval_ListComp]
  refine lcX tk hst hfE hfX hc hN I hi hb.ok (hb.g σ) (hb.t σ) (hb.e σ) (fold_plain hs _) (lc_red hb h) fun D C z m H' I' q hn f ce hce => ?_
  obtain ⟨f0, f1, f2, f3, f4, f5⟩ := f
  subst hce
  exact ⟨m, hn, fun h2 sb => ⟨.ref D, H', I'.turned (t' := z.toks) (fun b o hb e => (sb.2 b hb).trans e) f0 f1 f3 f4 f5, rfl, q⟩⟩
/-- name = [..] on one line, the name a local -/
theorem ls_setLc {i : Nat} {y : Str} {py spos : Pos} (tk : TakesL X L W) (hst : X.stack = E0 :: outer0) (hfE : E0.frame = some L) (hfX : X.env.frame = some L) (hc : X.calm = true) (hN : X.N.Nodup) (hs : isSet iter = false) (hi : LI X W tg iter mi) (hb : BlkL X L W scope own elt tg ifs t mt me)
    (hy : X.N[i]? = some y) (hyl : X.env.scope.names.lookup y = some .local) (hsw : swapsWith (.ListComp elt [⟨tg, iter, ifs, 0⟩] scope pos) (some (.Name y py)) spos.line X.env = pure true) :
    LS X W (.Assign [.Name y py] (.ListComp elt [⟨tg, iter, ifs, 0⟩] scope pos) spos) (asgS (.nm i) (compM (own.map (·.2)) mi t mt me)) := by
  refine ⟨fun pins s σ H D I ⟨μ, ρ, st, r, h⟩ => ?_⟩
  have h' : tE X.K X.pn W (compM (own.map (·.2)) mi t mt me) σ H (fun x H1 => D.nx (σ.set i (some x)) H1) := ⟨μ, ρ, st, r, PostS.of r h fun v H1 μ1 d st1 e1 s1 r1 p1 => p1 _ H1 μ1 Ext.refl (s1.set r1)⟩
  rw [exec_Assign_Name_used _ _ _ _ hsw]
  refine wpAny_bind (wpAny_standAt (wpAny_bind ?_))
  show wpAny _ X.A (do let _ ← comprehension (.ListComp elt [⟨tg, iter, ifs, 0⟩] scope pos) scope X.env (firstIterPos [⟨tg, iter, ifs, 0⟩] pos) (newList []) false (eval iter X.env) (some (assign (.Name y py) X.env))) _ _ s
  refine wpAny_bind (thn (lcX (Qf := fun _ z => SP X pins D .next z) tk hst hfE hfX hc hN I hi hb.ok (hb.g σ) (hb.t σ) (hb.e σ) (fold_plain hs _) (lc_red hb h') fun B C z m H' I' q hn f ce hce => ?_) fun _ z hq => wpAny_pure (wpAny_pure hq))
  subst hce
  show wpAny _ _ (assign (.Name y py) X.env (.ref B)) _ _ _
  refine wpAny_assign_Name (store_ok2 (v := V.ref B) I' hN hy (.inl hyl) rfl (fun s2 I2 ⟨a, sb, ha⟩ => ?_) (.inr hyl))
  obtain ⟨f0, f1, f2, f3, f4, f5⟩ := f
  have haC : ce.locals ≠ a := by
    rcases ha with z | z
    · rw [z]; exact f1
    · exact fun e => f4 y a z e.symm
  exact ⟨m, hn.sameBut sb haC, fun h3 sb3 => ⟨_, H', I2.turned (t' := s2.toks) (fun b o hb e => (sb3.2 b hb).trans e) f0 f1 f3 f4 f5, q⟩⟩
end
end Lt
end S_Lt17

section S_Lt18
set_option Elab.async false
set_option linter.all false
set_option maxRecDepth 100000
set_option maxHeartbeats 4000000
/-! Lt18: what the text denotes, Python does. -/
namespace Lt
open PySem PySem.Spec L2
/-! ### the table's reading of names -/
theorem ixOf_get {x : Str} : ∀ {N : List Str} {i : Nat}, ixOf x N = some i → N[i]? = some x
  | [], _, h => by cases h
  | y :: r, i, h => by
    unfold ixOf at h
    split at h
    · rename_i e
      cases h
      rw [e]; rfl
    · cases q : ixOf x r with
      | none => rw [q] at h; cases h
      | some j =>
        rw [q] at h
        cases h
        exact ixOf_get (N := r) q
theorem ixOf_none {x : Str} : ∀ {N : List Str}, ixOf x N = none → x ∉ N
  | [], _ => by simp
  | y :: r, h => by
    unfold ixOf at h
    split at h
    · cases h
    · rename_i ne
      cases q : ixOf x r with
      | some j => rw [q] at h; cases h
      | none =>
        intro hm
        rcases List.mem_cons.mp hm with e | e
        · exact ne e.symm
        · exact ixOf_none (N := r) q e
theorem plainN_ok {x : Str} (h : plainN x = true) : (x == ("__debug__" : Str)) = false ∧ (x == ("__classdict__" : Str)) = false ∧ x ≠ "__name__" := by
  unfold plainN at h
  simp only [Bool.and_eq_true, Bool.not_eq_true'] at h
  refine ⟨h.1.1, h.1.2, fun e => ?_⟩
  have := h.2
  rw [e] at this
  simp at this
theorem o1_some {α β : Type} {a : Option α} {f : α → β} {m : β} (h : o1 a f = some m) : ∃ x, a = some x ∧ m = f x := by
  cases a with
  | none => cases h
  | some x => cases h; exact ⟨x, rfl, rfl⟩
theorem o2_some {α β γ : Type} {a : Option α} {b : Option β} {f : α → β → γ} {m : γ} (h : o2 a b f = some m) : ∃ x y, a = some x ∧ b = some y ∧ m = f x y := by
  cases a with
  | none => cases h
  | some x => cases b with
    | none => cases h
    | some y => cases h; exact ⟨x, y, rfl, rfl, rfl⟩
theorem o3_some {α β γ δ : Type} {a : Option α} {b : Option β} {c : Option γ} {f : α → β → γ → δ} {m : δ} (h : o3 a b c f = some m) : ∃ x y z, a = some x ∧ b = some y ∧ c = some z ∧ m = f x y z := by
  cases a with
  | none => cases h
  | some x => cases b with
    | none => cases h
    | some y => cases c with
      | none => cases h
      | some z => cases h; exact ⟨x, y, z, rfl, rfl, rfl, rfl⟩
theorem oif_some {α : Type} {b : Bool} {a : Option α} {m : α} (h : oif b a = some m) : b = true ∧ a = some m := by
  cases b with
  | true => exact ⟨rfl, h⟩
  | false => cases h
/-! ### the context -/
/-- as RaiseF, in every context of the same ground -/
def RaiseK (X : Cx) (C f : Str) : Prop := ∀ Y : Cx, Y.prog = X.prog → Y.w = X.w → Y.K = X.K → Y.mg = X.mg → Y.base = X.base → Y.A = X.A → RaiseF Y C f
structure GoodX (X : Cx) (L : Addr) (k : Nat) (g : G) : Prop where
  N : g.N = X.N
  nd : X.N.Nodup
  sc : g.sc = X.env.scope.names
  kind : X.env.scope.kind = .function
  own : g.own = X.fn
  calm : g.calm = true → X.calm = true
  st : ∃ E0 outer0, X.stack = E0 :: outer0 ∧ E0.frame = some L
  fr : X.env.frame = some L
  units : X.A.units + 65 < cLine
  gu : X.A.guards = some []
  calls : CallsOk X k (fun x => g.gk x = .fn) g.meth g.call
  cst : ∀ x p, g.gk x = .cst p → ∃ v u, X.mg x = some u ∧ RelV v u ∧ ∀ H, RepP X.K H p v
  cls : ∀ x F, g.gk x = .cls F → ClsOk X.K X.mg x F
  blt : ∀ x, g.gk x = .blt → X.mg x = none
  exN : ∀ x f, g.gk x = .exc f → X.mg x = some (.ref (ga X.K x))
  ex0 : ∀ x, g.gk x = .exc none → XcMk X.K (ga X.K x) ∧ PySem.W.keepIn X.K (.ref (ga X.K x)) = true ∧ Raises X (.ref (ga X.K x))
  exF : g.calm = true → ∀ x f, g.gk x = .exc (some f) → RaiseK X x f
  sub : ∀ y x b, g.sub y x = some b → PySem.W.exmOne X.K (.ref (ga X.K y)) (.ref (ga X.K x)) = some b
  xf : ∀ x f, g.xf x f = true → XcOk X.K x f
  dg : NoDig X.K
section
variable {X : Cx} {L : Addr} {k : Nat} {g : G} {W : WX}
theorem GoodX.slot (J : GoodX X L k g) {x : Str} {i : Nat} (h : g.slot x = some i) : X.N[i]? = some x ∧ Vis X.env.scope x ∧ (x == ("__debug__" : Str)) = false ∧ (x == ("__classdict__" : Str)) = false := by
  unfold Lt.G.slot at h
  split at h
  · rename_i hc
    simp only [Bool.and_eq_true] at hc
    obtain ⟨h1, h2, _⟩ := plainN_ok hc.2
    refine ⟨by rw [← J.N]; exact ixOf_get h, ?_, h1, h2⟩
    have hv := hc.1
    unfold visB at hv
    rw [J.sc] at hv
    unfold Vis
    split at hv
    · exact .inl ‹_›
    · exact .inr (.inl ‹_›)
    · exact .inr (.inr ‹_›)
    · cases hv
  · cases h
theorem GoodX.lslot (J : GoodX X L k g) {x : Str} {i : Nat} (h : g.lslot x = some i) : X.N[i]? = some x ∧ L2.Loc X.env.scope x ∧ (X.fn x = true ∨ X.env.scope.names.lookup x = some .local) := by
  unfold Lt.G.lslot at h
  split at h
  · rename_i hc
    simp only [Bool.and_eq_true, Bool.or_eq_true] at hc
    refine ⟨by rw [← J.N]; exact ixOf_get h, ?_, ?_⟩
    · have hv := hc.1.1
      unfold locB at hv
      rw [J.sc] at hv
      unfold L2.Loc
      split at hv
      · exact .inl ‹_›
      · exact .inr ‹_›
      · cases hv
    · rcases hc.2 with z | z
      · exact .inl (by rw [← J.own]; exact z)
      · refine .inr ?_
        unfold lclB at z
        rw [J.sc] at z
        split at z
        · assumption
        · cases z
  · cases h
theorem GoodX.glob (J : GoodX X L k g) {x : Str} {q : GK} (h : g.glob x = q) (hq : q ≠ .no) : g.gk x = q ∧ Gl X x ∧ (x == ("__debug__" : Str)) = false ∧ x ≠ "__name__" := by
  unfold Lt.G.glob at h
  split at h
  · rename_i hc
    simp only [Bool.and_eq_true] at hc
    obtain ⟨h1, _, h3⟩ := plainN_ok hc.2
    refine ⟨h, ?_, h1, h3⟩
    have hv := hc.1
    unfold gloB at hv
    rw [J.sc] at hv
    show X.env.scope.names.lookup x = some .globalImplicit
    split at hv
    · assumption
    · cases hv
  · exact (hq h.symm).elim
theorem lets_takes (t : TakesL X L W) : Lets X W := lets_of t
/-! ### blocks -/
theorem relN_eq {sc scope : Scope} (h : sc.kind = .function) : (L2.relS scope sc).names = relN scope.names sc.names := by
  unfold L2.relS relN
  rw [h]
  refine List.map_congr_left fun y _ => ?_
  simp
theorem ownOf_ix {N : List Str} : ∀ {names : List (Str × NameKind)} {p : Str × Nat}, p ∈ ownOf N names → N[p.2]? = some p.1
  | [], _, h => by cases h
  | (x, k) :: r, p, h => by
    have ih := @ownOf_ix N r p
    unfold ownOf at h
    split at h
    · cases h
    · rename_i e
      split at h
      · rename_i i q
        cases e
        rcases List.mem_cons.mp h with z | z
        · rw [z]; exact ixOf_get q
        · exact ih z
      · cases e; exact ih h
    · rename_i e
      split at h
      · rename_i i q
        cases e
        rcases List.mem_cons.mp h with z | z
        · rw [z]; exact ixOf_get q
        · exact ih z
      · cases e; exact ih h
    · rename_i e
      cases e
      exact ih h
theorem ownOf_mem {N : List Str} {y : Str} {i : Nat} : ∀ {names : List (Str × NameKind)} {k : NameKind}, (y, k) ∈ names → k = .local ∨ k = .cell → ixOf y N = some i → (y, i) ∈ ownOf N names
  | (x, k') :: r, k, h, hk, q => by
    rcases List.mem_cons.mp h with e | h
    · cases e
      rcases hk with e | e <;> subst e <;> (unfold ownOf; rw [q]; exact List.mem_cons_self)
    · have ih := ownOf_mem (N := N) h hk q
      cases k' <;> first
        | exact ih
        | (unfold ownOf
           split
           · exact List.mem_cons_of_mem _ ih
           · exact ih)
theorem blk_of {N : List Str} {sc scope : Scope} (h : blkB N sc.names scope = true) : BlkOk N sc scope (ownOf N scope.names) := by
  unfold blkB at h
  simp only [Bool.and_eq_true] at h
  obtain ⟨⟨h1, h2⟩, h3⟩ := h
  refine ⟨?_, fun y hy => of_decide_eq_true (List.all_eq_true.mp h2 y hy), fun p hp => ownOf_ix hp, fun y hy e => ?_, fun y hy e => ?_⟩
  · revert h1
    cases scope.kind <;> simp
  · have := List.all_eq_true.mp h3 y hy
    rw [e] at this
    dsimp only at this
    split at this
    · exact .inl ‹_›
    · exact .inr ‹_›
    · cases this
  · cases q : ixOf y.1 N with
    | none => exact .inr (ixOf_none q)
    | some i => exact .inl (List.mem_map.mpr ⟨(y.1, i), ownOf_mem hy e q, rfl⟩)
theorem GoodX.blk (J : GoodX X L k g) {scope : Scope} (hb : blkB g.N g.sc scope = true) (σ : L2.St) (s : Shared) (H : Hp) (C : Addr) (cl : List (Str × Addr)) (fp : List Addr) : GoodX (bx X L W σ s H scope (compEnvC scope cl C X.env) fp) L k (g.blk scope) := by
  have hk : scope.kind = .function := by
    have := hb
    unfold blkB at this
    simp only [Bool.and_eq_true] at this
    revert this
    cases scope.kind <;> simp
  refine ⟨J.N, J.nd, ?_, hk, rfl, J.calm, J.st, J.fr, J.units, J.gu, ⟨J.calls.fn, J.calls.me⟩, J.cst, J.cls, J.blt, J.exN, J.ex0, fun hc x f hx => ?_, J.sub, J.xf, J.dg⟩
  · show relN scope.names g.sc = (L2.relS scope X.env.scope).names
    rw [relN_eq J.kind, J.sc]
  · exact fun Y h1 h2 h3 h4 h5 h6 => J.exF hc x f hx Y h1 h2 h3 h4 h5 h6
theorem blk_slot {scope : Scope} {x : Str} {i : Nat} (h : (g.blk scope).lslot x = some i) : i ∈ (ownOf g.N scope.names).map (·.2) := by
  unfold Lt.G.lslot at h
  split at h
  · rename_i hc
    simp only [Bool.and_eq_true, Bool.or_eq_true] at hc
    have hi : ixOf x g.N = some i := h
    have key : ∀ {k : NameKind}, scope.names.lookup x = some k → k = .local ∨ k = .cell → i ∈ (ownOf g.N scope.names).map (·.2) := fun {k} e hk => List.mem_map.mpr ⟨(x, i), ownOf_mem (PySem.mem_of_lookup e) hk hi, rfl⟩
    rcases hc.2 with z | z
    · have z : (scope.names.lookup x == some NameKind.cell) = true := z
      exact key (k := .cell) (by simpa using z) (.inr rfl)
    · unfold lclB at z
      split at z
      · rename_i e
        have e : (relN scope.names g.sc).lookup x = some .local := e
        obtain ⟨k', h1, h2⟩ := lookup_relS (sc := { (default : Scope) with kind := .function, names := g.sc }) (names := scope.names) (x := x) (k := .local) (by
          rw [← e]
          unfold relN
          congr 1
          refine List.map_congr_left fun y _ => ?_
          simp)
        rcases h2 with e2 | ⟨_, e2⟩
        · exact key (k := k') h1 (.inl e2.symm)
        · cases e2
      · cases z
  · cases h
end
end Lt
end S_Lt18

section S_Lt19
set_option Elab.async false
set_option linter.all false
set_option maxRecDepth 100000
set_option maxHeartbeats 4000000
/-! Lt19: the induction over expressions. -/
namespace Lt
open PySem PySem.Spec L2
structure SndE (n : Nat) : Prop where
  e : ∀ {X : Cx} {L : Addr} {k : Nat} {g : G} {W : WX}, GoodX X L k g → TakesL X L W → ∀ {e m}, denE g n e = some m → LE X W e m
  t : ∀ {X : Cx} {L : Addr} {k : Nat} {g : G} {W : WX}, GoodX X L k g → TakesL X L W → ∀ {e m}, denT g n e = some m → LT X W e m
  a : ∀ {X : Cx} {L : Addr} {k : Nat} {g : G} {W : WX}, GoodX X L k g → TakesL X L W → ∀ {es m}, denA g n es = some m → LA X W es m ∧ noStar es ∧ (es = [] → m = nilA) ∧ ∀ ρ st ds s1, m ρ st = .ok ds s1 → ds.length = es.length
  an : ∀ {X : Cx} {L : Addr} {k : Nat} {g : G} {W : WX}, GoodX X L k g → TakesL X L W → ∀ {vs m} pos, denAnd g n vs = some m → LE X W (.BoolOp .And vs pos) m
  orr : ∀ {X : Cx} {L : Addr} {k : Nat} {g : G} {W : WX}, GoodX X L k g → TakesL X L W → ∀ {vs m} pos, denOr g n vs = some m → LE X W (.BoolOp .Or vs pos) m
  ant : ∀ {X : Cx} {L : Addr} {k : Nat} {g : G} {W : WX}, GoodX X L k g → TakesL X L W → ∀ {vs m} pos, denAndT g n vs = some m → LW X W (.BoolOp .And vs pos) m
  ort : ∀ {X : Cx} {L : Addr} {k : Nat} {g : G} {W : WX}, GoodX X L k g → TakesL X L W → ∀ {vs m} pos, denOrT g n vs = some m → LW X W (.BoolOp .Or vs pos) m
  o : ∀ {X : Cx} {L : Addr} {k : Nat} {g : G} {W : WX}, GoodX X L k g → TakesL X L W → ∀ {e m}, denO g n e = some m → LO X W e m
  i : ∀ {X : Cx} {L : Addr} {k : Nat} {g : G} {W : WX}, GoodX X L k g → TakesL X L W → ∀ tg {e m}, denI g n e = some m → LI X W tg e m
  f : ∀ {X : Cx} {L : Addr} {k : Nat} {g : G} {W : WX}, GoodX X L k g → TakesL X L W → ∀ {es m}, denIf g n es = some m → PTs X es (tT X.K X.pn W m)
theorem not_bool {b : Bool} (h : (!b) = true) : b = false := by cases b <;> first | rfl | cases h
theorem consA_len {ma : EM} {mr : AM} {N : Nat} (h : ∀ ρ st ds s1, mr ρ st = .ok ds s1 → ds.length = N) : ∀ ρ st ds s1, consA ma mr ρ st = .ok ds s1 → ds.length = N + 1 := by
  intro ρ st ds s1 e
  unfold consA at e
  cases q : ma ρ st with
  | no => rw [q] at e; cases e
  | ex _ _ => rw [q] at e; cases e
  | ok d s2 =>
    rw [q] at e
    dsimp only [R.bind] at e
    split at e
    · cases e
    · cases q2 : mr ρ s2 with
      | no => rw [q2] at e; cases e
      | ex _ _ => rw [q2] at e; cases e
      | ok ds2 s3 =>
        rw [q2] at e
        cases e
        rw [List.length_cons, h _ _ _ _ q2]
/-- the parts of a list comprehension -/
theorem lc_parts {n : Nat} (S : SndE n) {X : Cx} {L : Addr} {k : Nat} {g : G} {W : WX} (J : GoodX X L k g) (tk : TakesL X L W) {elt tg iter : Expr} {ifs : List Expr} {scope : Scope} {it : IM} {t : Tg} {tt : TM} {te : EM}
    (hb : blkB g.N g.sc scope = true) (h1 : denI g n iter = some it) (h2 : denTg (g.blk scope) n tg = some t) (h3 : denIf (g.blk scope) n ifs = some tt) (h4 : denE (g.blk scope) n elt = some te) :
    LI X W tg iter it ∧ BlkL X L W scope (ownOf g.N scope.names) elt tg ifs t tt te := by
  refine ⟨S.i J tk tg h1, ?_, ?_, fun σ s1 H1 C cl fp => ?_, fun σ s1 H1 C cl fp => ?_, fun σ s1 H1 C cl fp => ?_⟩
  · rw [J.N] at hb ⊢
    rw [J.sc] at hb
    exact blk_of hb
  · unfold denTg at h2
    split at h2
    · cases h2
    · obtain ⟨i, e1, rfl⟩ := o1_some h2
      intro j hj
      have ej : j = i := by simpa [tgSl] using hj
      subst ej
      exact blk_slot e1
    · cases h2
  · have JB := J.blk (W := W) hb σ s1 H1 C cl fp
    unfold denTg at h2
    split at h2
    · cases h2
    · obtain ⟨i, e1, rfl⟩ := o1_some h2
      obtain ⟨g1, g2, g3⟩ := JB.lslot e1
      exact lg_name JB.nd g1 g2 g3
    · cases h2
  · exact S.f (J.blk hb σ s1 H1 C cl fp) bx_takes h3
  · exact S.e (J.blk hb σ s1 H1 C cl fp) bx_takes h4
theorem snd_zero : SndE 0 where
  e := fun _ _ _ _ h => by cases h
  t := fun _ _ _ _ h => by cases h
  a := fun _ _ _ _ h => by cases h
  an := fun _ _ _ _ _ h => by cases h
  orr := fun _ _ _ _ _ h => by cases h
  ant := fun _ _ _ _ _ h => by cases h
  ort := fun _ _ _ _ _ h => by cases h
  o := fun _ _ _ _ h => by cases h
  i := fun _ _ _ _ _ h => by cases h
  f := fun _ _ _ _ h => by cases h
theorem snd_e {n : Nat} (S : SndE n) {X : Cx} {L : Addr} {k : Nat} {g : G} {W : WX} (J : GoodX X L k g) (tk : TakesL X L W) {e : Expr} {m : EM} (h : denE g (n + 1) e = some m) : LE X W e m := by
  have hu : X.A.units + 64 < cLine := by have := J.units; omega
  have le : Lets X W := lets_of tk
  unfold denE at h
  split at h
  · obtain ⟨x, e1, rfl⟩ := o1_some h
    exact le_const e1
  · split at h
    · rename_i i hi
      cases h
      obtain ⟨g1, g2, g3, g4⟩ := J.slot hi
      exact le_var g1 g2 g3 g4
    · split at h
      · rename_i p hp
        cases h
        obtain ⟨g1, g2, g3, g4⟩ := J.glob hp (by simp)
        obtain ⟨v, u, h1, h2, h3⟩ := J.cst _ _ g1
        exact le_cst g2 h1 h2 h3 g3
      · cases h
  · obtain ⟨x, y, h1, h2, rfl⟩ := o2_some h
    exact le_bin (S.e J tk h1) (S.e J tk h2)
  · obtain ⟨x, h1, rfl⟩ := o1_some h
    exact le_not (S.e J tk h1)
  · obtain ⟨x, h1, rfl⟩ := o1_some h
    exact le_un (S.e J tk h1)
  · exact S.an J tk _ h
  · exact S.orr J tk _ h
  · obtain ⟨x, y, z, h1, h2, h3, rfl⟩ := o3_some h
    exact le_if (S.t J tk h1) (S.e J tk h2) (S.e J tk h3)
  · obtain ⟨hb, h⟩ := oif_some h
    obtain ⟨x, y, h1, h2, rfl⟩ := o2_some h
    exact le_cmp hu (not_bool hb) (S.e J tk h1) (S.e J tk h2)
  · obtain ⟨hb, h⟩ := oif_some h
    simp only [Bool.and_eq_true] at hb
    obtain ⟨x, y, z, h1, h2, h3, rfl⟩ := o3_some h
    exact le_chn hu (not_bool hb.1) (not_bool hb.2) (S.e J tk h1) (S.e J tk h2) (S.e J tk h3)
  · obtain ⟨x, h1, rfl⟩ := o1_some h
    exact le_tup (S.a J tk h1).1
  · obtain ⟨x, h1, rfl⟩ := o1_some h
    exact le_lst (S.a J tk h1).1
  · obtain ⟨hb, h⟩ := oif_some h
    obtain ⟨x, h1, rfl⟩ := o1_some h
    exact le_fld (not_bool hb) (fun x hx => J.xf x _ hx) (S.e J tk h1)
  · obtain ⟨x, y, z, h1, h2, h3, rfl⟩ := o3_some h
    exact le_sl (S.e J tk h1) (S.o J tk h2) (S.o J tk h3)
  · obtain ⟨hb, h⟩ := oif_some h
    obtain ⟨x, y, h1, h2, rfl⟩ := o2_some h
    exact le_ix (not_bool hb) (S.e J tk h1) (S.e J tk h2)
  · obtain ⟨hb, h⟩ := oif_some h
    simp only [Bool.and_eq_true] at hb
    split at h
    · rename_i it t tt te h1 h2 h3 h4
      cases h
      obtain ⟨p1, p2⟩ := lc_parts S J tk hb.1.2 h1 h2 h3 h4
      obtain ⟨E0, o0, q1, q2⟩ := J.st
      exact le_lc tk q1 q2 J.fr (J.calm hb.1.1) J.nd (not_bool hb.2) p1 p2
    · cases h
  · obtain ⟨hb, h⟩ := oif_some h
    simp only [Bool.and_eq_true, decide_eq_true_eq] at hb
    obtain ⟨x, y, h1, h2, rfl⟩ := o2_some h
    obtain ⟨p1, p2, p3, _⟩ := S.a J tk h2
    exact le_met J.calls le (not_bool hb.1.1) hb.1.2 hb.2 p2 p3 (S.e J tk h1) p1
  · split at h
    · rename_i hg
      obtain ⟨x, h1, rfl⟩ := o1_some h
      obtain ⟨g1, g2, g3, g4⟩ := J.glob hg (by simp)
      obtain ⟨p1, p2, p3, _⟩ := S.a J tk h1
      exact le_app J.calls le g1 g2 g3 p2 p3 p1
    · rename_i F hg
      obtain ⟨hm, h⟩ := oif_some h
      obtain ⟨x, h1, rfl⟩ := o1_some h
      obtain ⟨g1, g2, g3, g4⟩ := J.glob hg (by simp)
      obtain ⟨p1, p2, p3, _⟩ := S.a J tk h1
      exact le_make J.calls le (J.cls _ _ g1) hm g2 g3 p2 p3 p1
    · rename_i hg
      obtain ⟨g1, g2, g3, g4⟩ := J.glob hg (by simp)
      split at h
      · split at h
        · rename_i hx
          split at h
          · rename_i hT
            obtain ⟨hn, h⟩ := oif_some h
            obtain ⟨x, h1, rfl⟩ := o1_some h
            simp only [Bool.and_eq_true] at hn
            obtain ⟨t1, t2, t3, t4⟩ := J.glob hT (by simp)
            exact le_isi hx hn.1 g2 (J.blt _ g1) t2 (J.blt _ t1) t4 t3 (not_bool hn.2) (S.e J tk h1)
          · cases h
        · cases h
      · obtain ⟨hc, h⟩ := oif_some h
        obtain ⟨x, y, h1, h2, rfl⟩ := o2_some h
        obtain ⟨p1, p2, _⟩ := S.a J tk h2
        exact le_blt (J.calm hc) J.dg J.gu J.units h1 g2 (J.blt _ g1) g4 g3 p2.1 p1
      · cases h
    · cases h
  · cases h
theorem snd_t {n : Nat} (S : SndE n) {X : Cx} {L : Addr} {k : Nat} {g : G} {W : WX} (J : GoodX X L k g) (tk : TakesL X L W) {e : Expr} {m : TM} (h : denT g (n + 1) e = some m) : LT X W e m := by
  have hu : X.A.units + 64 < cLine := by have := J.units; omega
  unfold denT at h
  split at h
  · obtain ⟨x, h1, rfl⟩ := o1_some h
    exact lt_not (S.t J tk h1)
  · exact (S.ant J tk _ h).pt
  · exact (S.ort J tk _ h).pt
  · obtain ⟨hb, h⟩ := oif_some h
    obtain ⟨z0, hz, rfl⟩ := o1_some h
    obtain ⟨x, y, h1, h2, rfl⟩ := o2_some hz
    exact lt_cmp hu (not_bool hb) (S.e J tk h1) (S.e J tk h2)
  · obtain ⟨hb, h⟩ := oif_some h
    simp only [Bool.and_eq_true] at hb
    obtain ⟨z0, hz, rfl⟩ := o1_some h
    obtain ⟨x, y, z, h1, h2, h3, rfl⟩ := o3_some hz
    exact lt_chn hu (not_bool hb.1) (not_bool hb.2) (S.e J tk h1) (S.e J tk h2) (S.e J tk h3)
  · obtain ⟨hb, h⟩ := oif_some h
    obtain ⟨x, h1, rfl⟩ := o1_some h
    exact lt_tru (not_bool hb) (S.e J tk h1)
theorem snd_a {n : Nat} (S : SndE n) {X : Cx} {L : Addr} {k : Nat} {g : G} {W : WX} (J : GoodX X L k g) (tk : TakesL X L W) {es : List Expr} {m : AM} (h : denA g (n + 1) es = some m) :
    LA X W es m ∧ noStar es ∧ (es = [] → m = nilA) ∧ ∀ ρ st ds s1, m ρ st = .ok ds s1 → ds.length = es.length := by
  cases es with
  | nil =>
    cases (show some nilA = some m from h)
    exact ⟨la_nil, trivial, fun _ => rfl, fun ρ st ds s1 e => by cases e; rfl⟩
  | cons e es =>
    obtain ⟨hb, h⟩ := oif_some (show oif (!isStar e) (o2 (denE g n e) (denA g n es) consA) = some m from h)
    obtain ⟨x, y, h1, h2, rfl⟩ := o2_some h
    obtain ⟨p1, p2, p3, p4⟩ := S.a J tk h2
    exact ⟨la_cons (not_bool hb) (S.e J tk h1) p1, ⟨not_bool hb, p2⟩, (fun z => by cases z), consA_len p4⟩
theorem rng_case {X : Cx} {W : WX} {tg : Expr} {p pos : Pos} {mr : AM} : ∀ {es : List Expr}, Gl X "range" → X.mg "range" = none → LA X W es mr → noStar es → (∀ ρ st ds s1, mr ρ st = .ok ds s1 → ds.length = es.length) → es.length ≤ 2 → 1 ≤ es.length → LI X W tg (.Call (.Name "range" p) es [] pos) (rngM mr)
  | [], _, _, _, _, _, _, h => by simp at h
  | [a], g2, hm, p1, p2, p4, _, _ => li_rng1 g2 hm p2.1 p1 p4
  | [a, b], g2, hm, p1, p2, p4, _, _ => li_rng2 g2 hm p2.1 p2.2.1 p1 p4
  | _ :: _ :: _ :: _, _, _, _, _, _, h, _ => by simp at h
theorem snd_i {n : Nat} (S : SndE n) {X : Cx} {L : Addr} {k : Nat} {g : G} {W : WX} (J : GoodX X L k g) (tk : TakesL X L W) (tg : Expr) {e : Expr} {m : IM} (h : denI g (n + 1) e = some m) : LI X W tg e m := by
  unfold denI at h
  split at h
  · split at h
    · rename_i hc hg
      simp only [Bool.and_eq_true, decide_eq_true_eq] at hc
      obtain ⟨x, h1, rfl⟩ := o1_some h
      obtain ⟨g1, g2, g3, g4⟩ := J.glob hg (by simp)
      obtain ⟨p1, p2, _, p4⟩ := S.a J tk h1
      obtain ⟨⟨ex, hl1⟩, hl2⟩ := hc
      subst ex
      exact rng_case g2 (J.blt _ g1) p1 p2 p4 hl1 hl2
    · obtain ⟨x, h1, rfl⟩ := o1_some h
      exact li_val (S.e J tk h1)
  · obtain ⟨x, h1, rfl⟩ := o1_some h
    exact li_val (S.e J tk h1)
theorem snd_succ {n : Nat} (S : SndE n) : SndE (n + 1) where
  e := fun J tk _ _ h => snd_e S J tk h
  t := fun J tk _ _ h => snd_t S J tk h
  a := fun J tk _ _ h => snd_a S J tk h
  an := fun {X L k g W} J tk vs m pos h => by
    cases vs with
    | nil => cases (show (none : Option _) = some m from h)
    | cons a r => cases r with
      | nil => exact le_one (S.e J tk h)
      | cons b r =>
        obtain ⟨x, y, h1, h2, rfl⟩ := o2_some (show o2 (denE g n a) (denAnd g n (b :: r)) andE = some m from h)
        exact le_and (S.e J tk h1) (S.an J tk pos h2)
  orr := fun {X L k g W} J tk vs m pos h => by
    cases vs with
    | nil => cases (show (none : Option _) = some m from h)
    | cons a r => cases r with
      | nil => exact le_one (S.e J tk h)
      | cons b r =>
        obtain ⟨x, y, h1, h2, rfl⟩ := o2_some (show o2 (denE g n a) (denOr g n (b :: r)) orE = some m from h)
        exact le_or (S.e J tk h1) (S.orr J tk pos h2)
  ant := fun {X L k g W} J tk vs m pos h => by
    cases vs with
    | nil => cases (show (none : Option _) = some m from h)
    | cons a r => cases r with
      | nil => exact lw_and1 (S.t J tk h)
      | cons b r =>
        obtain ⟨x, y, h1, h2, rfl⟩ := o2_some (show o2 (denT g n a) (denAndT g n (b :: r)) andM = some m from h)
        exact lw_and (S.t J tk h1) (S.ant J tk pos h2)
  ort := fun {X L k g W} J tk vs m pos h => by
    cases vs with
    | nil => cases (show (none : Option _) = some m from h)
    | cons a r => cases r with
      | nil => exact lw_or1 (S.t J tk h)
      | cons b r =>
        obtain ⟨x, y, h1, h2, rfl⟩ := o2_some (show o2 (denT g n a) (denOrT g n (b :: r)) orM = some m from h)
        exact lw_or (S.t J tk h1) (S.ort J tk pos h2)
  o := fun {X L k g W} J tk e m h => by
    cases e with
    | none => cases (show some noO = some m from h); exact lo_none
    | some e =>
      obtain ⟨x, h1, rfl⟩ := o1_some (show o1 (denE g n e) someO = some m from h)
      exact lo_some (S.e J tk h1)
  i := fun J tk tg _ _ h => snd_i S J tk tg h
  f := fun {X L k g W} J tk es m h => by
    cases es with
    | nil =>
      cases (show some yesM = some m from h)
      exact ⟨fun pins s σ H Q I ⟨μ, ρ, st, r, h⟩ => pts_nil.run pins s σ H Q I (h true H μ Ext.refl r.st rfl)⟩
    | cons c r => cases r with
      | nil => exact pts_one (S.t J tk h)
      | cons _ _ => cases (show (none : Option TM) = some m from h)
theorem snd_all : ∀ n, SndE n
  | 0 => snd_zero
  | n + 1 => snd_succ (snd_all n)
end Lt
end S_Lt19

section S_Lt20
set_option Elab.async false
set_option linter.all false
set_option maxRecDepth 100000
set_option maxHeartbeats 4000000
/-! Lt20: the induction over statements; a def. -/
namespace Lt
open PySem PySem.Spec L2
/-- a def's own context (not a comprehension's block) -/
structure StX (X : Cx) : Prop where
  st : X.stack = X.env :: X.outer
  fr : X.env.frame = some X.env.locals
  ps : PassesOwn (model X.prog X.w) X.A X.env X.xe
section
variable {X : Cx} {k : Nat} {g : G} {W : WX}
theorem GoodX.tr (J : GoodX X X.env.locals k g) (pn : List (Addr × Obj)) (xe : Value → Shared → Prop) : GoodX (X.tr pn xe) X.env.locals k g :=
  ⟨J.N, J.nd, J.sc, J.kind, J.own, J.calm, J.st, J.fr, J.units, J.gu, ⟨J.calls.fn, J.calls.me⟩, J.cst, J.cls, J.blt, J.exN, J.ex0, fun hc x f hx => fun Y h1 h2 h3 h4 h5 h6 => J.exF hc x f hx Y h1 h2 h3 h4 h5 h6, J.sub, J.xf, J.dg⟩
theorem mark_units {A : Around} {v : Option Value} : (A.mark v).units = A.units := rfl
theorem mark_guards {A : Around} {v : Option Value} : (A.mark v).guards = A.guards := rfl
theorem noCall_eq {q r : GK} (h : noCall q = r) (h1 : r ≠ .no) : q = r := by
  cases q with
  | fn => exact (h1 h.symm).elim
  | cls F => exact (h1 h.symm).elim
  | exc _ => exact h
  | cst _ => exact h
  | blt => exact h
  | no => exact h
theorem noCall_fn {q : GK} (h : noCall q = .fn) : False := by cases q <;> cases h
theorem noCall_cls {q : GK} {F : List Str} (h : noCall q = .cls F) : False := by cases q <;> cases h
theorem GoodX.suite (J : GoodX X X.env.locals k g) (a : Addr) (pn : List (Addr × Obj)) : GoodX (X.suite a pn) X.env.locals k g.suite :=
  ⟨J.N, J.nd, J.sc, J.kind, J.own, (fun h => by cases h), J.st, J.fr, J.units, J.gu, ⟨fun x hx => (noCall_fn hx).elim, (fun C m h => by cases h)⟩, fun x p hx => J.cst x p (noCall_eq hx (by simp)), fun x F hx => (noCall_cls hx).elim,
    fun x hx => J.blt x (noCall_eq hx (by simp)), fun x f hx => J.exN x f (noCall_eq hx (by simp)), fun x hx => J.ex0 x (noCall_eq hx (by simp)), (fun h => by cases h), J.sub, J.xf, J.dg⟩
theorem takesF {X : Cx} {L : Addr} : TakesL X L WF := fun u s' ⟨_, _, _, _, _, _, _, _, _, _, _, _, _, _, _, _, w⟩ => w.elim
structure SndS (n : Nat) : Prop where
  s : ∀ {X : Cx} {k : Nat} {g : G} {W : WX}, GoodX X X.env.locals k g → StX X → Takes X W → ∀ {s m}, denS g n s = some m → LS X W s m
  ss : ∀ {X : Cx} {k : Nat} {g : G} {W : WX}, GoodX X X.env.locals k g → StX X → Takes X W → ∀ {s m}, denSs g n s = some m → LSs X W s m
theorem nms_of (J : GoodX X X.env.locals k g) : ∀ {es : List Expr} {is : List Nat}, denTgs g es = some is → NmsOk X es is
  | [], _, h => by cases h; trivial
  | e :: es, is, h => by
    unfold denTgs at h
    split at h
    · rename_i z; cases z
    · rename_i z
      cases z
      obtain ⟨i, r, h1, h2, rfl⟩ := o2_some h
      obtain ⟨g1, g2, g3⟩ := J.lslot h1
      exact ⟨⟨_, _, rfl, g1, g2, g3⟩, nms_of J h2⟩
    · cases h
theorem ls_setG {x : Str} {i : Nat} {px pos : Pos} {e : Expr} {ma : EM} (hs : swapsWith e (some (.Name x px)) pos.line X.env = pure false) (hN : X.N.Nodup) (hi : X.N[i]? = some x) (hx : L2.Loc X.env.scope x) (hf : X.fn x = true ∨ X.env.scope.names.lookup x = some .local) (he : LE X W e ma) : LS X W (.Assign [.Name x px] e pos) (asgS (.nm i) ma) :=
  (ps_set hN hi hx he hs hf).imp fun D σ H ⟨μ, ρ, st, r, h⟩ => ⟨μ, ρ, st, r, PostS.of r h fun v H1 μ1 d st1 e1 s1 r1 p1 => p1 _ H1 μ1 Ext.refl (s1.set r1)⟩
theorem lc_inv {n : Nat} {elt : Expr} {gens : List Comprehension} {scope : Scope} {cp : Pos} {m : EM} (h : denE g (n + 1) (.ListComp elt gens scope cp) = some m) : ∃ tg iter ifs, gens = [⟨tg, iter, ifs, 0⟩] ∧ g.calm = true ∧ blkB g.N g.sc scope = true ∧ isSet iter = false ∧
    ∃ it t tt te, denI g n iter = some it ∧ denTg (g.blk scope) n tg = some t ∧ denIf (g.blk scope) n ifs = some tt ∧ denE (g.blk scope) n elt = some te ∧ m = compM ((ownOf g.N scope.names).map (·.2)) it t tt te := by
  unfold denE at h
  split at h
  all_goals first
    | (rename_i z; cases z
       obtain ⟨hq, h⟩ := oif_some h
       simp only [Bool.and_eq_true] at hq
       split at h
       · cases h
         exact ⟨_, _, _, rfl, hq.1.1, hq.1.2, not_bool hq.2, _, _, _, _, ‹_›, ‹_›, ‹_›, ‹_›, rfl⟩
       · cases h)
    | (rename_i z; cases z; done)
    | (cases h; done)
/-- name = e, e a comprehension or not -/
theorem snd_set {n : Nat} (J : GoodX X X.env.locals k g) (S : StX X) (tk : Takes X W) {x : Str} {px pos : Pos} {e : Expr} {i : Nat} {a : EM} (h1 : g.lslot x = some i) (h2 : denE g n e = some a) : LS X W (.Assign [.Name x px] e pos) (asgS (.nm i) a) := by
  obtain ⟨g1, g2, g3⟩ := J.lslot h1
  have le := (snd_all n).e J (takesL_of tk) h2
  cases hc : isComp e with
  | false => exact ls_setG (sw_plain hc) J.nd g1 g2 g3 le
  | true =>
    cases n with
    | zero => cases h2
    | succ n =>
      cases e with
      | ListComp elt gens scope cp =>
        have sw : ∀ b, (X.env.blockKind == .function && X.env.kindOf x == some .local && px.line == cp.line && !(scope.names.any fun (n, k) => n == x && (k == .local || k == .cell))) = b → swapsWith (.ListComp elt gens scope cp) (some (.Name x px)) pos.line X.env = pure b := fun b hb => by rw [← hb]; rfl
        cases hb : (X.env.blockKind == .function && X.env.kindOf x == some .local && px.line == cp.line && !(scope.names.any fun (n, k) => n == x && (k == .local || k == .cell))) with
        | false => exact ls_setG (sw _ hb) J.nd g1 g2 g3 le
        | true =>
          have hl : X.env.scope.names.lookup x = some .local := by
            simp only [Bool.and_eq_true] at hb
            exact beq_iff_eq.mp hb.1.1.2
          obtain ⟨tg, iter, ifs, eg, q1, q2, q3, it, t, tt, te, p1, p2, p3, p4, em⟩ := lc_inv h2
          subst eg
          subst em
          obtain ⟨b1, b2⟩ := lc_parts (snd_all n) J (takesL_of tk) q2 p1 p2 p3 p4
          exact ls_setLc (takesL_of tk) S.st S.fr S.fr (J.calm q1) J.nd q3 b1 b2 g1 hl (sw _ hb)
      | SetComp _ _ _ _ => cases h2
      | DictComp _ _ _ _ _ => cases h2
      | _ => cases hc
theorem snds_zero : SndS 0 where
  s := fun _ _ _ _ _ h => by cases h
  ss := fun _ _ _ _ _ h => by cases h
theorem StX.tr (S : StX X) {pn : List (Addr × Obj)} {xe : Value → Shared → Prop} (h : PassesOwn (model X.prog X.w) X.A X.env xe) : StX (X.tr pn xe) := ⟨S.st, S.fr, h⟩
theorem StX.suite (S : StX X) (a : Addr) (pn : List (Addr × Obj)) : StX (X.suite a pn) := ⟨S.st, S.fr, PassesOwn.never⟩
theorem snd_s {n : Nat} (Z : SndS n) (J : GoodX X X.env.locals k g) (S : StX X) (tk : Takes X W) {s : Stmt} {m : SM} (h : denS g (n + 1) s = some m) : LS X W s m := by
  have E := snd_all n
  have tl := takesL_of tk
  unfold denS at h
  split at h
  · cases h
    exact ls_skip ps_doc
  · obtain ⟨hb, h⟩ := oif_some h
    obtain ⟨x, h1, rfl⟩ := o1_some h
    exact ls_expr (not_bool hb) (E.e J tl h1)
  · cases h
    exact ls_retN
  · obtain ⟨x, h1, rfl⟩ := o1_some h
    exact ls_ret (E.e J tl h1)
  · obtain ⟨i, a, h1, h2, rfl⟩ := o2_some h
    exact snd_set J S tk h1 h2
  · obtain ⟨hb, h⟩ := oif_some h
    simp only [Bool.and_eq_true] at hb
    obtain ⟨x, y, h1, h2, rfl⟩ := o2_some h
    exact ls_fld (not_bool hb.2) (E.e J tl h1) (E.e J tl h2)
  · obtain ⟨hc, h⟩ := oif_some h
    obtain ⟨x, y, h1, h2, rfl⟩ := o2_some h
    exact ls_unp (J.calm hc) J.nd (nms_of J h1) (E.e J tl h2)
  · obtain ⟨i, a, h1, h2, rfl⟩ := o2_some h
    obtain ⟨g1, g2, g3⟩ := J.lslot h1
    exact ls_aug J.nd g1 g2 g3 (E.e J tl h2)
  · obtain ⟨x, y, h1, h2, rfl⟩ := o2_some h
    exact ls_fldaug (E.e J tl h1) (E.e J tl h2)
  · obtain ⟨x, y, z, h1, h2, h3, rfl⟩ := o3_some h
    exact ls_if (E.t J tl h1) (Z.ss J S tk h2) (Z.ss J S tk h3)
  · obtain ⟨x, y, h1, h2, rfl⟩ := o2_some h
    exact ls_while S.ps (E.t J tl h1) (Z.ss J S tk h2)
  · obtain ⟨hb, h⟩ := oif_some h
    simp only [Bool.and_eq_true] at hb
    obtain ⟨x, y, z, h1, h2, h3, rfl⟩ := o3_some h
    have lg : ∀ {tg : Expr} {t : Tg}, denTg g n tg = some t → LG X tg t := fun {tg t} h => by
      unfold denTg at h
      split at h
      · cases h
      · obtain ⟨i, e1, rfl⟩ := o1_some h
        obtain ⟨g1, g2, g3⟩ := J.lslot e1
        exact lg_name J.nd g1 g2 g3
      · cases h
    exact ls_for S.ps (J.calm hb.1) (not_bool hb.2) (E.i J tl _ h1) (lg h2) (Z.ss J S tk h3)
  · cases h
    exact ls_skip ps_pass
  · cases h
    exact ls_break
  · cases h
    exact ls_cont
  · obtain ⟨hc, h⟩ := oif_some h
    split at h
    · have hg := ‹g.glob _ = GK.exc none›
      cases h
      obtain ⟨g1, g2, g3, g4⟩ := J.glob hg (by simp)
      obtain ⟨e1, e2, e3⟩ := J.ex0 _ g1
      exact ls_raise (J.calm hc) tk e1 (J.exN _ _ g1) e2 e3 g2 g3
    · have hg := ‹g.glob _ = GK.exc (some _)›
      obtain ⟨hb, h⟩ := oif_some h
      obtain ⟨x, h1, rfl⟩ := o1_some h
      obtain ⟨g1, g2, g3, g4⟩ := J.glob hg (by simp)
      exact ls_raiseF (J.calm hc) tk (J.exF hc _ _ g1 X rfl rfl rfl rfl rfl rfl) g2 (not_bool hb) (E.e J tl h1)
    · cases h
  · split at h
    · have hg := ‹g.glob _ = GK.exc _›
      obtain ⟨x, y, h1, h2, rfl⟩ := o2_some h
      obtain ⟨g1, g2, g3, g4⟩ := J.glob hg (by simp)
      exact ls_tryOnly S.st S.fr ⟨g2, g3, .inl (J.exN _ _ g1)⟩ tk (fun y b hy => J.sub y _ b hy) (fun W' pn xe t p => Z.ss (J.tr pn xe) (S.tr p) t h1) fun a oe pn => Z.ss (J.suite a _) (S.suite a _) takes_no h2
    · cases h
  · split at h
    · rename_i i hg hl hi
      obtain ⟨x, y, h1, h2, rfl⟩ := o2_some h
      obtain ⟨g1, g2, g3, g4⟩ := J.glob hg (by simp)
      simp only [Bool.and_eq_true] at hl
      have hln : ∀ {n : Str}, lclB g.sc n = true → X.env.kindOf n = some .local := fun {n} hv => by
        unfold lclB at hv
        rw [J.sc] at hv
        split at hv
        · assumption
        · cases hv
      exact ls_tryAs S.st S.fr J.nd (by rw [← J.N]; exact ixOf_get hi) (hln hl.1) ⟨g2, g3, .inl (J.exN _ _ g1)⟩ tk (fun y b hy => J.sub y _ b hy) (fun W' pn xe t p => Z.ss (J.tr pn xe) (S.tr p) t h1) fun a oe pn => Z.ss (J.suite a _) (S.suite a _) takes_no h2
    · cases h
  · cases h
theorem snds_all : ∀ n, SndS n
  | 0 => snds_zero
  | n + 1 => ⟨fun J S tk _ _ h => snd_s (snds_all n) J S tk h, fun {X k g W} J S tk s m h => by
    cases s with
    | nil => cases (show some skipS = some m from h); exact ls_nil
    | cons a r =>
      obtain ⟨x, y, h1, h2, rfl⟩ := o2_some (show o2 (denS g n a) (denSs g n r) seqS = some m from h)
      exact ls_cons ((snds_all n).s J S tk h1) ((snds_all n).ss J S tk h2)⟩
end
end Lt
end S_Lt20

section S_Lt21
set_option Elab.async false
set_option linter.all false
set_option maxRecDepth 100000
set_option maxHeartbeats 4000000
/-! Lt21: a whole program. -/
namespace Lt
open PySem PySem.Spec L2
open PyProof.Rows hiding St
/-- a def of the table -/
structure Ent where
  d : He.DefD
  N : List Str
  ps : List Str
/-- a program, as the machine reads it -/
structure Pg where
  tbl : List Ent
  gkL : List (Str × GK)
  sub : List (Str × Str × Bool)
  xf : List (Str × Str)
  wf : Nat
def Pg.ent (p : Pg) (f : Defn) : Option Ent := p.tbl.find? fun e => e.d.at_ == f
def Pg.gk (p : Pg) (x : Str) : GK := match p.gkL.lookup x with
  | some k => k
  | none => .no
def Pg.meth (p : Pg) (C m : Str) : Bool := (p.ent (C, some m)).isSome
def Pg.subB (p : Pg) (y x : Str) : Option Bool := (p.sub.find? fun q => q.1 == y && q.2.1 == x).map (·.2.2)
def Pg.xfP (p : Pg) (x f : Str) : Bool := p.xf.contains (x, f)
def Pg.g (p : Pg) (c : CallT) (e : Ent) : G := { N := e.N, sc := e.d.scope.names, own := fun _ => true, calm := true, gk := p.gk, meth := p.meth, xf := p.xfP, sub := p.subB, call := c, wf := p.wf }
def noS : SM := fun _ _ => .no
def Pg.fd (p : Pg) (e : Ent) : FD := ⟨e.ps.length, e.N.length, fun c => (denSs (p.g c e) 200 e.d.body).getD noS⟩
def Pg.T (p : Pg) (f : Defn) : Option FD := (p.ent f).map p.fd
/-! ### what the head must say -/
mutual
def cstB (K : PySem.W.Frag) : P → Value → Bool
  | .non, .none => true
  | .bl b, .bool c => decide (b = c)
  | .int i, .int j _ => decide (i = j)
  | .str s, .str z _ => decide (toS s = z)
  | .tup l, .ref a => (match K.lookup a with
    | some o => decide (o.cls = .type "tuple") && (match o.data with
      | .seq its _ => decide (its.size ≤ sizeLine) && cstsB K l its.toList
      | _ => false)
    | none => false)
  | _, _ => false
def cstsB (K : PySem.W.Frag) : List P → List Value → Bool
  | [], [] => true
  | p :: ps, v :: vs => cstB K p v && cstsB K ps vs
  | _, _ => false
end
def gloB' (K : PySem.W.Frag) (x : Str) : Bool := He.eqO (PySem.W.nsIn K mainGlobals x) (some (some (.ref (ga K x))))
def gkB (K : PySem.W.Frag) (x : Str) : GK → Bool
  | .fn => gloB' K x
  | .cls F => gloB' K x && ((He.Fa.cls x).ok K && (PySem.W.makesIn K (ga K x) && (PySem.W.keepIn K (.ref (ga K x)) && F.all fun f => He.eqO (PySem.W.findIn K (.ref (ga K x)) f) (some none))))
  | .exc none => gloB' K x && (He.Fa.exc x).ok K
  | .exc (some _) => gloB' K x
  | .cst p => (match PySem.W.nsIn K mainGlobals x with
    | some (some v) => cstB K p v
    | _ => false)
  | .blt => He.eqO (PySem.W.nsIn K mainGlobals x) (some none)
  | .no => true
def entB (K : PySem.W.Frag) (e : Ent) : Bool := match e.d.at_ with
  | (C, some m) => (He.Fa.meth C m).ok K
  | (_, none) => true
def Pg.facts (p : Pg) (K : PySem.W.Frag) : Bool := (p.gkL.all fun q => gkB K q.1 q.2) && ((p.tbl.all (entB K)) && ((p.sub.all fun q => decide (PySem.W.exmOne K (.ref (ga K q.1)) (.ref (ga K q.2.1)) = some q.2.2)) && p.xf.all fun q => xfB K (ga K q.1) && He.eqO (PySem.W.findIn K (.ref (ga K q.1)) q.2) (some none)))
/-- no head needed -/
def bindOk (e : Ent) : Prop := ∀ (kV doc pm : Value) (an : Option Addr) (cd ct : Value) (us : List Value), us.length = e.ps.length → bindArgs (PySem.W.fnOf e.d.name e.d.qual e.d.params e.d.body e.d.scope .none kV doc pm an cd ct) ⟨us, []⟩ = pure (e.ps.zip us)
structure Pg.Ok (p : Pg) : Prop where
  sc : ∀ e ∈ p.tbl, FnScope e.N e.ps e.d.scope
  bind : ∀ e ∈ p.tbl, bindOk e
  dfl : ∀ e ∈ p.tbl, e.d.dfl = [] ∧ e.d.kwd = []
  fns : ∀ x, p.gk x = .fn → (p.ent (x, none)).isSome
theorem ent_mem {p : Pg} {f : Defn} {e : Ent} (h : p.ent f = some e) : e ∈ p.tbl ∧ e.d.at_ = f := ⟨List.mem_of_find?_eq_some h, beq_iff_eq.mp (List.find?_some (p := fun e : Ent => e.d.at_ == f) h)⟩
theorem gk_mem {p : Pg} {x : Str} {k : GK} (h : p.gk x = k) (hk : k ≠ .no) : (x, k) ∈ p.gkL := by
  unfold Pg.gk at h
  split at h
  · rename_i q
    subst h
    exact PySem.mem_of_lookup q
  · exact (hk h.symm).elim
section
variable {K : PySem.W.Frag}
mutual
theorem cst_ok : ∀ {p : P} {u : Value}, cstB K p u = true → ∃ v, RelV v u ∧ ∀ H, RepP K H p v
  | .non, u, h => by cases u <;> first | exact ⟨.non, rfl, fun _ => rfl⟩ | cases h
  | .bl b, u, h => by
    cases u <;> first
      | (have e := of_decide_eq_true (show decide _ = true from h); subst e; exact ⟨.bl b, rfl, fun _ => rfl⟩)
      | cases h
  | .int i, u, h => by
    cases u <;> first
      | (have e := of_decide_eq_true (show decide _ = true from h); subst e; exact ⟨.int i, ⟨_, rfl⟩, fun _ => rfl⟩)
      | cases h
  | .str s, u, h => by
    cases u <;> first
      | (have e := of_decide_eq_true (show decide _ = true from h); subst e; exact ⟨.str (toS s), ⟨_, rfl⟩, fun _ => rfl⟩)
      | cases h
  | .tup l, u, h => by
    cases u with
    | ref a =>
      unfold cstB at h
      split at h
      · rename_i o q
        obtain ⟨h1, h2⟩ := He.ba h
        split at h2
        · rename_i its n q2
          obtain ⟨h3, h4⟩ := He.ba h2
          obtain ⟨xs, r1, r2⟩ := csts_ok h4
          exact ⟨.ref a, rfl, fun H => ⟨a, xs, rfl, .inr ⟨o, its, n, q, of_decide_eq_true h1, q2, of_decide_eq_true h3, r1⟩, r2 H⟩⟩
        · cases h2
      · cases h
    | _ => cases h
theorem csts_ok : ∀ {l : List P} {us : List Value}, cstsB K l us = true → ∃ xs, Vals xs us ∧ ∀ H, RepPs K H l xs
  | [], [], _ => ⟨[], .nil, fun _ => rfl⟩
  | [], _ :: _, h => by cases h
  | _ :: _, [], h => by cases h
  | p :: ps, u :: us, h => by
    obtain ⟨h1, h2⟩ := He.ba (show (cstB K p u && cstsB K ps us) = true from h)
    obtain ⟨v, r1, r2⟩ := cst_ok h1
    obtain ⟨xs, r3, r4⟩ := csts_ok h2
    exact ⟨v :: xs, .cons r1 r3, fun H => ⟨v, xs, rfl, r2 H, r4 H⟩⟩
end
end
section
variable {P : Program} {w : World} {K : PySem.W.Frag} {mg : Str → Option Value} {base : Heap} {p : Pg}
/-- exceptions with a field, at the level k -/
def RaiseP (P : Program) (w : World) (K : PySem.W.Frag) (mg : Str → Option Value) (base : Heap) (k : Nat) (C f : Str) : Prop := ∀ Y : Cx, Y.prog = P → Y.w = w → Y.K = K → Y.mg = mg → Y.base = base → Room k Y.A → RaiseF Y C f
/-- all of the head's facts -/
structure Facts (P : Program) (w : World) (K : PySem.W.Frag) (mg : Str → Option Value) (base : Heap) (p : Pg) : Prop where
  ok : p.Ok
  facts : p.facts K = true
  glo : ∀ x a, PySem.W.nsIn K mainGlobals x = some (some a) → mg x = some a
  fre : ∀ x, PySem.W.nsIn K mainGlobals x = some none → mg x = none
  defs : ∀ e ∈ p.tbl, ∃ fd, FunD K e.d.name e.d.qual e.d.params e.d.body e.d.scope [] [] (He.fAd K e.d.at_) fd
  exF : ∀ x f, p.gk x = .exc (some f) → RaiseP P w K mg base 2 x f
  dg : NoDig K
theorem Facts.gkB (F : Facts P w K mg base p) {x : Str} {k : GK} (h : p.gk x = k) (hk : k ≠ .no) : Lt.gkB K x k = true := by
  have h1 := (He.ba F.facts).1
  exact List.all_eq_true.mp h1 _ (gk_mem h hk)
theorem glo_of (F : Facts P w K mg base p) {x : Str} (h : gloB' K x = true) : mg x = some (.ref (ga K x)) := F.glo _ _ (He.eqO_ok h)
/-- the context of a body -/
theorem Facts.good (F : Facts P w K mg base p) {e : Ent} (he : e ∈ p.tbl) {k : Nat} (hk : 1 ≤ k) {call : CallT} {f : Addr} {cd : Value} {A : Around} {outer : List Env} {s : Shared} {H : Hp} {E : XK}
    (hr : Room (k + 1) (A.deeper (envOfC e.d.qual e.d.scope s.heap.objs.size f cd))) (gu : A.guards = some [])
    (hc : CallsOk (cxOf (L2.CX P w) P w K mg base e.N e.d.qual e.d.scope f cd A outer s H E) k (fun x => p.gk x = .fn) p.meth call) :
    GoodX (cxOf (L2.CX P w) P w K mg base e.N e.d.qual e.d.scope f cd A outer s H E) (cxOf (L2.CX P w) P w K mg base e.N e.d.qual e.d.scope f cd A outer s H E).env.locals k (p.g call e) := by
  have S := F.ok.sc e he
  obtain ⟨_, f2⟩ := He.ba F.facts
  obtain ⟨_, f3⟩ := He.ba f2
  obtain ⟨f4, f5⟩ := He.ba f3
  refine ⟨rfl, S.nd, rfl, S.kind, rfl, fun _ => rfl, ⟨_, outer, rfl, rfl⟩, rfl, ?_, gu, hc, fun x q hx => ?_, fun x Fl hx => ?_, fun x hx => ?_, fun x o hx => ?_, fun x hx => ?_, fun _ x g hx => ?_, fun y x b hb => ?_, fun x g hx => ?_, F.dg⟩
  · have := hr.un
    show (A.deeper (envOfC e.d.qual e.d.scope s.heap.objs.size f cd)).units + 65 < cLine
    omega
  · have h : (match PySem.W.nsIn K mainGlobals x with
      | some (some v) => cstB K q v
      | _ => false) = true := F.gkB hx (by simp)
    cases q2 : PySem.W.nsIn K mainGlobals x with
    | none => rw [q2] at h; cases h
    | some o =>
      rw [q2] at h
      cases o with
      | none => cases h
      | some v =>
        obtain ⟨vv, r1, r2⟩ := cst_ok h
        exact ⟨vv, v, F.glo _ _ q2, r1, r2⟩
  · obtain ⟨h1, h2⟩ := He.ba (show (gloB' K x && _) = true from F.gkB hx (by simp))
    obtain ⟨h3, h4⟩ := He.ba h2
    obtain ⟨h5, h6⟩ := He.ba h4
    obtain ⟨h7, h8⟩ := He.ba h6
    exact ⟨glo_of F h1, h5, h7, He.cls_ok h3, fun g hg => He.eqO_ok (List.all_eq_true.mp h8 g hg)⟩
  · exact F.fre _ (He.eqO_ok (F.gkB hx (by simp)))
  · have h := F.gkB hx (by simp)
    cases o with
    | none => exact glo_of F (He.ba (show (gloB' K x && _) = true from h)).1
    | some g => exact glo_of F h
  · obtain ⟨h1, h2⟩ := He.ba (show (gloB' K x && _) = true from F.gkB hx (by simp))
    obtain ⟨e1, e2, e3, e4⟩ := He.exc_ok h2
    exact ⟨⟨_, _, _, _, PySem.F.excBase_ValueError, e1⟩, e2, raises_own e3 e4⟩
  · exact fun Y h1 h2 h3 h4 h5 h6 => F.exF x g hx Y h1 h2 h3 h4 h5 (by rw [h6]; exact hr.mono (by omega))
  · have hb' : (p.sub.find? fun q => q.1 == y && q.2.1 == x).map (·.2.2) = some b := hb
    cases q : p.sub.find? fun q => q.1 == y && q.2.1 == x with
    | none => rw [q] at hb'; cases hb'
    | some z =>
      rw [q] at hb'
      cases hb'
      have z1 := List.find?_some (p := fun q : Str × Str × Bool => q.1 == y && q.2.1 == x) q
      obtain ⟨z2, z3⟩ := He.ba z1
      have z4 := of_decide_eq_true (List.all_eq_true.mp f4 z (List.mem_of_find?_eq_some q))
      rw [beq_iff_eq.mp z2, beq_iff_eq.mp z3] at z4
      exact z4
  · have hx' : p.xf.contains (x, g) = true := hx
    obtain ⟨z1, z2⟩ := He.ba (List.all_eq_true.mp f5 _ (List.contains_iff_mem.mp hx'))
    exact ⟨xfB_ok z1, He.eqO_ok z2⟩
theorem runF_len {j : Nat} {f : Defn} {e : Ent} (h : p.ent f = some e) {ds : List D} (hl : ds.length ≠ e.ps.length) (st : Store) : runF p.T j f ds st = .no := by
  cases j with
  | zero => rfl
  | succ j =>
    show (match p.T f with | some fd => runB fd (runF p.T j) ds st | none => .no) = .no
    unfold Pg.T
    rw [h]
    show runB (p.fd e) (runF p.T j) ds st = .no
    unfold runB
    exact if_neg hl
/-- each def, j defs deep -/
theorem Facts.all (F : Facts P w K mg base p) : ∀ j : Nat, ∀ (f : Defn) (e : Ent) (fd : FuncData), p.ent f = some e → FunD K e.d.name e.d.qual e.d.params e.d.body e.d.scope [] [] (He.fAd K f) fd → FnL P w K mg base (2 * j + 1) (He.fAd K f) fd e.ps (spF K e.ps.length (runF p.T j f))
  | 0, f, e, fd, he, hf => ⟨fun vs H Q E h => h.1, fun A outer s H args us vs Q E hr gu e0 b r h => by
      obtain ⟨_, μ, ds, st, _, _, h⟩ := h
      exact h.no⟩
  | j + 1, f, e, fd, he, hf => by
    obtain ⟨hm, ha⟩ := ent_mem he
    have ih := Facts.all F j
    show FnL P w K mg base (2 * j + 1 + 1 + 1) _ _ _ _
    refine FnL.of hf (F.ok.sc e hm) (fun vs H Q E h => h.1) fun cd A outer s H vs Q E room gu hsp => ?_
    obtain ⟨hlen, μ, ds, st, r, t, h⟩ := hsp
    have h : Post K μ H (fun H' μ' d v => Rep K H' μ' d v) (runB (p.fd e) (runF p.T j) ds st) Q E := by
      have e1 : runF p.T (j + 1) f ds st = runB (p.fd e) (runF p.T j) ds st := by
        show (match p.T f with | some fd => runB fd (runF p.T j) ds st | none => .no) = _
        unfold Pg.T
        rw [he]
        rfl
      rw [← e1]; exact h
    unfold runB at h
    split at h
    · cases q : denSs (p.g (runF p.T j) e) 200 e.d.body with
      | none =>
        have e2 : (p.fd e).body (runF p.T j) = noS := by
          show (denSs (p.g (runF p.T j) e) 200 e.d.body).getD noS = noS
          rw [q]; rfl
        rw [e2] at h
        exact h.no
      | some m =>
        have e2 : (p.fd e).body (runF p.T j) = m := by
          show (denSs (p.g (runF p.T j) e) 200 e.d.body).getD noS = m
          rw [q]; rfl
        rw [e2] at h
        have cs : CallsOk (cxOf (L2.CX P w) P w K mg base e.N e.d.qual e.d.scope (He.fAd K f) cd A outer s H E) (2 * j + 1) (fun x => p.gk x = .fn) p.meth (runF p.T j) := by
          refine ⟨fun x hx => ⟨⟨room, gu⟩, ?_⟩, fun C m hm2 => ⟨⟨room, gu⟩, ?_⟩⟩
          · obtain ⟨e', he'⟩ := Option.isSome_iff_exists.mp (F.ok.fns x hx)
            obtain ⟨hm', ha'⟩ := ent_mem he'
            obtain ⟨fd', hf'⟩ := F.defs e' hm'
            rw [ha'] at hf'
            exact ⟨ga K x, fd', e'.ps, glo_of F (F.gkB hx (by simp)), hf'.kp, hf'.bindsN (F.ok.bind e' hm'), ih _ e' fd' he' hf', fun ds st hl => runF_len he' hl st⟩
          · obtain ⟨e', he'⟩ := Option.isSome_iff_exists.mp hm2
            obtain ⟨hm', ha'⟩ := ent_mem he'
            obtain ⟨fd', hf'⟩ := F.defs e' hm'
            rw [ha'] at hf'
            have eb := List.all_eq_true.mp (He.ba (He.ba F.facts).2).1 e' hm'
            unfold entB at eb
            rw [ha'] at eb
            exact ⟨_, fd', e'.ps, He.meth_ok eb, hf'.bindsN (F.ok.bind e' hm'), ih _ e' fd' he' hf', fun ds st hl => runF_len he' hl st⟩
        have J := F.good hm (by omega) room gu cs
        have tk : Takes (cxOf (L2.CX P w) P w K mg base e.N e.d.qual e.d.scope (He.fAd K f) cd A outer s H E) (fun c d _ H' => E c d H') := takes_of rfl rfl rfl rfl
        have S : StX (cxOf (L2.CX P w) P w K mg base e.N e.d.qual e.d.scope (He.fAd K f) cd A outer s H E) := ⟨rfl, rfl, passes_of rfl⟩
        refine ⟨_, (snds_all 200).ss J S tk q, μ, startR e.N.length ds, st, ⟨t, ?_, fun i d hd => ?_⟩, ?_⟩
        · show (L2.start e.N vs).length = (startR e.N.length ds).length
          unfold L2.start startR
          rw [List.length_append, List.length_append, List.length_map, List.length_map, r.length, List.length_replicate, List.length_replicate]
        · unfold startR at hd
          by_cases hi : i < ds.length
          · rw [List.getElem?_append_left (by rw [List.length_map]; exact hi), List.getElem?_map] at hd
            cases z : ds[i]? with
            | none => rw [z] at hd; cases hd
            | some d' =>
              rw [z] at hd
              cases hd
              obtain ⟨v, h1, h2⟩ := r.get z
              refine ⟨v, ?_, RepS.of h2⟩
              show (L2.start e.N vs)[i]? = _
              unfold L2.start
              rw [List.getElem?_append_left (by rw [List.length_map, r.length]; exact hi), List.getElem?_map, h1]
              rfl
          · rw [List.getElem?_append_right (by rw [List.length_map]; omega)] at hd
            have := List.mem_of_getElem? hd
            rw [List.mem_replicate] at this
            cases this.2
        · cases z : m (startR e.N.length ds) st with
          | no => rw [show (p.fd e).n = e.N.length from rfl, z] at h; exact h.no
          | ex x ρ s1 =>
            rw [show (p.fd e).n = e.N.length from rfl, z] at h
            exact fun dd σ' H' μ' e' s' xf => h dd H' μ' e' s'.st xf
          | go fl ρ s1 =>
            rw [show (p.fd e).n = e.N.length from rfl, z] at h
            cases fl with
            | nx => exact fun σ' H' μ' e' s' => h .non H' μ' e' s'.st (show RepP K H' .non .non from rfl)
            | rt d => exact fun v σ' H' μ' e' s' rv => h v H' μ' e' s'.st rv
            | bk => exact h.no
            | ct => exact h.no
    · exact h.no
end
end Lt
end S_Lt21

section S_Lt22
set_option Elab.async false
set_option linter.all false
set_option maxRecDepth 100000
set_option maxHeartbeats 4000000
/-! Lt22: a law, from the head's end. -/
namespace Lt
open PySem PySem.Spec L2
open PyProof.Rows hiding St
/-- what stands at the law's call: the script, read only -/
def hpOf (a : Addr) (ob : Obj) (ns : List Int) : Hp := fun b => if b = a then some (.frz ob (.lst (ns.map V.int))) else none
theorem law_run {P : Program} {w : World} {K : PySem.W.Frag} {mg mb : Str → Option Value} {k : Nat} {fa a : Addr} {fd : FuncData} {x : Str} {sp : Sp} {s1 : Shared} {vs : List Value} {ns : List Int}
    (hK : K.In s1.heap) (hG : s1.heap.Ns mainGlobals mg) (hB : s1.heap.Ns builtinsNs mb) (hbb : ∀ x : Str, x ≠ "__name__" → mb x = bootBuiltins x) (lim : s1.heap.NoLimit) (gens : s1.gens = #[])
    (at_ : s1.heap.get? a = some { cls := .type "list", data := .seq vs.toArray }) (hin : IntsAre vs ns) (len : ns.length ≤ sizeLine) (room : Room k callerA) (gu : callerA.guards = some []) (out : K.lookup a = none)
    (F : ∀ base : Heap, K.In base → base.Ns mainGlobals mg → FnL P w K mg base k fa fd [x] sp) (bind : ∀ (s : Shared) (u : Value), BindsTo s fd ⟨[u], []⟩ [(x, u)])
    (want : sp [.ref a] (hpOf a { cls := .type "list", data := .seq vs.toArray } ns) (fun v _ => v = .bl true) fun _ _ _ => False) :
    codeAny (model P w) callerA (.call (.ref fa) ⟨[.ref a], []⟩) (fun r z => r = .ok (.ret (.bool true)) ∧ OldK s1.heap z.heap ∧ z.os = s1.os ∧ AllBare z.gens) s1 := by
  generalize hob : ({ cls := .type "list", data := .seq vs.toArray } : Obj) = ob at want at_
  have rv := vals_ints hin
  have only : ∀ b u, hpOf a ob ns b = some u → b = a ∧ u = .frz ob (.lst (ns.map V.int)) := fun b u e => by
    unfold hpOf at e
    split at e
    · exact ⟨‹_›, (Option.some.inj e).symm⟩
    · cases e
  have none_ : ∀ {b}, b ≠ a → hpOf a ob ns b = none := fun {b} h => if_neg h
  have hok : HOk P w (hpOf a ob ns) s1.heap := fun b u e => by
    obtain ⟨rfl, rfl⟩ := only b u e
    exact ⟨at_, by rw [List.length_map]; exact len, vs, _, rv, by rw [at_, ← hob]⟩
  have stay : ∀ {b : Addr} {o : Obj}, s1.heap.get? b = some o → b ≠ a → (hidT s1.heap (hpOf a ob ns)).get? b = some o := fun e n => hidT_get e (none_ n)
  have nsS : ∀ {b : Addr} {m : Str → Option Value}, s1.heap.Ns b m → (hidT s1.heap (hpOf a ob ns)).Ns b m := fun {b m} ⟨o, es, ep, e, d, r⟩ => ⟨o, es, ep, stay e (fun z => by
    rw [z, at_, ← hob] at e
    cases e
    cases d), d, r⟩
  have kin : K.In (hidT s1.heap (hpOf a ob ns)) := fun b o e => stay (hK b o e) fun z => by rw [z, out] at e; cases e
  have md : Mod K mg (hidT s1.heap (hpOf a ob ns)) := ⟨kin, nsS hG, ⟨mb, nsS hB, hbb⟩, let ⟨mc, h1, h2⟩ := lim; ⟨mc, nsS h1, h2⟩⟩
  have e0 : Env0 P w K mg (hidT s1.heap (hpOf a ob ns)) callerA [] s1 (hpOf a ob ns) := ⟨rfl, md, fun b o e => of_hidT e, Nat.le_of_eq (hidT_size _ _), trivial, (fun b hb => by cases hb), hok, .of_eq gens⟩
  refine codeAny_mono ((F _ kin (nsS hG)).run callerA [] s1 _ ⟨[.ref a], []⟩ [.ref a] [.ref a] _ _ room gu e0 (bind s1 (.ref a)) (.cons rfl .nil) want) fun r z h => ?_
  cases r with
  | error e =>
    obtain ⟨_, _, _, _, _, _, _, _, _, _, _, _, f⟩ := (show L2.CX P w [] _ s1 (fun _ _ _ => False) e z from h)
    exact f.elim
  | ok fl =>
    cases fl with
    | ret u =>
      obtain ⟨v, H', os, bare, un, hok', r', q⟩ := h
      have q' : v = .bl true := q
      subst q'
      obtain rfl : u = Value.bool true := r'
      refine ⟨rfl, OldK.of_keep fun b o e => ?_, os, bare⟩
      by_cases hb : b = a
      · subst hb
        have z2 := un.frzs b ob _ (if_pos rfl)
        obtain ⟨e2, _⟩ := hok' b _ z2
        rw [at_] at e
        cases e
        exact e2
      · exact un.keep b o e (none_ hb) (by simp [frs]) (by simp)
    | next => exact h.elim
    | brk => exact h.elim
    | cont => exact h.elim
/-- no list among the module's own objects -/
def isLst (o : Obj) : Bool := match o.cls with
  | .type t => decide (t = "list")
  | _ => false
def noLst (K : PySem.W.Frag) : Bool := K.all fun q => !isLst q.2
def setB (K : PySem.W.Frag) : Bool := He.eqO (PySem.W.nsIn K cStatics "sys.int_max_str_digits") (some none)
theorem mem_at {a : Addr} {o : Obj} : ∀ {l : PySem.W.Frag}, l.lookup a = some o → ∃ b, (b, o) ∈ l
  | [], h => by cases h
  | (b, o') :: r, h => by
    rw [List.lookup_cons] at h
    cases q : (a == b) with
    | true =>
      rw [q] at h
      have e : o' = o := Option.some.inj h
      rw [← e]
      exact ⟨b, List.mem_cons_self⟩
    | false =>
      rw [q] at h
      obtain ⟨c, hc⟩ := mem_at (l := r) h
      exact ⟨c, List.mem_cons_of_mem _ hc⟩
theorem noLst_out {K : PySem.W.Frag} {a : Addr} {ob : Obj} {h : Heap} (hn : noLst K = true) (hK : K.In h) (e : h.get? a = some ob) (hl : isLst ob = true) : K.lookup a = none := by
  cases q : K.lookup a with
  | none => rfl
  | some o =>
    have e2 := hK a o q
    rw [e] at e2
    have e3 : ob = o := Option.some.inj e2
    obtain ⟨b, hb⟩ := mem_at q
    have z : (!isLst o) = true := List.all_eq_true.mp hn _ hb
    rw [← e3, hl] at z
    exact absurd z Bool.false_ne_true
def scriptD (ns : List Int) : List D := ns.map fun i => .p (.int i)
theorem reps_ints {K : PySem.W.Frag} {H : Hp} {μ : List Addr} : ∀ ns : List Int, Reps K H μ (scriptD ns) (ns.map V.int)
  | [] => rfl
  | i :: r => ⟨.int i, r.map V.int, rfl, rfl, reps_ints r⟩
/-! ### the hook: the module's names, and the machine's own settings -/
def fragL (n : Nat) (g : Addr → Option Obj) : PySem.W.Frag := He.frG g (cStatics :: He.asD g n)
def obsL (n : Nat) (fn : List He.DefD) (ex : PySem.W.Frag → Bool) (g : Addr → Option Obj) : He.AlD × Bool := (He.obsD [] fn (fragL n g), ex (fragL n g))
def hookL (n : Nat) (fn : List He.DefD) (ex : PySem.W.Frag → Bool) : PySem.W.Hook where
  α := He.AlD × Bool
  obs := fun s => obsL n fn ex s.heap.get?
  val := fun _ => (He.valD fn, true)
  says := fun _ h => ∃ K : PySem.W.Frag, K.In h ∧ He.SaysD [] fn K ∧ ex K = true
  of := fun _ _ e => ⟨_, He.frG_in, congrArg (fun z : He.AlD × Bool => z.1) e, congrArg (fun z : He.AlD × Bool => z.2) e⟩
  keeps := fun _ _ _ ⟨K, hK, c⟩ k => ⟨K, PySem.W.Frag.In.keeps hK k, c⟩
theorem obsL_eq {n : Nat} {fn : List He.DefD} {ex : PySem.W.Frag → Bool} {g : Addr → Option Obj} {s : Shared} (h : ∀ a, g a = s.heap.get? a) : obsL n fn ex g = (hookL n fn ex).obs s := by
  have e : g = s.heap.get? := funext h
  rw [e]
  rfl
theorem walk_lt {l : PySem.W.OpenLaw} {n n0 j : Nat} {q : Program} {loose : List Str} {XP : (Str → Option Value) → Heap → Prop} {d : DefRec} {p : Pg} {e : Ent} {x : Str} {more : PySem.W.Frag → Bool} {xd : List He.DefD}
    (hn : l.most = some n) (hn2 : n ≤ sizeLine) (hdf : d.params.defaults = []) (hr : Room (2 * j + 1) callerA) (hd : d.name = ("law" : Str)) (ok : p.Ok) (he : p.ent ("law", none) = some e) (hps : e.ps = [x]) (hg : p.gk "law" = .fn)
    (raise : ∀ (w : World) (K : PySem.W.Frag) (mg : Str → Option Value) (base : Heap), K.In base → base.Ns mainGlobals mg → p.facts K = true → more K = true → (∀ e ∈ p.tbl, ∃ fd, FunD K e.d.name e.d.qual e.d.params e.d.body e.d.scope [] [] (He.fAd K e.d.at_) fd) → (∀ d ∈ xd, ∃ fd, FunD K d.name d.qual d.params d.body d.scope (d.dvs K) (d.kws K) (He.fAd K d.at_) fd) → ∀ y f, p.gk y = .exc (some f) → RaiseP l.prog w K mg base 2 y f)
    (run : ∀ ns : List Int, ns.length ≤ n → (∀ i ∈ ns, Builtin.Int.intBits i ≤ 1048576) → ∃ st, runF p.T j ("law", none) [.ref 0] [.ro (scriptD ns)] = .ok (.p (.bl true)) st) :
    PySem.W.WalkO q loose XP (hookL n0 (p.tbl.map (·.d) ++ xd) fun K => p.facts K && (noLst K && (setB K && more K))).says l.row.toRowW d [] (fun f vs => PySem.call f vs) := by
  refine Att.attach_callB hn hdf fun w s₀ s1 mg mb fa o pm cd doc a vs ns G Y ho hd' hcd hmg hobj hin hlen hbits gens => ?_
  obtain ⟨K, KX, c, c0⟩ := Y
  obtain ⟨c1, c2⟩ := He.ba c0
  obtain ⟨c3, c4⟩ := He.ba c2
  obtain ⟨c5, c4⟩ := He.ba c4
  have defs : ∀ e ∈ p.tbl, ∃ fd, FunD K e.d.name e.d.qual e.d.params e.d.body e.d.scope [] [] (He.fAd K e.d.at_) fd := fun e he => by
    obtain ⟨fd, f⟩ := c.defs (d := e.d) (List.mem_append_left _ (List.mem_map.mpr ⟨e, he, rfl⟩))
    obtain ⟨d1, d2⟩ := ok.dfl e he
    have z1 : e.d.dvs K = [] := by unfold He.DefD.dvs; rw [d1]; rfl
    have z2 : e.d.kws K = [] := by unfold He.DefD.kws; rw [d2]; rfl
    rw [z1, z2] at f
    exact ⟨fd, f⟩
  have F : ∀ base : Heap, K.In base → base.Ns mainGlobals mg → Facts l.prog w K mg base p := fun base hb hG => ⟨ok, c1, fun x u h => PySem.W.mg_of hb hG h, fun x h => PySem.W.mg_none_of hb hG h, defs, raise w K mg base hb hG c1 c4 defs (fun d hd => c.defs (List.mem_append_right _ hd)), He.eqO_ok c5⟩
  obtain ⟨hm, ha⟩ := ent_mem he
  obtain ⟨fd, f⟩ := defs e hm
  have f' := f
  rw [ha] at f'
  have out := noLst_out c3 KX hobj rfl
  have efa : fa = He.fAd K ("law", none) := by
    have e1 : mg ("law" : Str) = some (.ref (ga K "law")) := PySem.W.mg_of KX G.T.g (He.eqO_ok (by
      have h1 := (He.ba c1).1
      exact List.all_eq_true.mp h1 _ (gk_mem hg (by simp))))
    rw [← hd, hmg] at e1
    exact Value.ref.inj (Option.some.inj (by rw [e1, hd]; rfl))
  subst efa
  have bd := ok.bind e hm
  refine law_run (x := x) KX G.T.g G.T.b G.T.builtins G.T.nolimit gens hobj hin (Nat.le_trans hlen hn2) hr rfl out (fun base hb hG => by
    have z := (F base hb hG).all j _ e fd he f'
    rw [hps] at z
    exact z) (fun s u => by
    have z := FunD.bindsA (ps := e.ps) f bd s [u] (by rw [hps]; rfl)
    rw [hps] at z
    exact z) ?_
  obtain ⟨st, er⟩ := run ns hlen hbits
  refine ⟨rfl, [a], [.ref 0], [.ro (scriptD ns)], ⟨.ref a, [], rfl, ⟨a, rfl, rfl⟩, rfl⟩, ⟨rfl, by simp, fun i o b h1 h2 => ?_⟩, ?_⟩
  · cases i with
    | zero =>
      cases h1
      cases h2
      exact ⟨_, _, if_pos rfl, reps_ints ns⟩
    | succ i => simp at h1
  · rw [er]
    intro v H' μ' e1 t1 rv
    exact rv
/-! ### the table's own facts, by a run -/
def scB (e : Ent) : Bool := (match e.d.scope.kind with
  | .function => true
  | _ => false) && (!e.d.scope.isCoroutine && (!e.d.scope.isGenerator && (decide e.N.Nodup && (decide (e.N.take e.ps.length = e.ps) && ((e.ps.all fun x => decide (e.d.scope.names.lookup x = some .local) || decide (e.d.scope.names.lookup x = some .cell)) && e.d.scope.names.all fun y => decide (y.2 ≠ .free))))))
theorem sc_of {e : Ent} (h : scB e = true) : FnScope e.N e.ps e.d.scope := by
  obtain ⟨h1, h⟩ := He.ba h
  obtain ⟨h2, h⟩ := He.ba h
  obtain ⟨h3, h⟩ := He.ba h
  obtain ⟨h4, h⟩ := He.ba h
  obtain ⟨h5, h⟩ := He.ba h
  obtain ⟨h6, h7⟩ := He.ba h
  refine ⟨?_, not_bool h2, not_bool h3, of_decide_eq_true h4, of_decide_eq_true h5, fun x hx => ?_, fun y hy => of_decide_eq_true (List.all_eq_true.mp h7 y hy)⟩
  · revert h1
    cases e.d.scope.kind <;> simp
  · have z := List.all_eq_true.mp h6 x hx
    simp only [Bool.or_eq_true, decide_eq_true_eq] at z
    exact z
def Pg.fine (p : Pg) : Bool := (p.tbl.all scB) && ((p.tbl.all fun e => e.d.dfl.isEmpty && e.d.kwd.isEmpty) && p.gkL.all fun q => match q.2 with
  | .fn => (p.ent (q.1, none)).isSome
  | _ => true)
theorem Pg.ok_of {p : Pg} (h : p.fine = true) (b : ∀ e ∈ p.tbl, bindOk e) : p.Ok := by
  obtain ⟨h1, h⟩ := He.ba h
  obtain ⟨h2, h3⟩ := He.ba h
  refine ⟨fun e he => sc_of (List.all_eq_true.mp h1 e he), b, fun e he => ?_, fun x hx => ?_⟩
  · obtain ⟨z1, z2⟩ := He.ba (List.all_eq_true.mp h2 e he)
    exact ⟨List.isEmpty_iff.mp z1, List.isEmpty_iff.mp z2⟩
  · exact List.all_eq_true.mp h3 _ (gk_mem hx (by simp))
theorem bind_nil : ∀ e ∈ ([] : List Ent), bindOk e := fun _ h => by cases h
theorem bind_cons {a : Ent} {l : List Ent} (h : bindOk a) (t : ∀ e ∈ l, bindOk e) : ∀ e ∈ a :: l, bindOk e := fun e he => by
  rcases List.mem_cons.mp he with z | z
  · rw [z]; exact h
  · exact t e z
end Lt
end S_Lt22

section S_Lt23
set_option Elab.async false
set_option linter.all false
set_option maxRecDepth 100000
set_option maxHeartbeats 4000000
/-! Lt23: an own exception whose __init__ calls its base's and keeps one field. -/
namespace Lt
open PySem PySem.Spec L2
open PyProof.Rows hiding St
def oexB (K : PySem.W.Frag) (C : Addr) : Bool := (match K.lookup C with
  | some ⟨.type "type", _, .cls cd, sl⟩ => (match cd.mro, sl.toList with
    | .ref D :: bm, [_, _, _, _, some (.builtin n), _] => decide (D = C) && (decide (n = "ValueError.__new__") && (!cd.hasDel && (cd.hasDict && PySem.HandSPX.refsVE bm)))
    | _, _ => false)
  | _ => false) && (He.eqO (PySem.W.findIn K (.ref C) "__setattr__") (some (some (.builtin "object.__setattr__"))) && (decide (PySem.W.subIn K (.ref C) (.type "BaseException") = some true) && (decide (PySem.W.typeIn K (.ref C) = some (.type "type")) && PySem.W.keepIn K (.ref C))))
theorem oexB_ok {K : PySem.W.Frag} {C : Addr} (h : oexB K C = true) : OexC K C := by
  obtain ⟨h1, h⟩ := He.ba h
  obtain ⟨h2, h⟩ := He.ba h
  obtain ⟨h3, h⟩ := He.ba h
  obtain ⟨h4, h5⟩ := He.ba h
  refine ⟨?_, He.eqO_ok h2, of_decide_eq_true h3, of_decide_eq_true h4, h5⟩
  split at h1
  · rename_i dd cd sl q
    split at h1
    · rename_i D bm k0 k1 k2 k3 n k5 hm hs
      obtain ⟨e1, h1⟩ := He.ba h1
      obtain ⟨e2, h1⟩ := He.ba h1
      obtain ⟨e3, h1⟩ := He.ba h1
      obtain ⟨e4, e5⟩ := He.ba h1
      have e1 := of_decide_eq_true e1
      have e2 := of_decide_eq_true e2
      subst e1
      subst e2
      obtain ⟨nm, bs, mro, ns, qn, hd, sn, sub, ab, col, del⟩ := cd
      obtain ⟨l⟩ := sl
      dsimp only at hm hs e3 e4
      subst hm
      subst hs
      have e3 := not_bool e3
      subst e3
      subst e4
      exact ⟨nm, qn, ns, bs, bm, sn, sub, ab, col, dd, k0, k1, k2, k3, k5, q, e5⟩
    · cases h1
  · cases h1
/-- the base class, whose __init__ is ValueError's -/
def baseB (K : PySem.W.Frag) (B : Addr) : Bool := He.eqO (PySem.W.specialIn K (.ref B) "__getattribute__") (some (some (.builtin "type.__getattribute__"))) && (PySem.W.readsIn K B (.type "type") && (match PySem.W.findCls K (.ref B) (.type "type") "__init__" with
  | some (.val (.builtin n)) => decide (n = "ValueError.__init__")
  | _ => false))
/-- the class C, its base B, its field f -/
def mxB (K : PySem.W.Frag) (C B f : Str) : Bool := gloB' K C && (gloB' K B && (oexB K (ga K C) && (baseB K (ga K B) && (He.eqO (PySem.W.findIn K (.ref (ga K C)) f) (some none) && (He.Fa.meth C "__init__").ok K))))
section
variable {X : Cx} {te : TE} {e : Expr}
theorem pe_init {B a : Str} {z : Str} {j i : Nat} {p1 p2 q1 q2 q3 : Pos} {CB : Addr} (hN : X.N[i]? = some a) (hv : Vis X.env.scope a) (ha : (a == ("__debug__" : Str)) = false) (ha2 : (a == ("__classdict__" : Str)) = false) (hg : Gl X B) (hd : (B == ("__debug__" : Str)) = false) (hm : X.mg B = some (.ref CB)) (hb : baseB X.K CB = true) (hl : (p2.endLine == q3.line) = true) :
    PE X (.Call (.Attribute (.Name B p1) "__init__" p2) [.Name a q1, .Constant (.str z) j q2] [] q3) (tVeI X.K (tCons (tVar i) (tCons (tC (.str z)) tNil))) := by
  obtain ⟨b1, b2⟩ := He.ba hb
  obtain ⟨b3, b4⟩ := He.ba b2
  have b5 : PySem.W.findCls X.K (.ref CB) (.type "type") "__init__" = some (.val (.builtin "ValueError.__init__")) := by
    split at b4
    · rename_i n q
      rw [q, of_decide_eq_true b4]
    · cases b4
  have args : PA X [.Name a q1, .Constant (.str z) j q2] (tCons (tVar i) (tCons (tC (.str z)) tNil)) := pa_cons (pe_var hN hv ha ha2) (pa_cons pe_str pa_nil)
  refine ⟨fun pins s σ H Q I h => ?_⟩
  refine mcall_of rfl hl (by show 2 < 20; omega) ⟨rfl, rfl, trivial⟩ (ld_glob I hg hm ?_ hd)
  refine PySem.W.method_cls I.kIn (He.eqO_ok b1) (PySem.W.cls_value I.kIn b3 b5 (by decide +kernel) ?_)
  show wpAny _ _ (callWith q3 (Value.builtin "ValueError.__init__") [] (backTo q3 (starEach [.Name a q1, .Constant (.str z) j q2] X.env)) []) _ _ _
  refine PyProof.Rows.callWith_method1 (thn (args.run q3 pins _ σ H _ (I.tok _) h) fun us s1 ⟨vs, H1, I1, r1, ad, C, ws, ev, hl, T, ea, q⟩ => ?_) rfl rfl
  subst ev
  cases r1 with
  | @cons _ u0 _ ur ra rw' =>
    obtain rfl : u0 = Value.ref ad := ra
    exact oinit_ok T I1 ea (by rw [← Paired.length rw', sizeLine_eq]; omega) fun s' J => ⟨.non, H1, J, rfl, q⟩
end
/-- what such an __init__ does -/
def spMx (K : PySem.W.Frag) (f : Str) : Sp := fun vs H Q _ => ∃ (e C : Addr) (v : V), vs = [.ref e, v] ∧ OexC K C ∧ PySem.W.findIn K (.ref C) f = some none ∧ H e = some (exo e C none) ∧ ∀ dx, H dx = none → dx ≠ e → Q .non (upd (upd H dx (exd dx [(f, v)])) e (exo e C (some dx)))
/-- the def's text -/
structure MxT (C B f : Str) (d : He.DefD) (a b : Str) : Prop where
  at_ : d.at_ = (C, some ("__init__" : Str))
  body : ∃ (z : Str) (j : Nat) (p1 p2 q1 q2 q3 q4 q5 q6 q7 q8 : Pos), d.body = [.Expr (.Call (.Attribute (.Name B p1) "__init__" p2) [.Name a q1, .Constant (.str z) j q2] [] q3) q4, .Assign [.Attribute (.Name a q5) f q6] (.Name b q7) q8] ∧ (p2.endLine == q3.line) = true
  sc : FnScope [a, b] [a, b] d.scope
  vis : d.scope.names.lookup a = some .local ∧ d.scope.names.lookup b = some .local ∧ d.scope.names.lookup B = some .globalImplicit
  pl : (plainN a && (plainN b && plainN B)) = true
  bind : bindOk ⟨d, [a, b], [a, b]⟩
  dfl : d.dfl = [] ∧ d.kwd = []
theorem raise_mx {P : Program} {w : World} {K : PySem.W.Frag} {mg : Str → Option Value} {base : Heap} {C B f a b : Str} {d : He.DefD} (T : MxT C B f d a b) (hC : (C == ("__debug__" : Str)) = false) (hK : K.In base) (hG : base.Ns mainGlobals mg) (hx : mxB K C B f = true)
    (hd : ∃ fd, FunD K d.name d.qual d.params d.body d.scope (d.dvs K) (d.kws K) (He.fAd K d.at_) fd) : RaiseP P w K mg base 2 C f := by
  obtain ⟨x1, hx⟩ := He.ba hx
  obtain ⟨x2, hx⟩ := He.ba hx
  obtain ⟨x3, hx⟩ := He.ba hx
  obtain ⟨x4, hx⟩ := He.ba hx
  obtain ⟨x5, x6⟩ := He.ba hx
  have g1 : mg C = some (.ref (ga K C)) := PySem.W.mg_of hK hG (He.eqO_ok x1)
  have g2 : mg B = some (.ref (ga K B)) := PySem.W.mg_of hK hG (He.eqO_ok x2)
  have M := He.meth_ok x6
  obtain ⟨fd, F⟩ := hd
  have z1 : d.dvs K = [] := by unfold He.DefD.dvs; rw [T.dfl.1]; rfl
  have z2 : d.kws K = [] := by unfold He.DefD.kws; rw [T.dfl.2]; rfl
  rw [z1, z2, T.at_] at F
  obtain ⟨y1, y2⟩ := He.ba T.pl
  obtain ⟨y2, y3⟩ := He.ba y2
  obtain ⟨z, j, p1, p2, q1, q2, q3, q4, q5, q6, q7, q8, eb, hl⟩ := T.body
  have ok : FnOk P w K mg base (L2.CX P w) 1 (He.fAd K (C, some "__init__")) fd [a, b] (spMx K f) := by
    refine F.ok T.sc (fun vs H Q E h => by obtain ⟨_, _, _, rfl, _⟩ := h; rfl) fun cd A outer s H vs Q E hr h => ?_
    refine ⟨tSeq (tDrop (tVeI K (tCons (tVar 0) (tCons (tC (.str z)) tNil)))) (tSeq (tOst K f (tVar 0) (tVar 1)) tNext), ?_, ?_⟩
    · rw [eb]
      exact pss_cons (ps_expr (pe_init (X := cxOf (L2.CX P w) P w K mg base [a, b] d.qual d.scope (He.fAd K (C, some "__init__")) cd A outer s H E) rfl (.inl T.vis.1) (plainN_ok y1).1 (plainN_ok y1).2.1 T.vis.2.2 (plainN_ok y3).1 g2 x4 hl))
        (pss_cons (ps_ost (pe_var (i := 0) rfl (.inl T.vis.1) (plainN_ok y1).1 (plainN_ok y1).2.1) (pe_var (i := 1) rfl (.inl T.vis.2.1) (plainN_ok y2).1 (plainN_ok y2).2.1)) pss_nil)
    · obtain ⟨e, D, v, rfl, h1, h2, h3, h4⟩ := h
      refine ⟨_, rfl, e, D, [.str z], rfl, by show 1 ≤ 1000; omega, h1, h3, _, rfl, _, rfl, e, D, rfl, h1, h2, .inl ⟨h3, fun dx n ne => h4 dx n ne⟩⟩
  intro Y h1 h2 h3 h4 h5 hr te e p pos pe hs hg
  subst h1 h2 h3 h4 h5
  have bd : Binds Y.K fd [a, b] [] := F.bindsN T.bind
  intro pins s σ H Q I h
  have pe2 : PE Y e (fun σ H Q2 => ∃ Q1, te σ H Q1 ∧ ∀ v H', Q1 v H' → Q2 v H') := ⟨fun pins s σ H Q2 I ⟨Q1, h1, h2⟩ => thn (pe.run pins s σ H Q1 I h1) fun u s1 ⟨v, H1, I1, r1, q1⟩ => ⟨v, H1, I1, r1, h2 v H1 q1⟩⟩
  have ta : PA Y [e] (tCons (fun σ H Q2 => ∃ Q1, te σ H Q1 ∧ ∀ v H', Q1 v H' → Q2 v H') tNil) := pa_cons pe2 pa_nil (star_cons hs [] _)
  have pm := pmk_oex (p := p) (pos := pos) (oexB_ok x3) M.at_ (beq_iff_eq.mp M.fn) ok hr bd .nil (fun pins σ H s e s' I z => by
    obtain ⟨_, _, _, _, _, _, _, _, _, _, _, _, ff⟩ := (show L2.CX Y.prog Y.w Y.stack H s (fun _ _ _ => False) e s' from z)
    exact ff.elim) hg g1 ta hC (star_cons hs [] _) rfl
  refine pm pins s σ H Q I ⟨_, h, fun v H1 q => ⟨by show 1 ≤ 1000; omega, fun a0 ha0 => ⟨a0, ga Y.K C, v, rfl, oexB_ok x3, He.eqO_ok x5, upd_same, fun dx ndx ne => ⟨rfl, dx, [(f, v)], upd_same, ?_, ?_, ?_⟩⟩⟩⟩
  · rw [upd_ne ne, upd_same]
  · rw [upd_ne ne] at ndx; exact ndx
  · have e1 : upd (del (upd (upd (upd H1 a0 (exo a0 (ga Y.K C) none)) dx (exd dx [(f, v)])) a0 (exo a0 (ga Y.K C) (some dx))) a0) dx (.xd [(f, v)]) = upd H1 dx (.xd [(f, v)]) := by
      funext b
      by_cases hb : b = dx
      · rw [hb, upd_same, upd_same]
      · rw [upd_ne hb, upd_ne hb]
        by_cases hb2 : b = a0
        · rw [hb2, del_same, ha0]
        · rw [del_ne hb2, upd_ne hb2, upd_ne hb, upd_ne hb2]
    rw [e1]
    exact q dx (by rw [upd_ne ne] at ndx; exact ndx)
end Lt
end S_Lt23

section S_Lt24
set_option Elab.async false
set_option linter.all false
set_option maxRecDepth 100000
/-! Lt24: runs of the machine, by rewriting. -/
namespace Lt
open PySem
theorem run_of {p : Pg} {f : Defn} {e : Ent} {k : Nat} {m : CallT → SM} (he : p.ent f = some e) (hd : ∀ c, denSs (p.g c e) 200 e.d.body = some (m c)) {ds : List D} {st : Store} : runF p.T (k + 1) f ds st = runB ⟨e.ps.length, e.N.length, m⟩ (runF p.T k) ds st := by
  have h0 : p.T f = some (p.fd e) := by
    unfold Pg.T
    rw [he]
    rfl
  show (match p.T f with | some fd => runB fd (runF p.T k) ds st | none => .no) = _
  rw [h0]
  show runB (p.fd e) (runF p.T k) ds st = _
  have eb : (p.fd e).body = m := by
    funext c
    show (denSs (p.g c e) 200 e.d.body).getD noS = m c
    rw [hd]; rfl
  show runB ⟨e.ps.length, e.N.length, (p.fd e).body⟩ (runF p.T k) ds st = _
  rw [eb]
@[simp] theorem bind_ok {α β : Type} (a : α) (s : Store) (f : α → Store → R β) : (R.ok a s).bind f = f a s := rfl
@[simp] theorem bind_ex {α β : Type} (x : Xc) (s : Store) (f : α → Store → R β) : (R.ex x s : R α).bind f = .ex x s := rfl
@[simp] theorem bind_no {α β : Type} (f : α → Store → R β) : (R.no : R α).bind f = .no := rfl
@[simp] theorem of_ok {α : Type} (a : α) (s : Store) (ρ : Rho) (f : α → Store → RS) : RS.of (.ok a s) ρ f = f a s := rfl
@[simp] theorem of_ex {α : Type} (x : Xc) (s : Store) (ρ : Rho) (f : α → Store → RS) : RS.of (R.ex x s : R α) ρ f = .ex x ρ s := rfl
@[simp] theorem of_no {α : Type} (ρ : Rho) (f : α → Store → RS) : RS.of (R.no : R α) ρ f = .no := rfl
@[simp] theorem boolR_ok {α : Type} (b : Bool) (s : Store) (k : Bool → Store → R α) : boolR (.ok (.p (.bl b)) s) k = k b s := rfl
@[simp] theorem okP_eq (x : P) (s : Store) : okP x s = .ok (.p x) s := rfl
theorem seq_eq (a b : SM) (ρ : Rho) (st : Store) : seqS a b ρ st = match a ρ st with
  | .go .nx ρ' st' => b ρ' st'
  | r => r := rfl
theorem var_eq {i : Nat} {ρ : Rho} {st : Store} {d : D} (h : ρ[i]? = some (some d)) : varM i ρ st = .ok d st := by unfold varM; rw [h]
theorem fld_ins {xf : Str → Str → Bool} {st : Store} {n : Nat} {C f : Str} {F : List Str} {fs : List (Str × D)} {d : D} (h : st[n]? = some (.ins C F fs)) (hF : F.contains f = true) (hf : fs.lookup f = some d) : fldD xf f (.ref n) st = .ok d st := by
  show ((match st[n]? with
    | some (.ins _ F fs) => (match F.contains f, fs.lookup f with
      | true, some d => .ok d st
      | _, _ => .no)
    | _ => .no) : R D) = _
  rw [h]
  dsimp only
  rw [hF, hf]
theorem set_ins {st : Store} {n : Nat} {C f : Str} {F : List Str} {fs : List (Str × D)} {v : D} (h : st[n]? = some (.ins C F fs)) (hF : F.contains f = true) (hl : fs.length < 1000) : setFld f (.ref n) v st = some (st.set n (.ins C F (putFd f v fs))) := by
  show ((match st[n]? with
    | some (.ins C F fs) => if F.contains f && decide (fs.length < 1000) then some (st.set n (.ins C F (putFd f v fs))) else none
    | _ => none) : Option Store) = _
  rw [h]
  dsimp only
  rw [hF, decide_eq_true hl]
  rfl
theorem rcv_ins {has : Str → Str → Bool} {st : Store} {n : Nat} {C m : Str} {F : List Str} {fs : List (Str × D)} (h : st[n]? = some (.ins C F fs)) (hm : has C m = true) (hf : fs.lookup m = none) : rcvD has m (.ref n) st = some (.ins C n) := by
  show ((match st[n]? with
    | some (.lst _) => if lmOk m then some (.lst n) else none
    | some (.ins C _ fs) => if (fs.lookup m).isSome || !has C m then none else some (.ins C n)
    | _ => none) : Option Rcv) = _
  rw [h]
  dsimp only
  rw [hf, hm]
  rfl
theorem rcv_lst {has : Str → Str → Bool} {st : Store} {n : Nat} {m : Str} {l : List D} (h : st[n]? = some (.lst l)) (hm : lmOk m = true) : rcvD has m (.ref n) st = some (.lst n) := by
  show ((match st[n]? with
    | some (.lst _) => if lmOk m then some (.lst n) else none
    | some (.ins C _ fs) => if (fs.lookup m).isSome || !has C m then none else some (.ins C n)
    | _ => none) : Option Rcv) = _
  rw [h]
  dsimp only
  rw [hm]
  rfl
/-! ### steps -/
section
variable {a b : EM} {x y z : SM} {t u : TM} {ar : AM} {ρ ρ1 : Rho} {st s1 s2 s3 : Store} {d d2 : D} {r : RS} {q : R D} {c : CallT}
theorem seq_nx (h : x ρ st = .go .nx ρ1 s1) (k : y ρ1 s1 = r) : seqS x y ρ st = r := by unfold seqS; rw [h]; exact k
theorem seq_rt (h : x ρ st = .go (.rt d) ρ1 s1) : seqS x y ρ st = .go (.rt d) ρ1 s1 := by unfold seqS; rw [h]
theorem seq_ex {e : Xc} (h : x ρ st = .ex e ρ1 s1) : seqS x y ρ st = .ex e ρ1 s1 := by unfold seqS; rw [h]
theorem seq_skip (h : x ρ st = r) (n : ∀ ρ1 s1, r ≠ .go .nx ρ1 s1) : seqS x skipS ρ st = r := by
  unfold seqS
  rw [h]
  cases r with
  | go f ρ1 s1 => cases f <;> first | rfl | exact absurd rfl (n _ _)
  | ex _ _ _ => rfl
  | no => rfl
theorem asg_st {i : Nat} (h : a ρ st = .ok d s1) : asgS (.nm i) a ρ st = .go .nx (ρ.set i (some d)) s1 := by unfold asgS; rw [h]; rfl
theorem ret_st (h : a ρ st = .ok d s1) (n : isX d = false) : retS a ρ st = .go (.rt d) ρ s1 := by unfold retS; rw [h]; simp only [of_ok, n]; rfl
theorem ret_ex {e : Xc} (h : a ρ st = .ex e s1) : retS a ρ st = .ex e ρ s1 := by unfold retS; rw [h]; rfl
theorem expr_st (h : a ρ st = .ok d s1) : exprS a ρ st = .go .nx ρ s1 := by unfold exprS; rw [h]; rfl
theorem if_yes (h : t ρ st = .ok true s1) (k : x ρ s1 = r) : ifS t x y ρ st = r := by unfold ifS; rw [h]; exact k
theorem if_not (h : t ρ st = .ok false s1) (k : y ρ s1 = r) : ifS t x y ρ st = r := by unfold ifS; rw [h]; exact k
theorem if_skip (h : t ρ st = .ok false s1) : ifS t x skipS ρ st = .go .nx ρ s1 := by unfold ifS; rw [h]; rfl
theorem runB_rt {np n : Nat} {m : CallT → SM} {ds : List D} (hl : ds.length = np) (h : m c (startR n ds) st = .go (.rt d) ρ1 s1) : runB ⟨np, n, m⟩ c ds st = .ok d s1 := by
  unfold runB
  rw [if_pos hl]
  show (match m c (startR n ds) st with
    | .go .nx _ s => R.ok (D.p .non) s
    | .go (.rt d) _ s => R.ok d s
    | .ex x _ s => R.ex x s
    | _ => R.no) = _
  rw [h]
theorem runB_nx {np n : Nat} {m : CallT → SM} {ds : List D} (hl : ds.length = np) (h : m c (startR n ds) st = .go .nx ρ1 s1) : runB ⟨np, n, m⟩ c ds st = .ok (.p .non) s1 := by
  unfold runB
  rw [if_pos hl]
  show (match m c (startR n ds) st with
    | .go .nx _ s => R.ok (D.p .non) s
    | .go (.rt d) _ s => R.ok d s
    | .ex x _ s => R.ex x s
    | _ => R.no) = _
  rw [h]
theorem runB_ex {np n : Nat} {m : CallT → SM} {ds : List D} {e : Xc} (hl : ds.length = np) (h : m c (startR n ds) st = .ex e ρ1 s1) : runB ⟨np, n, m⟩ c ds st = .ex e s1 := by
  unfold runB
  rw [if_pos hl]
  show (match m c (startR n ds) st with
    | .go .nx _ s => R.ok (D.p .non) s
    | .go (.rt d) _ s => R.ok d s
    | .ex x _ s => R.ex x s
    | _ => R.no) = _
  rw [h]
theorem op2_st {f : D → D → Store → R D} (h : a ρ st = .ok d s1) (k : b ρ s1 = .ok d2 s2) (e : f d d2 s2 = q) : op2M f a b ρ st = q := by unfold op2M; rw [h, bind_ok, k, bind_ok, e]
theorem op1_st {f : D → Store → R D} (h : a ρ st = .ok d s1) (e : f d s1 = q) : op1M f a ρ st = q := by unfold op1M; rw [h, bind_ok, e]
theorem tv_st {k : R Bool} (h : a ρ st = .ok d s1) (e : truD d s1 = k) : tvM a ρ st = k := by unfold tvM; rw [h, bind_ok, e]
theorem tb_st {k : Bool} (h : a ρ st = .ok (.p (.bl k)) s1) : tbM a ρ st = .ok k s1 := by unfold tbM; rw [h, boolR_ok]
theorem not_st {k : Bool} (h : t ρ st = .ok k s1) : notM t ρ st = .ok (!k) s1 := by unfold notM; rw [h, bind_ok]
theorem and_yes {k : R Bool} (h : t ρ st = .ok true s1) (e : u ρ s1 = k) : andM t u ρ st = k := by unfold andM; rw [h, bind_ok, if_pos rfl, e]
theorem and_no (h : t ρ st = .ok false s1) : andM t u ρ st = .ok false s1 := by unfold andM; rw [h, bind_ok]; rfl
theorem or_no {k : R Bool} (h : t ρ st = .ok false s1) (e : u ρ s1 = k) : orM t u ρ st = k := by unfold orM; rw [h, bind_ok, if_neg Bool.false_ne_true, e]
theorem or_yes (h : t ρ st = .ok true s1) : orM t u ρ st = .ok true s1 := by unfold orM; rw [h, bind_ok]; rfl
theorem ife_yes (h : t ρ st = .ok true s1) (e : a ρ s1 = q) : ifeM t a b ρ st = q := by unfold ifeM; rw [h, bind_ok, if_pos rfl, e]
theorem ife_no (h : t ρ st = .ok false s1) (e : b ρ s1 = q) : ifeM t a b ρ st = q := by unfold ifeM; rw [h, bind_ok, if_neg Bool.false_ne_true, e]
theorem arg_cons {l : List D} (h : a ρ st = .ok d s1) (n : isX d = false) (k : ar ρ s1 = .ok l s2) : consA a ar ρ st = .ok (d :: l) s2 := by unfold consA; rw [h, bind_ok, n]; simp only [Bool.false_eq_true, if_false]; rw [k, bind_ok]
theorem arg1 (h : a ρ st = .ok d s1) (n : isX d = false) : consA a nilA ρ st = .ok [d] s1 := arg_cons h n rfl
theorem app_st {f : List D → Store → R D} {l : List D} (h : ar ρ st = .ok l s1) (e : f l s1 = q) : appM f ar ρ st = q := by unfold appM; rw [h, bind_ok, e]
theorem met_ins {has : Str → Str → Bool} {m C : Str} {n : Nat} {F : List Str} {fs : List (Str × D)} {l : List D} (h : a ρ st = .ok (.ref n) s1) (o : s1[n]? = some (.ins C F fs)) (hm : has C m = true) (hf : fs.lookup m = none) (k : ar ρ s1 = .ok l s2) (e : c (C, some m) (.ref n :: l) s2 = q) : metM c has m a ar ρ st = q := by
  unfold metM
  rw [h, bind_ok, rcv_ins o hm hf]
  dsimp only
  rw [k, bind_ok]
  exact e
theorem met_lst {has : Str → Str → Bool} {m : Str} {n : Nat} {l0 l1 : List D} {l : List D} (h : a ρ st = .ok (.ref n) s1) (o : s1[n]? = some (.lst l0)) (hm : lmOk m = true) (k : ar ρ s1 = .ok l s2) (o2 : s2[n]? = some (.lst l1)) (e : mList n l1 m l s2 = q) : metM c has m a ar ρ st = q := by
  unfold metM
  rw [h, bind_ok, rcv_lst o hm]
  dsimp only
  rw [k, bind_ok]
  show (match s2[n]? with
    | some (.lst l) => mList n l m _ s2
    | _ => R.no) = _
  rw [o2]
  exact e
theorem fld_st {xf : Str → Str → Bool} {f C : Str} {n : Nat} {F : List Str} {fs : List (Str × D)} (h : a ρ st = .ok (.ref n) s1) (o : s1[n]? = some (.ins C F fs)) (hF : F.contains f = true) (hf : fs.lookup f = some d) : fldM xf f a ρ st = .ok d s1 := op1_st h (fld_ins o hF hf)
theorem sl_st {lo hi : OM} {i j : Option Int} (h : a ρ st = .ok d s1) (k : lo ρ s1 = .ok i s2) (k2 : hi ρ s2 = .ok j s3) (e : slD d i j s3 = q) : slM a lo hi ρ st = q := by unfold slM; rw [h, bind_ok, k, bind_ok, k2, bind_ok, e]
theorem part_st {i : Int} (h : a ρ st = .ok (.p (.int i)) s1) : someO a ρ st = .ok (some i) s1 := by unfold someO; rw [h]; rfl
theorem fldS_st {f C : Str} {n : Nat} {F : List Str} {fs : List (Str × D)} (h : a ρ st = .ok d s1) (k : b ρ s1 = .ok (.ref n) s2) (hx : isX d = false) (o : s2[n]? = some (.ins C F fs)) (hF : F.contains f = true) (hl : fs.length < 1000) : fldS f b a ρ st = .go .nx ρ (s2.set n (.ins C F (putFd f d fs))) := by
  unfold fldS
  rw [h, of_ok, k, of_ok, hx]
  simp only [Bool.false_eq_true, if_false]
  rw [set_ins o hF hl]
/-- a call by data alone -/
theorem call_p {f : Defn} {l : List D} {x : P} {s' : Store} (hp : allP l = true) (h : c f l [] = .ok (.p x) s') : callD c f l st = .ok (.p x) st := by unfold callD; rw [if_pos hp, h]
theorem call_pex {f : Defn} {l : List D} {x : Xc} {s' : Store} (hp : allP l = true) (h : c f l [] = .ex x s') : callD c f l st = .ex x st := by unfold callD; rw [if_pos hp, h]
theorem call_r {f : Defn} {l : List D} (hp : allP l = false) (h : c f l st = q) : callD c f l st = q := by unfold callD; rw [hp]; exact h
end
end Lt
end S_Lt24

section S_K20a
set_option Elab.async false
set_option linter.all false
set_option maxRecDepth 100000
set_option maxHeartbeats 0
/-! the program's tables, printed by genk.py -/
namespace K20
open PySem L2 Lt
def top (i : Nat) : Stmt := PySem.Challenge.pw_planspriced_k20_texts_of_terms.main.body.getD i (.Pass ⟨0, 0, 0, 0⟩)
def e0 : Ent := ⟨⟨("has_text", none), "has_text", "has_text", defArgs (top 13), defBody (top 13), defScope (top 13), [], []⟩, ["number", "bound", "_"], ["number"]⟩
def e1 : Ent := ⟨⟨("term_text", none), "term_text", "term_text", defArgs (top 14), defBody (top 14), defScope (top 14), [], []⟩, ["term", "sign", "entry"], ["term"]⟩
def e2 : Ent := ⟨⟨("Reading", some "__init__"), "__init__", "Reading.__init__", defArgs (inClass (top 15) 0), defBody (inClass (top 15) 0), defScope (inClass (top 15) 0), [], []⟩, ["self", "text"], ["self", "text"]⟩
def e3 : Ent := ⟨⟨("Reading", some "sign"), "sign", "Reading.sign", defArgs (inClass (top 15) 1), defBody (inClass (top 15) 1), defScope (inClass (top 15) 1), [], []⟩, ["self"], ["self"]⟩
def e4 : Ent := ⟨⟨("Reading", some "is_at"), "is_at", "Reading.is_at", defArgs (inClass (top 15) 2), defBody (inClass (top 15) 2), defScope (inClass (top 15) 2), [], []⟩, ["self", "signs"], ["self", "signs"]⟩
def e5 : Ent := ⟨⟨("Reading", some "take"), "take", "Reading.take", defArgs (inClass (top 15) 3), defBody (inClass (top 15) 3), defScope (inClass (top 15) 3), [], []⟩, ["self", "signs", "start"], ["self", "signs"]⟩
def e6 : Ent := ⟨⟨("Reading", some "integer"), "integer", "Reading.integer", defArgs (inClass (top 15) 4), defBody (inClass (top 15) 4), defScope (inClass (top 15) 4), [], []⟩, ["self", "minus", "start", "zero", "figures"], ["self"]⟩
def e7 : Ent := ⟨⟨("Reading", some "term"), "term", "Reading.term", defArgs (inClass (top 15) 5), defBody (inClass (top 15) 5), defScope (inClass (top 15) 5), [], []⟩, ["self", "depth", "word"], ["self", "depth"]⟩
def e8 : Ent := ⟨⟨("Reading", some "entries"), "entries", "Reading.entries", defArgs (inClass (top 15) 6), defBody (inClass (top 15) 6), defScope (inClass (top 15) 6), [], []⟩, ["self", "depth", "found"], ["self", "depth"]⟩
def e9 : Ent := ⟨⟨("read_term", none), "read_term", "read_term", defArgs (top 16), defBody (top 16), defScope (top 16), [], []⟩, ["text", "reading", "term"], ["text"]⟩
def e10 : Ent := ⟨⟨("_law_number", none), "_law_number", "_law_number", defArgs (top 18), defBody (top 18), defScope (top 18), [], []⟩, ["cell"], ["cell"]⟩
def e11 : Ent := ⟨⟨("_law_draws", none), "_law_draws", "_law_draws", defArgs (top 19), defBody (top 19), defScope (top 19), [], []⟩, ["script", "draws", "cell", "rest", "k", "once", "twice"], ["script"]⟩
def e12 : Ent := ⟨⟨("_law_next", none), "_law_next", "_law_next", defArgs (top 20), defBody (top 20), defScope (top 20), [], []⟩, ["draws"], ["draws"]⟩
def e13 : Ent := ⟨⟨("_law_more", none), "_law_more", "_law_more", defArgs (top 21), defBody (top 21), defScope (top 21), [], []⟩, ["draws", "many", "seed", "more", "k"], ["draws", "many"]⟩
def e14 : Ent := ⟨⟨("_law_pick", none), "_law_pick", "_law_pick", defArgs (top 22), defBody (top 22), defScope (top 22), [], []⟩, ["draws", "some"], ["draws", "some"]⟩
def e15 : Ent := ⟨⟨("_law_term", none), "_law_term", "_law_term", defArgs (top 23), defBody (top 23), defScope (top 23), [], []⟩, ["draws", "depth", "kind", "word", "k"], ["draws", "depth"]⟩
def e16 : Ent := ⟨⟨("_law_text", none), "_law_text", "_law_text", defArgs (top 24), defBody (top 24), defScope (top 24), [], []⟩, ["term", "entry"], ["term"]⟩
def e17 : Ent := ⟨⟨("_law_integer", none), "_law_integer", "_law_integer", defArgs (top 25), defBody (top 25), defScope (top 25), [], []⟩, ["text", "at", "start", "first", "k"], ["text", "at"]⟩
def e18 : Ent := ⟨⟨("_law_read", none), "_law_read", "_law_read", defArgs (top 26), defBody (top 26), defScope (top 26), [], []⟩, ["text", "at", "depth", "sign", "end", "k"], ["text", "at", "depth"]⟩
def e19 : Ent := ⟨⟨("_law_entries", none), "_law_entries", "_law_entries", defArgs (top 27), defBody (top 27), defScope (top 27), [], []⟩, ["text", "at", "depth", "found", "turn", "term", "end"], ["text", "at", "depth"]⟩
def e20 : Ent := ⟨⟨("_law_due", none), "_law_due", "_law_due", defArgs (top 28), defBody (top 28), defScope (top 28), [], []⟩, ["text", "term", "at"], ["text"]⟩
def e21 : Ent := ⟨⟨("_law_told", none), "_law_told", "_law_told", defArgs (top 29), defBody (top 29), defScope (top 29), [], []⟩, ["text", "error"], ["text"]⟩
def e22 : Ent := ⟨⟨("_law_refused", none), "_law_refused", "_law_refused", defArgs (top 30), defBody (top 30), defScope (top 30), [], []⟩, ["term"], ["term"]⟩
def e23 : Ent := ⟨⟨("law", none), "law", "law", defArgs (top 31), defBody (top 31), defScope (top 31), [], []⟩, ["script", "draws", "some", "turn", "term", "text", "k", "at", "cut", "sign", "spoilt", "deep", "texts", "great"], ["script"]⟩
def gkL : List (Str × GK) := ([("PlanError", (.exc none)), ("BadNumber", (.exc none)), ("Malformed", (.exc (some "at"))), ("SMALL", (.cst (.str [97, 98, 99, 100, 101, 102, 103, 104, 105, 106, 107, 108, 109, 110, 111, 112, 113, 114, 115, 116, 117, 118, 119, 120, 121, 122]))), ("FIGURES", (.cst (.str [48, 49, 50, 51, 52, 53, 54, 55, 56, 57]))), ("MOST_FIGURES", (.cst (.int (20)))), ("MOST_TEXT", (.cst (.int (4000)))), ("MOST_BITS", (.cst (.int (13287)))), ("MOST_OPEN", (.cst (.int (12)))), ("NOBODY", (.cst (.str [46]))), ("NOTHING", (.cst (.str [110, 111, 110, 101]))), ("has_text", .fn)] : List (Str × GK)) ++ ([("term_text", .fn), ("Reading", (.cls ["text", "at"])), ("read_term", .fn), ("_law_number", .fn), ("_law_draws", .fn), ("_law_next", .fn), ("_law_more", .fn), ("_law_pick", .fn), ("_law_term", .fn), ("_law_text", .fn), ("_law_integer", .fn), ("_law_read", .fn)] : List (Str × GK)) ++ ([("_law_entries", .fn), ("_law_due", .fn), ("_law_told", .fn), ("_law_refused", .fn), ("law", .fn), ("range", .blt), ("isinstance", .blt), ("int", .blt), ("str", .blt), ("tuple", .blt), ("abs", .blt), ("len", .blt)] : List (Str × GK)) ++ ([("repr", .blt), ("all", .blt), ("list", .blt)] : List (Str × GK))
def subL : List (Str × Str × Bool) := [("PlanError", "PlanError", true), ("PlanError", "BadNumber", false), ("PlanError", "Malformed", false), ("BadNumber", "PlanError", true), ("BadNumber", "BadNumber", true), ("BadNumber", "Malformed", false), ("Malformed", "PlanError", true), ("Malformed", "BadNumber", false), ("Malformed", "Malformed", true)]
def xfL : List (Str × Str) := [("Malformed", "at")]
def pg : Pg where
  tbl := [e0, e1, e2, e3, e4, e5, e6, e7, e8, e9, e10, e11, e12, e13, e14, e15, e16, e17, e18, e19, e20, e21, e22, e23]
  gkL := gkL
  sub := subL
  xf := xfL
  wf := 100000
theorem b0 : bindOk e0 := fun _ _ _ _ _ _ us hl => match us, hl with | [_], _ => rfl
theorem b1 : bindOk e1 := fun _ _ _ _ _ _ us hl => match us, hl with | [_], _ => rfl
theorem b2 : bindOk e2 := fun _ _ _ _ _ _ us hl => match us, hl with | [_, _], _ => rfl
theorem b3 : bindOk e3 := fun _ _ _ _ _ _ us hl => match us, hl with | [_], _ => rfl
theorem b4 : bindOk e4 := fun _ _ _ _ _ _ us hl => match us, hl with | [_, _], _ => rfl
theorem b5 : bindOk e5 := fun _ _ _ _ _ _ us hl => match us, hl with | [_, _], _ => rfl
theorem b6 : bindOk e6 := fun _ _ _ _ _ _ us hl => match us, hl with | [_], _ => rfl
theorem b7 : bindOk e7 := fun _ _ _ _ _ _ us hl => match us, hl with | [_, _], _ => rfl
theorem b8 : bindOk e8 := fun _ _ _ _ _ _ us hl => match us, hl with | [_, _], _ => rfl
theorem b9 : bindOk e9 := fun _ _ _ _ _ _ us hl => match us, hl with | [_], _ => rfl
theorem b10 : bindOk e10 := fun _ _ _ _ _ _ us hl => match us, hl with | [_], _ => rfl
theorem b11 : bindOk e11 := fun _ _ _ _ _ _ us hl => match us, hl with | [_], _ => rfl
theorem b12 : bindOk e12 := fun _ _ _ _ _ _ us hl => match us, hl with | [_], _ => rfl
theorem b13 : bindOk e13 := fun _ _ _ _ _ _ us hl => match us, hl with | [_, _], _ => rfl
theorem b14 : bindOk e14 := fun _ _ _ _ _ _ us hl => match us, hl with | [_, _], _ => rfl
theorem b15 : bindOk e15 := fun _ _ _ _ _ _ us hl => match us, hl with | [_, _], _ => rfl
theorem b16 : bindOk e16 := fun _ _ _ _ _ _ us hl => match us, hl with | [_], _ => rfl
theorem b17 : bindOk e17 := fun _ _ _ _ _ _ us hl => match us, hl with | [_, _], _ => rfl
theorem b18 : bindOk e18 := fun _ _ _ _ _ _ us hl => match us, hl with | [_, _, _], _ => rfl
theorem b19 : bindOk e19 := fun _ _ _ _ _ _ us hl => match us, hl with | [_, _, _], _ => rfl
theorem b20 : bindOk e20 := fun _ _ _ _ _ _ us hl => match us, hl with | [_], _ => rfl
theorem b21 : bindOk e21 := fun _ _ _ _ _ _ us hl => match us, hl with | [_], _ => rfl
theorem b22 : bindOk e22 := fun _ _ _ _ _ _ us hl => match us, hl with | [_], _ => rfl
theorem b23 : bindOk e23 := fun _ _ _ _ _ _ us hl => match us, hl with | [_], _ => rfl
theorem binds : ∀ e ∈ pg.tbl, bindOk e := (bind_cons b0 (bind_cons b1 (bind_cons b2 (bind_cons b3 (bind_cons b4 (bind_cons b5 (bind_cons b6 (bind_cons b7 (bind_cons b8 (bind_cons b9 (bind_cons b10 (bind_cons b11 (bind_cons b12 (bind_cons b13 (bind_cons b14 (bind_cons b15 (bind_cons b16 (bind_cons b17 (bind_cons b18 (bind_cons b19 (bind_cons b20 (bind_cons b21 (bind_cons b22 (bind_cons b23 bind_nil))))))))))))))))))))))))
theorem fine : pg.fine = true := by kernel_rfl
theorem pgok : pg.Ok := Pg.ok_of fine binds
abbrev R : PySem.W.OpenRow := PySem.W.OpenLaw.row PySem.Challenge.rw_planspriced_k20_texts_of_terms
def x0 : He.DefD := ⟨("Malformed", some "__init__"), "__init__", "Malformed.__init__", defArgs (inClass (top 3) 0), defBody (inClass (top 3) 0), defScope (inClass (top 3) 0), [], []⟩
def xd : List He.DefD := [x0]
def loose : List PySem.Str := ["PlanError", "BadNumber", "Malformed", "SMALL", "FIGURES", "MOST_FIGURES", "MOST_TEXT", "MOST_BITS", "MOST_OPEN", "NOBODY", "NOTHING", "has_text", "term_text", "Reading", "read_term", "_law_number", "_law_draws", "_law_next", "_law_more", "_law_pick", "_law_term", "_law_text", "_law_integer", "_law_read", "_law_entries", "_law_due", "_law_told", "_law_refused"]
def lawIx : Nat := 31
end K20
end S_K20a

section S_K20b
set_option Elab.async false
set_option linter.all false
set_option maxRecDepth 100000
set_option maxHeartbeats 0
namespace K20
open PySem PySem.Spec PyProof.Rows L2 Lt
def more (K : PySem.W.Frag) : Bool := mxB K "Malformed" "PlanError" "at"
abbrev ex (K : PySem.W.Frag) : Bool := pg.facts K && (noLst K && (setB K && more K))
abbrev hk : PySem.W.Hook := hookL 5 (pg.tbl.map (·.d) ++ xd) fun K => pg.facts K && (noLst K && (setB K && more K))
def ob (s : PySem.W.SharedT) : He.AlD × Bool := obsL 5 (pg.tbl.map (·.d) ++ xd) (fun K => pg.facts K && (noLst K && (setB K && more K))) (HandSHeadRun.getT s)
theorem ob_eq (s : PySem.W.SharedT) : ob s = hk.obs s.abs := obsL_eq (HandSHeadRun.getT_eq s)
theorem run (w : World) : HandSHeadRun.RunEq R (PySem.W.view R.prog [31]) hk ob 4000 loose w := by
  intro os
  kernel_rfl
theorem mxt : MxT "Malformed" "PlanError" "at" x0 "self" "at" where
  at_ := rfl
  body := ⟨_, _, _, _, _, _, _, _, _, _, _, _, rfl, rfl⟩
  sc := sc_of (e := ⟨x0, ["self", "at"], ["self", "at"]⟩) (by kernel_rfl)
  vis := ⟨by decide +kernel, by decide +kernel, by decide +kernel⟩
  pl := by decide +kernel
  bind := fun _ _ _ _ _ _ us hl => match us, hl with | [_, _], _ => rfl
  dfl := ⟨rfl, rfl⟩
end K20
end S_K20b

section S_K20c
set_option Elab.async false
set_option linter.all false
set_option maxRecDepth 100000
set_option maxHeartbeats 0
open PySem PySem.W PySem.Calls PyProof.Rows
theorem K20.excOnly : (K20.pg.gkL.all fun q => match q.2 with
  | .exc (some f) => decide (q.1 = "Malformed") && decide (f = "at")
  | _ => true) = true := by kernel_rfl
theorem k20_of_run (hrun : ∀ ns : List Int, ns.length ≤ 63 → (∀ i ∈ ns, Builtin.Int.intBits i ≤ 1048576) → ∃ st, Lt.runF K20.pg.T 60 ("law", none) [.ref 0] [.ro (Lt.scriptD ns)] = .ok (.p (.bl true)) st) : PySem.Challenge.rw_planspriced_k20_texts_of_terms.Holds := by
  w_on; o_law
  refine HandSHeadRun.head_any (r := OpenLaw.row PySem.Challenge.rw_planspriced_k20_texts_of_terms) (q := view (OpenLaw.row PySem.Challenge.rw_planspriced_k20_texts_of_terms).prog [31]) (H := K20.hk) (ob := K20.ob) (M := 4000) (loose := K20.loose) (d := HandSHeadRun.topDef (OpenLaw.row PySem.Challenge.rw_planspriced_k20_texts_of_terms).prog 31) (kwd := []) K20.ob_eq
    (by kernel_rfl) (fun s => by kernel_rfl) K20.run (by kernel_rfl) (by kernel_rfl) (by kernel_rfl) (by rfl) (by first | assumption | decide +kernel) (by decide +kernel) ⟨rfl, rfl, rfl, rfl, rfl, by decide +kernel⟩ ?hw ?hc
  case hw => w_witness2
  case hc =>
    refine Lt.walk_lt (n := 63) (j := 60) (x := "script") (e := K20.e23) rfl (by decide) (by kernel_rfl) ⟨rfl, by decide, by decide⟩ (by kernel_rfl) K20.pgok (by kernel_rfl) rfl (by kernel_rfl) ?_ hrun
    intro w K mg base hb hG _ hm _ hx y f hy
    have z := List.all_eq_true.mp K20.excOnly _ (Lt.gk_mem hy (by simp))
    simp only [Bool.and_eq_true, decide_eq_true_eq] at z
    obtain ⟨rfl, rfl⟩ := z
    exact Lt.raise_mx K20.mxt (by decide) hb hG hm (hx K20.x0 List.mem_cons_self)
end S_K20c

section S_K20d
set_option Elab.async false
set_option linter.all false
set_option maxRecDepth 100000
set_option maxHeartbeats 0
namespace K20
open PySem L2 Lt
/-- has_text -/
def m0 (c : CallT) : SM := (seqS (ifS (notM (tvM (op2M (binD .RShift) (appM bAbs (consA (varM 0) nilA)) (cM (.int (13287)))))) (seqS (retS (cM (.bl true))) skipS) skipS) (seqS (asgS (.nm 1) (cM (.int (1)))) (seqS (forS (rngM (consA (cM (.int (4000))) nilA)) (.nm 2) (seqS (augS 1 .Mult (cM (.int (10)))) skipS)) (seqS (retS (op2M (cmpD .Lt) (appM bAbs (consA (varM 0) nilA)) (varM 1))) skipS))))
theorem d0 (c : CallT) : denSs (pg.g c e0) 200 e0.d.body = some (m0 c) := by kernel_rfl
theorem r0 (k : Nat) (ds : List D) (st : Store) : runF pg.T (k + 1) ("has_text", none) ds st = runB ⟨1, 3, m0⟩ (runF pg.T k) ds st := run_of (e := e0) (by kernel_rfl) d0
/-- term_text -/
def m1 (c : CallT) : SM := (seqS (ifS (tbM (op2M (cmpD .Is) (varM 0) (cM .non))) (seqS (retS (cM (.str [110, 111, 110, 101]))) skipS) skipS) (seqS (ifS (tvM (isiM "int" (varM 0))) (seqS (ifS (notM (tvM (appM (callD c ("has_text", none)) (consA (varM 0) nilA)))) (seqS (rseS "BadNumber") skipS) skipS) (seqS (retS (appM bStr (consA (varM 0) nilA))) skipS)) skipS) (seqS (ifS (tvM (isiM "str" (varM 0))) (seqS (ifS (orM (tbM (op2M (cmpD .Eq) (varM 0) (cM (.str [110, 111, 110, 101])))) (notM (tvM (appM bAll (consA (compM [1] (itM (varM 0)) (.nm 1) yesM (op2M (cmpD .In) (varM 1) (cM (.str [97, 98, 99, 100, 101, 102, 103, 104, 105, 106, 107, 108, 109, 110, 111, 112, 113, 114, 115, 116, 117, 118, 119, 120, 121, 122])))) nilA))))) (seqS (rseS "BadNumber") skipS) skipS) (seqS (retS (orE (varM 0) (cM (.str [46])))) skipS)) skipS) (seqS (retS (op2M (binD .Add) (op2M (binD .Add) (cM (.str [40])) (metM c pg.meth "join" (cM (.str [32])) (consA (compM [2] (itM (varM 0)) (.nm 2) yesM (appM (callD c ("term_text", none)) (consA (varM 2) nilA))) nilA))) (cM (.str [41])))) skipS))))
theorem d1 (c : CallT) : denSs (pg.g c e1) 200 e1.d.body = some (m1 c) := by kernel_rfl
theorem r1 (k : Nat) (ds : List D) (st : Store) : runF pg.T (k + 1) ("term_text", none) ds st = runB ⟨1, 3, m1⟩ (runF pg.T k) ds st := run_of (e := e1) (by kernel_rfl) d1
/-- Reading.__init__ -/
def m2 (c : CallT) : SM := (seqS (fldS "text" (varM 0) (varM 1)) (seqS (fldS "at" (varM 0) (cM (.int (0)))) skipS))
theorem d2 (c : CallT) : denSs (pg.g c e2) 200 e2.d.body = some (m2 c) := by kernel_rfl
theorem r2 (k : Nat) (ds : List D) (st : Store) : runF pg.T (k + 1) ("Reading", some ("__init__" : Str)) ds st = runB ⟨2, 2, m2⟩ (runF pg.T k) ds st := run_of (e := e2) (by kernel_rfl) d2
/-- Reading.sign -/
def m3 (c : CallT) : SM := (seqS (retS (slM (fldM pg.xfP "text" (varM 0)) (someO (fldM pg.xfP "at" (varM 0))) (someO (op2M (binD .Add) (fldM pg.xfP "at" (varM 0)) (cM (.int (1))))))) skipS)
theorem d3 (c : CallT) : denSs (pg.g c e3) 200 e3.d.body = some (m3 c) := by kernel_rfl
theorem r3 (k : Nat) (ds : List D) (st : Store) : runF pg.T (k + 1) ("Reading", some ("sign" : Str)) ds st = runB ⟨1, 1, m3⟩ (runF pg.T k) ds st := run_of (e := e3) (by kernel_rfl) d3
/-- Reading.is_at -/
def m4 (c : CallT) : SM := (seqS (retS (andE (op2M (cmpD .NotEq) (metM c pg.meth "sign" (varM 0) nilA) (cM (.str []))) (op2M (cmpD .In) (metM c pg.meth "sign" (varM 0) nilA) (varM 1)))) skipS)
theorem d4 (c : CallT) : denSs (pg.g c e4) 200 e4.d.body = some (m4 c) := by kernel_rfl
theorem r4 (k : Nat) (ds : List D) (st : Store) : runF pg.T (k + 1) ("Reading", some ("is_at" : Str)) ds st = runB ⟨2, 2, m4⟩ (runF pg.T k) ds st := run_of (e := e4) (by kernel_rfl) d4
/-- Reading.take -/
def m5 (c : CallT) : SM := (seqS (asgS (.nm 2) (fldM pg.xfP "at" (varM 0))) (seqS (whlS (tvM (metM c pg.meth "is_at" (varM 0) (consA (varM 1) nilA))) (seqS (fldAugS "at" .Add (varM 0) (cM (.int (1)))) skipS) 100000) (seqS (retS (slM (fldM pg.xfP "text" (varM 0)) (someO (varM 2)) (someO (fldM pg.xfP "at" (varM 0))))) skipS)))
theorem d5 (c : CallT) : denSs (pg.g c e5) 200 e5.d.body = some (m5 c) := by kernel_rfl
theorem r5 (k : Nat) (ds : List D) (st : Store) : runF pg.T (k + 1) ("Reading", some ("take" : Str)) ds st = runB ⟨2, 3, m5⟩ (runF pg.T k) ds st := run_of (e := e5) (by kernel_rfl) d5
/-- Reading.integer -/
def m6 (c : CallT) : SM := (seqS (asgS (.nm 1) (metM c pg.meth "is_at" (varM 0) (consA (cM (.str [45])) nilA))) (seqS (ifS (tvM (varM 1)) (seqS (fldAugS "at" .Add (varM 0) (cM (.int (1)))) skipS) skipS) (seqS (asgS (.nm 2) (fldM pg.xfP "at" (varM 0))) (seqS (ifS (orM (notM (tvM (metM c pg.meth "is_at" (varM 0) (consA (cM (.str [48, 49, 50, 51, 52, 53, 54, 55, 56, 57])) nilA)))) (andM (tvM (varM 1)) (tvM (metM c pg.meth "is_at" (varM 0) (consA (cM (.str [48])) nilA))))) (seqS (rseFS "Malformed" "at" (fldM pg.xfP "at" (varM 0))) skipS) skipS) (seqS (asgS (.nm 3) (metM c pg.meth "is_at" (varM 0) (consA (cM (.str [48])) nilA))) (seqS (asgS (.nm 4) (metM c pg.meth "take" (varM 0) (consA (cM (.str [48, 49, 50, 51, 52, 53, 54, 55, 56, 57])) nilA))) (seqS (ifS (andM (tvM (varM 3)) (tbM (op2M (cmpD .Gt) (appM bLen (consA (varM 4) nilA)) (cM (.int (1)))))) (seqS (rseFS "Malformed" "at" (op2M (binD .Add) (varM 2) (cM (.int (1))))) skipS) skipS) (seqS (ifS (tbM (op2M (cmpD .Gt) (appM bLen (consA (varM 4) nilA)) (cM (.int (20))))) (seqS (rseFS "Malformed" "at" (op2M (binD .Add) (varM 2) (cM (.int (20))))) skipS) skipS) (seqS (retS (ifeM (tvM (varM 1)) (op1M (unD .USub) (appM bInt (consA (varM 4) nilA))) (appM bInt (consA (varM 4) nilA)))) skipS)))))))))
theorem d6 (c : CallT) : denSs (pg.g c e6) 200 e6.d.body = some (m6 c) := by kernel_rfl
theorem r6 (k : Nat) (ds : List D) (st : Store) : runF pg.T (k + 1) ("Reading", some ("integer" : Str)) ds st = runB ⟨1, 5, m6⟩ (runF pg.T k) ds st := run_of (e := e6) (by kernel_rfl) d6
/-- Reading.term -/
def m7 (c : CallT) : SM := (seqS (ifS (tvM (metM c pg.meth "is_at" (varM 0) (consA (cM (.str [40])) nilA))) (seqS (ifS (tbM (op2M (cmpD .Eq) (varM 1) (cM (.int (12))))) (seqS (rseFS "Malformed" "at" (fldM pg.xfP "at" (varM 0))) skipS) skipS) (seqS (retS (metM c pg.meth "entries" (varM 0) (consA (op2M (binD .Add) (varM 1) (cM (.int (1)))) nilA))) skipS)) skipS) (seqS (ifS (tvM (metM c pg.meth "is_at" (varM 0) (consA (cM (.str [46])) nilA))) (seqS (fldAugS "at" .Add (varM 0) (cM (.int (1)))) (seqS (retS (cM (.str []))) skipS)) skipS) (seqS (ifS (tvM (metM c pg.meth "is_at" (varM 0) (consA (cM (.str [97, 98, 99, 100, 101, 102, 103, 104, 105, 106, 107, 108, 109, 110, 111, 112, 113, 114, 115, 116, 117, 118, 119, 120, 121, 122])) nilA))) (seqS (asgS (.nm 2) (metM c pg.meth "take" (varM 0) (consA (cM (.str [97, 98, 99, 100, 101, 102, 103, 104, 105, 106, 107, 108, 109, 110, 111, 112, 113, 114, 115, 116, 117, 118, 119, 120, 121, 122])) nilA))) (seqS (retS (ifeM (tbM (op2M (cmpD .Eq) (varM 2) (cM (.str [110, 111, 110, 101])))) (cM .non) (varM 2))) skipS)) skipS) (seqS (retS (metM c pg.meth "integer" (varM 0) nilA)) skipS))))
theorem d7 (c : CallT) : denSs (pg.g c e7) 200 e7.d.body = some (m7 c) := by kernel_rfl
theorem r7 (k : Nat) (ds : List D) (st : Store) : runF pg.T (k + 1) ("Reading", some ("term" : Str)) ds st = runB ⟨2, 3, m7⟩ (runF pg.T k) ds st := run_of (e := e7) (by kernel_rfl) d7
/-- Reading.entries -/
def m8 (c : CallT) : SM := (seqS (fldAugS "at" .Add (varM 0) (cM (.int (1)))) (seqS (asgS (.nm 2) (lstM nilA)) (seqS (whlS (notM (tvM (metM c pg.meth "is_at" (varM 0) (consA (cM (.str [41])) nilA)))) (seqS (ifS (tvM (varM 2)) (seqS (ifS (notM (tvM (metM c pg.meth "is_at" (varM 0) (consA (cM (.str [32])) nilA)))) (seqS (rseFS "Malformed" "at" (fldM pg.xfP "at" (varM 0))) skipS) skipS) (seqS (fldAugS "at" .Add (varM 0) (cM (.int (1)))) skipS)) skipS) (seqS (exprS (metM c pg.meth "append" (varM 2) (consA (metM c pg.meth "term" (varM 0) (consA (varM 1) nilA)) nilA))) skipS)) 100000) (seqS (fldAugS "at" .Add (varM 0) (cM (.int (1)))) (seqS (retS (appM bTuple (consA (varM 2) nilA))) skipS)))))
theorem d8 (c : CallT) : denSs (pg.g c e8) 200 e8.d.body = some (m8 c) := by kernel_rfl
theorem r8 (k : Nat) (ds : List D) (st : Store) : runF pg.T (k + 1) ("Reading", some ("entries" : Str)) ds st = runB ⟨2, 3, m8⟩ (runF pg.T k) ds st := run_of (e := e8) (by kernel_rfl) d8
/-- read_term -/
def m9 (c : CallT) : SM := (seqS (asgS (.nm 1) (makM c "Reading" ["text", "at"] (consA (varM 0) nilA))) (seqS (asgS (.nm 2) (metM c pg.meth "term" (varM 1) (consA (cM (.int (0))) nilA))) (seqS (ifS (tbM (op2M (cmpD .Lt) (fldM pg.xfP "at" (varM 1)) (appM bLen (consA (varM 0) nilA)))) (seqS (rseFS "Malformed" "at" (fldM pg.xfP "at" (varM 1))) skipS) skipS) (seqS (retS (varM 2)) skipS))))
theorem d9 (c : CallT) : denSs (pg.g c e9) 200 e9.d.body = some (m9 c) := by kernel_rfl
theorem r9 (k : Nat) (ds : List D) (st : Store) : runF pg.T (k + 1) ("read_term", none) ds st = runB ⟨1, 3, m9⟩ (runF pg.T k) ds st := run_of (e := e9) (by kernel_rfl) d9
/-- _law_number -/
def m10 (c : CallT) : SM := (seqS (ifS (tbM (op2M (cmpD .Lt) (varM 0) (cM (.int (0))))) (seqS (retS (op2M (binD .Sub) (cM (.int (0))) (varM 0))) skipS) skipS) (seqS (retS (varM 0)) skipS))
theorem d10 (c : CallT) : denSs (pg.g c e10) 200 e10.d.body = some (m10 c) := by kernel_rfl
theorem r10 (k : Nat) (ds : List D) (st : Store) : runF pg.T (k + 1) ("_law_number", none) ds st = runB ⟨1, 1, m10⟩ (runF pg.T k) ds st := run_of (e := e10) (by kernel_rfl) d10
/-- _law_draws -/
def m11 (c : CallT) : SM := (seqS (asgS (.nm 1) (lstM nilA)) (seqS (forS (itM (varM 0)) (.nm 2) (seqS (asgS (.nm 3) (appM (callD c ("_law_number", none)) (consA (varM 2) nilA))) (seqS (ifS (tbM (op2M (cmpD .GtE) (varM 3) (cM (.int (1000000000000000000))))) (seqS (forS (rngM (consA (cM (.int (60))) nilA)) (.nm 4) (seqS (ifS (tbM (op2M (cmpD .Eq) (varM 3) (cM (.int (0))))) (seqS bkS skipS) skipS) (seqS (exprS (metM c pg.meth "append" (varM 1) (consA (op2M (binD .Mod) (appM bInt (consA (varM 3) nilA)) (cM (.int (1000)))) nilA))) (seqS (asgS (.nm 3) (op2M (binD .FloorDiv) (varM 3) (cM (.int (1000))))) skipS)))) skipS) (seqS (asgS (.nm 5) (op2M (binD .Mod) (appM bInt (consA (op2M (binD .Add) (op2M (binD .Mult) (varM 3) (cM (.int (48271)))) (cM (.int (11)))) nilA)) (cM (.int (2147483647))))) (seqS (asgS (.nm 6) (op2M (binD .Mod) (appM bInt (consA (op2M (binD .Add) (op2M (binD .Mult) (varM 5) (cM (.int (69621)))) (varM 3)) nilA)) (cM (.int (2147483629))))) (seqS (exprS (metM c pg.meth "extend" (varM 1) (consA (lstM (consA (op2M (binD .Mod) (appM bInt (consA (varM 3) nilA)) (cM (.int (1000)))) (consA (op2M (binD .Mod) (appM bInt (consA (varM 5) nilA)) (cM (.int (1000)))) (consA (op2M (binD .Mod) (appM bInt (consA (varM 6) nilA)) (cM (.int (1000)))) nilA)))) nilA))) skipS)))) skipS))) (seqS (exprS (metM c pg.meth "reverse" (varM 1) nilA)) (seqS (retS (varM 1)) skipS))))
theorem d11 (c : CallT) : denSs (pg.g c e11) 200 e11.d.body = some (m11 c) := by kernel_rfl
theorem r11 (k : Nat) (ds : List D) (st : Store) : runF pg.T (k + 1) ("_law_draws", none) ds st = runB ⟨1, 7, m11⟩ (runF pg.T k) ds st := run_of (e := e11) (by kernel_rfl) d11
/-- _law_next -/
def m12 (c : CallT) : SM := (seqS (ifS (tvM (varM 0)) (seqS (retS (metM c pg.meth "pop" (varM 0) nilA)) skipS) skipS) (seqS (retS (cM (.int (0)))) skipS))
theorem d12 (c : CallT) : denSs (pg.g c e12) 200 e12.d.body = some (m12 c) := by kernel_rfl
theorem r12 (k : Nat) (ds : List D) (st : Store) : runF pg.T (k + 1) ("_law_next", none) ds st = runB ⟨1, 1, m12⟩ (runF pg.T k) ds st := run_of (e := e12) (by kernel_rfl) d12
/-- _law_more -/
def m13 (c : CallT) : SM := (seqS (asgS (.nm 2) (op2M (binD .Add) (op2M (binD .Add) (op2M (binD .Mult) (cM (.int (1000))) (appM (callD c ("_law_next", none)) (consA (varM 0) nilA))) (appM (callD c ("_law_next", none)) (consA (varM 0) nilA))) (cM (.int (1))))) (seqS (asgS (.nm 3) (lstM nilA)) (seqS (forS (rngM (consA (varM 1) nilA)) (.nm 4) (seqS (asgS (.nm 2) (op2M (binD .Mod) (appM bInt (consA (op2M (binD .Add) (op2M (binD .Mult) (varM 2) (cM (.int (48271)))) (cM (.int (12345)))) nilA)) (cM (.int (2147483647))))) (seqS (exprS (metM c pg.meth "append" (varM 3) (consA (op2M (binD .Mod) (appM bInt (consA (op2M (binD .FloorDiv) (varM 2) (cM (.int (7)))) nilA)) (cM (.int (1000)))) nilA))) skipS))) (seqS (retS (op2M (binD .Add) (varM 3) (varM 0))) skipS))))
theorem d13 (c : CallT) : denSs (pg.g c e13) 200 e13.d.body = some (m13 c) := by kernel_rfl
theorem r13 (k : Nat) (ds : List D) (st : Store) : runF pg.T (k + 1) ("_law_more", none) ds st = runB ⟨2, 5, m13⟩ (runF pg.T k) ds st := run_of (e := e13) (by kernel_rfl) d13
/-- _law_pick -/
def m14 (c : CallT) : SM := (seqS (retS (op2M ixD (varM 1) (op2M (binD .Mod) (appM bInt (consA (appM (callD c ("_law_next", none)) (consA (varM 0) nilA)) nilA)) (appM bLen (consA (varM 1) nilA))))) skipS)
theorem d14 (c : CallT) : denSs (pg.g c e14) 200 e14.d.body = some (m14 c) := by kernel_rfl
theorem r14 (k : Nat) (ds : List D) (st : Store) : runF pg.T (k + 1) ("_law_pick", none) ds st = runB ⟨2, 2, m14⟩ (runF pg.T k) ds st := run_of (e := e14) (by kernel_rfl) d14
/-- _law_term -/
def m15 (c : CallT) : SM := (seqS (asgS (.nm 2) (op2M (binD .Mod) (appM bInt (consA (appM (callD c ("_law_next", none)) (consA (varM 0) nilA)) nilA)) (ifeM (tbM (op2M (cmpD .Lt) (varM 1) (cM (.int (4))))) (cM (.int (8))) (cM (.int (5)))))) (seqS (ifS (tbM (op2M (cmpD .Eq) (varM 2) (cM (.int (0))))) (seqS (asgS (.nm 3) (metM c pg.meth "join" (cM (.str [])) (consA (compM [4] (rngM (consA (op2M (binD .Mod) (appM bInt (consA (appM (callD c ("_law_next", none)) (consA (varM 0) nilA)) nilA)) (cM (.int (6)))) nilA)) (.nm 4) yesM (op2M ixD (cM (.str [97, 98, 99, 110, 111, 122, 101])) (op2M (binD .Mod) (appM bInt (consA (appM (callD c ("_law_next", none)) (consA (varM 0) nilA)) nilA)) (cM (.int (7)))))) nilA))) (seqS (retS (ifeM (tbM (op2M (cmpD .Eq) (varM 3) (cM (.str [110, 111, 110, 101])))) (cM (.str [122, 111, 110, 101])) (varM 3))) skipS)) skipS) (seqS (ifS (tbM (op2M (cmpD .Eq) (varM 2) (cM (.int (1))))) (seqS (retS (appM (callD c ("_law_pick", none)) (consA (varM 0) (consA (lstM (consA (cM .non) (consA (cM (.int (0))) (consA (op1M (unD .USub) (cM (.int (1)))) (consA (op2M (binD .Pow) (cM (.int (10))) (cM (.int (19)))) (consA (op2M (binD .Add) (op2M (binD .Sub) (cM (.int (0))) (op2M (binD .Pow) (cM (.int (10))) (cM (.int (20))))) (cM (.int (1)))) nilA)))))) nilA)))) skipS) skipS) (seqS (ifS (tbM (op2M (cmpD .Lt) (varM 2) (cM (.int (5))))) (seqS (retS (op2M (binD .Sub) (appM bInt (consA (appM (callD c ("_law_next", none)) (consA (varM 0) nilA)) nilA)) (op2M (binD .Mult) (cM (.int (100))) (op2M (binD .Mod) (appM bInt (consA (appM (callD c ("_law_next", none)) (consA (varM 0) nilA)) nilA)) (cM (.int (7))))))) skipS) skipS) (seqS (retS (appM bTuple (consA (compM [4] (rngM (consA (op2M (binD .Mod) (appM bInt (consA (appM (callD c ("_law_next", none)) (consA (varM 0) nilA)) nilA)) (cM (.int (4)))) nilA)) (.nm 4) yesM (appM (callD c ("_law_term", none)) (consA (varM 0) (consA (op2M (binD .Add) (varM 1) (cM (.int (1)))) nilA)))) nilA))) skipS)))))
theorem d15 (c : CallT) : denSs (pg.g c e15) 200 e15.d.body = some (m15 c) := by kernel_rfl
theorem r15 (k : Nat) (ds : List D) (st : Store) : runF pg.T (k + 1) ("_law_term", none) ds st = runB ⟨2, 5, m15⟩ (runF pg.T k) ds st := run_of (e := e15) (by kernel_rfl) d15
/-- _law_text -/
def m16 (c : CallT) : SM := (seqS (ifS (tbM (op2M (cmpD .Is) (varM 0) (cM .non))) (seqS (retS (cM (.str [110, 111, 110, 101]))) skipS) skipS) (seqS (ifS (tvM (isiM "int" (varM 0))) (seqS (retS (appM bStr (consA (varM 0) nilA))) skipS) skipS) (seqS (ifS (tvM (isiM "str" (varM 0))) (seqS (retS (ifeM (tbM (op2M (cmpD .NotEq) (varM 0) (cM (.str [])))) (varM 0) (cM (.str [46])))) skipS) skipS) (seqS (retS (op2M (binD .Add) (op2M (binD .Add) (cM (.str [40])) (metM c pg.meth "join" (cM (.str [32])) (consA (compM [1] (itM (varM 0)) (.nm 1) yesM (appM (callD c ("_law_text", none)) (consA (varM 1) nilA))) nilA))) (cM (.str [41])))) skipS))))
theorem d16 (c : CallT) : denSs (pg.g c e16) 200 e16.d.body = some (m16 c) := by kernel_rfl
theorem r16 (k : Nat) (ds : List D) (st : Store) : runF pg.T (k + 1) ("_law_text", none) ds st = runB ⟨1, 2, m16⟩ (runF pg.T k) ds st := run_of (e := e16) (by kernel_rfl) d16
/-- _law_integer -/
def m17 (c : CallT) : SM := (seqS (asgS (.nm 2) (varM 1)) (seqS (ifS (tbM (op2M (cmpD .Eq) (slM (varM 0) (someO (varM 1)) (someO (op2M (binD .Add) (varM 1) (cM (.int (1)))))) (cM (.str [45])))) (seqS (asgS (.nm 1) (op2M (binD .Add) (varM 1) (cM (.int (1))))) (seqS (ifS (tbM (op2M (cmpD .Eq) (slM (varM 0) (someO (varM 1)) (someO (op2M (binD .Add) (varM 1) (cM (.int (1)))))) (cM (.str [48])))) (seqS (retS (lstM (consA (cM (.str [98, 97, 100])) (consA (varM 1) nilA)))) skipS) skipS) skipS)) skipS) (seqS (asgS (.nm 3) (varM 1)) (seqS (forS (rngM (consA (appM bLen (consA (varM 0) nilA)) nilA)) (.nm 4) (seqS (ifS (andM (tbM (op2M (cmpD .Lt) (varM 1) (appM bLen (consA (varM 0) nilA)))) (tbM (op2M (cmpD .In) (op2M ixD (varM 0) (varM 1)) (cM (.str [48, 49, 50, 51, 52, 53, 54, 55, 56, 57]))))) (seqS (asgS (.nm 1) (op2M (binD .Add) (varM 1) (cM (.int (1))))) skipS) skipS) skipS)) (seqS (ifS (tbM (op2M (cmpD .Eq) (varM 1) (varM 3))) (seqS (retS (lstM (consA (cM (.str [98, 97, 100])) (consA (varM 1) nilA)))) skipS) skipS) (seqS (ifS (andM (tbM (op2M (cmpD .Eq) (op2M ixD (varM 0) (varM 3)) (cM (.str [48])))) (tbM (op2M (cmpD .Gt) (varM 1) (op2M (binD .Add) (varM 3) (cM (.int (1))))))) (seqS (retS (lstM (consA (cM (.str [98, 97, 100])) (consA (op2M (binD .Add) (varM 3) (cM (.int (1)))) nilA)))) skipS) skipS) (seqS (ifS (tbM (op2M (cmpD .Gt) (op2M (binD .Sub) (varM 1) (varM 3)) (cM (.int (20))))) (seqS (retS (lstM (consA (cM (.str [98, 97, 100])) (consA (op2M (binD .Add) (varM 3) (cM (.int (20)))) nilA)))) skipS) skipS) (seqS (retS (lstM (consA (appM bInt (consA (slM (varM 0) (someO (varM 2)) (someO (varM 1))) nilA)) (consA (varM 1) nilA)))) skipS))))))))
theorem d17 (c : CallT) : denSs (pg.g c e17) 200 e17.d.body = some (m17 c) := by kernel_rfl
theorem r17 (k : Nat) (ds : List D) (st : Store) : runF pg.T (k + 1) ("_law_integer", none) ds st = runB ⟨2, 5, m17⟩ (runF pg.T k) ds st := run_of (e := e17) (by kernel_rfl) d17
/-- _law_read -/
def m18 (c : CallT) : SM := (seqS (asgS (.nm 3) (slM (varM 0) (someO (varM 1)) (someO (op2M (binD .Add) (varM 1) (cM (.int (1))))))) (seqS (ifS (tbM (op2M (cmpD .Eq) (varM 3) (cM (.str [40])))) (seqS (ifS (tbM (op2M (cmpD .Eq) (varM 2) (cM (.int (12))))) (seqS (retS (lstM (consA (cM (.str [98, 97, 100])) (consA (varM 1) nilA)))) skipS) skipS) (seqS (retS (appM (callD c ("_law_entries", none)) (consA (varM 0) (consA (op2M (binD .Add) (varM 1) (cM (.int (1)))) (consA (op2M (binD .Add) (varM 2) (cM (.int (1)))) nilA))))) skipS)) skipS) (seqS (ifS (tbM (op2M (cmpD .Eq) (varM 3) (cM (.str [46])))) (seqS (retS (lstM (consA (cM (.str [])) (consA (op2M (binD .Add) (varM 1) (cM (.int (1)))) nilA)))) skipS) skipS) (seqS (ifS (andM (tbM (op2M (cmpD .NotEq) (varM 3) (cM (.str [])))) (tbM (op2M (cmpD .In) (varM 3) (cM (.str [97, 98, 99, 100, 101, 102, 103, 104, 105, 106, 107, 108, 109, 110, 111, 112, 113, 114, 115, 116, 117, 118, 119, 120, 121, 122]))))) (seqS (asgS (.nm 4) (varM 1)) (seqS (forS (rngM (consA (appM bLen (consA (varM 0) nilA)) nilA)) (.nm 5) (seqS (ifS (andM (tbM (op2M (cmpD .Lt) (varM 4) (appM bLen (consA (varM 0) nilA)))) (tbM (op2M (cmpD .In) (op2M ixD (varM 0) (varM 4)) (cM (.str [97, 98, 99, 100, 101, 102, 103, 104, 105, 106, 107, 108, 109, 110, 111, 112, 113, 114, 115, 116, 117, 118, 119, 120, 121, 122]))))) (seqS (asgS (.nm 4) (op2M (binD .Add) (varM 4) (cM (.int (1))))) skipS) skipS) skipS)) (seqS (retS (lstM (consA (ifeM (tbM (op2M (cmpD .Eq) (slM (varM 0) (someO (varM 1)) (someO (varM 4))) (cM (.str [110, 111, 110, 101])))) (cM .non) (slM (varM 0) (someO (varM 1)) (someO (varM 4)))) (consA (varM 4) nilA)))) skipS))) skipS) (seqS (retS (appM (callD c ("_law_integer", none)) (consA (varM 0) (consA (varM 1) nilA)))) skipS)))))
theorem d18 (c : CallT) : denSs (pg.g c e18) 200 e18.d.body = some (m18 c) := by kernel_rfl
theorem r18 (k : Nat) (ds : List D) (st : Store) : runF pg.T (k + 1) ("_law_read", none) ds st = runB ⟨3, 6, m18⟩ (runF pg.T k) ds st := run_of (e := e18) (by kernel_rfl) d18
/-- _law_entries -/
def m19 (c : CallT) : SM := (seqS (asgS (.nm 3) (lstM nilA)) (seqS (forS (rngM (consA (op2M (binD .Add) (appM bLen (consA (varM 0) nilA)) (cM (.int (1)))) nilA)) (.nm 4) (seqS (ifS (tbM (op2M (cmpD .Eq) (slM (varM 0) (someO (varM 1)) (someO (op2M (binD .Add) (varM 1) (cM (.int (1)))))) (cM (.str [41])))) (seqS (retS (lstM (consA (appM bTuple (consA (varM 3) nilA)) (consA (op2M (binD .Add) (varM 1) (cM (.int (1)))) nilA)))) skipS) skipS) (seqS (ifS (tvM (varM 3)) (seqS (ifS (tbM (op2M (cmpD .NotEq) (slM (varM 0) (someO (varM 1)) (someO (op2M (binD .Add) (varM 1) (cM (.int (1)))))) (cM (.str [32])))) (seqS (retS (lstM (consA (cM (.str [98, 97, 100])) (consA (varM 1) nilA)))) skipS) skipS) (seqS (asgS (.nm 1) (op2M (binD .Add) (varM 1) (cM (.int (1))))) skipS)) skipS) (seqS (unpS [5, 6] (appM (callD c ("_law_read", none)) (consA (varM 0) (consA (varM 1) (consA (varM 2) nilA))))) (seqS (ifS (andM (tbM (op2M (cmpD .Eq) (varM 5) (cM (.str [98, 97, 100])))) (tvM (isiM "str" (varM 5)))) (seqS (retS (lstM (consA (varM 5) (consA (varM 6) nilA)))) skipS) skipS) (seqS (exprS (metM c pg.meth "append" (varM 3) (consA (varM 5) nilA))) (seqS (asgS (.nm 1) (varM 6)) skipS))))))) (seqS (retS (lstM (consA (cM (.str [98, 97, 100])) (consA (varM 1) nilA)))) skipS)))
theorem d19 (c : CallT) : denSs (pg.g c e19) 200 e19.d.body = some (m19 c) := by kernel_rfl
theorem r19 (k : Nat) (ds : List D) (st : Store) : runF pg.T (k + 1) ("_law_entries", none) ds st = runB ⟨3, 7, m19⟩ (runF pg.T k) ds st := run_of (e := e19) (by kernel_rfl) d19
/-- _law_due -/
def m20 (c : CallT) : SM := (seqS (unpS [1, 2] (appM (callD c ("_law_read", none)) (consA (varM 0) (consA (cM (.int (0))) (consA (cM (.int (0))) nilA))))) (seqS (ifS (andM (tvM (isiM "str" (varM 1))) (tbM (op2M (cmpD .Eq) (varM 1) (cM (.str [98, 97, 100]))))) (seqS (retS (lstM (consA (cM (.str [98, 97, 100])) (consA (varM 2) nilA)))) skipS) skipS) (seqS (retS (ifeM (tbM (op2M (cmpD .Lt) (varM 2) (appM bLen (consA (varM 0) nilA)))) (lstM (consA (cM (.str [98, 97, 100])) (consA (varM 2) nilA))) (lstM (consA (cM (.str [116, 101, 114, 109])) (consA (varM 1) nilA))))) skipS)))
theorem d20 (c : CallT) : denSs (pg.g c e20) 200 e20.d.body = some (m20 c) := by kernel_rfl
theorem r20 (k : Nat) (ds : List D) (st : Store) : runF pg.T (k + 1) ("_law_due", none) ds st = runB ⟨1, 3, m20⟩ (runF pg.T k) ds st := run_of (e := e20) (by kernel_rfl) d20
/-- _law_told -/
def m21 (c : CallT) : SM := (seqS (tryS (fun x => pg.subB x "Malformed") (seqS (retS (lstM (consA (cM (.str [116, 101, 114, 109])) (consA (appM (callD c ("read_term", none)) (consA (varM 0) nilA)) nilA)))) skipS) (some 1) (seqS (retS (lstM (consA (cM (.str [98, 97, 100])) (consA (fldM pg.xfP "at" (varM 1)) nilA)))) skipS)) skipS)
theorem d21 (c : CallT) : denSs (pg.g c e21) 200 e21.d.body = some (m21 c) := by kernel_rfl
theorem r21 (k : Nat) (ds : List D) (st : Store) : runF pg.T (k + 1) ("_law_told", none) ds st = runB ⟨1, 2, m21⟩ (runF pg.T k) ds st := run_of (e := e21) (by kernel_rfl) d21
/-- _law_refused -/
def m22 (c : CallT) : SM := (seqS (tryS (fun x => pg.subB x "BadNumber") (seqS (exprS (appM (callD c ("term_text", none)) (consA (varM 0) nilA))) (seqS (retS (cM (.bl false))) skipS)) none (seqS (retS (cM (.bl true))) skipS)) skipS)
theorem d22 (c : CallT) : denSs (pg.g c e22) 200 e22.d.body = some (m22 c) := by kernel_rfl
theorem r22 (k : Nat) (ds : List D) (st : Store) : runF pg.T (k + 1) ("_law_refused", none) ds st = runB ⟨1, 1, m22⟩ (runF pg.T k) ds st := run_of (e := e22) (by kernel_rfl) d22
/-- law -/
def m23 (c : CallT) : SM := (seqS (asgS (.nm 1) (appM (callD c ("_law_draws", none)) (consA (varM 0) nilA))) (seqS (asgS (.nm 1) (appM (callD c ("_law_more", none)) (consA (varM 1) (consA (cM (.int (120))) nilA)))) (seqS (asgS (.nm 2) (tupM (consA (tupM (consA (cM (.int (1))) (consA (cM (.int (2))) nilA))) (consA (tupM (consA (cM (.int (1))) (consA (cM (.int (1))) nilA))) nilA)))) (seqS (ifS (orM (tbM (op2M (cmpD .NotEq) (appM (callD c ("term_text", none)) (consA (varM 2) nilA)) (cM (.str [40, 40, 49, 32, 50, 41, 32, 40, 49, 32, 49, 41, 41])))) (tbM (op2M (cmpD .NotEq) (appM bRepr (consA (appM (callD c ("read_term", none)) (consA (cM (.str [40, 46, 32, 110, 111, 110, 101, 32, 40, 45, 53, 41, 41])) nilA)) nilA)) (appM bRepr (consA (tupM (consA (cM (.str [])) (consA (cM .non) (consA (tupM (consA (op1M (unD .USub) (cM (.int (5)))) nilA)) nilA)))) nilA))))) (seqS (retS (cM (.bl false))) skipS) skipS) (seqS (forS (rngM (consA (cM (.int (4))) nilA)) (.nm 3) (seqS (asgS (.nm 4) (appM (callD c ("_law_term", none)) (consA (varM 1) (consA (cM (.int (0))) nilA)))) (seqS (asgS (.nm 5) (appM (callD c ("_law_text", none)) (consA (varM 4) nilA))) (seqS (ifS (orM (tbM (op2M (cmpD .NotEq) (appM (callD c ("term_text", none)) (consA (varM 4) nilA)) (varM 5))) (tbM (op2M (cmpD .NotEq) (appM bRepr (consA (appM (callD c ("_law_told", none)) (consA (varM 5) nilA)) nilA)) (appM bRepr (consA (lstM (consA (cM (.str [116, 101, 114, 109])) (consA (varM 4) nilA))) nilA))))) (seqS (retS (cM (.bl false))) skipS) skipS) (seqS (ifS (andM (tvM (isiM "tuple" (varM 4))) (tbM (op2M (cmpD .NotEq) (appM (callD c ("term_text", none)) (consA (appM bList (consA (varM 4) nilA)) nilA)) (varM 5)))) (seqS (retS (cM (.bl false))) skipS) skipS) (seqS (forS (rngM (consA (cM (.int (5))) nilA)) (.nm 6) (seqS (asgS (.nm 7) (op2M (binD .Mod) (appM bInt (consA (appM (callD c ("_law_next", none)) (consA (varM 1) nilA)) nilA)) (op2M (binD .Add) (appM bLen (consA (varM 5) nilA)) (cM (.int (1)))))) (seqS (asgS (.nm 8) (op2M (binD .Mod) (appM bInt (consA (appM (callD c ("_law_next", none)) (consA (varM 1) nilA)) nilA)) (cM (.int (2))))) (seqS (asgS (.nm 9) (appM (callD c ("_law_pick", none)) (consA (varM 1) (consA (lstM (consA (cM (.str [])) (consA (cM (.str [32])) (consA (cM (.str [40])) (consA (cM (.str [41])) (consA (cM (.str [45])) (consA (cM (.str [48])) (consA (cM (.str [55])) (consA (cM (.str [97])) (consA (cM (.str [46])) (consA (cM (.str [65])) (consA (cM (.str [95])) (consA (cM (.str [9])) nilA))))))))))))) nilA)))) (seqS (asgS (.nm 10) (op2M (binD .Add) (op2M (binD .Add) (slM (varM 5) noO (someO (varM 7))) (varM 9)) (slM (varM 5) (someO (op2M (binD .Add) (varM 7) (varM 8))) noO))) (seqS (ifS (andM (tbM (op2M (cmpD .NotIn) (cM (.str [98, 97, 100])) (varM 10))) (tbM (op2M (cmpD .NotEq) (appM bRepr (consA (appM (callD c ("_law_told", none)) (consA (varM 10) nilA)) nilA)) (appM bRepr (consA (appM (callD c ("_law_due", none)) (consA (varM 10) nilA)) nilA))))) (seqS (retS (cM (.bl false))) skipS) skipS) skipS)))))) skipS)))))) (seqS (asgS (.nm 11) (op2M (binD .Add) (op2M (binD .Add) (op2M (binD .Mult) (cM (.str [40])) (cM (.int (12)))) (cM (.str [53]))) (op2M (binD .Mult) (cM (.str [41])) (cM (.int (12)))))) (seqS (asgS (.nm 12) (lstM (consA (cM (.str [])) (consA (cM (.str [40])) (consA (cM (.str [40, 41])) (consA (cM (.str [40, 32, 41])) (consA (cM (.str [40, 49, 32, 41])) (consA (cM (.str [40, 49, 32, 32, 50, 41])) (consA (cM (.str [40, 49, 32, 50])) (consA (cM (.str [49, 32, 50])) (consA (cM (.str [45, 48])) (consA (cM (.str [48, 48])) (consA (cM (.str [48, 49])) (consA (cM (.str [45])) (consA (op2M (binD .Mult) (cM (.str [49])) (cM (.int (20)))) (consA (op2M (binD .Mult) (cM (.str [49])) (cM (.int (21)))) (consA (op2M (binD .Add) (cM (.str [45])) (op2M (binD .Mult) (cM (.str [57])) (cM (.int (21))))) (consA (varM 11) (consA (op2M (binD .Add) (op2M (binD .Add) (cM (.str [40])) (varM 11)) (cM (.str [41]))) (consA (cM (.str [40, 41, 40, 41])) (consA (cM (.str [40, 97, 46, 41])) (consA (cM (.str [53, 97])) (consA (cM (.str [97, 53])) nilA))))))))))))))))))))))) (seqS (asgS (.nm 12) (op2M (binD .Add) (varM 12) (lstM (consA (cM (.str [110, 111, 110, 101])) (consA (cM (.str [46, 46])) (consA (cM (.str [41])) nilA)))))) (seqS (ifS (tbM (op2M (cmpD .NotEq) (compM [5] (itM (varM 12)) (.nm 5) yesM (appM bRepr (consA (appM (callD c ("_law_told", none)) (consA (varM 5) nilA)) nilA))) (compM [5] (itM (varM 12)) (.nm 5) yesM (appM bRepr (consA (appM (callD c ("_law_due", none)) (consA (varM 5) nilA)) nilA))))) (seqS (retS (cM (.bl false))) skipS) skipS) (seqS (asgS (.nm 13) (cM (.int (1)))) (seqS (forS (rngM (consA (cM (.int (4000))) nilA)) (.nm 3) (seqS (asgS (.nm 13) (op2M (binD .Mult) (cM (.int (10))) (varM 13))) skipS)) (seqS (ifS (orM (tbM (op2M (cmpD .NotEq) (appM (callD c ("term_text", none)) (consA (op2M (binD .Sub) (varM 13) (cM (.int (1)))) nilA)) (op2M (binD .Mult) (cM (.str [57])) (cM (.int (4000)))))) (orM (tbM (op2M (cmpD .NotEq) (appM (callD c ("term_text", none)) (consA (op2M (binD .Sub) (cM (.int (1))) (varM 13)) nilA)) (op2M (binD .Add) (cM (.str [45])) (op2M (binD .Mult) (cM (.str [57])) (cM (.int (4000))))))) (notM (tvM (appM (callD c ("_law_refused", none)) (consA (varM 13) nilA)))))) (seqS (retS (cM (.bl false))) skipS) skipS) (seqS (retS (op2M (cmpD .Eq) (compM [4] (itM (lstM (consA (cM (.str [110, 111, 110, 101])) (consA (cM (.str [65])) (consA (cM (.str [97, 32, 98])) (consA (tupM (consA (cM (.str [111, 107])) (consA (cM (.str [120, 49])) nilA))) (consA (tupM (consA (tupM (consA (cM (.str [110, 111, 110, 101])) nilA)) nilA)) nilA))))))) (.nm 4) yesM (appM (callD c ("_law_refused", none)) (consA (varM 4) nilA))) (op2M (binD .Mult) (lstM (consA (cM (.bl true)) nilA)) (cM (.int (5)))))) skipS)))))))))))))
theorem d23 (c : CallT) : denSs (pg.g c e23) 200 e23.d.body = some (m23 c) := by kernel_rfl
theorem r23 (k : Nat) (ds : List D) (st : Store) : runF pg.T (k + 1) ("law", none) ds st = runB ⟨1, 14, m23⟩ (runF pg.T k) ds st := run_of (e := e23) (by kernel_rfl) d23
end K20
end S_K20d

section S_K20e
set_option Elab.async false
set_option linter.all false
set_option maxRecDepth 100000
set_option maxHeartbeats 400000
namespace K20
open PySem L2 Lt
def di (i : Int) : D := .p (.int i)
def ds (l : List Nat) : D := .p (.str l)
theorem set_same {st : Store} {n : Nat} {o : SO} (h : st[n]? = some o) : st.set n o = st := List.ext_getElem? fun j => by
  by_cases hj : n = j
  · subst hj
    rw [List.getElem?_set_self' , h]
    rfl
  · rw [List.getElem?_set_ne hj]
/-! ### the reader -/
/-- a reader of s at a -/
def rdr (s : List Nat) (a : Nat) : SO := .ins "Reading" ["text", "at"] [("text", ds s), ("at", di a)]
def sgn (s : List Nat) (a : Nat) : List Nat := (s.drop a).take 1
theorem cut_nat {α : Type} (s : List α) (a b : Nat) : cutL s (some (a : Int)) (some (b : Int)) = (s.drop a).take (b - a) := by
  unfold cutL
  rw [HT.sIx_nat, HT.sIx_nat]
  by_cases ha : a ≤ s.length
  · rw [Nat.min_eq_left ha]
    by_cases hb : b ≤ s.length
    · rw [Nat.min_eq_left hb]
    · have e : min b s.length = s.length := Nat.min_eq_right (by omega)
      rw [e, List.take_of_length_le (by rw [List.length_drop]; omega), List.take_of_length_le (by rw [List.length_drop]; omega)]
  · have e : min a s.length = s.length := Nat.min_eq_right (by omega)
    rw [e, List.drop_eq_nil_of_le (Nat.le_refl _), List.drop_eq_nil_of_le (by omega), List.take_nil, List.take_nil]
theorem cut_sgn (s : List Nat) (a : Nat) : cutL s (some (a : Int)) (some ((a : Int) + 1)) = sgn s a := by
  rw [show (a : Int) + 1 = ((a + 1 : Nat) : Int) by omega, cut_nat, show a + 1 - a = 1 by omega]
  rfl
theorem sign_run (k n : Nat) (s : List Nat) (a : Nat) (st : Store) (hs : s.length ≤ line) (h : st[n]? = some (rdr s a)) : runF pg.T (k + 1) ("Reading", some ("sign" : Str)) [.ref n] st = .ok (ds (sgn s a)) st := by
  rw [r3]
  unfold runB m3
  have h1 : fldD pg.xfP "text" (.ref n) st = .ok (ds s) st := fld_ins h rfl rfl
  have h2 : fldD pg.xfP "at" (.ref n) st = .ok (di a) st := fld_ins h rfl rfl
  simp [startR, seqS, retS, slM, fldM, op1M, varM, h1, h2, someO, op2M, cM, binD, addD, di, ds, slD, hs, cut_sgn, isX]
def inSgn (w z : List Nat) : Bool := match w with
  | [] => false
  | w => subS w z
theorem isat_run (k n : Nat) (s : List Nat) (a : Nat) (z : List Nat) (st : Store) (hs : s.length ≤ line) (h : st[n]? = some (rdr s a)) : runF pg.T (k + 2) ("Reading", some ("is_at" : Str)) [.ref n, ds z] st = .ok (.p (.bl (inSgn (sgn s a) z))) st := by
  rw [r4]
  unfold runB m4
  have hm : pg.meth "Reading" "sign" = true := by kernel_rfl
  have hr : rcvD pg.meth "sign" (.ref n) st = some (.ins "Reading" n) := rcv_ins h hm rfl
  have hx := sign_run k n s a st hs h
  have hlen : (sgn s a).length ≤ 1 := by unfold sgn; rw [List.length_take]; omega
  cases q : sgn s a with
  | nil =>
    rw [q] at hx
    simp [startR, seqS, retS, andE, op2M, metM, varM, hr, nilA, runRcv, hx, cM, cmpD, eqD, scalP, sameP, ds, ofO, truD, isX, inSgn]
  | cons c r =>
    rw [q] at hx
    simp [startR, seqS, retS, andE, op2M, metM, varM, hr, nilA, runRcv, hx, cM, cmpD, eqD, scalP, sameP, ds, ofO, truD, isX, inSgn]
end K20
end S_K20e

section S_K20f
set_option Elab.async false
set_option linter.all false
set_option maxRecDepth 100000
set_option maxHeartbeats 400000
namespace K20
open PySem L2 Lt
/-- whether a sign of z stands at a -/
def isAt (s : List Nat) (a : Nat) (z : List Nat) : Bool := match s[a]? with
  | some c => decide (c ∈ z)
  | none => false
theorem sgn_eq (s : List Nat) (a : Nat) : sgn s a = s[a]?.toList := by
  unfold sgn
  rw [List.take_one, List.head?_drop]
theorem isat_eq (s : List Nat) (a : Nat) (z : List Nat) : inSgn (sgn s a) z = isAt s a z := by
  rw [sgn_eq]
  unfold isAt
  cases s[a]? <;> rfl
theorem isAt_run (k n : Nat) (s : List Nat) (a : Nat) (z : List Nat) (st : Store) (hs : s.length ≤ line) (h : st[n]? = some (rdr s a)) : runF pg.T (k + 2) ("Reading", some ("is_at" : Str)) [.ref n, ds z] st = .ok (.p (.bl (isAt s a z))) st := by
  rw [isat_run k n s a z st hs h, isat_eq]
theorem isAt_call {k n : Nat} {s : List Nat} {a : Nat} {z : List Nat} {st : Store} {ρ : Rho} {o e : EM} (hs : s.length ≤ line) (h : st[n]? = some (rdr s a)) (ho : o ρ st = .ok (.ref n) st) (he : e ρ st = .ok (ds z) st) : metM (runF pg.T (k + 2)) pg.meth "is_at" o (consA e nilA) ρ st = .ok (.p (.bl (isAt s a z))) st := by
  have hr : rcvD pg.meth "is_at" (.ref n) st = some (.ins "Reading" n) := rcv_ins h (by kernel_rfl) rfl
  unfold metM
  rw [ho]
  simp only [bind_ok]
  rw [hr]
  simp [consA, he, nilA, isX, ds, runRcv]
  exact isAt_run k n s a z st hs h
/-- where the signs of z end -/
def endp (s z : List Nat) (a : Nat) : Nat := a + ((s.drop a).takeWhile fun c => decide (c ∈ z)).length
theorem endp_no {s z : List Nat} {a : Nat} (h : isAt s a z = false) : endp s z a = a := by
  unfold endp
  unfold isAt at h
  cases q : s.drop a with
  | nil => rfl
  | cons c r =>
    have e : s[a]? = some c := by rw [← List.head?_drop, q]; rfl
    rw [e] at h
    rw [List.takeWhile_cons]
    simp only at h
    rw [h]
    rfl
theorem endp_yes {s z : List Nat} {a : Nat} (h : isAt s a z = true) : endp s z a = endp s z (a + 1) ∧ a < s.length := by
  unfold endp
  unfold isAt at h
  cases q : s[a]? with
  | none => rw [q] at h; cases h
  | some c =>
    rw [q] at h
    simp only at h
    have hl := (List.getElem?_eq_some_iff.mp q).1
    refine ⟨?_, hl⟩
    rw [List.drop_eq_getElem_cons hl, (List.getElem?_eq_some_iff.mp q).2, List.takeWhile_cons, h]
    simp
    omega
theorem adv_run (c : CallT) (n : Nat) (s : List Nat) (a : Nat) (st : Store) (ρ : Rho) (h : st[n]? = some (rdr s a)) (h0 : varM 0 ρ st = .ok (.ref n) st) : fldAugS "at" .Add (varM 0) (cM (.int 1)) ρ st = .go .nx ρ (st.set n (rdr s (a + 1))) := by
  have h2 : fldD (fun _ _ => false) "at" (.ref n) st = .ok (di a) st := fld_ins h rfl rfl
  have h3 := set_ins (v := di ((a : Int) + 1)) h (show List.contains (["text", "at"] : List Str) ("at" : Str) = true from rfl) (by show 2 < 1000; omega)
  unfold fldAugS
  rw [h0]
  simp only [of_ok, isX, Bool.false_eq_true, if_false]
  rw [h2]
  simp only [of_ok, cM]
  show RS.of (augD .Add (.p (.int a)) (.p (.int 1)) st) ρ _ = _
  simp only [augD, okP_eq, of_ok, isX, Bool.false_eq_true, if_false]
  have h3' : setFld "at" (.ref n) (.p (.int ((a : Int) + 1))) st = some (st.set n (rdr s (a + 1))) := h3
  rw [h3']
theorem take_loop (k n : Nat) (s z : List Nat) (hs : s.length ≤ line) (d : D) : ∀ (m a : Nat) (st : Store), s.length - a < m → st[n]? = some (rdr s a) → whlS (tvM (metM (runF pg.T (k + 2)) pg.meth "is_at" (varM 0) (consA (varM 1) nilA))) (seqS (fldAugS "at" .Add (varM 0) (cM (.int 1))) skipS) m [some (.ref n), some (ds z), some d] st = .go .nx [some (.ref n), some (ds z), some d] (st.set n (rdr s (endp s z a)))
  | 0, a, st, hm, h => by omega
  | m + 1, a, st, hm, h => by
    have hc := isAt_call (k := k) (z := z) (ρ := [some (.ref n), some (ds z), some d]) (o := varM 0) (e := varM 1) hs h rfl rfl
    show RS.of ((metM (runF pg.T (k + 2)) pg.meth "is_at" (varM 0) (consA (varM 1) nilA) _ _).bind truD) _ _ = _
    rw [hc]
    simp only [bind_ok, truD, of_ok]
    cases q : isAt s a z with
    | false =>
      simp only [Bool.false_eq_true, if_false]
      rw [endp_no q, set_same h]
    | true =>
      obtain ⟨e1, e2⟩ := endp_yes q
      simp only [if_true]
      have ha := adv_run (runF pg.T (k + 2)) n s a st [some (.ref n), some (ds z), some d] h rfl
      have hlt : n < st.length := (List.getElem?_eq_some_iff.mp h).1
      show loopK (match fldAugS "at" .Add (varM 0) (cM (.int 1)) _ st with
        | .go .nx ρ' st' => skipS ρ' st'
        | r => r) _ = _
      rw [ha]
      simp only [skipS, loopK]
      rw [take_loop k n s z hs d m (a + 1) _ (by omega) (List.getElem?_set_self hlt), List.set_set, e1]
end K20
end S_K20f

section S_K20g
set_option Elab.async false
set_option linter.all false
set_option maxRecDepth 100000
set_option maxHeartbeats 400000
namespace K20
open PySem L2 Lt
theorem len_line {s : List Nat} (h : s.length < 100000) : s.length ≤ line := by unfold line; omega
theorem endp_ge (s z : List Nat) (a : Nat) : a ≤ endp s z a := Nat.le_add_right _ _
theorem endp_le (s z : List Nat) (a : Nat) (h : a ≤ s.length) : endp s z a ≤ s.length := by
  unfold endp
  have := (List.takeWhile_prefix (l := s.drop a) fun c => decide (c ∈ z)).length_le
  rw [List.length_drop] at this
  omega
/-- the signs of z that stand from a on -/
def part (s z : List Nat) (a : Nat) : List Nat := (s.drop a).take (endp s z a - a)
theorem part_eq (s z : List Nat) (a : Nat) : part s z a = (s.drop a).takeWhile fun c => decide (c ∈ z) := by
  unfold part endp
  rw [Nat.add_sub_cancel_left]
  have h := List.takeWhile_prefix (l := s.drop a) (fun c => decide (c ∈ z))
  exact (List.prefix_iff_eq_take.mp h).symm
theorem take_run (k n : Nat) (s z : List Nat) (a : Nat) (st : Store) (hs : s.length < 100000) (h : st[n]? = some (rdr s a)) : runF pg.T (k + 3) ("Reading", some ("take" : Str)) [.ref n, ds z] st = .ok (ds (part s z a)) (st.set n (rdr s (endp s z a))) := by
  have hl := len_line hs
  have hlt : n < st.length := (List.getElem?_eq_some_iff.mp h).1
  have h' : (st.set n (rdr s (endp s z a)))[n]? = some (rdr s (endp s z a)) := List.getElem?_set_self hlt
  rw [r5]
  refine runB_rt rfl (seq_nx (asg_st (d := di a) (fld_st (n := n) rfl h rfl rfl)) (seq_nx (take_loop k n s z hl (di a) 100000 a st (by omega) h) (seq_rt (ret_st (d := ds (part s z a)) ?_ rfl))))
  refine sl_st (d := ds s) (fld_st (n := n) rfl h' rfl rfl) (part_st (i := (a : Int)) rfl) (part_st (i := (endp s z a : Int)) (fld_st (n := n) rfl h' rfl rfl)) ?_
  show (if s.length ≤ line then okP (.str (cutL s (some (a : Int)) (some (endp s z a : Int)))) _ else R.no) = _
  rw [if_pos hl, cut_nat]
  rfl
end K20
end S_K20g

section S_K20h
set_option Elab.async false
set_option linter.all false
set_option maxRecDepth 100000
set_option maxHeartbeats 1000000
namespace K20
open PySem L2 Lt
def FIG : List Nat := [48, 49, 50, 51, 52, 53, 54, 55, 56, 57]
/-- what reading gives -/
inductive Res where
  | ok (t : P) (b : Nat) | bad (b : Nat)
def iv (s : List Nat) : Int := (NumText.digitsVal s : Nat)
def pInt (s : List Nat) (a : Nat) : Res :=
  let minus := isAt s a [45]
  let b := if minus then a + 1 else a
  if !isAt s b FIG || (minus && isAt s b [48]) then .bad b
  else if isAt s b [48] && decide ((part s FIG b).length > 1) then .bad (b + 1)
  else if (part s FIG b).length > 20 then .bad (b + 20)
  else .ok (.int (if minus then -iv (part s FIG b) else iv (part s FIG b))) (endp s FIG b)
theorem fig_all (s : List Nat) (a : Nat) : (part s FIG a).all (fun c => decide (48 ≤ c) && decide (c ≤ 57)) = true := by
  rw [part_eq]
  refine List.all_eq_true.mpr fun c hc => ?_
  have h := List.all_eq_true.mp List.all_takeWhile c hc
  simp only [FIG, decide_eq_true_eq, List.mem_cons, List.not_mem_nil, or_false] at h
  simp only [Bool.and_eq_true, decide_eq_true_eq]
  omega
theorem part_ne {s z : List Nat} {a : Nat} (h : isAt s a z = true) : part s z a ≠ [] := by
  rw [part_eq]
  obtain ⟨_, hl⟩ := endp_yes h
  unfold isAt at h
  rw [List.getElem?_eq_getElem hl] at h
  rw [List.drop_eq_getElem_cons hl, List.takeWhile_cons]
  simp only at h
  rw [h]
  simp
theorem part_len (s z : List Nat) (a : Nat) : (part s z a).length ≤ s.length := by
  unfold part
  rw [List.length_take, List.length_drop]
  omega
theorem bint_run {s : List Nat} {a : Nat} (h : isAt s a FIG = true) (hl : (part s FIG a).length ≤ 640) (st : Store) : bInt [ds (part s FIG a)] st = .ok (di (iv (part s FIG a))) st := by
  have e := SX.int_S (fig_all s a) (part_ne h) (by omega)
  show (if (part s FIG a).length ≤ 640 then (match PySem.intText? (toS (part s FIG a)) with
    | some n => okP (.int n) st
    | none => R.no) else R.no) = _
  rw [if_pos hl]
  have e' : PySem.intText? (toS (part s FIG a)) = some (iv (part s FIG a)) := e
  rw [e']
  rfl
/-- an end by Malformed -/
def mal (b : Nat) : Xc := ⟨"Malformed", [("at", .int b)]⟩
def rb (c : CallT) : SM := (seqS (ifS (orM (notM (tvM (metM c pg.meth "is_at" (varM 0) (consA (cM (.str FIG)) nilA)))) (andM (tvM (varM 1)) (tvM (metM c pg.meth "is_at" (varM 0) (consA (cM (.str [48])) nilA))))) (seqS (rseFS "Malformed" "at" (fldM pg.xfP "at" (varM 0))) skipS) skipS) (seqS (asgS (.nm 3) (metM c pg.meth "is_at" (varM 0) (consA (cM (.str [48])) nilA))) (seqS (asgS (.nm 4) (metM c pg.meth "take" (varM 0) (consA (cM (.str FIG)) nilA))) (seqS (ifS (andM (tvM (varM 3)) (tbM (op2M (cmpD .Gt) (appM bLen (consA (varM 4) nilA)) (cM (.int (1)))))) (seqS (rseFS "Malformed" "at" (op2M (binD .Add) (varM 2) (cM (.int (1))))) skipS) skipS) (seqS (ifS (tbM (op2M (cmpD .Gt) (appM bLen (consA (varM 4) nilA)) (cM (.int (20))))) (seqS (rseFS "Malformed" "at" (op2M (binD .Add) (varM 2) (cM (.int (20))))) skipS) skipS) (seqS (retS (ifeM (tvM (varM 1)) (op1M (unD .USub) (appM bInt (consA (varM 4) nilA))) (appM bInt (consA (varM 4) nilA)))) skipS))))))
theorem rse_st {C f : Str} {a : EM} {ρ : Rho} {st s1 : Store} {x : P} (h : a ρ st = .ok (.p x) s1) : rseFS C f a ρ st = .ex ⟨C, [(f, x)]⟩ ρ s1 := by unfold rseFS; rw [h]; rfl
theorem isAt_met {k n : Nat} {s : List Nat} {a : Nat} {z : List Nat} {st : Store} {ρ : Rho} (hs : s.length ≤ line) (h : st[n]? = some (rdr s a)) (h0 : varM 0 ρ st = .ok (.ref n) st) : metM (runF pg.T (k + 2)) pg.meth "is_at" (varM 0) (consA (cM (.str z)) nilA) ρ st = .ok (.p (.bl (isAt s a z))) st := isAt_call (e := cM (.str z)) hs h h0 rfl
theorem len_gt {ρ : Rho} {st : Store} {l : List Nat} {m : Nat} {i : Nat} (h : varM i ρ st = .ok (ds l) st) (hl : l.length ≤ line) : tbM (op2M (cmpD .Gt) (appM bLen (consA (varM i) nilA)) (cM (.int (m : Int)))) ρ st = .ok (decide (l.length > m)) st := by
  refine tb_st (op2_st (d := di l.length) (s1 := st) (s2 := st) (q := .ok (.p (.bl (decide (l.length > m)))) st) (app_st (q := .ok (di l.length) st) (arg1 h rfl) ?_) rfl ?_)
  · show (if l.length ≤ line then okP (.int l.length) st else R.no) = _
    rw [if_pos hl]
    rfl
  · show R.ok (D.p (.bl (decide ((m : Int) < (l.length : Int))))) st = _
    congr 3
    exact decide_eq_decide.mpr (by omega)
theorem int_rest (k n : Nat) (s : List Nat) (b : Nat) (minus : Bool) (st : Store) (hs : s.length < 100000) (h : st[n]? = some (rdr s b)) :
    (match (if !isAt s b FIG || (minus && isAt s b [48]) then Res.bad b
      else if isAt s b [48] && decide ((part s FIG b).length > 1) then .bad (b + 1)
      else if (part s FIG b).length > 20 then .bad (b + 20)
      else .ok (.int (if minus then -iv (part s FIG b) else iv (part s FIG b))) (endp s FIG b)) with
    | .ok t e => ∃ ρ, rb (runF pg.T (k + 3)) [some (.ref n), some (.p (.bl minus)), some (di b), none, none] st = .go (.rt (.p t)) ρ (st.set n (rdr s e))
    | .bad e => ∃ ρ b', rb (runF pg.T (k + 3)) [some (.ref n), some (.p (.bl minus)), some (di b), none, none] st = .ex (mal e) ρ (st.set n (rdr s b'))) := by
  have hl := len_line hs
  have hlt : n < st.length := (List.getElem?_eq_some_iff.mp h).1
  have t1 : ∀ z, tvM (metM (runF pg.T (k + 3)) pg.meth "is_at" (varM 0) (consA (cM (.str z)) nilA)) [some (.ref n), some (.p (.bl minus)), some (di b), none, none] st = .ok (isAt s b z) st := fun z => tv_st (isAt_met (k := k + 1) hl h rfl) rfl
  have t2 : tvM (varM 1) [some (.ref n), some (.p (.bl minus)), some (di b), none, none] st = .ok minus st := tv_st (d := .p (.bl minus)) rfl rfl
  have raise0 : seqS (rseFS "Malformed" "at" (fldM pg.xfP "at" (varM 0))) skipS [some (.ref n), some (.p (.bl minus)), some (di b), none, none] st = .ex (mal b) [some (.ref n), some (.p (.bl minus)), some (di b), none, none] st := seq_ex (rse_st (fld_st (n := n) rfl h rfl rfl))
  cases q1 : isAt s b FIG with
  | false =>
    simp only [Bool.not_false, Bool.true_or, if_true]
    refine ⟨[some (.ref n), some (.p (.bl minus)), some (di b), none, none], b, ?_⟩
    rw [set_same h]
    exact seq_ex (if_yes (or_yes (not_st (k := false) ((t1 FIG).trans (by rw [q1])))) raise0)
  | true =>
    cases q2 : (minus && isAt s b [48]) with
    | true =>
      simp only [Bool.not_true, Bool.false_or, if_true]
      refine ⟨[some (.ref n), some (.p (.bl minus)), some (di b), none, none], b, ?_⟩
      rw [set_same h]
      obtain ⟨m1, m2⟩ := Bool.and_eq_true_iff.mp q2
      refine seq_ex (if_yes (or_no (not_st (k := true) ((t1 FIG).trans (by rw [q1]))) (and_yes (t2.trans (by rw [m1])) ((t1 [48]).trans (by rw [m2])))) raise0)
    | false =>
      simp only [Bool.not_true, Bool.false_or, Bool.false_eq_true, if_false]
      have hno : orM (notM (tvM (metM (runF pg.T (k + 3)) pg.meth "is_at" (varM 0) (consA (cM (.str FIG)) nilA)))) (andM (tvM (varM 1)) (tvM (metM (runF pg.T (k + 3)) pg.meth "is_at" (varM 0) (consA (cM (.str [48])) nilA)))) [some (.ref n), some (.p (.bl minus)), some (di b), none, none] st = .ok false st := by
        refine or_no (not_st (k := true) ((t1 FIG).trans (by rw [q1]))) ?_
        cases minus with
        | false => exact and_no t2
        | true => exact and_yes t2 ((t1 [48]).trans (by rw [show isAt s b [48] = false from q2]))
      have htk := take_run k n s FIG b st hs h
      have h3 : metM (runF pg.T (k + 3)) pg.meth "take" (varM 0) (consA (cM (.str FIG)) nilA) [some (.ref n), some (.p (.bl minus)), some (di b), some (.p (.bl (isAt s b [48]))), none] st = .ok (ds (part s FIG b)) (st.set n (rdr s (endp s FIG b))) :=
        met_ins (n := n) rfl h (by kernel_rfl) rfl (arg1 (d := ds FIG) rfl rfl) htk
      have hpl := Nat.le_trans (part_len s FIG b) hl
      have g4 : ∀ m : Nat, tbM (op2M (cmpD .Gt) (appM bLen (consA (varM 4) nilA)) (cM (.int (m : Int)))) [some (.ref n), some (.p (.bl minus)), some (di b), some (.p (.bl (isAt s b [48]))), some (ds (part s FIG b))] (st.set n (rdr s (endp s FIG b))) = .ok (decide ((part s FIG b).length > m)) (st.set n (rdr s (endp s FIG b))) := fun m => len_gt rfl hpl
      have c1 : andM (tvM (varM 3)) (tbM (op2M (cmpD .Gt) (appM bLen (consA (varM 4) nilA)) (cM (.int (1))))) [some (.ref n), some (.p (.bl minus)), some (di b), some (.p (.bl (isAt s b [48]))), some (ds (part s FIG b))] (st.set n (rdr s (endp s FIG b))) = .ok (isAt s b [48] && decide ((part s FIG b).length > 1)) (st.set n (rdr s (endp s FIG b))) := by
        cases q3 : isAt s b [48] with
        | false => exact and_no (tv_st (d := .p (.bl false)) rfl rfl)
        | true =>
          have g := g4 1
          rw [q3] at g
          exact and_yes (tv_st (d := .p (.bl true)) rfl rfl) g
      have head : ∀ {r : RS} {y : SM}, y [some (.ref n), some (.p (.bl minus)), some (di b), some (.p (.bl (isAt s b [48]))), some (ds (part s FIG b))] (st.set n (rdr s (endp s FIG b))) = r →
          seqS (ifS (orM (notM (tvM (metM (runF pg.T (k + 3)) pg.meth "is_at" (varM 0) (consA (cM (.str FIG)) nilA)))) (andM (tvM (varM 1)) (tvM (metM (runF pg.T (k + 3)) pg.meth "is_at" (varM 0) (consA (cM (.str [48])) nilA))))) (seqS (rseFS "Malformed" "at" (fldM pg.xfP "at" (varM 0))) skipS) skipS) (seqS (asgS (.nm 3) (metM (runF pg.T (k + 3)) pg.meth "is_at" (varM 0) (consA (cM (.str [48])) nilA))) (seqS (asgS (.nm 4) (metM (runF pg.T (k + 3)) pg.meth "take" (varM 0) (consA (cM (.str FIG)) nilA))) y)) [some (.ref n), some (.p (.bl minus)), some (di b), none, none] st = r := fun {r y} e =>
        seq_nx (if_skip hno) (seq_nx (asg_st (isAt_met (k := k + 1) hl h rfl)) (seq_nx (asg_st h3) e))
      by_cases q3 : (isAt s b [48] && decide ((part s FIG b).length > 1)) = true
      · rw [if_pos q3]
        refine ⟨_, endp s FIG b, head (seq_ex (if_yes (c1.trans (by rw [q3])) (seq_ex (rse_st (x := .int ((b + 1 : Nat) : Int)) ?_))))⟩
        exact op2_st (d := di b) (d2 := di 1) rfl rfl (by show R.ok (D.p (.int ((b : Int) + 1))) _ = _; congr 3)
      · rw [if_neg q3]
        have q3' := (Bool.not_eq_true _).mp q3
        by_cases q4 : (part s FIG b).length > 20
        · rw [if_pos q4]
          refine ⟨_, endp s FIG b, head (seq_nx (if_skip (c1.trans (by rw [q3']))) (seq_ex (if_yes ((g4 20).trans (by rw [decide_eq_true q4])) (seq_ex (rse_st (x := .int ((b + 20 : Nat) : Int)) ?_)))))⟩
          exact op2_st (d := di b) (d2 := di 20) rfl rfl (by show R.ok (D.p (.int ((b : Int) + 20))) _ = _; congr 3)
        · rw [if_neg q4]
          have bi := bint_run q1 (by omega) (st.set n (rdr s (endp s FIG b)))
          refine ⟨_, head (seq_nx (if_skip (c1.trans (by rw [q3']))) (seq_nx (if_skip ((g4 20).trans (by rw [decide_eq_false q4]))) (seq_rt (ret_st ?_ rfl))))⟩
          cases minus with
          | false => exact ife_no (tv_st (d := .p (.bl false)) rfl rfl) (app_st (arg1 (d := ds (part s FIG b)) rfl rfl) bi)
          | true => exact ife_yes (tv_st (d := .p (.bl true)) rfl rfl) (op1_st (app_st (arg1 (d := ds (part s FIG b)) rfl rfl) bi) rfl)
end K20
end S_K20h

section S_K20i
set_option Elab.async false
set_option linter.all false
set_option maxRecDepth 100000
set_option maxHeartbeats 1000000
namespace K20
open PySem L2 Lt
theorem m6_eq (c : CallT) : m6 c = seqS (asgS (.nm 1) (metM c pg.meth "is_at" (varM 0) (consA (cM (.str [45])) nilA))) (seqS (ifS (tvM (varM 1)) (seqS (fldAugS "at" .Add (varM 0) (cM (.int (1)))) skipS) skipS) (seqS (asgS (.nm 2) (fldM pg.xfP "at" (varM 0))) (rb c))) := rfl
/-- what a def's run of the reader gives -/
def Says (r : Lt.R D) (n : Nat) (s : List Nat) (st : Store) : Res → Prop
  | .ok t e => r = .ok (.p t) (st.set n (rdr s e))
  | .bad e => ∃ b, r = .ex (mal e) (st.set n (rdr s b))
theorem int_run (k n : Nat) (s : List Nat) (a : Nat) (st : Store) (hs : s.length < 100000) (h : st[n]? = some (rdr s a)) : Says (runF pg.T (k + 4) ("Reading", some ("integer" : Str)) [.ref n] st) n s st (pInt s a) := by
  have hl := len_line hs
  have hlt : n < st.length := (List.getElem?_eq_some_iff.mp h).1
  rw [r6]
  have s1 : ∀ (y : SM) (r : RS), y [some (.ref n), some (.p (.bl (isAt s a [45]))), some (di (if isAt s a [45] then a + 1 else a : Nat)), none, none] (st.set n (rdr s (if isAt s a [45] then a + 1 else a))) = r →
      seqS (asgS (.nm 1) (metM (runF pg.T (k + 3)) pg.meth "is_at" (varM 0) (consA (cM (.str [45])) nilA))) (seqS (ifS (tvM (varM 1)) (seqS (fldAugS "at" .Add (varM 0) (cM (.int (1)))) skipS) skipS) (seqS (asgS (.nm 2) (fldM pg.xfP "at" (varM 0))) y)) (startR 5 [.ref n]) st = r := fun y r e => by
    refine seq_nx (asg_st (isAt_met (k := k + 1) hl h rfl)) ?_
    cases q : isAt s a [45] with
    | false =>
      rw [q] at e
      simp only [Bool.false_eq_true, if_false] at e
      rw [set_same h] at e
      exact seq_nx (if_skip (tv_st (d := .p (.bl false)) rfl rfl)) (seq_nx (asg_st (fld_st (n := n) rfl h rfl rfl)) e)
    | true =>
      rw [q] at e
      simp only [if_true] at e
      have h' : (st.set n (rdr s (a + 1)))[n]? = some (rdr s (a + 1)) := List.getElem?_set_self hlt
      exact seq_nx (if_yes (tv_st (d := .p (.bl true)) rfl rfl) (seq_nx (adv_run (runF pg.T (k + 3)) n s a st _ h rfl) rfl)) (seq_nx (asg_st (fld_st (n := n) rfl h' rfl rfl)) e)
  have h' : (st.set n (rdr s (if isAt s a [45] then a + 1 else a)))[n]? = some (rdr s (if isAt s a [45] then a + 1 else a)) := List.getElem?_set_self hlt
  have z := int_rest k n s (if isAt s a [45] then a + 1 else a) (isAt s a [45]) _ hs h'
  have ep : pInt s a = (if !isAt s (if isAt s a [45] then a + 1 else a) FIG || (isAt s a [45] && isAt s (if isAt s a [45] then a + 1 else a) [48]) then Res.bad (if isAt s a [45] then a + 1 else a)
      else if isAt s (if isAt s a [45] then a + 1 else a) [48] && decide ((part s FIG (if isAt s a [45] then a + 1 else a)).length > 1) then .bad ((if isAt s a [45] then a + 1 else a) + 1)
      else if (part s FIG (if isAt s a [45] then a + 1 else a)).length > 20 then .bad ((if isAt s a [45] then a + 1 else a) + 20)
      else .ok (.int (if isAt s a [45] then -iv (part s FIG (if isAt s a [45] then a + 1 else a)) else iv (part s FIG (if isAt s a [45] then a + 1 else a)))) (endp s FIG (if isAt s a [45] then a + 1 else a))) := rfl
  rw [← ep] at z
  cases q : pInt s a with
  | ok t e =>
    rw [q] at z
    obtain ⟨ρ, z⟩ := z
    rw [List.set_set] at z
    exact runB_rt rfl (by rw [m6_eq]; exact s1 _ _ z)
  | bad e =>
    rw [q] at z
    obtain ⟨ρ, b', z⟩ := z
    rw [List.set_set] at z
    exact ⟨b', runB_ex rfl (by rw [m6_eq]; exact s1 _ _ z)⟩
end K20
end S_K20i

section S_K20j
set_option Elab.async false
set_option linter.all false
set_option maxRecDepth 100000
set_option maxHeartbeats 1000000
namespace K20
open PySem L2 Lt
def SML : List Nat := [97, 98, 99, 100, 101, 102, 103, 104, 105, 106, 107, 108, 109, 110, 111, 112, 113, 114, 115, 116, 117, 118, 119, 120, 121, 122]
def NON : List Nat := [110, 111, 110, 101]
/-- entries, by what reads a term -/
def pEnt (pt : Nat → Res) (s : List Nat) : Nat → Nat → List P → Res
  | 0, a, _ => .bad a
  | f + 1, a, l => if isAt s a [41] then .ok (.tup l) (a + 1)
    else if !l.isEmpty && !isAt s a [32] then .bad a
    else match pt (if l.isEmpty then a else a + 1) with
      | .bad e => .bad e
      | .ok t e => pEnt pt s f e (l ++ [t])
/-- a term; r more may open -/
def pTerm (s : List Nat) : Nat → Nat → Res
  | 0, a => if isAt s a [40] then .bad a
    else if isAt s a [46] then .ok (.str []) (a + 1)
    else if isAt s a SML then .ok (if part s SML a = NON then .non else .str (part s SML a)) (endp s SML a)
    else pInt s a
  | r + 1, a => if isAt s a [40] then pEnt (pTerm s r) s (s.length + 1) (a + 1) []
    else if isAt s a [46] then .ok (.str []) (a + 1)
    else if isAt s a SML then .ok (if part s SML a = NON then .non else .str (part s SML a)) (endp s SML a)
    else pInt s a
theorem isAt_lt {s z : List Nat} {a : Nat} (h : isAt s a z = true) : a < s.length := (endp_yes h).2
theorem endp_gt {s z : List Nat} {a : Nat} (h : isAt s a z = true) : a < endp s z a ∧ endp s z a ≤ s.length := by
  obtain ⟨e, l⟩ := endp_yes h
  have := endp_ge s z (a + 1)
  exact ⟨by omega, endp_le s z a (by omega)⟩
/-- on success something is read, within the text -/
def Moves (s : List Nat) (pt : Nat → Res) : Prop := ∀ a t e, pt a = .ok t e → a < e ∧ e ≤ s.length
theorem pInt_moves (s : List Nat) : Moves s (pInt s) := fun a t e h => by
  unfold pInt at h
  dsimp only at h
  have hab : a ≤ (if isAt s a [45] = true then a + 1 else a) := by split <;> omega
  generalize (if isAt s a [45] = true then a + 1 else a) = b at h hab
  by_cases c1 : (!isAt s b FIG || (isAt s a [45] && isAt s b [48])) = true
  · rw [if_pos c1] at h; cases h
  · rw [if_neg c1] at h
    by_cases c2 : (isAt s b [48] && decide ((part s FIG b).length > 1)) = true
    · rw [if_pos c2] at h; cases h
    · rw [if_neg c2] at h
      by_cases c3 : (part s FIG b).length > 20
      · rw [if_pos c3] at h; cases h
      · rw [if_neg c3] at h
        injection h with _ h4
        have hf : isAt s b FIG = true := by
          cases q : isAt s b FIG with
          | true => rfl
          | false => rw [q] at c1; exact absurd rfl c1
        obtain ⟨g1, g2⟩ := endp_gt hf
        omega
theorem pEnt_moves {s : List Nat} {pt : Nat → Res} (h : Moves s pt) : ∀ (f a : Nat) (l : List P) (t : P) (e : Nat), pEnt pt s f a l = .ok t e → a < e ∧ e ≤ s.length
  | 0, _, _, _, _, h2 => by cases h2
  | f + 1, a, l, t, e, h2 => by
    unfold pEnt at h2
    split at h2
    · rename_i c
      cases h2
      have := isAt_lt c
      omega
    · split at h2
      · cases h2
      · cases q : pt (if l.isEmpty then a else a + 1) with
        | bad _ => rw [q] at h2; cases h2
        | ok t1 e1 =>
          rw [q] at h2
          obtain ⟨g1, g2⟩ := h _ _ _ q
          obtain ⟨g3, g4⟩ := pEnt_moves h f e1 _ t e h2
          refine ⟨?_, g4⟩
          split at g1 <;> omega
theorem pTerm_moves (s : List Nat) : ∀ r, Moves s (pTerm s r)
  | 0 => fun a t e h => by
    unfold pTerm at h
    split at h
    · cases h
    · split at h
      · rename_i c
        cases h
        have := isAt_lt c
        omega
      · split at h
        · rename_i c
          cases h
          exact endp_gt c
        · exact pInt_moves s a t e h
  | r + 1 => fun a t e h => by
    unfold pTerm at h
    split at h
    · have := pEnt_moves (pTerm_moves s r) _ _ _ _ _ h
      omega
    · split at h
      · rename_i c
        cases h
        have := isAt_lt c
        omega
      · split at h
        · rename_i c
          cases h
          exact endp_gt c
        · exact pInt_moves s a t e h
end K20
end S_K20j

section S_K20k
set_option Elab.async false
set_option linter.all false
set_option maxRecDepth 100000
set_option maxHeartbeats 1000000
namespace K20
open PySem L2 Lt
/-- but for n, what stood stands -/
def Grow (n : Nat) (st st' : Store) : Prop := st.length ≤ st'.length ∧ ∀ i o, i ≠ n → st[i]? = some o → st'[i]? = some o
def SaysG (r : Lt.R D) (n : Nat) (s : List Nat) (st : Store) : Res → Prop
  | .ok t e => ∃ st', r = .ok (.p t) st' ∧ st'[n]? = some (rdr s e) ∧ Grow n st st'
  | .bad e => ∃ st', r = .ex (mal e) st'
theorem grow_set {n : Nat} {st : Store} {o : SO} : Grow n st (st.set n o) := ⟨by rw [List.length_set]; exact Nat.le_refl _, fun i u hi h => by rw [List.getElem?_set_ne (fun z => hi z.symm)]; exact h⟩
theorem Grow.trans {n : Nat} {st st1 st2 : Store} (a : Grow n st st1) (b : Grow n st1 st2) : Grow n st st2 := ⟨Nat.le_trans a.1 b.1, fun i o hi h => b.2 i o hi (a.2 i o hi h)⟩
theorem Says.g {r : Lt.R D} {n : Nat} {s : List Nat} {st : Store} {q : Res} (hn : n < st.length) (h : Says r n s st q) : SaysG r n s st q := by
  cases q with
  | ok t e => exact ⟨_, h, List.getElem?_set_self hn, grow_set⟩
  | bad e => obtain ⟨b, h⟩ := h; exact ⟨_, h⟩
/-- beside n and q, what stood stands -/
def Grow2 (n q : Nat) (st st' : Store) : Prop := st.length ≤ st'.length ∧ ∀ i o, i ≠ n → i ≠ q → st[i]? = some o → st'[i]? = some o
theorem Grow2.trans {n q : Nat} {st st1 st2 : Store} (a : Grow2 n q st st1) (b : Grow2 n q st1 st2) : Grow2 n q st st2 := ⟨Nat.le_trans a.1 b.1, fun i o hi hq h => b.2 i o hi hq (a.2 i o hi hq h)⟩
theorem Grow.two {n q : Nat} {st st' : Store} (a : Grow n st st') : Grow2 n q st st' := ⟨a.1, fun i o hi _ h => a.2 i o hi h⟩
theorem grow2_set {n q : Nat} {st : Store} {o : SO} : Grow2 n q st (st.set q o) := ⟨by rw [List.length_set]; exact Nat.le_refl _, fun i u _ hq h => by rw [List.getElem?_set_ne (fun z => hq z.symm)]; exact h⟩
theorem met_lst_ex {c : CallT} {a : EM} {ar : AM} {ρ : Rho} {st s1 s2 : Store} {has : Str → Str → Bool} {m : Str} {n : Nat} {l0 : List D} {e : Xc} (h : a ρ st = .ok (.ref n) s1) (o : s1[n]? = some (.lst l0)) (hm : lmOk m = true) (k : ar ρ s1 = .ex e s2) : metM c has m a ar ρ st = .ex e s2 := by
  unfold metM
  rw [h, bind_ok, rcv_lst o hm]
  dsimp only
  rw [k]
  rfl
theorem arg_ex {a : EM} {ar : AM} {ρ : Rho} {st s1 : Store} {e : Xc} (h : a ρ st = .ex e s1) : consA a ar ρ st = .ex e s1 := by unfold consA; rw [h]; rfl
theorem expr_ex {a : EM} {ρ : Rho} {st s1 : Store} {e : Xc} (h : a ρ st = .ex e s1) : exprS a ρ st = .ex e ρ s1 := by unfold exprS; rw [h]; rfl
def eB (c : CallT) : SM := (seqS (ifS (tvM (varM 2)) (seqS (ifS (notM (tvM (metM c pg.meth "is_at" (varM 0) (consA (cM (.str [32])) nilA)))) (seqS (rseFS "Malformed" "at" (fldM pg.xfP "at" (varM 0))) skipS) skipS) (seqS (fldAugS "at" .Add (varM 0) (cM (.int (1)))) skipS)) skipS) (seqS (exprS (metM c pg.meth "append" (varM 2) (consA (metM c pg.meth "term" (varM 0) (consA (varM 1) nilA)) nilA))) skipS))
def eC (c : CallT) : TM := notM (tvM (metM c pg.meth "is_at" (varM 0) (consA (cM (.str [41])) nilA)))
/-- what the loop over entries gives -/
def LSays (r : RS) (n q : Nat) (s : List Nat) (ρ : Rho) (st : Store) : Res → Prop
  | .ok t e => ∃ l' st', t = .tup l' ∧ r = .go .nx ρ st' ∧ st'[n]? = some (rdr s (e - 1)) ∧ 1 ≤ e ∧ st'[q]? = some (.lst (l'.map D.p)) ∧ l'.length ≤ e ∧ Grow2 n q st st'
  | .bad e => ∃ ρ' st', r = .ex (mal e) ρ' st'
theorem LSays.grow {r : RS} {n q : Nat} {s : List Nat} {ρ : Rho} {st st0 : Store} {x : Res} (h : LSays r n q s ρ st x) (g : Grow2 n q st0 st) : LSays r n q s ρ st0 x := by
  cases x with
  | bad e => exact h
  | ok t e =>
    obtain ⟨l', st', i1, i2, i3, i4, i5, i6, i7⟩ := h
    exact ⟨l', st', i1, i2, i3, i4, i5, i6, g.trans i7⟩
def aft (pt : Nat → Res) (s : List Nat) (f : Nat) (l : List P) (b : Nat) : Res := match pt b with
  | .bad e => .bad e
  | .ok t e => pEnt pt s f e (l ++ [t])
theorem pEnt_eq (pt : Nat → Res) (s : List Nat) (f a : Nat) (l : List P) : pEnt pt s (f + 1) a l = if isAt s a [41] then .ok (.tup l) (a + 1) else if !l.isEmpty && !isAt s a [32] then .bad a else aft pt s f l (if l.isEmpty then a else a + 1) := rfl
theorem ent_loop (k n q : Nat) (s : List Nat) (dep : D) (pt : Nat → Res) (hs : s.length < 100000) (hdx : isX dep = false) (hq : q ≠ n) (mv : Moves s pt)
    (ht : ∀ a st, st[n]? = some (rdr s a) → SaysG (runF pg.T (k + 2) ("Reading", some ("term" : Str)) [.ref n, dep] st) n s st (pt a)) :
    ∀ (f m a : Nat) (l : List P) (st : Store), s.length - a < f → s.length - a < m → l.length ≤ a → st[n]? = some (rdr s a) → st[q]? = some (.lst (l.map D.p)) →
      LSays (whlS (eC (runF pg.T (k + 2))) (eB (runF pg.T (k + 2))) m [some (.ref n), some dep, some (.ref q)] st) n q s [some (.ref n), some dep, some (.ref q)] st (pEnt pt s f a l)
  | 0, _, _, _, _, hf, _, _, _, _ => by omega
  | _ + 1, 0, _, _, _, _, hm, _, _, _ => by omega
  | f + 1, m + 1, a, l, st, hf, hm, hla, hn, hl => by
    have hln := len_line hs
    have hlt : n < st.length := (List.getElem?_eq_some_iff.mp hn).1
    have hqt : q < st.length := (List.getElem?_eq_some_iff.mp hl).1
    generalize hρ : ([some (.ref n), some dep, some (.ref q)] : Rho) = ρ
    have v0 : ∀ st, varM 0 ρ st = .ok (.ref n) st := fun st => by rw [← hρ]; rfl
    have v1 : ∀ st, varM 1 ρ st = .ok dep st := fun st => by rw [← hρ]; rfl
    have v2 : ∀ st, varM 2 ρ st = .ok (.ref q) st := fun st => by rw [← hρ]; rfl
    have at_ : ∀ z, tvM (metM (runF pg.T (k + 2)) pg.meth "is_at" (varM 0) (consA (cM (.str z)) nilA)) ρ st = .ok (isAt s a z) st := fun z => tv_st (isAt_met hln hn (v0 st)) rfl
    have cond : eC (runF pg.T (k + 2)) ρ st = .ok (!isAt s a [41]) st := not_st (at_ [41])
    have step : whlS (eC (runF pg.T (k + 2))) (eB (runF pg.T (k + 2))) (m + 1) ρ st = if (!isAt s a [41]) = true then loopK (eB (runF pg.T (k + 2)) ρ st) (whlS (eC (runF pg.T (k + 2))) (eB (runF pg.T (k + 2))) m) else .go .nx ρ st := by
      show RS.of (eC _ _ _) _ _ = _
      rw [cond]
      rfl
    rw [step, pEnt_eq]
    cases c1 : isAt s a [41] with
    | true =>
      simp only [Bool.not_true, Bool.false_eq_true, if_false, if_true]
      exact ⟨l, st, rfl, rfl, by rw [Nat.add_sub_cancel]; exact hn, by omega, hl, by omega, ⟨Nat.le_refl _, fun _ _ _ _ h => h⟩⟩
    | false =>
      simp only [Bool.false_eq_true, if_false, Bool.not_false, if_true]
      have tru : tvM (varM 2) ρ st = .ok (!l.isEmpty) st := by
        refine tv_st (v2 st) ?_
        show (match st[q]? with
          | some (.lst l) => R.ok (!l.isEmpty) st
          | some (.ro l) => .ok (!l.isEmpty) st
          | some (.dic kvs) => .ok (!kvs.isEmpty) st
          | _ => .no) = _
        rw [hl]
        show R.ok (!(l.map D.p).isEmpty) st = _
        rw [List.isEmpty_map]
      -- past the blank
      have tail : ∀ (b : Nat) (st1 : Store), a ≤ b → b ≤ a + 1 → st1[n]? = some (rdr s b) → st1[q]? = some (.lst (l.map D.p)) → Grow2 n q st st1 →
          LSays (loopK (seqS (exprS (metM (runF pg.T (k + 2)) pg.meth "append" (varM 2) (consA (metM (runF pg.T (k + 2)) pg.meth "term" (varM 0) (consA (varM 1) nilA)) nilA))) skipS ρ st1) (whlS (eC (runF pg.T (k + 2))) (eB (runF pg.T (k + 2))) m)) n q s ρ st (aft pt s f l b) := fun b st1 hab hab2 hn1 hl1 gr => by
        have hT := ht b st1 hn1
        unfold aft
        cases qq : pt b with
        | bad e =>
          rw [qq] at hT
          obtain ⟨st', e1⟩ := hT
          have z := seq_ex (y := skipS) (expr_ex (met_lst_ex (c := runF pg.T (k + 2)) (has := pg.meth) (m := "append") (n := q) (v2 st1) hl1 rfl (arg_ex (ar := nilA) (met_ins (c := runF pg.T (k + 2)) (has := pg.meth) (m := "term") (n := n) (v0 st1) hn1 (by kernel_rfl) rfl (arg1 (v1 st1) hdx) e1))))
          exact ⟨_, st', by rw [z]; rfl⟩
        | ok t e =>
          rw [qq] at hT
          obtain ⟨st2, e1, e2, e3⟩ := hT
          obtain ⟨g1, g2⟩ := mv b t e qq
          have hl2 := e3.2 q _ hq hl1
          have hq2 : q < st2.length := (List.getElem?_eq_some_iff.mp hl2).1
          have app : mList q (l.map D.p) "append" [.p t] st2 = .ok (.p .non) (st2.set q (.lst ((l ++ [t]).map D.p))) := by
            have hlen : (l.map D.p).length < line := by rw [List.length_map]; unfold line; omega
            show (if (l.map D.p).length < line then R.ok (D.p .non) (st2.set q (.lst (l.map D.p ++ [D.p t]))) else R.no) = _
            rw [if_pos hlen, List.map_append]
            rfl
          have z := seq_nx (y := skipS) (r := .go .nx ρ (st2.set q (.lst ((l ++ [t]).map D.p)))) (expr_st (met_lst (c := runF pg.T (k + 2)) (has := pg.meth) (m := "append") (n := q) (v2 st1) hl1 rfl (arg1 (d := .p t) (met_ins (c := runF pg.T (k + 2)) (has := pg.meth) (m := "term") (n := n) (v0 st1) hn1 (by kernel_rfl) rfl (arg1 (v1 st1) hdx) e1) rfl) hl2 app)) rfl
          rw [z]
          have e2' : (st2.set q (.lst ((l ++ [t]).map D.p)))[n]? = some (rdr s e) := by rw [List.getElem?_set_ne hq]; exact e2
          have ih := ent_loop k n q s dep pt hs hdx hq mv ht f m e (l ++ [t]) (st2.set q (.lst ((l ++ [t]).map D.p))) (by omega) (by omega) (by rw [List.length_append, List.length_singleton]; omega) e2' (List.getElem?_set_self hq2)
          rw [hρ] at ih
          exact ih.grow ((gr.trans e3.two).trans grow2_set)
      have out : ∀ (st1 : Store) (y : SM) (ρ1 : Rho), ifS (tvM (varM 2)) (seqS (ifS (notM (tvM (metM (runF pg.T (k + 2)) pg.meth "is_at" (varM 0) (consA (cM (.str [32])) nilA)))) (seqS (rseFS "Malformed" "at" (fldM pg.xfP "at" (varM 0))) skipS) skipS) (seqS (fldAugS "at" .Add (varM 0) (cM (.int (1)))) skipS)) skipS ρ st = .go .nx ρ st1 → eB (runF pg.T (k + 2)) ρ st = seqS (exprS (metM (runF pg.T (k + 2)) pg.meth "append" (varM 2) (consA (metM (runF pg.T (k + 2)) pg.meth "term" (varM 0) (consA (varM 1) nilA)) nilA))) skipS ρ st1 := fun st1 y ρ1 h => seq_nx h rfl
      cases c2 : l.isEmpty with
      | true =>
        rw [c2] at tru
        rw [out st skipS ρ (if_skip tru)]
        exact tail a st (Nat.le_refl _) (by omega) hn hl ⟨Nat.le_refl _, fun _ _ _ _ h => h⟩
      | false =>
        rw [c2] at tru
        cases c3 : isAt s a [32] with
        | false =>
          have z : eB (runF pg.T (k + 2)) ρ st = .ex (mal a) ρ st := seq_ex (if_yes tru (seq_ex (if_yes (not_st (k := false) ((at_ [32]).trans (by rw [c3]))) (seq_ex (rse_st (fld_st (n := n) (v0 st) hn rfl rfl))))))
          rw [z]
          exact ⟨ρ, st, rfl⟩
        | true =>
          have z := if_yes (y := skipS) tru (seq_nx (y := seqS (fldAugS "at" .Add (varM 0) (cM (.int (1)))) skipS) (if_skip (x := seqS (rseFS "Malformed" "at" (fldM pg.xfP "at" (varM 0))) skipS) (not_st (k := true) ((at_ [32]).trans (by rw [c3])))) (seq_nx (y := skipS) (adv_run (runF pg.T (k + 2)) n s a st ρ hn (v0 st)) rfl))
          rw [out (st.set n (rdr s (a + 1))) skipS ρ z]
          exact tail (a + 1) _ (by omega) (Nat.le_refl _) (List.getElem?_set_self hlt) (by rw [List.getElem?_set_ne (fun w => hq w.symm)]; exact hl) grow_set.two
end K20
end S_K20k

section S_K20l
set_option Elab.async false
set_option linter.all false
set_option maxRecDepth 100000
set_option maxHeartbeats 1000000
namespace K20
open PySem L2 Lt
theorem m8_eq (c : CallT) : m8 c = seqS (fldAugS "at" .Add (varM 0) (cM (.int (1)))) (seqS (asgS (.nm 2) (lstM nilA)) (seqS (whlS (eC c) (eB c) 100000) (seqS (fldAugS "at" .Add (varM 0) (cM (.int (1)))) (seqS (retS (appM bTuple (consA (varM 2) nilA))) skipS)))) := rfl
theorem ent_run (k n : Nat) (s : List Nat) (dep : D) (pt : Nat → Res) (a : Nat) (st : Store) (hs : s.length < 100000) (hdx : isX dep = false) (mv : Moves s pt) (hn : st[n]? = some (rdr s a)) (ha : a < s.length)
    (ht : ∀ a st, st[n]? = some (rdr s a) → SaysG (runF pg.T (k + 2) ("Reading", some ("term" : Str)) [.ref n, dep] st) n s st (pt a)) :
    SaysG (runF pg.T (k + 3) ("Reading", some ("entries" : Str)) [.ref n, dep] st) n s st (pEnt pt s (s.length + 1) (a + 1) []) := by
  have hlt : n < st.length := (List.getElem?_eq_some_iff.mp hn).1
  rw [r8]
  have h1 : (st.set n (rdr s (a + 1)))[n]? = some (rdr s (a + 1)) := List.getElem?_set_self hlt
  have hlen : (st.set n (rdr s (a + 1))).length = st.length := by rw [List.length_set]
  have hq : st.length ≠ n := by omega
  generalize hst1 : st.set n (rdr s (a + 1)) ++ [SO.lst []] = st1
  have n1 : st1[n]? = some (rdr s (a + 1)) := by rw [← hst1, List.getElem?_append_left (by rw [hlen]; exact hlt)]; exact h1
  have q1 : st1[st.length]? = some (.lst (([] : List P).map D.p)) := by rw [← hst1, List.getElem?_append_right (by rw [hlen]; exact Nat.le_refl _), hlen, Nat.sub_self]; rfl
  have gr : ∀ i o, i ≠ n → st[i]? = some o → st1[i]? = some o := fun i o hi h => by
    have hil := (List.getElem?_eq_some_iff.mp h).1
    rw [← hst1, List.getElem?_append_left (by rw [hlen]; exact hil), List.getElem?_set_ne (fun z => hi z.symm)]
    exact h
  have lp := ent_loop k n st.length s dep pt hs hdx hq mv ht (s.length + 1) 100000 (a + 1) [] st1 (by omega) (by omega) (Nat.zero_le _) n1 q1
  have start : ∀ (y : SM) (r : RS), y [some (.ref n), some dep, some (.ref st.length)] st1 = r → seqS (fldAugS "at" .Add (varM 0) (cM (.int (1)))) (seqS (asgS (.nm 2) (lstM nilA)) y) (startR 3 [.ref n, dep]) st = r := fun y r e => by
    refine seq_nx (adv_run (runF pg.T (k + 2)) n s a st _ hn rfl) (seq_nx (asg_st (d := .ref st.length) (s1 := st1) ?_) e)
    show (if (0 : Nat) ≤ line then R.ok (D.ref (st.set n (rdr s (a + 1))).length) (st.set n (rdr s (a + 1)) ++ [SO.lst []]) else .no) = _
    rw [if_pos (Nat.zero_le _), hlen, hst1]
  cases q : pEnt pt s (s.length + 1) (a + 1) [] with
  | bad e =>
    rw [q] at lp
    obtain ⟨ρ', st', i1⟩ := lp
    exact ⟨st', runB_ex rfl (by rw [m8_eq]; exact start _ _ (seq_ex i1))⟩
  | ok t e =>
    rw [q] at lp
    obtain ⟨l', st', i1, i2, i3, i4, i5, i6, i7⟩ := lp
    subst i1
    have hn' : n < st'.length := (List.getElem?_eq_some_iff.mp i3).1
    have e1 : e - 1 + 1 = e := by omega
    have fin : bTuple [.ref st.length] (st'.set n (rdr s e)) = .ok (.p (.tup l')) (st'.set n (rdr s e)) := by
      have z : (st'.set n (rdr s e))[st.length]? = some (.lst (l'.map D.p)) := by rw [List.getElem?_set_ne hq.symm]; exact i5
      show (match (match (st'.set n (rdr s e))[st.length]? with
        | some (.lst l) => some l
        | some (.ro l) => some l
        | _ => none) with
        | some l => R.ok (mkTup l) (st'.set n (rdr s e))
        | none => R.no) = _
      rw [z]
      show R.ok (mkTup (l'.map D.p)) _ = _
      rw [mkTup_map]
    have adv := adv_run (runF pg.T (k + 2)) n s (e - 1) st' [some (.ref n), some dep, some (.ref st.length)] i3 rfl
    rw [e1] at adv
    refine ⟨st'.set n (rdr s e), runB_rt rfl (by rw [m8_eq]; exact start _ _ (seq_nx i2 (seq_nx adv (seq_rt (ret_st (app_st (arg1 (d := .ref st.length) rfl rfl) fin) rfl))))), List.getElem?_set_self hn', ?_, fun i o hi h => ?_⟩
    · rw [List.length_set]
      have := i7.1
      rw [← hst1, List.length_append, hlen] at this
      omega
    · rw [List.getElem?_set_ne (fun z => hi z.symm)]
      have hil := (List.getElem?_eq_some_iff.mp h).1
      exact i7.2 i o hi (by omega) (gr i o hi h)
end K20
end S_K20l

section S_K20m
set_option Elab.async false
set_option linter.all false
set_option maxRecDepth 100000
set_option maxHeartbeats 1000000
namespace K20
open PySem L2 Lt
/-- what term does past the opening sign -/
def tR (c : CallT) : SM := (seqS (ifS (tvM (metM c pg.meth "is_at" (varM 0) (consA (cM (.str [46])) nilA))) (seqS (fldAugS "at" .Add (varM 0) (cM (.int (1)))) (seqS (retS (cM (.str []))) skipS)) skipS) (seqS (ifS (tvM (metM c pg.meth "is_at" (varM 0) (consA (cM (.str SML)) nilA))) (seqS (asgS (.nm 2) (metM c pg.meth "take" (varM 0) (consA (cM (.str SML)) nilA))) (seqS (retS (ifeM (tbM (op2M (cmpD .Eq) (varM 2) (cM (.str NON)))) (cM .non) (varM 2))) skipS)) skipS) (seqS (retS (metM c pg.meth "integer" (varM 0) nilA)) skipS)))
theorem m7_eq (c : CallT) : m7 c = seqS (ifS (tvM (metM c pg.meth "is_at" (varM 0) (consA (cM (.str [40])) nilA))) (seqS (ifS (tbM (op2M (cmpD .Eq) (varM 1) (cM (.int (12))))) (seqS (rseFS "Malformed" "at" (fldM pg.xfP "at" (varM 0))) skipS) skipS) (seqS (retS (metM c pg.meth "entries" (varM 0) (consA (op2M (binD .Add) (varM 1) (cM (.int (1)))) nilA))) skipS)) skipS) (tR c) := rfl
def pRest (s : List Nat) (a : Nat) : Res := if isAt s a [46] then .ok (.str []) (a + 1)
    else if isAt s a SML then .ok (if part s SML a = NON then .non else .str (part s SML a)) (endp s SML a)
    else pInt s a
theorem rest_run (k n : Nat) (s : List Nat) (dep : D) (a : Nat) (st : Store) (hs : s.length < 100000) (hn : st[n]? = some (rdr s a)) :
    (match pRest s a with
    | .ok t e => ∃ ρ, tR (runF pg.T (k + 4)) [some (.ref n), some dep, none] st = .go (.rt (.p t)) ρ (st.set n (rdr s e))
    | .bad e => ∃ ρ b, tR (runF pg.T (k + 4)) [some (.ref n), some dep, none] st = .ex (mal e) ρ (st.set n (rdr s b))) := by
  have hln := len_line hs
  have hlt : n < st.length := (List.getElem?_eq_some_iff.mp hn).1
  have at_ : ∀ z, tvM (metM (runF pg.T (k + 4)) pg.meth "is_at" (varM 0) (consA (cM (.str z)) nilA)) [some (.ref n), some dep, none] st = .ok (isAt s a z) st := fun z => tv_st (isAt_met (k := k + 2) hln hn rfl) rfl
  unfold pRest
  cases c1 : isAt s a [46] with
  | true =>
    simp only [if_true]
    exact ⟨_, seq_rt (if_yes ((at_ [46]).trans (by rw [c1])) (seq_nx (adv_run (runF pg.T (k + 4)) n s a st _ hn rfl) (seq_rt (ret_st rfl rfl))))⟩
  | false =>
    simp only [Bool.false_eq_true, if_false]
    cases c2 : isAt s a SML with
    | true =>
      simp only [if_true]
      have tk := take_run (k + 1) n s SML a st hs hn
      have h2 : metM (runF pg.T (k + 4)) pg.meth "take" (varM 0) (consA (cM (.str SML)) nilA) [some (.ref n), some dep, none] st = .ok (ds (part s SML a)) (st.set n (rdr s (endp s SML a))) := met_ins (n := n) rfl hn (by kernel_rfl) rfl (arg1 (d := ds SML) rfl rfl) tk
      have cmp : tbM (op2M (cmpD .Eq) (varM 2) (cM (.str NON))) [some (.ref n), some dep, some (ds (part s SML a))] (st.set n (rdr s (endp s SML a))) = .ok (decide (part s SML a = NON)) (st.set n (rdr s (endp s SML a))) := tb_st (op2_st (d := ds (part s SML a)) (d2 := ds NON) rfl rfl rfl)
      refine ⟨_, seq_nx (if_skip ((at_ [46]).trans (by rw [c1]))) (seq_rt (if_yes ((at_ SML).trans (by rw [c2])) (seq_nx (asg_st h2) (seq_rt (ret_st ?_ rfl)))))⟩
      by_cases q : part s SML a = NON
      · rw [if_pos q]
        exact ife_yes (cmp.trans (by rw [decide_eq_true q])) rfl
      · rw [if_neg q]
        exact ife_no (cmp.trans (by rw [decide_eq_false q])) rfl
    | false =>
      simp only [Bool.false_eq_true, if_false]
      have z := int_run k n s a st hs hn
      cases q : pInt s a with
      | ok t e =>
        rw [q] at z
        exact ⟨_, seq_nx (if_skip ((at_ [46]).trans (by rw [c1]))) (seq_nx (if_skip ((at_ SML).trans (by rw [c2]))) (seq_rt (ret_st (met_ins (n := n) rfl hn (by kernel_rfl) rfl rfl z) rfl)))⟩
      | bad e =>
        rw [q] at z
        obtain ⟨b, z⟩ := z
        exact ⟨_, b, seq_nx (if_skip ((at_ [46]).trans (by rw [c1]))) (seq_nx (if_skip ((at_ SML).trans (by rw [c2]))) (seq_ex (ret_ex (met_ins (n := n) rfl hn (by kernel_rfl) rfl rfl z))))⟩
theorem pTerm_zero (s : List Nat) (a : Nat) : pTerm s 0 a = if isAt s a [40] then .bad a else pRest s a := rfl
theorem pTerm_succ (s : List Nat) (r a : Nat) : pTerm s (r + 1) a = if isAt s a [40] then pEnt (pTerm s r) s (s.length + 1) (a + 1) [] else pRest s a := rfl
theorem term_run (s : List Nat) (n : Nat) (hs : s.length < 100000) : ∀ (r K : Nat), r ≤ 12 → ∀ (a : Nat) (st : Store), st[n]? = some (rdr s a) → SaysG (runF pg.T (K + 2 * r + 5) ("Reading", some ("term" : Str)) [.ref n, di ((12 - r : Nat) : Int)] st) n s st (pTerm s r a) := by
  have hln := len_line hs
  intro r
  induction r with
  | zero =>
    intro K hr a st hn
    have hlt : n < st.length := (List.getElem?_eq_some_iff.mp hn).1
    have at_ : tvM (metM (runF pg.T (K + 4)) pg.meth "is_at" (varM 0) (consA (cM (.str [40])) nilA)) (startR 3 [.ref n, di ((12 - 0 : Nat) : Int)]) st = .ok (isAt s a [40]) st := tv_st (isAt_met (k := K + 2) hln hn rfl) rfl
    show SaysG (runF pg.T (K + 4 + 1) _ _ _) _ _ _ _
    rw [r7, pTerm_zero]
    cases c1 : isAt s a [40] with
    | true =>
      simp only [if_true]
      exact ⟨st, runB_ex rfl (by
        rw [m7_eq]
        exact seq_ex (if_yes (at_.trans (by rw [c1])) (seq_ex (if_yes (tb_st (op2_st (d := di ((12 - 0 : Nat) : Int)) (d2 := di 12) rfl rfl rfl)) (seq_ex (rse_st (fld_st (n := n) rfl hn rfl rfl)))))))⟩
    | false =>
      simp only [Bool.false_eq_true, if_false]
      have z := rest_run K n s (di ((12 - 0 : Nat) : Int)) a st hs hn
      cases q : pRest s a with
      | ok t e =>
        rw [q] at z
        obtain ⟨ρ, z⟩ := z
        exact ⟨_, runB_rt rfl (by rw [m7_eq]; exact seq_nx (if_skip (at_.trans (by rw [c1]))) z), List.getElem?_set_self hlt, grow_set⟩
      | bad e =>
        rw [q] at z
        obtain ⟨ρ, b, z⟩ := z
        exact ⟨_, runB_ex rfl (by rw [m7_eq]; exact seq_nx (if_skip (at_.trans (by rw [c1]))) z)⟩
  | succ r ih =>
    intro K hr a st hn
    have hlt : n < st.length := (List.getElem?_eq_some_iff.mp hn).1
    generalize hd : ((12 - (r + 1) : Nat) : Int) = d
    have hd1 : d + 1 = ((12 - r : Nat) : Int) := by omega
    have hd2 : d ≠ 12 := by omega
    have at_ : tvM (metM (runF pg.T (K + 2 * r + 6)) pg.meth "is_at" (varM 0) (consA (cM (.str [40])) nilA)) (startR 3 [.ref n, di d]) st = .ok (isAt s a [40]) st := tv_st (isAt_met (k := K + 2 * r + 4) hln hn rfl) rfl
    have ek : K + 2 * (r + 1) + 5 = K + 2 * r + 6 + 1 := by omega
    rw [ek, r7, pTerm_succ]
    cases c1 : isAt s a [40] with
    | true =>
      simp only [if_true]
      have en := ent_run (K + 2 * r + 3) n s (di ((12 - r : Nat) : Int)) (pTerm s r) a st hs rfl (pTerm_moves s r) hn (isAt_lt c1) fun a st h => ih K (by omega) a st h
      have no12 : tbM (op2M (cmpD .Eq) (varM 1) (cM (.int (12)))) (startR 3 [.ref n, di d]) st = .ok false st := tb_st (op2_st (d := di d) (d2 := di 12) (s1 := st) (s2 := st) rfl rfl (by
        show R.ok (D.p (.bl (decide (d = 12)))) st = _
        rw [decide_eq_false hd2]))
      have arg : consA (op2M (binD .Add) (varM 1) (cM (.int (1)))) nilA (startR 3 [.ref n, di d]) st = .ok [di ((12 - r : Nat) : Int)] st := arg1 (op2_st (d := di d) (d2 := di 1) (s1 := st) (s2 := st) rfl rfl (by
        show R.ok (D.p (.int (d + 1))) st = _
        rw [hd1]
        rfl)) rfl
      cases q : pEnt (pTerm s r) s (s.length + 1) (a + 1) [] with
      | ok t e =>
        rw [q] at en
        obtain ⟨st', e1, e2, e3⟩ := en
        exact ⟨st', runB_rt rfl (by
          rw [m7_eq]
          exact seq_rt (if_yes (at_.trans (by rw [c1])) (seq_nx (if_skip no12) (seq_rt (ret_st (met_ins (n := n) rfl hn (by kernel_rfl) rfl arg e1) rfl))))), e2, e3⟩
      | bad e =>
        rw [q] at en
        obtain ⟨st', e1⟩ := en
        exact ⟨st', runB_ex rfl (by
          rw [m7_eq]
          exact seq_ex (if_yes (at_.trans (by rw [c1])) (seq_nx (if_skip no12) (seq_ex (ret_ex (met_ins (n := n) rfl hn (by kernel_rfl) rfl arg e1))))))⟩
    | false =>
      simp only [Bool.false_eq_true, if_false]
      have z := rest_run (K + 2 * r + 2) n s (di d) a st hs hn
      cases q : pRest s a with
      | ok t e =>
        rw [q] at z
        obtain ⟨ρ, z⟩ := z
        exact ⟨_, runB_rt rfl (by rw [m7_eq]; exact seq_nx (if_skip (at_.trans (by rw [c1]))) z), List.getElem?_set_self hlt, grow_set⟩
      | bad e =>
        rw [q] at z
        obtain ⟨ρ, b, z⟩ := z
        exact ⟨_, runB_ex rfl (by rw [m7_eq]; exact seq_nx (if_skip (at_.trans (by rw [c1]))) z)⟩
end K20
end S_K20m

section S_K20n
set_option Elab.async false
set_option linter.all false
set_option maxRecDepth 100000
set_option maxHeartbeats 1000000
namespace K20
open PySem L2 Lt
theorem init_run (k n : Nat) (s : List Nat) (st : Store) (hn : st[n]? = some (.ins "Reading" ["text", "at"] [])) : runF pg.T (k + 1) ("Reading", some ("__init__" : Str)) [.ref n, ds s] st = .ok (.p .non) (st.set n (rdr s 0)) := by
  have hlt : n < st.length := (List.getElem?_eq_some_iff.mp hn).1
  rw [r2]
  have h1 : (st.set n (.ins "Reading" ["text", "at"] [("text", ds s)]))[n]? = some (.ins "Reading" ["text", "at"] [("text", ds s)]) := List.getElem?_set_self hlt
  refine runB_nx (ρ1 := startR 2 [.ref n, ds s]) rfl (seq_nx (fldS_st (d := ds s) (n := n) (s1 := st) (s2 := st) rfl rfl rfl hn rfl (by show 0 < 1000; omega)) (seq_nx (fldS_st (d := di 0) (n := n) rfl rfl rfl h1 rfl (by show 1 < 1000; omega)) ?_))
  rw [List.set_set]
  rfl
theorem asg_ex {a : EM} {t : Tg} {ρ : Rho} {st s1 : Store} {e : Xc} (h : a ρ st = .ex e s1) : asgS t a ρ st = .ex e ρ s1 := by unfold asgS; rw [h]; rfl
/-- the whole text -/
def pRead (s : List Nat) : Res := match pTerm s 12 0 with
  | .ok t e => if e < s.length then .bad e else .ok t e
  | .bad e => .bad e
theorem read_run (K : Nat) (s : List Nat) (hs : s.length < 100000) : match pRead s with
    | .ok t _ => ∃ st', runF pg.T (K + 30) ("read_term", none) [ds s] [] = .ok (.p t) st'
    | .bad e => ∃ st', runF pg.T (K + 30) ("read_term", none) [ds s] [] = .ex (mal e) st' := by
  have hln := len_line hs
  have ini := init_run (K + 28) 0 s ([] ++ [.ins "Reading" ["text", "at"] []]) rfl
  have mk : makM (runF pg.T (K + 29)) "Reading" ["text", "at"] (consA (varM 0) nilA) (startR 3 [ds s]) [] = .ok (.ref 0) [rdr s 0] := by
    have ar : consA (varM 0) nilA (startR 3 [ds s]) [] = .ok [ds s] [] := arg1 rfl rfl
    unfold makM
    rw [ar, bind_ok]
    show (runF pg.T (K + 28 + 1) ("Reading", some ("__init__" : Str)) [.ref 0, ds s] ([] ++ [.ins "Reading" ["text", "at"] []])).bind _ = _
    rw [ini]
    rfl
  have tr := term_run s 0 hs 12 K (Nat.le_refl _) 0 [rdr s 0] rfl
  have tm : ∀ r, runF pg.T (K + 2 * 12 + 5) ("Reading", some ("term" : Str)) [.ref 0, di ((12 - 12 : Nat) : Int)] [rdr s 0] = r → metM (runF pg.T (K + 29)) pg.meth "term" (varM 1) (consA (cM (.int (0))) nilA) [some (ds s), some (.ref 0), none] [rdr s 0] = r := fun r e => met_ins (n := 0) rfl rfl (by kernel_rfl) rfl (arg1 (d := di 0) rfl rfl) e
  rw [r9]
  unfold pRead
  cases q : pTerm s 12 0 with
  | bad e =>
    rw [q] at tr
    obtain ⟨st', e1⟩ := tr
    refine ⟨st', runB_ex (ρ1 := [some (ds s), some (.ref 0), none]) rfl (seq_nx (asg_st mk) (seq_ex (asg_ex (tm _ e1))))⟩
  | ok t e =>
    rw [q] at tr
    obtain ⟨st', e1, e2, e3⟩ := tr
    have cmp : tbM (op2M (cmpD .Lt) (fldM pg.xfP "at" (varM 1)) (appM bLen (consA (varM 0) nilA))) [some (ds s), some (.ref 0), some (.p t)] st' = .ok (decide (e < s.length)) st' := by
      refine tb_st (op2_st (d := di e) (d2 := di s.length) (s1 := st') (s2 := st') (fld_st (n := 0) rfl e2 rfl rfl) (app_st (q := .ok (di s.length) st') (arg1 (d := ds s) rfl rfl) ?_) ?_)
      · show (if s.length ≤ line then okP (.int s.length) st' else R.no) = _
        rw [if_pos hln]
        rfl
      · show R.ok (D.p (.bl (decide ((e : Int) < (s.length : Int))))) st' = _
        congr 3
        exact decide_eq_decide.mpr (by omega)
    by_cases c : e < s.length
    · simp only [if_pos c]
      exact ⟨st', runB_ex rfl (seq_nx (asg_st mk) (seq_nx (asg_st (tm _ e1)) (seq_ex (if_yes (cmp.trans (by rw [decide_eq_true c])) (seq_ex (rse_st (fld_st (n := 0) rfl e2 rfl rfl)))))))⟩
    · simp only [if_neg c]
      exact ⟨st', runB_rt rfl (seq_nx (asg_st mk) (seq_nx (asg_st (tm _ e1)) (seq_nx (if_skip (cmp.trans (by rw [decide_eq_false c]))) (seq_rt (ret_st (d := .p t) rfl rfl)))))⟩
end K20
end S_K20n

section S_K20o
set_option Elab.async false
set_option linter.all false
set_option maxRecDepth 100000
set_option maxHeartbeats 1000000
namespace K20
open PySem L2 Lt
def TRM : List Nat := [116, 101, 114, 109]
def BAD : List Nat := [98, 97, 100]
/-- a reading, told as a list -/
def told : Res → List D
  | .ok t _ => [ds TRM, .p t]
  | .bad e => [ds BAD, di e]
theorem try_go {sub : Str → Option Bool} {b h : SM} {i : Option Nat} {ρ ρ2 : Rho} {st s2 : Store} {f : Fl} (n : noX ρ = true) (e : b ρ st = .go f ρ2 s2) (n2 : noX ρ2 = true) : tryS sub b i h ρ st = .go f ρ2 s2 := by
  unfold tryS
  rw [n, if_pos rfl, e]
  dsimp only
  rw [n2, if_pos rfl]
theorem try_ex {sub : Str → Option Bool} {b h : SM} {i : Nat} {ρ ρ1 ρ2 : Rho} {st s1 s2 : Store} {f : Fl} {x : Xc} (n : noX ρ = true) (e : b ρ st = .ex x ρ1 s1) (n1 : noX ρ1 = true) (hs : sub x.cls = some true) (hh : h (ρ1.set i (some (.exc x))) s1 = .go f ρ2 s2) (n2 : noX (ρ2.set i none) = true) : tryS sub b (some i) h ρ st = .go f (ρ2.set i none) s2 := by
  unfold tryS
  rw [n, if_pos rfl, e]
  dsimp only
  rw [n1, if_pos rfl, hs]
  dsimp only
  rw [hh]
  dsimp only
  rw [n2, if_pos rfl]
theorem told_run (K : Nat) (s : List Nat) (hs : s.length < 100000) : runF pg.T (K + 31) ("_law_told", none) [ds s] [] = .ok (.ref 0) [.lst (told (pRead s))] := by
  have rd := read_run K s hs
  rw [r21]
  refine runB_rt (ρ1 := [some (ds s), none]) rfl ?_
  have sub : pg.subB "Malformed" "Malformed" = some true := by kernel_rfl
  have xf : pg.xfP "Malformed" "at" = true := by kernel_rfl
  show seqS (tryS _ _ _ _) skipS [some (ds s), none] [] = _
  refine seq_rt ?_
  cases q : pRead s with
  | ok t e =>
    rw [q] at rd
    obtain ⟨st', e1⟩ := rd
    have e2 : callD (runF pg.T (K + 30)) ("read_term", none) [ds s] [] = .ok (.p t) [] := call_p rfl e1
    have b : seqS (retS (lstM (consA (cM (.str [116, 101, 114, 109])) (consA (appM (callD (runF pg.T (K + 30)) ("read_term", none)) (consA (varM 0) nilA)) nilA)))) skipS [some (ds s), none] [] = .go (.rt (.ref 0)) [some (ds s), none] [.lst (told (.ok t e))] := by
      refine seq_rt (ret_st ?_ rfl)
      have ar : consA (cM (.str [116, 101, 114, 109])) (consA (appM (callD (runF pg.T (K + 30)) ("read_term", none)) (consA (varM 0) nilA)) nilA) [some (ds s), none] [] = .ok [ds TRM, .p t] [] := arg_cons rfl rfl (arg1 (app_st (arg1 (d := ds s) rfl rfl) e2) rfl)
      unfold lstM
      rw [ar, bind_ok, if_pos (by show 2 ≤ 16777216; omega)]
      rfl
    exact try_go rfl b rfl
  | bad e =>
    rw [q] at rd
    obtain ⟨st', e1⟩ := rd
    have e2 : callD (runF pg.T (K + 30)) ("read_term", none) [ds s] [] = .ex (mal e) [] := call_pex rfl e1
    have b : seqS (retS (lstM (consA (cM (.str [116, 101, 114, 109])) (consA (appM (callD (runF pg.T (K + 30)) ("read_term", none)) (consA (varM 0) nilA)) nilA)))) skipS [some (ds s), none] [] = .ex (mal e) [some (ds s), none] [] := by
      refine seq_ex (ret_ex ?_)
      have a1 : appM (callD (runF pg.T (K + 30)) ("read_term", none)) (consA (varM 0) nilA) [some (ds s), none] [] = .ex (mal e) [] := app_st (arg1 (d := ds s) rfl rfl) e2
      have ar : consA (cM (.str [116, 101, 114, 109])) (consA (appM (callD (runF pg.T (K + 30)) ("read_term", none)) (consA (varM 0) nilA)) nilA) [some (ds s), none] [] = .ex (mal e) [] := by
        show (R.bind (consA (appM (callD (runF pg.T (K + 30)) ("read_term", none)) (consA (varM 0) nilA)) nilA [some (ds s), none] []) _ : Lt.R (List D)) = _
        rw [arg_ex a1]
        rfl
      unfold lstM
      rw [ar]
      rfl
    have h : seqS (retS (lstM (consA (cM (.str [98, 97, 100])) (consA (fldM pg.xfP "at" (varM 1)) nilA)))) skipS ([some (ds s), none].set 1 (some (.exc (mal e)))) [] = .go (.rt (.ref 0)) [some (ds s), some (.exc (mal e))] [.lst (told (.bad e))] := by
      refine seq_rt (ret_st ?_ rfl)
      have f1 : fldM pg.xfP "at" (varM 1) [some (ds s), some (.exc (mal e))] [] = .ok (di e) [] := op1_st (d := .exc (mal e)) rfl (by
        show ((match pg.xfP "Malformed" "at", (mal e).fs.lookup ("at" : Str) with
          | true, some p => okP p []
          | _, _ => .no) : Lt.R D) = _
        rw [xf]
        rfl)
      have ar : consA (cM (.str [98, 97, 100])) (consA (fldM pg.xfP "at" (varM 1)) nilA) [some (ds s), some (.exc (mal e))] [] = .ok [ds BAD, di e] [] := arg_cons rfl rfl (arg1 f1 rfl)
      show lstM _ [some (ds s), some (.exc (mal e))] [] = _
      unfold lstM
      rw [ar, bind_ok, if_pos (by show 2 ≤ 16777216; omega)]
      rfl
    exact try_ex (sub := fun x => pg.subB x "Malformed") (i := 1) rfl b rfl sub h rfl
end K20
end S_K20o

section S_K20p
set_option Elab.async false
set_option linter.all false
set_option maxRecDepth 100000
set_option maxHeartbeats 1000000
namespace K20
open PySem L2 Lt
/-! ### the law's own reader: parts -/
/-- text[i:i + 1] -/
theorem sl_sgn {ρ : Rho} {st : Store} {s : List Nat} {a i j : Nat} (h0 : varM i ρ st = .ok (ds s) st) (h1 : varM j ρ st = .ok (di a) st) (hs : s.length ≤ line) : slM (varM i) (someO (varM j)) (someO (op2M (binD .Add) (varM j) (cM (.int 1)))) ρ st = .ok (ds (sgn s a)) st := by
  refine sl_st h0 (part_st (i := (a : Int)) h1) (part_st (i := (a : Int) + 1) (op2_st h1 rfl rfl)) ?_
  show (if s.length ≤ line then okP (.str (cutL s (some (a : Int)) (some ((a : Int) + 1)))) st else R.no) = _
  rw [if_pos hs, cut_sgn]
  rfl
theorem sgn_one (s : List Nat) (a c : Nat) : decide (sgn s a = [c]) = isAt s a [c] := by
  rw [sgn_eq]
  unfold isAt
  cases s[a]? with
  | none => rfl
  | some d =>
    by_cases h : d = c
    · subst h; simp
    · simp [h]
/-- text[i:i + 1] == 'c' -/
theorem sl_eq {ρ : Rho} {st : Store} {s : List Nat} {a c i j : Nat} (h0 : varM i ρ st = .ok (ds s) st) (h1 : varM j ρ st = .ok (di a) st) (hs : s.length ≤ line) : tbM (op2M (cmpD .Eq) (slM (varM i) (someO (varM j)) (someO (op2M (binD .Add) (varM j) (cM (.int 1))))) (cM (.str [c]))) ρ st = .ok (isAt s a [c]) st := by
  refine tb_st (op2_st (d := ds (sgn s a)) (d2 := ds [c]) (s1 := st) (s2 := st) (sl_sgn h0 h1 hs) rfl ?_)
  show R.ok (D.p (.bl (decide (sgn s a = [c])))) st = _
  rw [sgn_one]
/-- whether a sign of z stands at a, asked by a < len(text) and text[a] in z -/
theorem ask_in {ρ : Rho} {st : Store} {s z : List Nat} {a i j : Nat} (h0 : varM i ρ st = .ok (ds s) st) (h1 : varM j ρ st = .ok (di a) st) (hs : s.length ≤ line) :
    andM (tbM (op2M (cmpD .Lt) (varM j) (appM bLen (consA (varM i) nilA)))) (tbM (op2M (cmpD .In) (op2M ixD (varM i) (varM j)) (cM (.str z)))) ρ st = .ok (isAt s a z) st := by
  have lt : tbM (op2M (cmpD .Lt) (varM j) (appM bLen (consA (varM i) nilA))) ρ st = .ok (decide (a < s.length)) st := by
    refine tb_st (op2_st (d := di a) (d2 := di s.length) (s1 := st) (s2 := st) h1 (app_st (q := .ok (di s.length) st) (arg1 h0 rfl) ?_) ?_)
    · show (if s.length ≤ line then okP (.int s.length) st else R.no) = _
      rw [if_pos hs]
      rfl
    · show R.ok (D.p (.bl (decide ((a : Int) < (s.length : Int))))) st = _
      congr 3
      exact decide_eq_decide.mpr (by omega)
  by_cases c : a < s.length
  · refine and_yes (lt.trans (by rw [decide_eq_true c])) ?_
    have e : s[a]? = some s[a] := List.getElem?_eq_getElem c
    have ix : op2M ixD (varM i) (varM j) ρ st = .ok (ds [s[a]]) st := by
      refine op2_st h0 h1 ?_
      have ea : atL s (a : Int) = some s[a] := by
        unfold atL atI ixN
        simp [c]
      show (if s.length ≤ line then (match atL s (a : Int) with
        | some c => okP (.str [c]) st
        | none => R.no) else R.no) = _
      rw [if_pos hs, ea]
      rfl
    refine tb_st (op2_st (d := ds [s[a]]) (d2 := ds z) (s1 := st) (s2 := st) ix rfl ?_)
    show R.ok (D.p (.bl (decide (s[a] ∈ z)))) st = _
    unfold isAt
    rw [e]
  · have e : isAt s a z = false := by
      unfold isAt
      rw [List.getElem?_eq_none (by omega)]
    rw [e]
    exact and_no (lt.trans (by rw [decide_eq_false c]))
end K20
end S_K20p

section S_K20q
set_option Elab.async false
set_option linter.all false
set_option maxRecDepth 100000
set_option maxHeartbeats 1000000
namespace K20
open PySem L2 Lt
/-- n turns of a scan -/
def adv (s z : List Nat) : Nat → Nat → Nat
  | 0, a => a
  | n + 1, a => adv s z n (if isAt s a z then a + 1 else a)
theorem adv_stay {s z : List Nat} {a : Nat} (h : isAt s a z = false) : ∀ n, adv s z n a = a
  | 0 => rfl
  | n + 1 => by
    unfold adv
    rw [h]
    exact adv_stay h n
theorem adv_endp (s z : List Nat) : ∀ (n a : Nat), s.length - a ≤ n → adv s z n a = endp s z a
  | 0, a, h => by
    have e : isAt s a z = false := by
      cases q : isAt s a z with
      | false => rfl
      | true => have := isAt_lt q; omega
    rw [endp_no e]
    rfl
  | n + 1, a, h => by
    cases q : isAt s a z with
    | false => rw [adv_stay q, endp_no q]
    | true =>
      obtain ⟨e1, e2⟩ := endp_yes q
      unfold adv
      rw [q, if_pos rfl, adv_endp s z n (a + 1) (by omega), e1]
/-- for k in ..: if at < len(text) and text[at] in z: at = at + 1 -/
theorem scan {s z : List Nat} {st : Store} {j ks : Nat} (F : Nat → Option D → Rho) (hs : s.length ≤ line) (v0 : ∀ a w, varM 0 (F a w) st = .ok (ds s) st) (vj : ∀ a w, varM j (F a w) st = .ok (di a) st) (sk : ∀ a w d, (F a w).set ks (some d) = F a (some d)) (sj : ∀ a w (b : Nat), (F a w).set j (some (di b)) = F b w) :
    ∀ (L : List D) (a : Nat) (w : Option D), ∃ w', lsS (.nm ks) (seqS (ifS (andM (tbM (op2M (cmpD .Lt) (varM j) (appM bLen (consA (varM 0) nilA)))) (tbM (op2M (cmpD .In) (op2M ixD (varM 0) (varM j)) (cM (.str z))))) (seqS (asgS (.nm j) (op2M (binD .Add) (varM j) (cM (.int 1)))) skipS) skipS) skipS) L (F a w) st = .go .nx (F (adv s z L.length a) w') st
  | [], a, w => ⟨w, rfl⟩
  | d :: L, a, w => by
    have ask := ask_in (z := z) (v0 a (some d)) (vj a (some d)) hs
    obtain ⟨w', ih⟩ := scan F hs v0 vj sk sj L (if isAt s a z then a + 1 else a) (some d)
    refine ⟨w', ?_⟩
    show loopK (seqS (ifS _ _ _) skipS ((F a w).set ks (some d)) st) _ = _
    rw [sk]
    have body : seqS (ifS (andM (tbM (op2M (cmpD .Lt) (varM j) (appM bLen (consA (varM 0) nilA)))) (tbM (op2M (cmpD .In) (op2M ixD (varM 0) (varM j)) (cM (.str z))))) (seqS (asgS (.nm j) (op2M (binD .Add) (varM j) (cM (.int 1)))) skipS) skipS) skipS (F a (some d)) st = .go .nx (F (if isAt s a z then a + 1 else a) (some d)) st := by
      cases q : isAt s a z with
      | false =>
        rw [q] at ask
        exact seq_nx (if_skip ask) rfl
      | true =>
        rw [q] at ask
        have z := asg_st (i := j) (op2_st (f := binD .Add) (d2 := di 1) (q := .ok (di ((a + 1 : Nat) : Int)) st) (b := cM (.int 1)) (vj a (some d)) rfl rfl)
        rw [sj] at z
        exact seq_nx (if_yes ask (seq_nx z rfl)) rfl
    rw [body]
    exact ih
theorem scan_all {s z : List Nat} {st : Store} {j ks : Nat} (F : Nat → Option D → Rho) (hs : s.length ≤ line) (v0 : ∀ a w, varM 0 (F a w) st = .ok (ds s) st) (vj : ∀ a w, varM j (F a w) st = .ok (di a) st) (sk : ∀ a w d, (F a w).set ks (some d) = F a (some d)) (sj : ∀ a w (b : Nat), (F a w).set j (some (di b)) = F b w) (a : Nat) (w : Option D) :
    ∃ w', forS (rngM (consA (appM bLen (consA (varM 0) nilA)) nilA)) (.nm ks) (seqS (ifS (andM (tbM (op2M (cmpD .Lt) (varM j) (appM bLen (consA (varM 0) nilA)))) (tbM (op2M (cmpD .In) (op2M ixD (varM 0) (varM j)) (cM (.str z))))) (seqS (asgS (.nm j) (op2M (binD .Add) (varM j) (cM (.int 1)))) skipS) skipS) skipS) (F a w) st = .go .nx (F (endp s z a) w') st := by
  have ln : appM bLen (consA (varM 0) nilA) (F a w) st = .ok (di s.length) st := app_st (arg1 (v0 a w) rfl) (by
    show (if s.length ≤ line then okP (.int s.length) st else R.no) = _
    rw [if_pos hs]
    rfl)
  have ok : rngOk (s.length : Int) = true := by
    unfold rngOk
    unfold line at hs
    simp only [Bool.and_eq_true, decide_eq_true_eq]
    omega
  have rg : rngM (consA (appM bLen (consA (varM 0) nilA)) nilA) (F a w) st = .ok (.ls (rngL 0 s.length)) st := by
    unfold rngM
    rw [arg1 ln rfl, bind_ok]
    show (if rngOk (s.length : Int) = true then R.ok (Itr.ls (rngL 0 s.length)) st else .no) = _
    rw [ok, if_pos rfl]
  obtain ⟨w', e⟩ := scan (z := z) F hs v0 vj sk sj (rngL 0 s.length) a w
  refine ⟨w', ?_⟩
  unfold forS
  rw [rg, of_ok]
  show lsS _ _ _ _ _ = _
  rw [e, adv_endp]
  unfold rngL
  rw [List.length_map, List.length_range]
  omega
end K20
end S_K20q

section S_K20r
set_option Elab.async false
set_option linter.all false
set_option maxRecDepth 100000
set_option maxHeartbeats 1000000
namespace K20
open PySem L2 Lt
theorem at_one {s : List Nat} {a c : Nat} (h : isAt s a [c] = true) : s[a]? = some c := by
  unfold isAt at h
  cases q : s[a]? with
  | none => rw [q] at h; cases h
  | some d =>
    rw [q] at h
    have e : d = c := by simpa using h
    rw [e]
theorem cut_minus {s : List Nat} {a : Nat} (h : isAt s a [45] = true) : (s.drop a).take (endp s FIG (a + 1) - a) = 45 :: part s FIG (a + 1) := by
  have e := at_one h
  have hl := (List.getElem?_eq_some_iff.mp e).1
  have g := endp_ge s FIG (a + 1)
  rw [List.drop_eq_getElem_cons hl, (List.getElem?_eq_some_iff.mp e).2]
  rw [show endp s FIG (a + 1) - a = (endp s FIG (a + 1) - (a + 1)) + 1 by omega, List.take_succ_cons]
  rfl
/-- int(text[start:at]) -/
theorem bint_neg {s : List Nat} {a : Nat} (h : isAt s (a + 1) FIG = true) (hl : (part s FIG (a + 1)).length ≤ 600) (st : Store) : bInt [ds (45 :: part s FIG (a + 1))] st = .ok (di (-iv (part s FIG (a + 1)))) st := by
  have e := PySem.intText_neg (x := toS (45 :: part s FIG (a + 1))) (cs := part s FIG (a + 1)) rfl (fun c hc => by
    have z := List.all_eq_true.mp (fig_all s (a + 1)) c hc
    simp only [Bool.and_eq_true, decide_eq_true_eq] at z
    exact z) (part_ne h) (by rw [toS_len, List.length_cons]; omega)
  show (if (45 :: part s FIG (a + 1)).length ≤ 640 then (match PySem.intText? (toS (45 :: part s FIG (a + 1))) with
    | some n => okP (.int n) st
    | none => R.no) else R.no) = _
  rw [if_pos (by rw [List.length_cons]; omega), e]
  rfl
end K20
end S_K20r

section S_K20s
set_option Elab.async false
set_option linter.all false
set_option maxRecDepth 100000
set_option maxHeartbeats 1000000
namespace K20
open PySem L2 Lt
/-- a result of the law's own reader, as a list: [value, at] | ['bad', at] -/
def pair : Res → List D
  | .ok t e => [.p t, di e]
  | .bad e => [ds BAD, di e]
/-- past the minus: scan, check, tell -/
def lB : SM := (seqS (asgS (.nm 3) (varM 1)) (seqS (forS (rngM (consA (appM bLen (consA (varM 0) nilA)) nilA)) (.nm 4) (seqS (ifS (andM (tbM (op2M (cmpD .Lt) (varM 1) (appM bLen (consA (varM 0) nilA)))) (tbM (op2M (cmpD .In) (op2M ixD (varM 0) (varM 1)) (cM (.str FIG))))) (seqS (asgS (.nm 1) (op2M (binD .Add) (varM 1) (cM (.int (1))))) skipS) skipS) skipS)) (seqS (ifS (tbM (op2M (cmpD .Eq) (varM 1) (varM 3))) (seqS (retS (lstM (consA (cM (.str [98, 97, 100])) (consA (varM 1) nilA)))) skipS) skipS) (seqS (ifS (andM (tbM (op2M (cmpD .Eq) (op2M ixD (varM 0) (varM 3)) (cM (.str [48])))) (tbM (op2M (cmpD .Gt) (varM 1) (op2M (binD .Add) (varM 3) (cM (.int (1))))))) (seqS (retS (lstM (consA (cM (.str [98, 97, 100])) (consA (op2M (binD .Add) (varM 3) (cM (.int (1)))) nilA)))) skipS) skipS) (seqS (ifS (tbM (op2M (cmpD .Gt) (op2M (binD .Sub) (varM 1) (varM 3)) (cM (.int (20))))) (seqS (retS (lstM (consA (cM (.str [98, 97, 100])) (consA (op2M (binD .Add) (varM 3) (cM (.int (20)))) nilA)))) skipS) skipS) (seqS (retS (lstM (consA (appM bInt (consA (slM (varM 0) (someO (varM 2)) (someO (varM 1))) nilA)) (consA (varM 1) nilA)))) skipS))))))
theorem m17_eq (c : CallT) : m17 c = seqS (asgS (.nm 2) (varM 1)) (seqS (ifS (tbM (op2M (cmpD .Eq) (slM (varM 0) (someO (varM 1)) (someO (op2M (binD .Add) (varM 1) (cM (.int (1)))))) (cM (.str [45])))) (seqS (asgS (.nm 1) (op2M (binD .Add) (varM 1) (cM (.int (1))))) (seqS (ifS (tbM (op2M (cmpD .Eq) (slM (varM 0) (someO (varM 1)) (someO (op2M (binD .Add) (varM 1) (cM (.int (1)))))) (cM (.str [48])))) (seqS (retS (lstM (consA (cM (.str [98, 97, 100])) (consA (varM 1) nilA)))) skipS) skipS) skipS)) skipS) lB) := rfl
theorem lst2 {a b : EM} {x y : D} {ρ : Rho} {st : Store} (ha : a ρ st = .ok x st) (hb : b ρ st = .ok y st) (nx : isX x = false) (ny : isX y = false) : lstM (consA a (consA b nilA)) ρ st = .ok (.ref st.length) (st ++ [.lst [x, y]]) := by
  unfold lstM
  rw [arg_cons ha nx (arg1 hb ny), bind_ok, if_pos (by show 2 ≤ 16777216; omega)]
theorem part_length (s z : List Nat) (b : Nat) : (part s z b).length = endp s z b - b := by
  rw [part_eq]
  unfold endp
  rw [Nat.add_sub_cancel_left]
theorem endp_eq {s z : List Nat} {b : Nat} : decide (((endp s z b : Nat) : Int) = (b : Int)) = !isAt s b z := by
  cases q : isAt s b z with
  | false => rw [endp_no q]; simp
  | true =>
    have := (endp_gt q).1
    simp only [Bool.not_true, decide_eq_false_iff_not]
    omega
theorem lB_run (s : List Nat) (b a0 : Nat) (v : Int) (st : Store) (hs : s.length < 100000) (hv : isAt s b FIG = true → (part s FIG b).length ≤ 20 → bInt [ds ((s.drop a0).take (endp s FIG b - a0))] st = .ok (di v) st) :
    ∃ ρ, lB [some (ds s), some (di b), some (di a0), none, none] st = .go (.rt (.ref st.length)) ρ (st ++ [.lst (pair (if !isAt s b FIG then Res.bad b else if isAt s b [48] && decide ((part s FIG b).length > 1) then .bad (b + 1) else if (part s FIG b).length > 20 then .bad (b + 20) else .ok (.int v) (endp s FIG b)))]) := by
  have hl := len_line hs
  obtain ⟨w', sc⟩ := scan_all (s := s) (z := FIG) (st := st) (j := 1) (ks := 4) (fun a w => [some (ds s), some (di a), some (di a0), some (di b), w]) hl (fun _ _ => rfl) (fun _ _ => rfl) (fun _ _ _ => rfl) (fun _ _ _ => rfl) b none
  generalize hρ : ([some (ds s), some (di (endp s FIG b : Nat)), some (di a0), some (di b), w'] : Rho) = ρ
  have sc' : forS (rngM (consA (appM bLen (consA (varM 0) nilA)) nilA)) (.nm 4) (seqS (ifS (andM (tbM (op2M (cmpD .Lt) (varM 1) (appM bLen (consA (varM 0) nilA)))) (tbM (op2M (cmpD .In) (op2M ixD (varM 0) (varM 1)) (cM (.str FIG))))) (seqS (asgS (.nm 1) (op2M (binD .Add) (varM 1) (cM (.int 1)))) skipS) skipS) skipS) [some (ds s), some (di b), some (di a0), some (di b), none] st = .go .nx ρ st := by rw [← hρ]; exact sc
  have v0 : varM 0 ρ st = .ok (ds s) st := by rw [← hρ]; rfl
  have v1 : varM 1 ρ st = .ok (di (endp s FIG b : Nat)) st := by rw [← hρ]; rfl
  have v2 : varM 2 ρ st = .ok (di a0) st := by rw [← hρ]; rfl
  have v3 : varM 3 ρ st = .ok (di b) st := by rw [← hρ]; rfl
  refine ⟨ρ, seq_nx (asg_st (d := di b) rfl) (seq_nx sc' ?_)⟩
  have t1 : tbM (op2M (cmpD .Eq) (varM 1) (varM 3)) ρ st = .ok (!isAt s b FIG) st := tb_st (op2_st v1 v3 (by
    show R.ok (D.p (.bl (decide (((endp s FIG b : Nat) : Int) = (b : Int))))) st = _
    rw [endp_eq]))
  cases c1 : isAt s b FIG with
  | false =>
    simp only [Bool.not_false, if_true]
    exact seq_rt (if_yes (t1.trans (by rw [c1]; rfl)) (seq_rt (ret_st (lst2 (a := cM (.str [98, 97, 100])) rfl v1 rfl rfl) rfl))) |>.trans (by rw [endp_no c1]; rfl)
  | true =>
    simp only [Bool.not_true, Bool.false_eq_true, if_false]
    refine seq_nx (if_skip (t1.trans (by rw [c1]; rfl))) ?_
    obtain ⟨g1, g2⟩ := endp_gt c1
    have hb := isAt_lt c1
    have pl := part_length s FIG b
    have ix : op2M ixD (varM 0) (varM 3) ρ st = .ok (ds [s[b]]) st := by
      refine op2_st v0 v3 ?_
      have ea : atL s (b : Int) = some s[b] := by
        unfold atL atI ixN
        simp [hb]
      show (if s.length ≤ line then (match atL s (b : Int) with
        | some c => okP (.str [c]) st
        | none => R.no) else R.no) = _
      rw [if_pos hl, ea]
      rfl
    have z0 : tbM (op2M (cmpD .Eq) (op2M ixD (varM 0) (varM 3)) (cM (.str [48]))) ρ st = .ok (isAt s b [48]) st := tb_st (op2_st (d2 := ds [48]) (s2 := st) ix rfl (by
      show R.ok (D.p (.bl (decide ([s[b]] = [48])))) st = _
      have e : isAt s b [48] = decide (s[b] ∈ [48]) := by
        unfold isAt
        rw [List.getElem?_eq_getElem hb]
      rw [e]
      congr 3
      exact decide_eq_decide.mpr (by simp)))
    have z1 : tbM (op2M (cmpD .Gt) (varM 1) (op2M (binD .Add) (varM 3) (cM (.int (1))))) ρ st = .ok (decide ((part s FIG b).length > 1)) st := tb_st (op2_st v1 (op2_st (q := .ok (di ((b : Int) + 1)) st) (s2 := st) (d2 := di 1) v3 rfl rfl) (by
      show R.ok (D.p (.bl (decide ((b : Int) + 1 < ((endp s FIG b : Nat) : Int))))) st = _
      congr 3
      exact decide_eq_decide.mpr (by omega)))
    have z2 : tbM (op2M (cmpD .Gt) (op2M (binD .Sub) (varM 1) (varM 3)) (cM (.int (20)))) ρ st = .ok (decide ((part s FIG b).length > 20)) st := tb_st (op2_st (d2 := di 20) (s2 := st) (op2_st (q := .ok (di (((endp s FIG b : Nat) : Int) - b)) st) v1 v3 rfl) rfl (by
      show R.ok (D.p (.bl (decide ((20 : Int) < ((endp s FIG b : Nat) : Int) - b)))) st = _
      congr 3
      exact decide_eq_decide.mpr (by omega)))
    have t2 : andM (tbM (op2M (cmpD .Eq) (op2M ixD (varM 0) (varM 3)) (cM (.str [48])))) (tbM (op2M (cmpD .Gt) (varM 1) (op2M (binD .Add) (varM 3) (cM (.int (1)))))) ρ st = .ok (isAt s b [48] && decide ((part s FIG b).length > 1)) st := by
      cases q : isAt s b [48] with
      | false => exact and_no (z0.trans (by rw [q]))
      | true => exact and_yes (z0.trans (by rw [q])) z1
    have more : ∀ k : Nat, op2M (binD .Add) (varM 3) (cM (.int (k : Int))) ρ st = .ok (di ((b + k : Nat) : Int)) st := fun k => op2_st (d2 := di k) (s2 := st) v3 rfl (by
      show R.ok (D.p (.int ((b : Int) + (k : Int)))) st = _
      congr 3)
    by_cases q1 : (isAt s b [48] && decide ((part s FIG b).length > 1)) = true
    · rw [if_pos q1]
      exact seq_rt (if_yes (t2.trans (by rw [q1])) (seq_rt (ret_st (lst2 (a := cM (.str [98, 97, 100])) rfl (more 1) rfl rfl) rfl)))
    · rw [if_neg q1]
      have q1' := (Bool.not_eq_true _).mp q1
      refine seq_nx (if_skip (t2.trans (by rw [q1']))) ?_
      by_cases q2 : (part s FIG b).length > 20
      · rw [if_pos q2]
        exact seq_rt (if_yes (z2.trans (by rw [decide_eq_true q2])) (seq_rt (ret_st (lst2 (a := cM (.str [98, 97, 100])) rfl (more 20) rfl rfl) rfl)))
      · rw [if_neg q2]
        refine seq_nx (if_skip (z2.trans (by rw [decide_eq_false q2]))) (seq_rt (ret_st (lst2 (x := di v) ?_ v1 rfl rfl) rfl))
        refine app_st (arg1 (d := ds ((s.drop a0).take (endp s FIG b - a0))) (sl_st v0 (part_st (i := (a0 : Int)) v2) (part_st (i := ((endp s FIG b : Nat) : Int)) v1) ?_) rfl) (hv c1 (by omega))
        show (if s.length ≤ line then okP (.str (cutL s (some (a0 : Int)) (some ((endp s FIG b : Nat) : Int)))) st else R.no) = _
        rw [if_pos hl, cut_nat]
        rfl
end K20
end S_K20s

section S_K20t
set_option Elab.async false
set_option linter.all false
set_option maxRecDepth 100000
set_option maxHeartbeats 1000000
namespace K20
open PySem L2 Lt
theorem lint_run (k : Nat) (s : List Nat) (a : Nat) (hs : s.length < 100000) : runF pg.T (k + 1) ("_law_integer", none) [ds s, di a] [] = .ok (.ref 0) [.lst (pair (pInt s a))] := by
  have hl := len_line hs
  rw [r17]
  have st0 : startR 5 [ds s, di a] = [some (ds s), some (di a), none, none, none] := rfl
  have min : tbM (op2M (cmpD .Eq) (slM (varM 0) (someO (varM 1)) (someO (op2M (binD .Add) (varM 1) (cM (.int (1)))))) (cM (.str [45]))) [some (ds s), some (di a), some (di a), none, none] [] = .ok (isAt s a [45]) [] := sl_eq rfl rfl hl
  unfold pInt
  dsimp only
  cases q : isAt s a [45] with
  | false =>
    rw [q] at min
    obtain ⟨ρ, e⟩ := lB_run s a a (iv (part s FIG a)) [] hs fun h hlen => bint_run h (by omega) []
    simp only [Bool.false_and, Bool.or_false, Bool.false_eq_true, if_false]
    exact runB_rt rfl (by rw [m17_eq, st0]; exact seq_nx (asg_st (d := di a) rfl) (seq_nx (if_skip min) e))
  | true =>
    rw [q] at min
    simp only [Bool.true_and, if_true]
    have zer : tbM (op2M (cmpD .Eq) (slM (varM 0) (someO (varM 1)) (someO (op2M (binD .Add) (varM 1) (cM (.int (1)))))) (cM (.str [48]))) [some (ds s), some (di ((a + 1 : Nat) : Int)), some (di a), none, none] [] = .ok (isAt s (a + 1) [48]) [] := sl_eq rfl rfl hl
    have stp : asgS (.nm 1) (op2M (binD .Add) (varM 1) (cM (.int (1)))) [some (ds s), some (di a), some (di a), none, none] [] = .go .nx [some (ds s), some (di ((a + 1 : Nat) : Int)), some (di a), none, none] [] := asg_st (d := di ((a + 1 : Nat) : Int)) (op2_st (d := di a) (d2 := di 1) (s1 := []) (s2 := []) rfl rfl rfl)
    cases q2 : isAt s (a + 1) [48] with
    | true =>
      rw [q2] at zer
      simp only [Bool.or_true, if_true]
      exact runB_rt rfl (by rw [m17_eq, st0]; exact seq_nx (asg_st (d := di a) rfl) (seq_rt (if_yes min (seq_nx stp (seq_rt (if_yes zer (seq_rt (ret_st (lst2 (a := cM (.str [98, 97, 100])) (y := di ((a + 1 : Nat) : Int)) rfl rfl rfl rfl) rfl))))))))
    | false =>
      rw [q2] at zer
      obtain ⟨ρ, e⟩ := lB_run s (a + 1) a (-iv (part s FIG (a + 1))) [] hs fun h hlen => by
        rw [cut_minus q]
        exact bint_neg h (by omega) []
      rw [q2] at e
      simp only [Bool.or_false]
      exact runB_rt rfl (by rw [m17_eq, st0]; exact seq_nx (asg_st (d := di a) rfl) (seq_nx (if_yes min (seq_nx stp (seq_nx (if_skip zer) rfl))) e))
end K20
end S_K20t

section S_K20u
set_option Elab.async false
set_option linter.all false
set_option maxRecDepth 100000
set_option maxHeartbeats 1000000
namespace K20
open PySem L2 Lt
/-- a result of the law's own reader lies in the store -/
def PairIs (r : Lt.R D) (q : Res) : Prop := ∃ n st', r = .ok (.ref n) st' ∧ st'[n]? = some (.lst (pair q))
theorem pair_sh (k : Nat) (q : Res) : shDs k (pair q) = pair q := by cases q <;> rfl
theorem call_pair {c : CallT} {f : Defn} {l : List D} {st : Store} {q : Res} (hp : allP l = true) (h : PairIs (c f l []) q) : ∃ n t, callD c f l st = .ok (.ref n) (st ++ t) ∧ (st ++ t)[n]? = some (.lst (pair q)) := by
  obtain ⟨n, st', e, g⟩ := h
  refine ⟨st.length + n, st'.map (shO st.length), ?_, ?_⟩
  · unfold callD
    rw [if_pos hp, e]
    rfl
  · rw [List.getElem?_append_right (Nat.le_add_right _ _), Nat.add_sub_cancel_left, List.getElem?_map, g]
    show some (SO.lst (shDs st.length (pair q))) = _
    rw [pair_sh]
theorem var_str {ρ : Rho} {st : Store} {i : Nat} {x y : List Nat} (h : varM i ρ st = .ok (ds x) st) : tbM (op2M (cmpD .Eq) (varM i) (cM (.str y))) ρ st = .ok (decide (x = y)) st := tb_st (op2_st (d2 := ds y) (s2 := st) h rfl rfl)
/-- text[i:i + 1] != 'c' -/
theorem sl_ne {ρ : Rho} {st : Store} {s : List Nat} {a c i j : Nat} (h0 : varM i ρ st = .ok (ds s) st) (h1 : varM j ρ st = .ok (di a) st) (hs : s.length ≤ line) : tbM (op2M (cmpD .NotEq) (slM (varM i) (someO (varM j)) (someO (op2M (binD .Add) (varM j) (cM (.int 1))))) (cM (.str [c]))) ρ st = .ok (!isAt s a [c]) st := by
  refine tb_st (op2_st (d := ds (sgn s a)) (d2 := ds [c]) (s1 := st) (s2 := st) (sl_sgn h0 h1 hs) rfl ?_)
  show R.ok (D.p (.bl (!decide (sgn s a = [c])))) st = _
  rw [sgn_one]
theorem one_more {ρ : Rho} {st : Store} {a j : Nat} (h : varM j ρ st = .ok (di a) st) : op2M (binD .Add) (varM j) (cM (.int 1)) ρ st = .ok (di ((a + 1 : Nat) : Int)) st := op2_st (d2 := di 1) (s2 := st) h rfl rfl
theorem sgn_in {ρ : Rho} {st : Store} {s z : List Nat} {a i : Nat} (h : varM i ρ st = .ok (ds (sgn s a)) st) : andM (tbM (op2M (cmpD .NotEq) (varM i) (cM (.str [])))) (tbM (op2M (cmpD .In) (varM i) (cM (.str z)))) ρ st = .ok (isAt s a z) st := by
  rw [sgn_eq] at h
  unfold isAt
  cases q : s[a]? with
  | none =>
    rw [q] at h
    exact and_no (tb_st (op2_st (d2 := ds []) (s2 := st) h rfl rfl))
  | some c =>
    rw [q] at h
    exact and_yes (tb_st (op2_st (d2 := ds []) (s2 := st) h rfl rfl)) (tb_st (op2_st (d2 := ds z) (s2 := st) h rfl rfl))
/-- no word of s is 'bad' -/
def NoBad (s : List Nat) : Prop := ∀ a, part s SML a ≠ BAD
/-- past the opening sign -/
def rW (c : CallT) : SM := (seqS (ifS (tbM (op2M (cmpD .Eq) (varM 3) (cM (.str [46])))) (seqS (retS (lstM (consA (cM (.str [])) (consA (op2M (binD .Add) (varM 1) (cM (.int (1)))) nilA)))) skipS) skipS) (seqS (ifS (andM (tbM (op2M (cmpD .NotEq) (varM 3) (cM (.str [])))) (tbM (op2M (cmpD .In) (varM 3) (cM (.str SML))))) (seqS (asgS (.nm 4) (varM 1)) (seqS (forS (rngM (consA (appM bLen (consA (varM 0) nilA)) nilA)) (.nm 5) (seqS (ifS (andM (tbM (op2M (cmpD .Lt) (varM 4) (appM bLen (consA (varM 0) nilA)))) (tbM (op2M (cmpD .In) (op2M ixD (varM 0) (varM 4)) (cM (.str SML))))) (seqS (asgS (.nm 4) (op2M (binD .Add) (varM 4) (cM (.int (1))))) skipS) skipS) skipS)) (seqS (retS (lstM (consA (ifeM (tbM (op2M (cmpD .Eq) (slM (varM 0) (someO (varM 1)) (someO (varM 4))) (cM (.str NON)))) (cM .non) (slM (varM 0) (someO (varM 1)) (someO (varM 4)))) (consA (varM 4) nilA)))) skipS))) skipS) (seqS (retS (appM (callD c ("_law_integer", none)) (consA (varM 0) (consA (varM 1) nilA)))) skipS)))
theorem m18_eq (c : CallT) : m18 c = seqS (asgS (.nm 3) (slM (varM 0) (someO (varM 1)) (someO (op2M (binD .Add) (varM 1) (cM (.int (1))))))) (seqS (ifS (tbM (op2M (cmpD .Eq) (varM 3) (cM (.str [40])))) (seqS (ifS (tbM (op2M (cmpD .Eq) (varM 2) (cM (.int (12))))) (seqS (retS (lstM (consA (cM (.str [98, 97, 100])) (consA (varM 1) nilA)))) skipS) skipS) (seqS (retS (appM (callD c ("_law_entries", none)) (consA (varM 0) (consA (op2M (binD .Add) (varM 1) (cM (.int (1)))) (consA (op2M (binD .Add) (varM 2) (cM (.int (1)))) nilA))))) skipS)) skipS) (rW c)) := rfl
theorem rW_run (k : Nat) (s : List Nat) (a : Nat) (dep : D) (hs : s.length < 100000) : ∃ ρ n st', rW (runF pg.T (k + 1)) [some (ds s), some (di a), some dep, some (ds (sgn s a)), none, none] [] = .go (.rt (.ref n)) ρ st' ∧ st'[n]? = some (.lst (pair (pRest s a))) := by
  have hl := len_line hs
  have q1 : tbM (op2M (cmpD .Eq) (varM 3) (cM (.str [46]))) [some (ds s), some (di a), some dep, some (ds (sgn s a)), none, none] [] = .ok (isAt s a [46]) [] := (var_str rfl).trans (by rw [sgn_one])
  have q2 : andM (tbM (op2M (cmpD .NotEq) (varM 3) (cM (.str [])))) (tbM (op2M (cmpD .In) (varM 3) (cM (.str SML)))) [some (ds s), some (di a), some dep, some (ds (sgn s a)), none, none] [] = .ok (isAt s a SML) [] := sgn_in rfl
  unfold pRest
  cases c1 : isAt s a [46] with
  | true =>
    simp only [if_true]
    rw [c1] at q1
    exact ⟨_, 0, _, seq_rt (if_yes q1 (seq_rt (ret_st (lst2 (a := cM (.str [])) rfl (one_more (a := a) rfl) rfl rfl) rfl))), rfl⟩
  | false =>
    simp only [Bool.false_eq_true, if_false]
    rw [c1] at q1
    cases c2 : isAt s a SML with
    | true =>
      simp only [if_true]
      rw [c2] at q2
      obtain ⟨w', sc⟩ := scan_all (s := s) (z := SML) (st := []) (j := 4) (ks := 5) (fun e w => [some (ds s), some (di a), some dep, some (ds (sgn s a)), some (di e), w]) hl (fun _ _ => rfl) (fun _ _ => rfl) (fun _ _ _ => rfl) (fun _ _ _ => rfl) a none
      generalize hρ : ([some (ds s), some (di a), some dep, some (ds (sgn s a)), some (di (endp s SML a : Nat)), w'] : Rho) = ρ at sc
      have v0 : varM 0 ρ [] = .ok (ds s) [] := by rw [← hρ]; rfl
      have v1 : varM 1 ρ [] = .ok (di a) [] := by rw [← hρ]; rfl
      have v4 : varM 4 ρ [] = .ok (di (endp s SML a : Nat)) [] := by rw [← hρ]; rfl
      have cut : slM (varM 0) (someO (varM 1)) (someO (varM 4)) ρ [] = .ok (ds (part s SML a)) [] := by
        refine sl_st v0 (part_st (i := (a : Int)) v1) (part_st (i := ((endp s SML a : Nat) : Int)) v4) ?_
        show (if s.length ≤ line then okP (.str (cutL s (some (a : Int)) (some ((endp s SML a : Nat) : Int)))) [] else R.no) = _
        rw [if_pos hl, cut_nat]
        rfl
      have cmp : tbM (op2M (cmpD .Eq) (slM (varM 0) (someO (varM 1)) (someO (varM 4))) (cM (.str NON))) ρ [] = .ok (decide (part s SML a = NON)) [] := tb_st (op2_st (d2 := ds NON) (s2 := []) cut rfl rfl)
      have val : ifeM (tbM (op2M (cmpD .Eq) (slM (varM 0) (someO (varM 1)) (someO (varM 4))) (cM (.str NON)))) (cM .non) (slM (varM 0) (someO (varM 1)) (someO (varM 4))) ρ [] = .ok (.p (if part s SML a = NON then .non else .str (part s SML a))) [] := by
        by_cases q : part s SML a = NON
        · rw [if_pos q]
          exact ife_yes (cmp.trans (by rw [decide_eq_true q])) rfl
        · rw [if_neg q]
          exact ife_no (cmp.trans (by rw [decide_eq_false q])) cut
      exact ⟨ρ, 0, _, seq_nx (if_skip q1) (seq_rt (if_yes q2 (seq_nx (asg_st (d := di a) rfl) (seq_nx sc (seq_rt (ret_st (lst2 val v4 rfl rfl) rfl)))))), rfl⟩
    | false =>
      simp only [Bool.false_eq_true, if_false]
      rw [c2] at q2
      obtain ⟨n, t, e1, e2⟩ := call_pair (st := []) (l := [ds s, di a]) (f := ("_law_integer", none)) (c := runF pg.T (k + 1)) rfl ⟨0, _, lint_run k s a hs, rfl⟩
      exact ⟨_, n, _, seq_nx (if_skip q1) (seq_nx (if_skip q2) (seq_rt (ret_st (app_st (arg_cons (d := ds s) rfl rfl (arg1 (d := di a) rfl rfl)) e1) rfl))), e2⟩
end K20
end S_K20u

section S_K20v
set_option Elab.async false
set_option linter.all false
set_option maxRecDepth 100000
set_option maxHeartbeats 1000000
namespace K20
open PySem L2 Lt
theorem unp_st {a : EM} {ρ : Rho} {st s1 : Store} {m i j : Nat} {x y : D} (h : a ρ st = .ok (.ref m) s1) (g : s1[m]? = some (.lst [x, y])) : unpS [i, j] a ρ st = .go .nx ((ρ.set i (some x)).set j (some y)) s1 := by
  unfold unpS
  rw [h, of_ok]
  show (match (match s1[m]? with
    | some (.lst l) => some l
    | some (.ro l) => some l
    | _ => none) with
    | some l => _
    | none => _) = _
  rw [g]
  rfl
theorem tru_ref {a : EM} {ρ : Rho} {st s1 : Store} {m : Nat} {l : List D} (h : a ρ st = .ok (.ref m) s1) (g : s1[m]? = some (.lst l)) : tvM a ρ st = .ok (!l.isEmpty) s1 := by
  refine tv_st h ?_
  show (match s1[m]? with
    | some (.lst l) => R.ok (!l.isEmpty) s1
    | some (.ro l) => .ok (!l.isEmpty) s1
    | some (.dic kvs) => .ok (!kvs.isEmpty) s1
    | _ => .no) = _
  rw [g]
theorem tup_ref {ρ : Rho} {st : Store} {m i : Nat} {l : List P} (h : varM i ρ st = .ok (.ref m) st) (g : st[m]? = some (.lst (l.map D.p))) : appM bTuple (consA (varM i) nilA) ρ st = .ok (.p (.tup l)) st := by
  refine app_st (arg1 h rfl) ?_
  show (match (match st[m]? with
    | some (.lst l) => some l
    | some (.ro l) => some l
    | _ => none) with
    | some l => R.ok (mkTup l) st
    | none => R.no) = _
  rw [g]
  show R.ok (mkTup (l.map D.p)) _ = _
  rw [mkTup_map]
theorem app_ref {c : CallT} {ρ : Rho} {st : Store} {m i j : Nat} {l : List P} {t : P} (h : varM i ρ st = .ok (.ref m) st) (h2 : varM j ρ st = .ok (.p t) st) (g : st[m]? = some (.lst (l.map D.p))) (hl : l.length < line) : exprS (metM c pg.meth "append" (varM i) (consA (varM j) nilA)) ρ st = .go .nx ρ (st.set m (.lst ((l ++ [t]).map D.p))) := by
  refine expr_st (d := .p .non) (met_lst (n := m) h g rfl (arg1 h2 rfl) g ?_)
  have hlen : (l.map D.p).length < line := by rw [List.length_map]; exact hl
  show (if (l.map D.p).length < line then R.ok (D.p .non) (st.set m (.lst (l.map D.p ++ [D.p t]))) else R.no) = _
  rw [if_pos hlen, List.map_append]
  rfl
/-- a turn of the loop over entries -/
def nB (c : CallT) : SM := (seqS (ifS (tbM (op2M (cmpD .Eq) (slM (varM 0) (someO (varM 1)) (someO (op2M (binD .Add) (varM 1) (cM (.int (1)))))) (cM (.str [41])))) (seqS (retS (lstM (consA (appM bTuple (consA (varM 3) nilA)) (consA (op2M (binD .Add) (varM 1) (cM (.int (1)))) nilA)))) skipS) skipS) (seqS (ifS (tvM (varM 3)) (seqS (ifS (tbM (op2M (cmpD .NotEq) (slM (varM 0) (someO (varM 1)) (someO (op2M (binD .Add) (varM 1) (cM (.int (1)))))) (cM (.str [32])))) (seqS (retS (lstM (consA (cM (.str [98, 97, 100])) (consA (varM 1) nilA)))) skipS) skipS) (seqS (asgS (.nm 1) (op2M (binD .Add) (varM 1) (cM (.int (1))))) skipS)) skipS) (seqS (unpS [5, 6] (appM (callD c ("_law_read", none)) (consA (varM 0) (consA (varM 1) (consA (varM 2) nilA))))) (seqS (ifS (andM (tbM (op2M (cmpD .Eq) (varM 5) (cM (.str [98, 97, 100])))) (tvM (isiM "str" (varM 5)))) (seqS (retS (lstM (consA (varM 5) (consA (varM 6) nilA)))) skipS) skipS) (seqS (exprS (metM c pg.meth "append" (varM 3) (consA (varM 5) nilA))) (seqS (asgS (.nm 1) (varM 6)) skipS))))))
def nE : SM := seqS (retS (lstM (consA (cM (.str [98, 97, 100])) (consA (varM 1) nilA)))) skipS
theorem m19_eq (c : CallT) : m19 c = seqS (asgS (.nm 3) (lstM nilA)) (seqS (forS (rngM (consA (op2M (binD .Add) (appM bLen (consA (varM 0) nilA)) (cM (.int (1)))) nilA)) (.nm 4) (nB c)) nE) := rfl
/-- the loop, then what stands behind it -/
def thn (r : RS) (y : SM) : RS := match r with
  | .go .nx ρ st => y ρ st
  | r => r
theorem nloop (c : CallT) (s : List Nat) (x : P) (pt : Nat → Res) (hs : s.length < 100000) (mv : Moves s pt) (ne : ∀ a t e st, pt a = .ok t e → eqD (.p t) (ds BAD) st = some false)
    (hr : ∀ a, PairIs (c ("_law_read", none) [ds s, di (a : Nat), .p x] []) (pt a)) :
    ∀ (items : List D) (a n : Nat) (l : List P) (st : Store) (w4 w5 w6 : Option D), st[n]? = some (.lst (l.map D.p)) → l.length ≤ a →
      ∃ ρ' m st', thn (lsS (.nm 4) (nB c) items [some (ds s), some (di a), some (.p x), some (.ref n), w4, w5, w6] st) nE = .go (.rt (.ref m)) ρ' st' ∧ st'[m]? = some (.lst (pair (pEnt pt s items.length a l)))
  | [], a, n, l, st, w4, w5, w6, hn, hla => by
    have e := seq_rt (y := skipS) (ret_st (a := lstM (consA (cM (.str [98, 97, 100])) (consA (varM 1) nilA))) (lst2 (a := cM (.str [98, 97, 100])) (b := varM 1) (ρ := [some (ds s), some (di a), some (.p x), some (.ref n), w4, w5, w6]) (st := st) rfl rfl rfl rfl) rfl)
    exact ⟨_, st.length, _, e, by rw [List.getElem?_append_right (Nat.le_refl _), Nat.sub_self]; rfl⟩
  | d :: r, a, n, l, st, w4, w5, w6, hn, hla => by
    have hl := len_line hs
    show ∃ ρ' m st', thn (loopK (nB c [some (ds s), some (di a), some (.p x), some (.ref n), some d, w5, w6] st) (lsS (.nm 4) (nB c) r)) nE = .go (.rt (.ref m)) ρ' st' ∧ st'[m]? = some (.lst (pair (pEnt pt s (r.length + 1) a l)))
    have out : ∀ {ρ ρ' : Rho} {st st' : Store} {v : D}, nB c ρ st = .go (.rt v) ρ' st' → thn (loopK (nB c ρ st) (lsS (.nm 4) (nB c) r)) nE = .go (.rt v) ρ' st' := fun h => by rw [h]; rfl
    have clo := sl_eq (ρ := [some (ds s), some (di a), some (.p x), some (.ref n), some d, w5, w6]) (st := st) (s := s) (a := a) (c := 41) (i := 0) (j := 1) rfl rfl hl
    rw [pEnt_eq]
    cases c1 : isAt s a [41] with
    | true =>
      rw [c1] at clo
      simp only [if_true]
      refine ⟨_, st.length, _, out (seq_rt (if_yes clo (seq_rt (ret_st (lst2 (tup_ref (l := l) (i := 3) (m := n) rfl hn) (one_more (a := a) rfl) rfl rfl) rfl)))), ?_⟩
      rw [List.getElem?_append_right (Nat.le_refl _), Nat.sub_self]
      rfl
    | false =>
      rw [c1] at clo
      simp only [Bool.false_eq_true, if_false]
      have tru := tru_ref (a := varM 3) (ρ := [some (ds s), some (di a), some (.p x), some (.ref n), some d, w5, w6]) (m := n) rfl hn
      rw [List.isEmpty_map] at tru
      -- past the blank
      have tail : ∀ b : Nat, a ≤ b → (∀ z r', z [some (ds s), some (di b), some (.p x), some (.ref n), some d, w5, w6] st = r' → seqS (ifS (tvM (varM 3)) (seqS (ifS (tbM (op2M (cmpD .NotEq) (slM (varM 0) (someO (varM 1)) (someO (op2M (binD .Add) (varM 1) (cM (.int (1)))))) (cM (.str [32])))) (seqS (retS (lstM (consA (cM (.str [98, 97, 100])) (consA (varM 1) nilA)))) skipS) skipS) (seqS (asgS (.nm 1) (op2M (binD .Add) (varM 1) (cM (.int (1))))) skipS)) skipS) z [some (ds s), some (di a), some (.p x), some (.ref n), some d, w5, w6] st = r') →
          ∃ ρ' m st', thn (loopK (nB c [some (ds s), some (di a), some (.p x), some (.ref n), some d, w5, w6] st) (lsS (.nm 4) (nB c) r)) nE = .go (.rt (.ref m)) ρ' st' ∧ st'[m]? = some (.lst (pair (aft pt s r.length l b))) := fun b hab pre => by
        obtain ⟨m, t, e1, e2⟩ := call_pair (c := c) (f := ("_law_read", none)) (l := [ds s, di b, .p x]) (st := st) rfl (hr b)
        have e3 : appM (callD c ("_law_read", none)) (consA (varM 0) (consA (varM 1) (consA (varM 2) nilA))) [some (ds s), some (di b), some (.p x), some (.ref n), some d, w5, w6] st = .ok (.ref m) (st ++ t) := app_st (arg_cons (d := ds s) rfl rfl (arg_cons (d := di b) rfl rfl (arg1 (d := .p x) rfl rfl))) e1
        have hnl : n < st.length := (List.getElem?_eq_some_iff.mp hn).1
        have hn2 : (st ++ t)[n]? = some (.lst (l.map D.p)) := by rw [List.getElem?_append_left hnl]; exact hn
        unfold aft
        cases qq : pt b with
        | bad e =>
          rw [qq] at e2
          have u := unp_st (i := 5) (j := 6) e3 e2
          have t4 : andM (tbM (op2M (cmpD .Eq) (varM 5) (cM (.str [98, 97, 100])))) (tvM (isiM "str" (varM 5))) [some (ds s), some (di b), some (.p x), some (.ref n), some d, some (ds BAD), some (di e)] (st ++ t) = .ok true (st ++ t) := and_yes (var_str (x := BAD) (y := BAD) rfl) rfl
          refine ⟨_, (st ++ t).length, _, out (seq_nx (if_skip clo) (pre _ _ (seq_nx u (seq_rt (if_yes t4 (seq_rt (ret_st (lst2 (x := ds BAD) (y := di e) rfl rfl rfl rfl) rfl))))))), ?_⟩
          rw [List.getElem?_append_right (Nat.le_refl _), Nat.sub_self]
          rfl
        | ok t1 e =>
          rw [qq] at e2
          have u := unp_st (i := 5) (j := 6) e3 e2
          obtain ⟨g1, g2⟩ := mv b t1 e qq
          have t4 : andM (tbM (op2M (cmpD .Eq) (varM 5) (cM (.str [98, 97, 100])))) (tvM (isiM "str" (varM 5))) [some (ds s), some (di b), some (.p x), some (.ref n), some d, some (.p t1), some (di e)] (st ++ t) = .ok false (st ++ t) := and_no (tb_st (op2_st (d := .p t1) (d2 := ds BAD) (s1 := st ++ t) (s2 := st ++ t) rfl rfl (by
            show ofO (eqD (.p t1) (ds BAD) (st ++ t)) (st ++ t) = _
            rw [ne b t1 e _ qq]
            rfl)))
          have ap := app_ref (c := c) (ρ := [some (ds s), some (di b), some (.p x), some (.ref n), some d, some (.p t1), some (di e)]) (i := 3) (j := 5) rfl rfl hn2 (by unfold line; omega)
          have body : nB c [some (ds s), some (di a), some (.p x), some (.ref n), some d, w5, w6] st = .go .nx [some (ds s), some (di e), some (.p x), some (.ref n), some d, some (.p t1), some (di e)] ((st ++ t).set n (.lst ((l ++ [t1]).map D.p))) := seq_nx (if_skip clo) (pre _ _ (seq_nx u (seq_nx (if_skip t4) (seq_nx ap (seq_nx (asg_st (d := di e) rfl) rfl)))))
          rw [body]
          exact nloop c s x pt hs mv ne hr r e n (l ++ [t1]) _ (some d) (some (.p t1)) (some (di e)) (List.getElem?_set_self (by rw [List.length_append]; omega)) (by rw [List.length_append, List.length_singleton]; omega)
      cases c2 : l.isEmpty with
      | true =>
        rw [c2] at tru
        exact tail a (Nat.le_refl _) fun z r' h => seq_nx (if_skip tru) h
      | false =>
        rw [c2] at tru
        have bl := sl_ne (ρ := [some (ds s), some (di a), some (.p x), some (.ref n), some d, w5, w6]) (st := st) (s := s) (a := a) (c := 32) (i := 0) (j := 1) rfl rfl hl
        cases c3 : isAt s a [32] with
        | false =>
          rw [c3] at bl
          refine ⟨_, st.length, _, out (seq_nx (if_skip clo) (seq_rt (if_yes tru (seq_rt (if_yes bl (seq_rt (ret_st (lst2 (a := cM (.str [98, 97, 100])) (y := di a) rfl rfl rfl rfl) rfl))))))), ?_⟩
          rw [List.getElem?_append_right (Nat.le_refl _), Nat.sub_self]
          rfl
        | true =>
          rw [c3] at bl
          exact tail (a + 1) (Nat.le_succ _) fun z r' h => seq_nx (if_yes tru (seq_nx (if_skip bl) (seq_nx (asg_st (one_more (a := a) rfl)) rfl))) h
theorem lent_run (k : Nat) (s : List Nat) (x : P) (pt : Nat → Res) (a : Nat) (hs : s.length < 100000) (mv : Moves s pt) (ne : ∀ a t e st, pt a = .ok t e → eqD (.p t) (ds BAD) st = some false)
    (hr : ∀ a, PairIs (runF pg.T k ("_law_read", none) [ds s, di (a : Nat), .p x] []) (pt a)) : PairIs (runF pg.T (k + 1) ("_law_entries", none) [ds s, di a, .p x] []) (pEnt pt s (s.length + 1) a []) := by
  have hl := len_line hs
  rw [r19]
  have lenr : (rngL 0 ((s.length + 1 : Nat) : Int)).length = s.length + 1 := by
    unfold rngL
    rw [List.length_map, List.length_range]
    omega
  obtain ⟨ρ', m, st', e1, e2⟩ := nloop (runF pg.T k) s x pt hs mv ne hr (rngL 0 ((s.length + 1 : Nat) : Int)) a 0 [] [.lst []] none none none rfl (Nat.zero_le _)
  rw [lenr] at e2
  refine ⟨m, st', runB_rt rfl (ρ1 := ρ') ?_, e2⟩
  rw [m19_eq]
  refine seq_nx (asg_st (d := .ref 0) (s1 := [.lst []]) rfl) ?_
  have ln : op2M (binD .Add) (appM bLen (consA (varM 0) nilA)) (cM (.int (1))) [some (ds s), some (di a), some (.p x), some (.ref 0), none, none, none] [.lst []] = .ok (di ((s.length + 1 : Nat) : Int)) [.lst []] := op2_st (d := di s.length) (d2 := di 1) (s1 := [.lst []]) (s2 := [.lst []]) (app_st (arg1 (d := ds s) rfl rfl) (by
      show (if s.length ≤ line then okP (.int s.length) _ else R.no) = _
      rw [if_pos hl]
      rfl)) rfl rfl
  have rg : rngM (consA (op2M (binD .Add) (appM bLen (consA (varM 0) nilA)) (cM (.int (1)))) nilA) [some (ds s), some (di a), some (.p x), some (.ref 0), none, none, none] [.lst []] = .ok (.ls (rngL 0 ((s.length + 1 : Nat) : Int))) [.lst []] := by
    have ok : rngOk ((s.length + 1 : Nat) : Int) = true := by
      unfold rngOk
      simp only [Bool.and_eq_true, decide_eq_true_eq]
      omega
    unfold rngM
    rw [arg1 ln rfl, bind_ok]
    show (if rngOk ((s.length + 1 : Nat) : Int) = true then R.ok (Itr.ls (rngL 0 ((s.length + 1 : Nat) : Int))) _ else .no) = _
    rw [ok, if_pos rfl]
  show thn (forS _ _ _ _ _) nE = _
  unfold forS
  show thn (RS.of (rngM _ [some (ds s), some (di a), some (.p x), some (.ref 0), none, none, none] [.lst []]) _ _) nE = _
  rw [rg, of_ok]
  exact e1
theorem lread_run (s : List Nat) (hs : s.length < 100000) (ne : ∀ r a t e st, r ≤ 12 → pTerm s r a = .ok t e → eqD (.p t) (ds BAD) st = some false) : ∀ (r K : Nat), r ≤ 12 → ∀ a : Nat, PairIs (runF pg.T (K + 2 * r + 2) ("_law_read", none) [ds s, di a, di ((12 - r : Nat) : Int)] []) (pTerm s r a) := by
  have hl := len_line hs
  have st3 : ∀ (a : Nat) (d : Int), asgS (.nm 3) (slM (varM 0) (someO (varM 1)) (someO (op2M (binD .Add) (varM 1) (cM (.int (1)))))) (startR 6 [ds s, di a, di d]) [] = .go .nx [some (ds s), some (di a), some (di d), some (ds (sgn s a)), none, none] [] := fun a d => asg_st (i := 3) (sl_sgn (s := s) (a := a) (i := 0) (j := 1) rfl rfl hl)
  have q1 : ∀ (a : Nat) (d : Int), tbM (op2M (cmpD .Eq) (varM 3) (cM (.str [40]))) [some (ds s), some (di a), some (di d), some (ds (sgn s a)), none, none] [] = .ok (isAt s a [40]) [] := fun a d => (var_str rfl).trans (by rw [sgn_one])
  intro r
  induction r with
  | zero =>
    intro K hr a
    show PairIs (runF pg.T (K + 1 + 1) _ _ _) _
    rw [r18, pTerm_zero]
    have q1 := q1 a ((12 - 0 : Nat) : Int)
    cases c1 : isAt s a [40] with
    | true =>
      rw [c1] at q1
      simp only [if_true]
      exact ⟨0, _, runB_rt rfl (by
        rw [m18_eq]
        exact seq_nx (st3 a _) (seq_rt (if_yes q1 (seq_rt (if_yes (tb_st (op2_st (d := di ((12 - 0 : Nat) : Int)) (d2 := di 12) rfl rfl rfl)) (seq_rt (ret_st (lst2 (a := cM (.str [98, 97, 100])) (y := di a) rfl rfl rfl rfl) rfl))))))), rfl⟩
    | false =>
      rw [c1] at q1
      simp only [Bool.false_eq_true, if_false]
      obtain ⟨ρ, n, st', e1, e2⟩ := rW_run K s a (di ((12 - 0 : Nat) : Int)) hs
      exact ⟨n, st', runB_rt rfl (by
        rw [m18_eq]
        exact seq_nx (st3 a _) (seq_nx (if_skip q1) e1)), e2⟩
  | succ r ih =>
    intro K hr a
    generalize hd : ((12 - (r + 1) : Nat) : Int) = d
    have hd1 : d + 1 = ((12 - r : Nat) : Int) := by omega
    have hd2 : d ≠ 12 := by omega
    have ek : K + 2 * (r + 1) + 2 = K + 2 * r + 2 + 1 + 1 := by omega
    rw [ek, r18, pTerm_succ]
    have q1 := q1 a d
    cases c1 : isAt s a [40] with
    | true =>
      rw [c1] at q1
      simp only [if_true]
      have en := lent_run (K + 2 * r + 2) s (.int ((12 - r : Nat) : Int)) (pTerm s r) (a + 1) hs (pTerm_moves s r) (fun a t e st h => ne r a t e st (by omega) h) (fun a => ih K (by omega) a)
      have no12 : tbM (op2M (cmpD .Eq) (varM 2) (cM (.int (12)))) [some (ds s), some (di a), some (di d), some (ds (sgn s a)), none, none] [] = .ok false [] := tb_st (op2_st (d := di d) (d2 := di 12) (s1 := []) (s2 := []) rfl rfl (by
        show R.ok (D.p (.bl (decide (d = 12)))) [] = _
        rw [decide_eq_false hd2]))
      obtain ⟨n, t, e1, e2⟩ := call_pair (st := []) (l := [ds s, di ((a + 1 : Nat) : Int), di ((12 - r : Nat) : Int)]) (f := ("_law_entries", none)) (c := runF pg.T (K + 2 * r + 2 + 1)) rfl en
      have up : op2M (binD .Add) (varM 2) (cM (.int (1))) [some (ds s), some (di a), some (di d), some (ds (sgn s a)), none, none] [] = .ok (di ((12 - r : Nat) : Int)) [] := op2_st (d := di d) (d2 := di 1) (s1 := []) (s2 := []) rfl rfl (by
        show R.ok (D.p (.int (d + 1))) [] = _
        rw [hd1]
        rfl)
      exact ⟨n, _, runB_rt rfl (by
        rw [m18_eq]
        exact seq_nx (st3 a _) (seq_rt (if_yes q1 (seq_nx (if_skip no12) (seq_rt (ret_st (app_st (arg_cons (d := ds s) rfl rfl (arg_cons (one_more (a := a) rfl) rfl (arg1 up rfl))) e1) rfl)))))), e2⟩
    | false =>
      rw [c1] at q1
      simp only [Bool.false_eq_true, if_false]
      obtain ⟨ρ, n, st', e1, e2⟩ := rW_run (K + 2 * r + 2) s a (di d) hs
      exact ⟨n, st', runB_rt rfl (by
        rw [m18_eq]
        exact seq_nx (st3 a _) (seq_nx (if_skip q1) e1)), e2⟩
end K20
end S_K20v

section S_K20w
set_option Elab.async false
set_option linter.all false
set_option maxRecDepth 100000
set_option maxHeartbeats 1000000
namespace K20
open PySem L2 Lt
/-! ### which values can be shown and compared -/
def tok : Nat → P → Bool
  | 0, .tup _ => false
  | n + 1, .tup l => l.all (tok n)
  | _, .str s => s.all fun c => decide (c < 128)
  | _, .int i => decide (i.natAbs < 10 ^ 20)
  | _, .non => true
  | _, .bl _ => true
mutual
/-- no less than the signs that repr writes -/
def wt : P → Nat
  | .non => 4
  | .bl _ => 5
  | .int _ => 21
  | .str s => 10 * s.length + 2
  | .tup l => wts l + 3
def wts : List P → Nat
  | [] => 0
  | x :: r => (wt x + 2) + wts r
end
theorem wts_snoc : ∀ (l : List P) (t : P), wts (l ++ [t]) = wts l + (wt t + 2)
  | [], t => by simp [wts]
  | x :: r, t => by
    show (wt x + 2) + wts (r ++ [t]) = ((wt x + 2) + wts r) + (wt t + 2)
    rw [wts_snoc r t]
    omega
def Fits (n : Nat) (t : P) : Prop := t.pd.canLay0 = true ∧ t.pd.depth ≤ n ∧ t.pd.showable = true ∧ t.pd.shown.length ≤ wt t
theorem join_le (ts : List Str) : (Str.join ", " ts).length ≤ piled ts := by
  cases ts with
  | nil => exact Nat.zero_le _
  | cons t r =>
    have := join_length_add (t :: r) (by simp)
    omega
theorem fits_all {n : Nat} : ∀ l : List P, (∀ t ∈ l, Fits n t) → PyData.canLayAll0 (P.pds l) = true ∧ PyData.depthAll (P.pds l) ≤ n ∧ PyData.showableAll (P.pds l) = true ∧ piled (PyData.shownAll (P.pds l)) ≤ wts l
  | [], _ => ⟨rfl, Nat.zero_le _, rfl, Nat.le_refl _⟩
  | x :: r, h => by
    obtain ⟨a1, a2, a3, a4⟩ := h x List.mem_cons_self
    obtain ⟨b1, b2, b3, b4⟩ := fits_all r fun t ht => h t (List.mem_cons_of_mem _ ht)
    simp only [P.pds, PyData.canLayAll0, PyData.depthAll, PyData.showableAll, PyData.shownAll, piled_cons, wts, a1, a3, b1, b3, Bool.and_self, true_and]
    exact ⟨Nat.max_le.mpr ⟨a2, b2⟩, by omega⟩
theorem fits_str {n : Nat} {s : List Nat} (h : s.all (fun c => decide (c < 128)) = true) : Fits n (.str s) := by
  have h' : ∀ c ∈ s, c < 128 := fun c hc => of_decide_eq_true (List.all_eq_true.mp h c hc)
  refine ⟨?_, Nat.zero_le _, rfl, ?_⟩
  · simp only [P.pd, PyData.canLay0]
    show (toS s).cps.all (fun c => decide (c < 0x110000)) = true
    rw [← Array.all_toList]
    refine List.all_eq_true.mpr fun c hc => decide_eq_true ?_
    have : c ∈ s := hc
    have := h' c this
    omega
  · simp only [P.pd, PyData.shown_str, wt]
    have := StrLaws.reprText_len (toS s) fun c hc => by
      have : c ∈ s := hc
      have := h' c this
      omega
    rw [toS_len] at this
    exact this
theorem fits_int {n : Nat} {i : Int} (h : i.natAbs < 10 ^ 20) : Fits n (.int i) := by
  refine ⟨rfl, Nat.zero_le _, ?_, ?_⟩
  · simp only [P.pd, PyData.showable, decide_eq_true_eq]
    by_cases z : i.natAbs = 0
    · rw [z]; decide
    · exact (Nat.log2_lt z).mpr (Nat.lt_trans h (by decide +kernel))
  · simp only [P.pd, PyData.shown_int, wt]
    have e := int_text_length_le10 (k := 20) (by decide) h
    show (Str.ofString (toString i)).length ≤ 21
    rw [ofString_length]
    exact e
theorem fits_tok : ∀ (n : Nat) (t : P), tok n t = true → Fits n t
  | n, .non, _ => by
    refine ⟨rfl, Nat.zero_le _, rfl, ?_⟩
    simp only [P.pd, PyData.shown_none, wt]
    decide +kernel
  | n, .bl b, _ => by
    refine ⟨rfl, Nat.zero_le _, rfl, ?_⟩
    simp only [P.pd, PyData.shown_bool, wt]
    cases b <;> decide +kernel
  | n, .int i, h => fits_int (of_decide_eq_true (by cases n <;> exact h))
  | n, .str s, h => fits_str (by cases n <;> exact h)
  | 0, .tup l, h => by cases h
  | n + 1, .tup l, h => by
    have h' : ∀ t ∈ l, tok n t = true := fun t ht => List.all_eq_true.mp h t ht
    obtain ⟨b1, b2, b3, b4⟩ := fits_all l fun t ht => fits_tok n t (h' t ht)
    refine ⟨?_, ?_, ?_, ?_⟩
    · simpa only [P.pd, PyData.canLay0] using b1
    · simp only [P.pd, PyData.depth]
      omega
    · simpa only [P.pd, PyData.showable] using b3
    · simp only [P.pd, PyData.shown_tuple, wt, Str.length_append]
      have j := join_le (PyData.shownAll (P.pds l))
      have e1 : (("(" : String) : Str).length = 1 := by decide +kernel
      have e2 : (((if (P.pds l).length == 1 then ",)" else ")" : String)) : Str).length ≤ 2 := by
        split <;> decide +kernel
      omega
theorem fits_shaped {n : Nat} {t : P} (h : Fits n t) (hn : n ≤ 64) : SeqAt.shaped t.pd = true := by
  unfold SeqAt.shaped
  rw [h.1, decide_eq_true (Nat.le_trans h.2.1 hn)]
  rfl
/-! ### what reading gives can be shown -/
theorem dv_lt : ∀ (cs : List Nat) (a : Nat), (∀ c ∈ cs, c ≤ 57) → cs.foldl (fun acc c => acc * 10 + (c - 48)) a < (a + 1) * 10 ^ cs.length
  | [], a, _ => by simp
  | c :: r, a, h => by
    have h1 := h c List.mem_cons_self
    have ih := dv_lt r (a * 10 + (c - 48)) fun d hd => h d (List.mem_cons_of_mem _ hd)
    rw [List.foldl_cons, List.length_cons, Nat.pow_succ]
    refine Nat.lt_of_lt_of_le ih ?_
    have : a * 10 + (c - 48) + 1 ≤ (a + 1) * 10 := by omega
    calc (a * 10 + (c - 48) + 1) * 10 ^ r.length ≤ ((a + 1) * 10) * 10 ^ r.length := Nat.mul_le_mul_right _ this
      _ = (a + 1) * (10 ^ r.length * 10) := by rw [Nat.mul_assoc, Nat.mul_comm 10]
theorem iv_lt {s : List Nat} {a : Nat} (h : (part s FIG a).length ≤ 20) : (iv (part s FIG a)).natAbs < 10 ^ 20 := by
  have z := dv_lt (part s FIG a) 0 fun c hc => by
    have z := List.all_eq_true.mp (fig_all s a) c hc
    simp only [Bool.and_eq_true, decide_eq_true_eq] at z
    exact z.2
  show NumText.digitsVal (part s FIG a) < 10 ^ 20
  refine Nat.lt_of_lt_of_le z ?_
  rw [Nat.zero_add, Nat.one_mul]
  exact Nat.pow_le_pow_right (by omega) h
/-- reading by pt gives what can be shown, no longer than so much -/
def Wtd (n : Nat) (pt : Nat → Res) : Prop := ∀ a t e, pt a = .ok t e → tok n t = true ∧ wt t + 2 + 40 * a ≤ 40 * e
theorem tok_int {n : Nat} {i : Int} (h : i.natAbs < 10 ^ 20) : tok n (.int i) = true := by cases n <;> exact decide_eq_true h
theorem tok_str {n : Nat} {s : List Nat} (h : s.all (fun c => decide (c < 128)) = true) : tok n (.str s) = true := by cases n <;> exact h
theorem tok_non {n : Nat} : tok n .non = true := by cases n <;> rfl
theorem pInt_wtd (n : Nat) (s : List Nat) : Wtd n (pInt s) := fun a t e h => by
  have mv := pInt_moves s a t e h
  unfold pInt at h
  dsimp only at h
  generalize (if isAt s a [45] = true then a + 1 else a) = b at h
  by_cases c1 : (!isAt s b FIG || (isAt s a [45] && isAt s b [48])) = true
  · rw [if_pos c1] at h; cases h
  · rw [if_neg c1] at h
    by_cases c2 : (isAt s b [48] && decide ((part s FIG b).length > 1)) = true
    · rw [if_pos c2] at h; cases h
    · rw [if_neg c2] at h
      by_cases c3 : (part s FIG b).length > 20
      · rw [if_pos c3] at h; cases h
      · rw [if_neg c3] at h
        injection h with h3 h4
        subst h3
        refine ⟨tok_int ?_, by simp only [wt]; omega⟩
        have := iv_lt (s := s) (a := b) (by omega)
        split
        · rw [Int.natAbs_neg]; exact this
        · exact this
theorem pEnt_wtd {n : Nat} {s : List Nat} {pt : Nat → Res} (h : Wtd n pt) : ∀ (f a a0 : Nat) (l : List P) (t : P) (e : Nat), l.all (tok n) = true → wts l + 40 * a0 ≤ 40 * a → pEnt pt s f a l = .ok t e → tok (n + 1) t = true ∧ wt t + 2 + 40 * a0 ≤ 40 * e
  | 0, _, _, _, _, _, _, _, h2 => by cases h2
  | f + 1, a, a0, l, t, e, hl, hw, h2 => by
    unfold pEnt at h2
    split at h2
    · cases h2
      exact ⟨hl, by simp only [wt]; omega⟩
    · split at h2
      · cases h2
      · cases q : pt (if l.isEmpty then a else a + 1) with
        | bad _ => rw [q] at h2; cases h2
        | ok t1 e1 =>
          rw [q] at h2
          obtain ⟨g1, g2⟩ := h _ _ _ q
          refine pEnt_wtd h f e1 a0 _ t e (by rw [List.all_append, hl]; simp [g1]) ?_ h2
          rw [wts_snoc]
          split at g2 <;> omega
theorem sml_lt (s : List Nat) (a : Nat) : (part s SML a).all (fun c => decide (c < 128)) = true := by
  rw [part_eq]
  refine List.all_eq_true.mpr fun c hc => ?_
  have h := List.all_eq_true.mp List.all_takeWhile c hc
  simp only [SML, decide_eq_true_eq, List.mem_cons, List.not_mem_nil, or_false] at h
  simp only [decide_eq_true_eq]
  omega
theorem pRest_wtd (n : Nat) (s : List Nat) : Wtd n (pRest s) := fun a t e h => by
  unfold pRest at h
  split at h
  · cases h
    exact ⟨tok_str rfl, by simp only [wt, List.length_nil]; omega⟩
  · split at h
    · rename_i c
      injection h with h1 h2
      have g := (endp_gt c).1
      have pl := part_length s SML a
      subst h1
      split
      · exact ⟨tok_non, by simp only [wt]; omega⟩
      · exact ⟨tok_str (sml_lt s a), by simp only [wt]; omega⟩
    · exact pInt_wtd n s a t e h
theorem pTerm_wtd (s : List Nat) : ∀ r, Wtd r (pTerm s r)
  | 0 => fun a t e h => by
    rw [pTerm_zero] at h
    split at h
    · cases h
    · exact pRest_wtd 0 s a t e h
  | r + 1 => fun a t e h => by
    rw [pTerm_succ] at h
    split at h
    · have := pEnt_wtd (pTerm_wtd s r) _ (a + 1) (a + 1) [] t e rfl (by simp [wts]) h
      exact ⟨this.1, by omega⟩
    · exact pRest_wtd _ s a t e h
/-! ### no term is the text 'bad' -/
theorem pInt_int {s : List Nat} {a : Nat} {t : P} {e : Nat} (h : pInt s a = .ok t e) : ∃ i, t = .int i := by
  unfold pInt at h
  dsimp only at h
  generalize (if isAt s a [45] = true then a + 1 else a) = b at h
  by_cases c1 : (!isAt s b FIG || (isAt s a [45] && isAt s b [48])) = true
  · rw [if_pos c1] at h; cases h
  · rw [if_neg c1] at h
    by_cases c2 : (isAt s b [48] && decide ((part s FIG b).length > 1)) = true
    · rw [if_pos c2] at h; cases h
    · rw [if_neg c2] at h
      by_cases c3 : (part s FIG b).length > 20
      · rw [if_pos c3] at h; cases h
      · rw [if_neg c3] at h
        injection h with h1 h2
        exact ⟨_, h1.symm⟩
theorem eqv_tup {l : List PyData} {x : Str} : PyData.eqv (.tuple l) (.str x) = false := by simp [PyData.eqv]
theorem ne_bad {t : P} {n : Nat} (ht : tok n t = true) (hn : n ≤ 64) (h : t ≠ .str BAD) (st : Store) : eqD (.p t) (ds BAD) st = some false := by
  cases t with
  | non => rfl
  | bl b => rfl
  | int i => rfl
  | str s =>
    show some (decide (s = BAD)) = _
    rw [decide_eq_false fun e => h (by rw [e])]
  | tup l =>
    show eqDeep (.p (.tup l)) (ds BAD) st = _
    unfold eqDeep
    show (if SeqAt.shaped (P.tup l).pd && SeqAt.shaped (P.str BAD).pd then some (PyData.eqv (P.tup l).pd (P.str BAD).pd) else none) = _
    rw [fits_shaped (fits_tok n _ ht) hn, fits_shaped (fits_tok 0 (.str BAD) rfl) (by omega)]
    simp only [P.pd, eqv_tup, Bool.and_self, if_true]
theorem pRest_nb {s : List Nat} (nb : NoBad s) {a : Nat} {t : P} {e : Nat} (h : pRest s a = .ok t e) : t ≠ .str BAD := by
  unfold pRest at h
  split at h
  · cases h
    exact fun z => by cases z
  · split at h
    · injection h with h1 h2
      subst h1
      split
      · exact fun z => by cases z
      · exact fun z => nb a (by injection z)
    · obtain ⟨i, rfl⟩ := pInt_int h
      exact fun z => by cases z
theorem pEnt_tup {pt : Nat → Res} {s : List Nat} : ∀ (f a : Nat) (l : List P) (t : P) (e : Nat), pEnt pt s f a l = .ok t e → ∃ l', t = .tup l'
  | 0, _, _, _, _, h => by cases h
  | f + 1, a, l, t, e, h => by
    unfold pEnt at h
    split at h
    · cases h
      exact ⟨_, rfl⟩
    · split at h
      · cases h
      · cases q : pt (if l.isEmpty then a else a + 1) with
        | bad _ => rw [q] at h; cases h
        | ok t1 e1 =>
          rw [q] at h
          exact pEnt_tup f e1 _ t e h
theorem pTerm_nb {s : List Nat} (nb : NoBad s) {r a : Nat} {t : P} {e : Nat} (h : pTerm s r a = .ok t e) : t ≠ .str BAD := by
  cases r with
  | zero =>
    rw [pTerm_zero] at h
    split at h
    · cases h
    · exact pRest_nb nb h
  | succ r =>
    rw [pTerm_succ] at h
    split at h
    · obtain ⟨l, rfl⟩ := pEnt_tup _ _ _ _ _ h
      exact fun z => by cases z
    · exact pRest_nb nb h
theorem nb_ne {s : List Nat} (nb : NoBad s) : ∀ r a t e st, r ≤ 12 → pTerm s r a = .ok t e → eqD (.p t) (ds BAD) st = some false := fun r a t e st hr h => ne_bad (pTerm_wtd s r a t e h).1 (by omega) (pTerm_nb nb h) st
end K20
end S_K20w

section S_K20x
set_option Elab.async false
set_option linter.all false
set_option maxRecDepth 100000
set_option maxHeartbeats 1000000
namespace K20
open PySem L2 Lt
/-! ### where reading stops -/
theorem pInt_bad {s : List Nat} {a e : Nat} (ha : a ≤ s.length + 1) (h : pInt s a = .bad e) : e ≤ s.length + 30 := by
  unfold pInt at h
  dsimp only at h
  have hb : (if isAt s a [45] = true then a + 1 else a) ≤ s.length + 2 := by split <;> omega
  generalize (if isAt s a [45] = true then a + 1 else a) = b at h hb
  by_cases c1 : (!isAt s b FIG || (isAt s a [45] && isAt s b [48])) = true
  · rw [if_pos c1] at h; injection h with h; omega
  · rw [if_neg c1] at h
    by_cases c2 : (isAt s b [48] && decide ((part s FIG b).length > 1)) = true
    · rw [if_pos c2] at h; injection h with h; omega
    · rw [if_neg c2] at h
      by_cases c3 : (part s FIG b).length > 20
      · rw [if_pos c3] at h; injection h with h; omega
      · rw [if_neg c3] at h; cases h
theorem pRest_bad {s : List Nat} {a e : Nat} (ha : a ≤ s.length + 1) (h : pRest s a = .bad e) : e ≤ s.length + 30 := by
  unfold pRest at h
  split at h
  · cases h
  · split at h
    · cases h
    · exact pInt_bad ha h
theorem pEnt_bad {s : List Nat} {pt : Nat → Res} (mv : Moves s pt) (hp : ∀ a e, a ≤ s.length + 1 → pt a = .bad e → e ≤ s.length + 30) : ∀ (f a : Nat) (l : List P) (e : Nat), a ≤ s.length + 1 → pEnt pt s f a l = .bad e → e ≤ s.length + 30
  | 0, a, _, e, ha, h => by
    injection h with h
    omega
  | f + 1, a, l, e, ha, h => by
    unfold pEnt at h
    split at h
    · cases h
    · split at h
      · injection h with h
        omega
      · rename_i c1 c2
        have hb : (if l.isEmpty then a else a + 1) ≤ s.length + 1 := by
          split
          · exact ha
          · rename_i c3
            have : isAt s a [32] = true := by
              cases q : isAt s a [32] with
              | true => rfl
              | false =>
                rw [q, (Bool.not_eq_true _).mp c3] at c2
                exact absurd rfl c2
            have := isAt_lt this
            omega
        cases q : pt (if l.isEmpty then a else a + 1) with
        | bad e1 =>
          rw [q] at h
          injection h with h
          subst h
          exact hp _ _ hb q
        | ok t1 e1 =>
          rw [q] at h
          have g := (mv _ _ _ q).2
          exact pEnt_bad mv hp f e1 _ e (by omega) h
theorem pTerm_bad (s : List Nat) : ∀ r a e, a ≤ s.length + 1 → pTerm s r a = .bad e → e ≤ s.length + 30
  | 0, a, e, ha, h => by
    rw [pTerm_zero] at h
    split at h
    · injection h with h
      omega
    · exact pRest_bad ha h
  | r + 1, a, e, ha, h => by
    rw [pTerm_succ] at h
    split at h
    · rename_i c
      have := isAt_lt c
      exact pEnt_bad (pTerm_moves s r) (pTerm_bad s r) _ _ _ e (by omega) h
    · exact pRest_bad ha h
/-! ### what is told, shown -/
def toldP : Res → List P
  | .ok t _ => [.str TRM, t]
  | .bad e => [.str BAD, .int e]
theorem told_eq (q : Res) : told q = (toldP q).map D.p := by cases q <;> rfl
def shw (q : Res) : List Nat := (PyData.list (P.pds (toldP q))).shown.cps.toList
theorem pRead_fits (s : List Nat) (hs : s.length < 100000) : ∃ n, n ≤ 60 ∧ (∀ t ∈ toldP (pRead s), Fits n t) ∧ wts (toldP (pRead s)) ≤ 4100000 := by
  have hi : ∀ e : Nat, e ≤ s.length + 30 → ∀ t ∈ toldP (.bad e), Fits 12 t := fun e he t ht => by
    simp only [toldP, List.mem_cons, List.not_mem_nil, or_false] at ht
    rcases ht with rfl | rfl
    · exact fits_str rfl
    · exact fits_int (by show e < _; omega)
  have wb : ∀ e, wts (toldP (.bad e)) ≤ 4100000 := fun e => by simp only [toldP, wts, wt, BAD, List.length_cons, List.length_nil]; omega
  refine ⟨12, by omega, ?_⟩
  unfold pRead
  cases q : pTerm s 12 0 with
  | bad e =>
    simp only
    exact ⟨hi e (pTerm_bad s 12 0 e (by omega) q), wb e⟩
  | ok t e =>
    have mv := pTerm_moves s 12 0 t e q
    have w := pTerm_wtd s 12 0 t e q
    simp only
    by_cases c : e < s.length
    · rw [if_pos c]
      exact ⟨hi e (by omega), wb e⟩
    · rw [if_neg c]
      refine ⟨fun t' ht => ?_, ?_⟩
      · simp only [toldP, List.mem_cons, List.not_mem_nil, or_false] at ht
        rcases ht with rfl | rfl
        · exact fits_str rfl
        · exact fits_tok 12 _ w.1
      · simp only [toldP, wts, wt, TRM, List.length_cons, List.length_nil]
        omega
theorem repr_list {st : Store} {m n : Nat} {l : List P} (g : st[m]? = some (.lst (l.map D.p))) (hn : n ≤ 60) (hf : ∀ t ∈ l, Fits n t) (hw : wts l ≤ 4100000) : bRepr [.ref m] st = .ok (ds (PyData.list (P.pds l)).shown.cps.toList) st := by
  have all : ∀ l : List P, allSome (pdOf st 63) (l.map D.p) = some (P.pds l) := fun l => by
    induction l with
    | nil => rfl
    | cons x r ih =>
      show (match pdOf st 63 (.p x) with
        | some y => (allSome (pdOf st 63) (r.map D.p)).map (y :: ·)
        | none => none) = _
      rw [ih]
      rfl
  have pd : pdOf st 64 (.ref m) = some (.list (P.pds l)) := by
    show (match st[m]? with
      | some (.lst l) => (allSome (pdOf st 63) l).map PyData.list
      | some (.ro l) => (allSome (pdOf st 63) l).map .list
      | _ => none) = _
    rw [g]
    dsimp only
    rw [all]
    rfl
  obtain ⟨b1, b2, b3, b4⟩ := fits_all l hf
  have sh : SeqAt.shaped (.list (P.pds l)) = true := by
    unfold SeqAt.shaped
    simp only [PyData.canLay0, b1, PyData.depth, Bool.true_and]
    exact decide_eq_true (by omega)
  have so : (PyData.list (P.pds l)).showable = true := by simpa only [PyData.showable] using b3
  have le : (PyData.list (P.pds l)).shown.length ≤ line := by
    rw [PyData.shown_list, Str.length_append, Str.length_append]
    have j := join_le (PyData.shownAll (P.pds l))
    have e1 : (("[" : String) : Str).length = 1 := by decide +kernel
    have e2 : (("]" : String) : Str).length = 1 := by decide +kernel
    unfold line
    omega
  show (match pdOf st 64 (.ref m) with
    | some x => if SeqAt.shaped x && x.showable && decide (x.shown.length ≤ line) then okP (.str x.shown.cps.toList) st else .no
    | none => .no) = _
  rw [pd]
  dsimp only
  rw [sh, so, decide_eq_true le]
  rfl
theorem repr_told {st : Store} {m : Nat} {s : List Nat} (hs : s.length < 100000) (g : st[m]? = some (.lst (told (pRead s)))) : bRepr [.ref m] st = .ok (ds (shw (pRead s))) st := by
  obtain ⟨n, hn, hf, hw⟩ := pRead_fits s hs
  rw [told_eq] at g
  exact repr_list g hn hf hw
/-! ### _law_due -/
theorem due_run (K : Nat) (s : List Nat) (hs : s.length < 100000) (nb : NoBad s) : ∃ n st', runF pg.T (K + 27) ("_law_due", none) [ds s] [] = .ok (.ref n) st' ∧ st'[n]? = some (.lst (told (pRead s))) := by
  have hl := len_line hs
  obtain ⟨m, t, e1, e2⟩ := call_pair (st := []) (l := [ds s, di 0, di 0]) (f := ("_law_read", none)) (c := runF pg.T (K + 26)) rfl (lread_run s hs (nb_ne nb) 12 K (Nat.le_refl _) 0)
  rw [r20]
  generalize ht : ([] : Store) ++ t = st at e1 e2
  have e3 : appM (callD (runF pg.T (K + 26)) ("_law_read", none)) (consA (varM 0) (consA (cM (.int (0))) (consA (cM (.int (0))) nilA))) (startR 3 [ds s]) [] = .ok (.ref m) st := app_st (arg_cons (d := ds s) rfl rfl (arg_cons (d := di 0) rfl rfl (arg1 (d := di 0) rfl rfl))) e1
  have bad : ∀ (e : Nat), ∃ n st', (st ++ [.lst [ds BAD, di e]])[n]? = some (.lst (told (.bad e))) ∧ n = st.length ∧ st' = st ++ [.lst [ds BAD, di e]] := fun e => ⟨st.length, _, by rw [List.getElem?_append_right (Nat.le_refl _), Nat.sub_self]; rfl, rfl, rfl⟩
  unfold pRead
  cases q : pTerm s 12 0 with
  | bad e =>
    rw [q] at e2
    have u := unp_st (i := 1) (j := 2) e3 e2
    simp only
    refine ⟨st.length, st ++ [.lst [ds BAD, di e]], runB_rt rfl (seq_nx u (seq_rt (if_yes (and_yes rfl (var_str (x := BAD) (y := BAD) rfl)) (seq_rt (ret_st (lst2 (a := cM (.str [98, 97, 100])) (y := di e) rfl rfl rfl rfl) rfl))))), ?_⟩
    rw [List.getElem?_append_right (Nat.le_refl _), Nat.sub_self]
    rfl
  | ok t1 e =>
    rw [q] at e2
    have u := unp_st (i := 1) (j := 2) e3 e2
    have hnb := pTerm_nb nb q
    have t4 : andM (tvM (isiM "str" (varM 1))) (tbM (op2M (cmpD .Eq) (varM 1) (cM (.str [98, 97, 100])))) [some (ds s), some (.p t1), some (di e)] st = .ok false st := by
      cases t1 with
      | str w => exact and_yes rfl ((var_str (x := w) (y := BAD) rfl).trans (by rw [decide_eq_false fun z => hnb (by rw [z])]))
      | non => exact and_no rfl
      | bl b => exact and_no (by kernel_rfl)
      | int i => exact and_no (by kernel_rfl)
      | tup l => exact and_no (by kernel_rfl)
    have cmp : tbM (op2M (cmpD .Lt) (varM 2) (appM bLen (consA (varM 0) nilA))) [some (ds s), some (.p t1), some (di e)] st = .ok (decide (e < s.length)) st := by
      refine tb_st (op2_st (d := di e) (d2 := di s.length) (s1 := st) (s2 := st) rfl (app_st (q := .ok (di s.length) st) (arg1 (d := ds s) rfl rfl) ?_) ?_)
      · show (if s.length ≤ line then okP (.int s.length) st else R.no) = _
        rw [if_pos hl]
        rfl
      · show R.ok (D.p (.bl (decide ((e : Int) < (s.length : Int))))) st = _
        congr 3
        exact decide_eq_decide.mpr (by omega)
    simp only
    by_cases c : e < s.length
    · rw [if_pos c]
      refine ⟨st.length, st ++ [.lst [ds BAD, di e]], runB_rt rfl (seq_nx u (seq_nx (if_skip t4) (seq_rt (ret_st (ife_yes (cmp.trans (by rw [decide_eq_true c])) (lst2 (a := cM (.str [98, 97, 100])) (y := di e) rfl rfl rfl rfl)) rfl)))), ?_⟩
      rw [List.getElem?_append_right (Nat.le_refl _), Nat.sub_self]
      rfl
    · rw [if_neg c]
      refine ⟨st.length, st ++ [.lst [ds TRM, .p t1]], runB_rt rfl (seq_nx u (seq_nx (if_skip t4) (seq_rt (ret_st (ife_no (cmp.trans (by rw [decide_eq_false c])) (lst2 (a := cM (.str [116, 101, 114, 109])) (y := .p t1) rfl rfl rfl rfl)) rfl)))), ?_⟩
      rw [List.getElem?_append_right (Nat.le_refl _), Nat.sub_self]
      rfl
/-! ### both shown -/
theorem told_sh (k : Nat) (q : Res) : shDs k (told q) = told q := by cases q <;> rfl
theorem rep_call {c : CallT} {f : Defn} {s : List Nat} {i : Nat} {ρ : Rho} {st : Store} (hs : s.length < 100000) (hv : varM i ρ st = .ok (ds s) st) (h : ∃ n st', c f [ds s] [] = .ok (.ref n) st' ∧ st'[n]? = some (.lst (told (pRead s)))) : ∃ t, appM bRepr (consA (appM (callD c f) (consA (varM i) nilA)) nilA) ρ st = .ok (ds (shw (pRead s))) (st ++ t) := by
  obtain ⟨n, st', e, g⟩ := h
  have cl : callD c f [ds s] st = .ok (.ref (st.length + n)) (st ++ st'.map (shO st.length)) := by
    unfold callD
    rw [if_pos (show allP [ds s] = true from rfl), e]
    rfl
  have g' : (st ++ st'.map (shO st.length))[st.length + n]? = some (.lst (told (pRead s))) := by
    rw [List.getElem?_append_right (Nat.le_add_right _ _), Nat.add_sub_cancel_left, List.getElem?_map, g]
    show some (SO.lst (shDs st.length _)) = _
    rw [told_sh]
  exact ⟨_, app_st (arg1 (app_st (arg1 hv rfl) cl) rfl) (repr_told hs g')⟩
theorem rep_told (K : Nat) {s : List Nat} {i : Nat} {ρ : Rho} {st : Store} (hs : s.length < 100000) (hv : varM i ρ st = .ok (ds s) st) : ∃ t, appM bRepr (consA (appM (callD (runF pg.T (K + 31)) ("_law_told", none)) (consA (varM i) nilA)) nilA) ρ st = .ok (ds (shw (pRead s))) (st ++ t) := rep_call hs hv ⟨0, _, told_run K s hs, rfl⟩
theorem rep_due (K : Nat) {s : List Nat} {i : Nat} {ρ : Rho} {st : Store} (hs : s.length < 100000) (nb : NoBad s) (hv : varM i ρ st = .ok (ds s) st) : ∃ t, appM bRepr (consA (appM (callD (runF pg.T (K + 27)) ("_law_due", none)) (consA (varM i) nilA)) nilA) ρ st = .ok (ds (shw (pRead s))) (st ++ t) := rep_call hs hv (due_run K s hs nb)
end K20
end S_K20x

section S_K20y
set_option Elab.async false
set_option linter.all false
set_option maxRecDepth 100000
set_option maxHeartbeats 1000000
namespace K20
open PySem L2 Lt
/-! ### draws -/
def Thou (l : List Int) : Prop := ∀ i ∈ l, 0 ≤ i ∧ i < 1000
theorem thou_mod (i : Int) : 0 ≤ i.fmod 1000 ∧ i.fmod 1000 < 1000 := ⟨Int.fmod_nonneg_of_pos i (by omega), Int.fmod_lt_of_pos i (by omega)⟩
theorem Thou.snoc {l : List Int} (h : Thou l) {i : Int} (hi : 0 ≤ i ∧ i < 1000) : Thou (l ++ [i]) := fun j hj => by
  rcases List.mem_append.mp hj with h1 | h1
  · exact h j h1
  · rw [List.mem_singleton.mp h1]
    exact hi
theorem mod_d {i j : Int} {st : Store} (h : j ≠ 0) : binD .Mod (di i) (di j) st = .ok (di (i.fmod j)) st := by
  show (if decide (j ≠ 0) = true then okP (.int (i.fmod j)) st else R.no) = _
  rw [if_pos (decide_eq_true h)]
  rfl
theorem fdiv_d {i j : Int} {st : Store} (h : j ≠ 0) (h2 : j.natAbs < 1073741824) : binD .FloorDiv (di i) (di j) st = .ok (di (i.fdiv j)) st := by
  show (if (decide (j ≠ 0) && decide (j.natAbs < 1073741824)) = true then okP (.int (i.fdiv j)) st else R.no) = _
  rw [if_pos (by rw [decide_eq_true h, decide_eq_true h2]; rfl)]
  rfl
theorem mul_d {i j : Int} {st : Store} (h : i.natAbs < 2 ^ 64 ∨ j.natAbs < 2 ^ 64) : binD .Mult (di i) (di j) st = .ok (di (i * j)) st := by
  show (if mulOk i j = true then okP (.int (i * j)) st else R.no) = _
  rw [if_pos (by unfold mulOk; rcases h with h | h <;> rw [decide_eq_true h] <;> simp)]
  rfl
/-- int(a) % j -/
theorem mod_st {a : EM} {ρ : Rho} {st s1 : Store} {i j : Int} (h : a ρ st = .ok (di i) s1) (hj : j ≠ 0) : op2M (binD .Mod) (appM bInt (consA a nilA)) (cM (.int j)) ρ st = .ok (di (i.fmod j)) s1 := op2_st (d := di i) (d2 := di j) (s2 := s1) (app_st (arg1 h rfl) rfl) rfl (mod_d hj)
theorem number_run (k : Nat) (i : Int) (st : Store) : ∃ r, runF pg.T (k + 1) ("_law_number", none) [di i] st = .ok (di r) st := by
  rw [r10]
  have c : tbM (op2M (cmpD .Lt) (varM 0) (cM (.int (0)))) (startR 1 [di i]) st = .ok (decide (i < 0)) st := tb_st (op2_st (d := di i) (d2 := di 0) rfl rfl rfl)
  by_cases h : i < 0
  · exact ⟨0 - i, runB_rt rfl (seq_rt (if_yes (c.trans (by rw [decide_eq_true h])) (seq_rt (ret_st (d := di (0 - i)) rfl rfl))))⟩
  · exact ⟨i, runB_rt rfl (seq_nx (if_skip (c.trans (by rw [decide_eq_false h]))) (seq_rt (ret_st (d := di i) rfl rfl)))⟩
theorem seq_bk {x y : SM} {ρ ρ1 : Rho} {st s1 : Store} (h : x ρ st = .go .bk ρ1 s1) : seqS x y ρ st = .go .bk ρ1 s1 := by unfold seqS; rw [h]
def iB (c : CallT) : SM := (seqS (ifS (tbM (op2M (cmpD .Eq) (varM 3) (cM (.int (0))))) (seqS bkS skipS) skipS) (seqS (exprS (metM c pg.meth "append" (varM 1) (consA (op2M (binD .Mod) (appM bInt (consA (varM 3) nilA)) (cM (.int (1000)))) nilA))) (seqS (asgS (.nm 3) (op2M (binD .FloorDiv) (varM 3) (cM (.int (1000))))) skipS)))
theorem inner (c : CallT) (n : Nat) (d0 : D) (w2 w5 w6 : Option D) : ∀ (its : List D) (l : List Int) (r : Int) (st : Store) (w4 : Option D), st[n]? = some (.lst (l.map di)) → Thou l → l.length + its.length ≤ 9000 →
    ∃ l' r' w4', lsS (.nm 4) (iB c) its [some d0, some (.ref n), w2, some (di r), w4, w5, w6] st = .go .nx [some d0, some (.ref n), w2, some (di r'), w4', w5, w6] (st.set n (.lst (l'.map di))) ∧ Thou l' ∧ l'.length ≤ l.length + its.length
  | [], l, r, st, w4, hn, hl, hb => ⟨l, r, w4, by rw [set_same hn]; rfl, hl, Nat.le_refl _⟩
  | x :: its, l, r, st, w4, hn, hl, hb => by
    have hnl : n < st.length := (List.getElem?_eq_some_iff.mp hn).1
    show ∃ l' r' w4', loopK (iB c [some d0, some (.ref n), w2, some (di r), some x, w5, w6] st) (lsS (.nm 4) (iB c) its) = _ ∧ _
    have q : tbM (op2M (cmpD .Eq) (varM 3) (cM (.int (0)))) [some d0, some (.ref n), w2, some (di r), some x, w5, w6] st = .ok (decide (r = 0)) st := tb_st (op2_st (d := di r) (d2 := di 0) rfl rfl rfl)
    by_cases h : r = 0
    · refine ⟨l, r, some x, ?_, hl, Nat.le_add_right _ _⟩
      have e : iB c [some d0, some (.ref n), w2, some (di r), some x, w5, w6] st = .go .bk [some d0, some (.ref n), w2, some (di r), some x, w5, w6] st := seq_bk (if_yes (q.trans (by rw [decide_eq_true h])) rfl)
      rw [e, set_same hn]
      rfl
    · have ap : exprS (metM c pg.meth "append" (varM 1) (consA (op2M (binD .Mod) (appM bInt (consA (varM 3) nilA)) (cM (.int (1000)))) nilA)) [some d0, some (.ref n), w2, some (di r), some x, w5, w6] st = .go .nx [some d0, some (.ref n), w2, some (di r), some x, w5, w6] (st.set n (.lst ((l ++ [r.fmod 1000]).map di))) := by
        refine expr_st (d := .p .non) (met_lst (n := n) rfl hn rfl (arg1 (mod_st (i := r) rfl (by omega)) rfl) hn ?_)
        have hlen : (l.map di).length < line := by rw [List.length_map]; simp only [List.length_cons] at hb; unfold line; omega
        show (if (l.map di).length < line then R.ok (D.p .non) (st.set n (.lst (l.map di ++ [di (r.fmod 1000)]))) else R.no) = _
        rw [if_pos hlen, List.map_append]
        rfl
      have e : iB c [some d0, some (.ref n), w2, some (di r), some x, w5, w6] st = .go .nx [some d0, some (.ref n), w2, some (di (r.fdiv 1000)), some x, w5, w6] (st.set n (.lst ((l ++ [r.fmod 1000]).map di))) := seq_nx (if_skip (q.trans (by rw [decide_eq_false h]))) (seq_nx ap (seq_nx (asg_st (op2_st (d := di r) (d2 := di 1000) rfl rfl (fdiv_d (by omega) (by omega)))) rfl))
      obtain ⟨l', r', w4', i1, i2, i3⟩ := inner c n d0 w2 w5 w6 its (l ++ [r.fmod 1000]) (r.fdiv 1000) (st.set n (.lst ((l ++ [r.fmod 1000]).map di))) (some x) (List.getElem?_set_self hnl) (hl.snoc (thou_mod r)) (by simp only [List.length_append, List.length_cons, List.length_nil] at hb ⊢; omega)
      refine ⟨l', r', w4', ?_, i2, ?_⟩
      · rw [e]
        show lsS _ _ _ _ _ = _
        rw [i1, List.set_set]
      · simp only [List.length_append, List.length_cons, List.length_nil] at i3 ⊢
        omega
def oB (c : CallT) : SM := (seqS (asgS (.nm 3) (appM (callD c ("_law_number", none)) (consA (varM 2) nilA))) (seqS (ifS (tbM (op2M (cmpD .GtE) (varM 3) (cM (.int (1000000000000000000))))) (seqS (forS (rngM (consA (cM (.int (60))) nilA)) (.nm 4) (iB c)) skipS) (seqS (asgS (.nm 5) (op2M (binD .Mod) (appM bInt (consA (op2M (binD .Add) (op2M (binD .Mult) (varM 3) (cM (.int (48271)))) (cM (.int (11)))) nilA)) (cM (.int (2147483647))))) (seqS (asgS (.nm 6) (op2M (binD .Mod) (appM bInt (consA (op2M (binD .Add) (op2M (binD .Mult) (varM 5) (cM (.int (69621)))) (varM 3)) nilA)) (cM (.int (2147483629))))) (seqS (exprS (metM c pg.meth "extend" (varM 1) (consA (lstM (consA (op2M (binD .Mod) (appM bInt (consA (varM 3) nilA)) (cM (.int (1000)))) (consA (op2M (binD .Mod) (appM bInt (consA (varM 5) nilA)) (cM (.int (1000)))) (consA (op2M (binD .Mod) (appM bInt (consA (varM 6) nilA)) (cM (.int (1000)))) nilA)))) nilA))) skipS)))) skipS))
theorem m11_eq (c : CallT) : m11 c = seqS (asgS (.nm 1) (lstM nilA)) (seqS (forS (itM (varM 0)) (.nm 2) (oB c)) (seqS (exprS (metM c pg.meth "reverse" (varM 1) nilA)) (seqS (retS (varM 1)) skipS))) := rfl
theorem lin_st {a : EM} {ρ : Rho} {st s1 : Store} {i j b : Int} (h : a ρ st = .ok (di i) s1) (hj : j.natAbs < 2 ^ 64) : op2M (binD .Add) (op2M (binD .Mult) a (cM (.int j))) (cM (.int b)) ρ st = .ok (di (i * j + b)) s1 := op2_st (d := di (i * j)) (d2 := di b) (s2 := s1) (op2_st (d := di i) (d2 := di j) (s2 := s1) h rfl (mul_d (.inr hj))) rfl rfl
theorem oturn (k n : Nat) (d0 : D) (cell : Int) (w3 w4 w5 w6 : Option D) (l : List Int) (st : Store) (hn : st[n]? = some (.lst (l.map di))) (hl : Thou l) (hb : l.length ≤ 5000) :
    ∃ l' w3' w4' w5' w6' st', oB (runF pg.T (k + 1)) [some d0, some (.ref n), some (di cell), w3, w4, w5, w6] st = .go .nx [some d0, some (.ref n), some (di cell), w3', w4', w5', w6'] st' ∧ st'[n]? = some (.lst (l'.map di)) ∧ Thou l' ∧ l'.length ≤ l.length + 60 ∧ Grow n st st' := by
  have hnl : n < st.length := (List.getElem?_eq_some_iff.mp hn).1
  obtain ⟨r, hr⟩ := number_run k cell []
  have a3 : asgS (.nm 3) (appM (callD (runF pg.T (k + 1)) ("_law_number", none)) (consA (varM 2) nilA)) [some d0, some (.ref n), some (di cell), w3, w4, w5, w6] st = .go .nx [some d0, some (.ref n), some (di cell), some (di r), w4, w5, w6] st := asg_st (app_st (arg1 (d := di cell) rfl rfl) (call_p rfl hr))
  have q : tbM (op2M (cmpD .GtE) (varM 3) (cM (.int (1000000000000000000)))) [some d0, some (.ref n), some (di cell), some (di r), w4, w5, w6] st = .ok (decide (1000000000000000000 ≤ r)) st := tb_st (op2_st (d := di r) (d2 := di 1000000000000000000) rfl rfl rfl)
  by_cases h : 1000000000000000000 ≤ r
  · obtain ⟨l', r', w4', i1, i2, i3⟩ := inner (runF pg.T (k + 1)) n d0 (some (di cell)) w5 w6 (rngL 0 60) l r st w4 hn hl (by have : (rngL 0 60).length = 60 := rfl; omega)
    have fr : forS (rngM (consA (cM (.int (60))) nilA)) (.nm 4) (iB (runF pg.T (k + 1))) [some d0, some (.ref n), some (di cell), some (di r), w4, w5, w6] st = .go .nx [some d0, some (.ref n), some (di cell), some (di r'), w4', w5, w6] (st.set n (.lst (l'.map di))) := i1
    exact ⟨l', some (di r'), w4', w5, w6, _, seq_nx a3 (seq_nx (if_yes (q.trans (by rw [decide_eq_true h])) (seq_nx fr rfl)) rfl), List.getElem?_set_self hnl, i2, i3, grow_set⟩
  · generalize ho : (r * 48271 + 11).fmod 2147483647 = once
    generalize ht : (once * 69621 + r).fmod 2147483629 = twice
    have a5 : asgS (.nm 5) (op2M (binD .Mod) (appM bInt (consA (op2M (binD .Add) (op2M (binD .Mult) (varM 3) (cM (.int (48271)))) (cM (.int (11)))) nilA)) (cM (.int (2147483647)))) [some d0, some (.ref n), some (di cell), some (di r), w4, w5, w6] st = .go .nx [some d0, some (.ref n), some (di cell), some (di r), w4, some (di once), w6] st := by
      rw [← ho]
      exact asg_st (mod_st (lin_st (i := r) rfl (by omega)) (by omega))
    have a6 : asgS (.nm 6) (op2M (binD .Mod) (appM bInt (consA (op2M (binD .Add) (op2M (binD .Mult) (varM 5) (cM (.int (69621)))) (varM 3)) nilA)) (cM (.int (2147483629)))) [some d0, some (.ref n), some (di cell), some (di r), w4, some (di once), w6] st = .go .nx [some d0, some (.ref n), some (di cell), some (di r), w4, some (di once), some (di twice)] st := by
      rw [← ht]
      exact asg_st (mod_st (op2_st (d := di (once * 69621)) (d2 := di r) (s2 := st) (op2_st (d := di once) (d2 := di 69621) (s2 := st) rfl rfl (mul_d (.inr (by omega)))) rfl rfl) (by omega))
    have ls : lstM (consA (op2M (binD .Mod) (appM bInt (consA (varM 3) nilA)) (cM (.int (1000)))) (consA (op2M (binD .Mod) (appM bInt (consA (varM 5) nilA)) (cM (.int (1000)))) (consA (op2M (binD .Mod) (appM bInt (consA (varM 6) nilA)) (cM (.int (1000)))) nilA))) [some d0, some (.ref n), some (di cell), some (di r), w4, some (di once), some (di twice)] st = .ok (.ref st.length) (st ++ [.lst ([r.fmod 1000, once.fmod 1000, twice.fmod 1000].map di)]) := by
      unfold lstM
      rw [arg_cons (mod_st (i := r) (j := 1000) rfl (by omega)) rfl (arg_cons (mod_st (i := once) (j := 1000) rfl (by omega)) rfl (arg1 (mod_st (i := twice) (j := 1000) rfl (by omega)) rfl)), bind_ok, if_pos (by show 3 ≤ 16777216; omega)]
      rfl
    have hn2 : (st ++ [SO.lst ([r.fmod 1000, once.fmod 1000, twice.fmod 1000].map di)])[n]? = some (.lst (l.map di)) := by rw [List.getElem?_append_left hnl]; exact hn
    have ex : exprS (metM (runF pg.T (k + 1)) pg.meth "extend" (varM 1) (consA (lstM (consA (op2M (binD .Mod) (appM bInt (consA (varM 3) nilA)) (cM (.int (1000)))) (consA (op2M (binD .Mod) (appM bInt (consA (varM 5) nilA)) (cM (.int (1000)))) (consA (op2M (binD .Mod) (appM bInt (consA (varM 6) nilA)) (cM (.int (1000)))) nilA)))) nilA)) [some d0, some (.ref n), some (di cell), some (di r), w4, some (di once), some (di twice)] st = .go .nx [some d0, some (.ref n), some (di cell), some (di r), w4, some (di once), some (di twice)] ((st ++ [SO.lst ([r.fmod 1000, once.fmod 1000, twice.fmod 1000].map di)]).set n (.lst ((l ++ [r.fmod 1000, once.fmod 1000, twice.fmod 1000]).map di))) := by
      refine expr_st (d := .p .non) (met_lst (n := n) rfl hn rfl (arg1 ls rfl) hn2 ?_)
      have hg : (st ++ [SO.lst ([r.fmod 1000, once.fmod 1000, twice.fmod 1000].map di)])[st.length]? = some (.lst ([r.fmod 1000, once.fmod 1000, twice.fmod 1000].map di)) := by rw [List.getElem?_append_right (Nat.le_refl _), Nat.sub_self]; rfl
      generalize (st ++ [SO.lst ([r.fmod 1000, once.fmod 1000, twice.fmod 1000].map di)]) = st1 at hg hn2
      have hlen : (l.map di).length + ([r.fmod 1000, once.fmod 1000, twice.fmod 1000].map di).length ≤ line := by rw [List.length_map]; unfold line; show l.length + 3 ≤ _; omega
      show (match st1[st.length]? with
        | some (.lst l2) => if (l.map di).length + l2.length ≤ line then R.ok (D.p .non) (st1.set n (.lst (l.map di ++ l2))) else R.no
        | _ => R.no) = _
      rw [hg]
      dsimp only
      rw [if_pos hlen, List.map_append]
    refine ⟨l ++ [r.fmod 1000, once.fmod 1000, twice.fmod 1000], some (di r), w4, some (di once), some (di twice), _, seq_nx a3 (seq_nx (if_not (q.trans (by rw [decide_eq_false h])) (seq_nx a5 (seq_nx a6 (seq_nx ex rfl)))) rfl), List.getElem?_set_self (by rw [List.length_append]; omega), ?_, by simp, ⟨by rw [List.length_set, List.length_append]; omega, fun i o hi ho => ?_⟩⟩
    · intro i hi
      rcases List.mem_append.mp hi with h1 | h1
      · exact hl i h1
      · simp only [List.mem_cons, List.not_mem_nil, or_false] at h1
        rcases h1 with rfl | rfl | rfl <;> exact thou_mod _
    · rw [List.getElem?_set_ne (fun z => hi z.symm), List.getElem?_append_left (List.getElem?_eq_some_iff.mp ho).1]
      exact ho
theorem outer (k n : Nat) (ns : List Int) (hn0 : n ≠ 0) (hlen : ns.length ≤ 63) : ∀ (m i : Nat) (l : List Int) (st : Store) (w2 w3 w4 w5 w6 : Option D), ns.length - i < m → st[0]? = some (.ro (scriptD ns)) → st[n]? = some (.lst (l.map di)) → Thou l → l.length ≤ 60 * i → i ≤ ns.length →
    ∃ l' w2' w3' w4' w5' w6' st', liveS (.nm 2) (oB (runF pg.T (k + 1))) 0 m i [some (.ref 0), some (.ref n), w2, w3, w4, w5, w6] st = .go .nx [some (.ref 0), some (.ref n), w2', w3', w4', w5', w6'] st' ∧ st'[n]? = some (.lst (l'.map di)) ∧ Thou l' ∧ l'.length ≤ 60 * ns.length
  | 0, _, _, _, _, _, _, _, _, hm, _, _, _, _, _ => by omega
  | m + 1, i, l, st, w2, w3, w4, w5, w6, hm, h0, hn, hl, hb, hi => by
    have la : liveAt st 0 i = some (scriptD ns)[i]? := by
      unfold liveAt
      rw [h0]
    have step : liveS (.nm 2) (oB (runF pg.T (k + 1))) 0 (m + 1) i [some (.ref 0), some (.ref n), w2, w3, w4, w5, w6] st = (match (some (scriptD ns)[i]? : Option (Option D)) with
      | some (some d) => (match setTg st (.nm 2) d [some (.ref 0), some (.ref n), w2, w3, w4, w5, w6] with
        | some ρ' => loopK (oB (runF pg.T (k + 1)) ρ' st) (liveS (.nm 2) (oB (runF pg.T (k + 1))) 0 m (i + 1))
        | none => .no)
      | some none => .go .nx [some (.ref 0), some (.ref n), w2, w3, w4, w5, w6] st
      | none => .no) := by
      rw [← la]
      rfl
    rw [step]
    have se : (scriptD ns)[i]? = (ns[i]?).map fun i => .p (.int i) := List.getElem?_map ..
    cases q : ns[i]? with
    | none =>
      rw [se, q]
      exact ⟨l, w2, w3, w4, w5, w6, st, rfl, hn, hl, Nat.le_trans hb (Nat.mul_le_mul_left _ hi)⟩
    | some cell =>
      have hil := (List.getElem?_eq_some_iff.mp q).1
      rw [se, q]
      obtain ⟨l', w3', w4', w5', w6', st', e1, e2, e3, e4, e5⟩ := oturn k n (.ref 0) cell w3 w4 w5 w6 l st hn hl (by omega)
      show ∃ l' w2' w3' w4' w5' w6' st', loopK (oB (runF pg.T (k + 1)) [some (.ref 0), some (.ref n), some (di cell), w3, w4, w5, w6] st) (liveS (.nm 2) (oB (runF pg.T (k + 1))) 0 m (i + 1)) = _ ∧ _
      rw [e1]
      exact outer k n ns hn0 hlen m (i + 1) l' st' (some (di cell)) w3' w4' w5' w6' (by omega) (e5.2 0 _ (fun z => hn0 z.symm) h0) e2 e3 (by omega) (by omega)
theorem draws_run (k : Nat) (ns : List Int) (hlen : ns.length ≤ 63) : ∃ n l st', runF pg.T (k + 2) ("_law_draws", none) [.ref 0] [.ro (scriptD ns)] = .ok (.ref n) st' ∧ st'[n]? = some (.lst (l.map di)) ∧ Thou l ∧ l.length ≤ 60 * 63 := by
  rw [r11]
  obtain ⟨l', w2', w3', w4', w5', w6', st', e1, e2, e3, e4⟩ := outer k 1 ns (by omega) hlen ((scriptD ns).length + 1) 0 [] [.ro (scriptD ns), .lst []] none none none none none (by unfold scriptD; rw [List.length_map]; omega) rfl rfl (fun i hi => by cases hi) (Nat.le_refl _) (Nat.zero_le _)
  refine ⟨1, l'.reverse, st'.set 1 (.lst (l'.reverse.map di)), runB_rt (ρ1 := [some (.ref 0), some (.ref 1), w2', w3', w4', w5', w6']) rfl ?_, List.getElem?_set_self (List.getElem?_eq_some_iff.mp e2).1, fun i hi => e3 i (List.mem_reverse.mp hi), by rw [List.length_reverse]; omega⟩
  rw [m11_eq]
  have fr : forS (itM (varM 0)) (.nm 2) (oB (runF pg.T (k + 1))) [some (.ref 0), some (.ref 1), none, none, none, none, none] [.ro (scriptD ns), .lst []] = .go .nx [some (.ref 0), some (.ref 1), w2', w3', w4', w5', w6'] st' := e1
  have rv : exprS (metM (runF pg.T (k + 1)) pg.meth "reverse" (varM 1) nilA) [some (.ref 0), some (.ref 1), w2', w3', w4', w5', w6'] st' = .go .nx [some (.ref 0), some (.ref 1), w2', w3', w4', w5', w6'] (st'.set 1 (.lst (l'.reverse.map di))) := by
    refine expr_st (d := .p .non) (met_lst (n := 1) rfl e2 rfl rfl e2 ?_)
    show R.ok (D.p .non) (st'.set 1 (.lst (l'.map di).reverse)) = _
    rw [List.map_reverse]
  exact seq_nx (asg_st (d := .ref 1) (s1 := [.ro (scriptD ns), .lst []]) rfl) (seq_nx fr (seq_nx rv (seq_rt (ret_st (d := .ref 1) rfl rfl))))
end K20
end S_K20y

section S_K20z
set_option Elab.async false
set_option linter.all false
set_option maxRecDepth 100000
set_option maxHeartbeats 1000000
namespace K20
open PySem L2 Lt
/-- draws at n -/
def Dr (n : Nat) (st : Store) : Prop := ∃ l : List Int, st[n]? = some (.lst (l.map di)) ∧ Thou l
/-- a number is drawn -/
theorem next_run (k n : Nat) (st : Store) (h : Dr n st) : ∃ i st', runF pg.T (k + 1) ("_law_next", none) [.ref n] st = .ok (di i) st' ∧ (0 ≤ i ∧ i < 1000) ∧ Dr n st' ∧ Grow n st st' := by
  obtain ⟨l, hn, hl⟩ := h
  have hnl : n < st.length := (List.getElem?_eq_some_iff.mp hn).1
  rw [r12]
  have tru := tru_ref (a := varM 0) (ρ := startR 1 [.ref n]) (m := n) rfl hn
  rcases List.eq_nil_or_concat l with rfl | ⟨l', i, rfl⟩
  · exact ⟨0, st, runB_rt rfl (seq_nx (if_skip tru) (seq_rt (ret_st (d := di 0) rfl rfl))), by omega, ⟨[], hn, hl⟩, Nat.le_refl _, fun _ _ _ h => h⟩
  · have te : ((l'.concat i).map di).isEmpty = false := by simp
    rw [te] at tru
    refine ⟨i, st.set n (.lst (l'.map di)), runB_rt rfl (seq_rt (if_yes tru (seq_rt (ret_st (d := di i) (met_lst (n := n) rfl hn rfl rfl hn ?_) rfl)))), hl i (by simp), ⟨l', List.getElem?_set_self hnl, fun j hj => hl j (by simp [hj])⟩, grow_set⟩
    show (match ((l'.concat i).map di).getLast? with
      | some d => R.ok d (st.set n (.lst ((l'.concat i).map di).dropLast))
      | none => R.no) = _
    simp
/-- the call, in a def -/
theorem next_st (k n i : Nat) {ρ : Rho} {st : Store} (hv : varM i ρ st = .ok (.ref n) st) (h : Dr n st) : ∃ j st', appM (callD (runF pg.T (k + 1)) ("_law_next", none)) (consA (varM i) nilA) ρ st = .ok (di j) st' ∧ (0 ≤ j ∧ j < 1000) ∧ Dr n st' ∧ Grow n st st' := by
  obtain ⟨j, st', e, h1, h2, h3⟩ := next_run k n st h
  exact ⟨j, st', app_st (arg1 hv rfl) (call_r rfl e), h1, h2, h3⟩
def mB (c : CallT) : SM := (seqS (asgS (.nm 2) (op2M (binD .Mod) (appM bInt (consA (op2M (binD .Add) (op2M (binD .Mult) (varM 2) (cM (.int (48271)))) (cM (.int (12345)))) nilA)) (cM (.int (2147483647))))) (seqS (exprS (metM c pg.meth "append" (varM 3) (consA (op2M (binD .Mod) (appM bInt (consA (op2M (binD .FloorDiv) (varM 2) (cM (.int (7)))) nilA)) (cM (.int (1000)))) nilA))) skipS))
theorem m13_eq (c : CallT) : m13 c = seqS (asgS (.nm 2) (op2M (binD .Add) (op2M (binD .Add) (op2M (binD .Mult) (cM (.int (1000))) (appM (callD c ("_law_next", none)) (consA (varM 0) nilA))) (appM (callD c ("_law_next", none)) (consA (varM 0) nilA))) (cM (.int (1))))) (seqS (asgS (.nm 3) (lstM nilA)) (seqS (forS (rngM (consA (varM 1) nilA)) (.nm 4) (mB c)) (seqS (retS (op2M (binD .Add) (varM 3) (varM 0))) skipS))) := rfl
theorem mloop (c : CallT) (q : Nat) (d0 d1 : Option D) : ∀ (its : List D) (l : List Int) (r : Int) (st : Store) (w4 : Option D), st[q]? = some (.lst (l.map di)) → Thou l → l.length + its.length ≤ 9000 →
    ∃ l' r' w4', lsS (.nm 4) (mB c) its [d0, d1, some (di r), some (.ref q), w4] st = .go .nx [d0, d1, some (di r'), some (.ref q), w4'] (st.set q (.lst (l'.map di))) ∧ Thou l' ∧ l'.length ≤ l.length + its.length
  | [], l, r, st, w4, hn, hl, hb => ⟨l, r, w4, by rw [set_same hn]; rfl, hl, Nat.le_refl _⟩
  | x :: its, l, r, st, w4, hn, hl, hb => by
    have hnl : q < st.length := (List.getElem?_eq_some_iff.mp hn).1
    show ∃ l' r' w4', loopK (mB c [d0, d1, some (di r), some (.ref q), some x] st) (lsS (.nm 4) (mB c) its) = _ ∧ _
    generalize hr : (r * 48271 + 12345).fmod 2147483647 = s
    have a2 : asgS (.nm 2) (op2M (binD .Mod) (appM bInt (consA (op2M (binD .Add) (op2M (binD .Mult) (varM 2) (cM (.int (48271)))) (cM (.int (12345)))) nilA)) (cM (.int (2147483647)))) [d0, d1, some (di r), some (.ref q), some x] st = .go .nx [d0, d1, some (di s), some (.ref q), some x] st := by
      rw [← hr]
      exact asg_st (mod_st (lin_st (i := r) rfl (by omega)) (by omega))
    have ap : exprS (metM c pg.meth "append" (varM 3) (consA (op2M (binD .Mod) (appM bInt (consA (op2M (binD .FloorDiv) (varM 2) (cM (.int (7)))) nilA)) (cM (.int (1000)))) nilA)) [d0, d1, some (di s), some (.ref q), some x] st = .go .nx [d0, d1, some (di s), some (.ref q), some x] (st.set q (.lst ((l ++ [(s.fdiv 7).fmod 1000]).map di))) := by
      refine expr_st (d := .p .non) (met_lst (n := q) rfl hn rfl (arg1 (mod_st (i := s.fdiv 7) (op2_st (d := di s) (d2 := di 7) rfl rfl (fdiv_d (by omega) (by omega))) (by omega)) rfl) hn ?_)
      have hlen : (l.map di).length < line := by rw [List.length_map]; simp only [List.length_cons] at hb; unfold line; omega
      show (if (l.map di).length < line then R.ok (D.p .non) (st.set q (.lst (l.map di ++ [di ((s.fdiv 7).fmod 1000)]))) else R.no) = _
      rw [if_pos hlen, List.map_append]
      rfl
    obtain ⟨l', r', w4', i1, i2, i3⟩ := mloop c q d0 d1 its (l ++ [(s.fdiv 7).fmod 1000]) s (st.set q (.lst ((l ++ [(s.fdiv 7).fmod 1000]).map di))) (some x) (List.getElem?_set_self hnl) (hl.snoc (thou_mod _)) (by simp only [List.length_append, List.length_cons, List.length_nil] at hb ⊢; omega)
    refine ⟨l', r', w4', ?_, i2, by simp only [List.length_append, List.length_cons, List.length_nil] at i3 ⊢; omega⟩
    have e : mB c [d0, d1, some (di r), some (.ref q), some x] st = .go .nx [d0, d1, some (di s), some (.ref q), some x] (st.set q (.lst ((l ++ [(s.fdiv 7).fmod 1000]).map di))) := seq_nx a2 (seq_nx ap rfl)
    rw [e]
    show lsS _ _ _ _ _ = _
    rw [i1, List.set_set]
/-- draws, no more than so many -/
def DrB (n b : Nat) (st : Store) : Prop := ∃ l : List Int, st[n]? = some (.lst (l.map di)) ∧ Thou l ∧ l.length ≤ b
theorem next_runB (k n b : Nat) (st : Store) (h : DrB n b st) : ∃ i st', runF pg.T (k + 1) ("_law_next", none) [.ref n] st = .ok (di i) st' ∧ DrB n b st' := by
  obtain ⟨l, hn, hl, hb⟩ := h
  have hnl : n < st.length := (List.getElem?_eq_some_iff.mp hn).1
  rw [r12]
  have tru := tru_ref (a := varM 0) (ρ := startR 1 [.ref n]) (m := n) rfl hn
  rcases List.eq_nil_or_concat l with rfl | ⟨l', i, rfl⟩
  · exact ⟨0, st, runB_rt rfl (seq_nx (if_skip tru) (seq_rt (ret_st (d := di 0) rfl rfl))), [], hn, hl, hb⟩
  · have te : ((l'.concat i).map di).isEmpty = false := by simp
    rw [te] at tru
    refine ⟨i, st.set n (.lst (l'.map di)), runB_rt rfl (seq_rt (if_yes tru (seq_rt (ret_st (d := di i) (met_lst (n := n) rfl hn rfl rfl hn ?_) rfl)))), l', List.getElem?_set_self hnl, fun j hj => hl j (by simp [hj]), by simp at hb; omega⟩
    show (match ((l'.concat i).map di).getLast? with
      | some d => R.ok d (st.set n (.lst ((l'.concat i).map di).dropLast))
      | none => R.no) = _
    simp
theorem more_run (k n : Nat) (st : Store) (h : DrB n 5000 st) : ∃ m st', runF pg.T (k + 2) ("_law_more", none) [.ref n, di 120] st = .ok (.ref m) st' ∧ Dr m st' := by
  obtain ⟨i1, s1, e1, h1⟩ := next_runB k n 5000 st h
  obtain ⟨i2, s2, e2, h2⟩ := next_runB k n 5000 s1 h1
  obtain ⟨l, hn, hl, hb⟩ := h2
  have hnl : n < s2.length := (List.getElem?_eq_some_iff.mp hn).1
  rw [r13]
  have c1 : appM (callD (runF pg.T (k + 1)) ("_law_next", none)) (consA (varM 0) nilA) (startR 5 [.ref n, di 120]) st = .ok (di i1) s1 := app_st (arg1 (d := .ref n) rfl rfl) (call_r rfl e1)
  have c2 : appM (callD (runF pg.T (k + 1)) ("_law_next", none)) (consA (varM 0) nilA) (startR 5 [.ref n, di 120]) s1 = .ok (di i2) s2 := app_st (arg1 (d := .ref n) rfl rfl) (call_r rfl e2)
  have a2 : asgS (.nm 2) (op2M (binD .Add) (op2M (binD .Add) (op2M (binD .Mult) (cM (.int (1000))) (appM (callD (runF pg.T (k + 1)) ("_law_next", none)) (consA (varM 0) nilA))) (appM (callD (runF pg.T (k + 1)) ("_law_next", none)) (consA (varM 0) nilA))) (cM (.int (1)))) (startR 5 [.ref n, di 120]) st = .go .nx [some (.ref n), some (di 120), some (di (1000 * i1 + i2 + 1)), none, none] s2 := asg_st (i := 2) (d := di (1000 * i1 + i2 + 1)) (op2_st (d := di (1000 * i1 + i2)) (d2 := di 1) (s2 := s2) (op2_st (d := di (1000 * i1)) (op2_st (d := di 1000) rfl c1 (mul_d (.inl (by omega)))) c2 rfl) rfl rfl)
  have hq : (s2 ++ [SO.lst (([] : List Int).map di)])[s2.length]? = some (.lst (([] : List Int).map di)) := by rw [List.getElem?_append_right (Nat.le_refl _), Nat.sub_self]; rfl
  have hn2 : (s2 ++ [SO.lst (([] : List Int).map di)])[n]? = some (.lst (l.map di)) := by rw [List.getElem?_append_left hnl]; exact hn
  obtain ⟨l', r', w4', j1, j2, j3⟩ := mloop (runF pg.T (k + 1)) s2.length (some (.ref n)) (some (di 120)) (rngL 0 120) [] (1000 * i1 + i2 + 1) (s2 ++ [SO.lst (([] : List Int).map di)]) none hq (fun i hi => by cases hi) (by show 0 + 120 ≤ _; omega)
  have j3 : l'.length ≤ 120 := j3
  generalize hst : (s2 ++ [SO.lst (([] : List Int).map di)]).set s2.length (SO.lst (l'.map di)) = st3 at j1
  have g1 : st3[s2.length]? = some (.lst (l'.map di)) := by rw [← hst]; exact List.getElem?_set_self (by rw [List.length_append]; exact Nat.lt_succ_self _)
  have g2 : st3[n]? = some (.lst (l.map di)) := by rw [← hst, List.getElem?_set_ne (by omega)]; exact hn2
  have fr : forS (rngM (consA (varM 1) nilA)) (.nm 4) (mB (runF pg.T (k + 1))) [some (.ref n), some (di 120), some (di (1000 * i1 + i2 + 1)), some (.ref s2.length), none] (s2 ++ [SO.lst (([] : List Int).map di)]) = .go .nx [some (.ref n), some (di 120), some (di r'), some (.ref s2.length), w4'] st3 := j1
  have ad : op2M (binD .Add) (varM 3) (varM 0) [some (.ref n), some (di 120), some (di r'), some (.ref s2.length), w4'] st3 = .ok (.ref st3.length) (st3 ++ [SO.lst ((l' ++ l).map di)]) := by
    refine op2_st (d := .ref s2.length) (d2 := .ref n) (s1 := st3) (s2 := st3) rfl rfl ?_
    show (match st3[s2.length]?, st3[n]? with
      | some (.lst x), some (.lst y) => if x.length + y.length ≤ line then R.ok (D.ref st3.length) (st3 ++ [SO.lst (x ++ y)]) else .no
      | _, _ => .no) = _
    rw [g1, g2]
    dsimp only
    rw [if_pos (by rw [List.length_map, List.length_map]; unfold line; omega), List.map_append]
  refine ⟨st3.length, st3 ++ [SO.lst ((l' ++ l).map di)], runB_rt (ρ1 := [some (.ref n), some (di 120), some (di r'), some (.ref s2.length), w4']) rfl ?_, l' ++ l, by rw [List.getElem?_append_right (Nat.le_refl _), Nat.sub_self]; rfl, ?_⟩
  · rw [m13_eq]
    exact seq_nx a2 (seq_nx (asg_st (i := 3) (d := .ref s2.length) (s1 := s2 ++ [SO.lst (([] : List Int).map di)]) rfl) (seq_nx fr (seq_rt (ret_st ad rfl))))
  · intro i hi
    rcases List.mem_append.mp hi with h | h
    · exact j2 i h
    · exact hl i h
/-- one of some is picked -/
theorem pick_run (k n q : Nat) (st : Store) (l : List P) (h : Dr n st) (hq : st[q]? = some (.lst (l.map D.p))) (hnq : q ≠ n) (hl : l ≠ []) : ∃ x st', runF pg.T (k + 2) ("_law_pick", none) [.ref n, .ref q] st = .ok (.p x) st' ∧ x ∈ l ∧ Dr n st' ∧ Grow n st st' := by
  obtain ⟨j, s1, e1, h1, h2, h3⟩ := next_st k n 0 (ρ := [some (.ref n), some (.ref q)]) (st := st) rfl h
  have hq1 := h3.2 q _ hnq hq
  have hlen : 0 < l.length := List.length_pos_iff.mpr hl
  have b1 := Int.fmod_nonneg_of_pos j (b := (l.length : Int)) (by omega)
  have b2 := Int.fmod_lt_of_pos j (b := (l.length : Int)) (by omega)
  have so : seqOf (.ref q) s1 = some (l.map D.p) := by
    show (match s1[q]? with
      | some (.lst l) => some l
      | some (.ro l) => some l
      | _ => none) = _
    rw [hq1]
  have ln : appM bLen (consA (varM 1) nilA) [some (.ref n), some (.ref q)] s1 = .ok (di l.length) s1 := by
    refine app_st (arg1 (d := .ref q) rfl rfl) ?_
    show (match seqOf (.ref q) s1 with
      | some l => okP (.int l.length) s1
      | none => R.no) = _
    rw [so]
    show R.ok (D.p (.int ((l.map D.p).length : Nat))) s1 = _
    rw [List.length_map]
    rfl
  have ix : op2M (binD .Mod) (appM bInt (consA (appM (callD (runF pg.T (k + 1)) ("_law_next", none)) (consA (varM 0) nilA)) nilA)) (appM bLen (consA (varM 1) nilA)) [some (.ref n), some (.ref q)] st = .ok (di (j.fmod l.length)) s1 := op2_st (d := di j) (d2 := di l.length) (s2 := s1) (app_st (arg1 e1 rfl) rfl) ln (mod_d (by omega))
  generalize hj : j.fmod l.length = m0 at b1 b2 ix
  obtain ⟨m, rfl⟩ : ∃ m : Nat, m0 = m := ⟨m0.toNat, by omega⟩
  have hm : m < l.length := by omega
  refine ⟨l[m], s1, ?_, List.getElem_mem _, h2, h3⟩
  rw [r14]
  refine runB_rt rfl (seq_rt (ret_st (op2_st (d := .ref q) (s1 := st) rfl ix ?_) rfl))
  have ea : atL (l.map D.p) (m : Int) = some (.p l[m]) := by
    unfold atL atI ixN
    simp [hm]
  show (match seqOf (.ref q) s1 with
    | some l => (match atL l (m : Int) with
      | some d => R.ok d s1
      | none => .no)
    | none => .no) = _
  rw [so]
  dsimp only
  rw [ea]
end K20
end S_K20z

section S_K20za
set_option Elab.async false
set_option linter.all false
set_option maxRecDepth 100000
set_option maxHeartbeats 1000000
namespace K20
open PySem L2 Lt
theorem Grow.refl {n : Nat} {st : Store} : Grow n st st := ⟨Nat.le_refl _, fun _ _ _ h => h⟩
theorem grow_app {n : Nat} {st t : Store} : Grow n st (st ++ t) := ⟨by rw [List.length_append]; omega, fun i o _ h => by rw [List.getElem?_append_left (List.getElem?_eq_some_iff.mp h).1]; exact h⟩
theorem Dr.app {n : Nat} {st t : Store} (h : Dr n st) : Dr n (st ++ t) := by
  obtain ⟨l, hn, hl⟩ := h
  exact ⟨l, by rw [List.getElem?_append_left (List.getElem?_eq_some_iff.mp hn).1]; exact hn, hl⟩
theorem Dr.lt {n : Nat} {st : Store} (h : Dr n st) : n < st.length := by
  obtain ⟨l, hn, _⟩ := h
  exact (List.getElem?_eq_some_iff.mp hn).1
/-! ### a comprehension whose element draws -/
theorem lsC_gen {i n : Nat} {elt : EM} {ρ : Rho} (Pr : P → Prop) : ∀ (its : List D) (acc : List P) (s : Store), (∀ d ∈ its, ∀ s, Dr n s → ∃ t s', elt (ρ.set i (some d)) s = .ok (.p t) s' ∧ Pr t ∧ Dr n s' ∧ Grow n s s') → Dr n s → acc.length + its.length ≤ 100000 →
    ∃ ts s', lsC (turnC (.nm i) yesM elt ρ) its (acc.map D.p) s = .ok ((acc ++ ts).map D.p) s' ∧ ts.length = its.length ∧ (∀ t ∈ ts, Pr t) ∧ Dr n s' ∧ Grow n s s'
  | [], acc, s, _, hd, _ => ⟨[], s, by rw [List.append_nil]; rfl, rfl, (fun _ h => nomatch h), hd, Grow.refl⟩
  | d :: r, acc, s, he, hd, hl => by
    obtain ⟨t, s1, e1, e2, e3, e4⟩ := he d List.mem_cons_self s hd
    obtain ⟨ts, s2, f1, f2, f3, f4, f5⟩ := lsC_gen Pr r (acc ++ [t]) s1 (fun d hd => he d (List.mem_cons_of_mem _ hd)) e3 (by simp only [List.length_append, List.length_cons, List.length_nil] at hl ⊢; omega)
    refine ⟨t :: ts, s2, ?_, by rw [List.length_cons, List.length_cons, f2], fun x hx => ?_, f4, e4.trans f5⟩
    · have tu : turnC (.nm i) yesM elt ρ d s = .ok (some (.p t)) s1 := by
        show (elt (ρ.set i (some d)) s).bind _ = _
        rw [e1]
        rfl
      show (turnC (.nm i) yesM elt ρ d s).bind _ = _
      rw [tu, bind_ok, if_pos (by rw [List.length_map]; simp only [List.length_cons] at hl; unfold line; omega)]
      show lsC _ r (acc.map D.p ++ [.p t]) s1 = _
      rw [show acc.map D.p ++ [D.p t] = (acc ++ [t]).map D.p by rw [List.map_append]; rfl, f1, List.append_assoc]
      rfl
    · rcases List.mem_cons.mp hx with rfl | h
      · exact e2
      · exact f3 x h
theorem comp_gen {own : List Nat} {it : IM} {i n : Nat} {elt : EM} {ρ : Rho} {st s1 : Store} {its : List D} (Pr : P → Prop) (hx : noX ρ = true) (hit : it ρ st = .ok (.ls its) s1) (hd : Dr n s1) (he : ∀ d ∈ its, ∀ s, Dr n s → ∃ t s', elt ((wipeR ρ own).set i (some d)) s = .ok (.p t) s' ∧ Pr t ∧ Dr n s' ∧ Grow n s s') (hl : its.length ≤ 100000) :
    ∃ (ts : List P) (s' : Store), compM own it (.nm i) yesM elt ρ st = .ok (.ref s'.length) (s' ++ [SO.lst (ts.map D.p)]) ∧ ts.length = its.length ∧ (∀ t ∈ ts, Pr t) ∧ Dr n s' ∧ Grow n s1 s' := by
  obtain ⟨ts, s2, f1, f2, f3, f4, f5⟩ := lsC_gen (i := i) (n := n) (elt := elt) (ρ := wipeR ρ own) Pr its [] s1 he hd (by rw [List.length_nil]; omega)
  refine ⟨ts, s2, ?_, f2, f3, f4, f5⟩
  unfold compM
  rw [hx, if_pos rfl, hit, bind_ok]
  show (lsC _ its (([] : List P).map D.p) s1).bind _ = _
  rw [f1]
  rfl
/-! ### a term is drawn -/
def drw : Nat → P → Bool
  | 0, .tup _ => false
  | n + 1, .tup l => decide (l.length ≤ 3) && l.all (drw n)
  | _, .str s => decide (s ≠ NON) && decide (s.length ≤ 5) && s.all fun c => decide (c ∈ SML)
  | _, .int i => decide (i.natAbs < 10 ^ 20)
  | _, .non => true
  | _, .bl _ => false
theorem drw_int {n : Nat} {i : Int} (h : i.natAbs < 10 ^ 20) : drw n (.int i) = true := by cases n <;> exact decide_eq_true h
theorem drw_str {n : Nat} {s : List Nat} (h : s ≠ NON) (h2 : s.length ≤ 5) (h3 : ∀ c ∈ s, c ∈ SML) : drw n (.str s) = true := by
  have z : (decide (s ≠ NON) && decide (s.length ≤ 5) && s.all fun c => decide (c ∈ SML)) = true := by
    rw [decide_eq_true h, decide_eq_true h2]
    exact List.all_eq_true.mpr fun c hc => decide_eq_true (h3 c hc)
  cases n <;> exact z
theorem drw_non {n : Nat} : drw n .non = true := by cases n <;> rfl
def ABC : List Nat := [97, 98, 99, 110, 111, 122, 101]
def ONE (t : P) : Prop := ∃ c, t = .str [c] ∧ c ∈ SML
theorem abc_at {m : Nat} (h : m < 7) : ∃ c, atL ABC (m : Int) = some c ∧ c ∈ SML := by
  have : ∀ m : Nat, m < 7 → ∃ c, atL ABC (m : Int) = some c ∧ c ∈ SML := by
    intro m h
    match m, h with
    | 0, _ => exact ⟨97, rfl, by decide⟩
    | 1, _ => exact ⟨98, rfl, by decide⟩
    | 2, _ => exact ⟨99, rfl, by decide⟩
    | 3, _ => exact ⟨110, rfl, by decide⟩
    | 4, _ => exact ⟨111, rfl, by decide⟩
    | 5, _ => exact ⟨122, rfl, by decide⟩
    | 6, _ => exact ⟨101, rfl, by decide⟩
    | n + 7, h => omega
  exact this m h
theorem ones_join : ∀ ts : List P, (∀ t ∈ ts, ONE t) → ∃ w, strsOf (ts.map D.p) = some w ∧ w.length = ts.length ∧ (∀ c ∈ joinS [] w, c ∈ SML) ∧ (joinS [] w).length = ts.length ∧ (w.map List.length).sum = ts.length
  | [], _ => ⟨[], rfl, rfl, (fun _ h => nomatch h), rfl, rfl⟩
  | t :: r, h => by
    obtain ⟨c, rfl, hc⟩ := h t List.mem_cons_self
    obtain ⟨w, e1, e2, e3, e4, e5⟩ := ones_join r fun t ht => h t (List.mem_cons_of_mem _ ht)
    refine ⟨[c] :: w, ?_, by rw [List.length_cons, List.length_cons, e2], ?_⟩
    · show (strsOf (r.map D.p)).map _ = _
      rw [e1]
      rfl
    · have ej : joinS [] ([c] :: w) = c :: joinS [] w := by cases w <;> rfl
      rw [ej]
      refine ⟨fun d hd => ?_, by rw [List.length_cons, List.length_cons, e4], by rw [List.map_cons, List.sum_cons, e5]; simp only [List.length_cons, List.length_nil]; omega⟩
      rcases List.mem_cons.mp hd with rfl | h1
      · exact hc
      · exact e3 d h1
/-- int(_law_next(draws)) % j -/
theorem nmod (k n i : Nat) {ρ : Rho} {st : Store} {j : Int} (hv : varM i ρ st = .ok (.ref n) st) (h : Dr n st) (hj : 0 < j) : ∃ (m : Nat) (st' : Store), op2M (binD .Mod) (appM bInt (consA (appM (callD (runF pg.T (k + 1)) ("_law_next", none)) (consA (varM i) nilA)) nilA)) (cM (.int j)) ρ st = .ok (di m) st' ∧ (m : Int) < j ∧ Dr n st' ∧ Grow n st st' := by
  obtain ⟨x, s1, e1, _, e3, e4⟩ := next_st k n i hv h
  have b1 := Int.fmod_nonneg_of_pos x hj
  have b2 := Int.fmod_lt_of_pos x hj
  refine ⟨(x.fmod j).toNat, s1, ?_, by omega, e3, e4⟩
  rw [mod_st e1 (by omega)]
  congr 2
  omega
theorem rng_n {a : EM} {ρ : Rho} {st s1 : Store} {m : Nat} (h : a ρ st = .ok (di m) s1) (hm : m < 100000) : rngM (consA a nilA) ρ st = .ok (.ls (rngL 0 m)) s1 ∧ (rngL 0 (m : Int)).length = m := by
  refine ⟨?_, ?_⟩
  · have ok : rngOk (m : Int) = true := by
      unfold rngOk
      simp only [Bool.and_eq_true, decide_eq_true_eq]
      omega
    unfold rngM
    rw [arg1 h rfl, bind_ok]
    show (if rngOk (m : Int) = true then R.ok (Itr.ls (rngL 0 m)) _ else .no) = _
    rw [ok, if_pos rfl]
  · unfold rngL
    rw [List.length_map, List.length_range]
    omega
theorem word_gen (k n : Nat) (dep kind : D) (st : Store) (h : Dr n st) (hx : isX dep = false) (hk : isX kind = false) : ∃ w st', metM (runF pg.T (k + 1)) pg.meth "join" (cM (.str [])) (consA (compM [4] (rngM (consA (op2M (binD .Mod) (appM bInt (consA (appM (callD (runF pg.T (k + 1)) ("_law_next", none)) (consA (varM 0) nilA)) nilA)) (cM (.int (6)))) nilA)) (.nm 4) yesM (op2M ixD (cM (.str [97, 98, 99, 110, 111, 122, 101])) (op2M (binD .Mod) (appM bInt (consA (appM (callD (runF pg.T (k + 1)) ("_law_next", none)) (consA (varM 0) nilA)) nilA)) (cM (.int (7)))))) nilA) [some (.ref n), some dep, some kind, none, none] st = .ok (ds w) st' ∧ w.length ≤ 5 ∧ (∀ c ∈ w, c ∈ SML) ∧ Dr n st' ∧ Grow n st st' := by
  obtain ⟨m, s1, e1, e2, e3, e4⟩ := nmod k n 0 (ρ := [some (.ref n), some dep, some kind, none, none]) (st := st) (j := 6) rfl h (by omega)
  obtain ⟨r1, r2⟩ := rng_n e1 (by omega)
  have nx : noX [some (.ref n), some dep, some kind, none, none] = true := by
    show (!isX (.ref n) && (!isX dep && (!isX kind && true))) = true
    rw [hx, hk]
    rfl
  obtain ⟨ts, s2, c1, c2, c3, c4, c5⟩ := comp_gen (own := [4]) (n := n) (i := 4) (elt := op2M ixD (cM (.str [97, 98, 99, 110, 111, 122, 101])) (op2M (binD .Mod) (appM bInt (consA (appM (callD (runF pg.T (k + 1)) ("_law_next", none)) (consA (varM 0) nilA)) nilA)) (cM (.int (7))))) ONE nx r1 e3 (fun d _ s hs => by
    obtain ⟨m, s', a1, a2, a3, a4⟩ := nmod k n 0 (ρ := [some (.ref n), some dep, some kind, none, some d]) (st := s) (j := 7) rfl hs (by omega)
    obtain ⟨c, b1, b2⟩ := abc_at (m := m) (by omega)
    refine ⟨.str [c], s', ?_, ⟨c, rfl, b2⟩, a3, a4⟩
    refine op2_st (d := ds ABC) (s1 := s) rfl a1 ?_
    show (if ABC.length ≤ line then (match atL ABC (m : Int) with
      | some c => okP (.str [c]) s'
      | none => R.no) else R.no) = _
    rw [if_pos (by show 7 ≤ 16777216; omega), b1]
    rfl) (by omega)
  obtain ⟨w, w1, w2, w3, w4, w5⟩ := ones_join ts c3
  refine ⟨joinS [] w, s2 ++ [SO.lst (ts.map D.p)], ?_, by omega, w3, c4.app, e4.trans (c5.trans grow_app)⟩
  unfold metM
  show (R.ok (D.p (P.str [])) st).bind _ = _
  rw [bind_ok]
  show R.bind (consA _ nilA [some (.ref n), some dep, some kind, none, none] st) (fun ds s2 => mStr [] "join" ds s2) = _
  rw [arg1 c1 rfl, bind_ok]
  have g : (s2 ++ [SO.lst (ts.map D.p)])[s2.length]? = some (.lst (ts.map D.p)) := by rw [List.getElem?_append_right (Nat.le_refl _), Nat.sub_self]; rfl
  show (match ((match (s2 ++ [SO.lst (ts.map D.p)])[s2.length]? with
      | some (.lst l) => some l
      | some (.ro l) => some l
      | _ => none).bind strsOf) with
    | some l => if (l.map List.length).sum + l.length * 0 ≤ line then okP (.str (joinS [] l)) (s2 ++ [SO.lst (ts.map D.p)]) else R.no
    | none => R.no) = _
  rw [g]
  show (match strsOf (ts.map D.p) with
    | some l => if (l.map List.length).sum + l.length * 0 ≤ line then okP (.str (joinS [] l)) (s2 ++ [SO.lst (ts.map D.p)]) else R.no
    | none => R.no) = _
  rw [w1]
  dsimp only
  rw [if_pos (by rw [w5]; unfold line; omega)]
  rfl
end K20
end S_K20za

section S_K20zb
set_option Elab.async false
set_option linter.all false
set_option maxRecDepth 100000
set_option maxHeartbeats 1000000
namespace K20
open PySem L2 Lt
theorem len5 : ([.non, .int 0, .int (-1), .int (10 ^ 19), .int (0 - 10 ^ 20 + 1)] : List P) ≠ [] := by simp
theorem pick5 (x : P) (h : x ∈ ([.non, .int 0, .int (-1), .int (10 ^ 19), .int (0 - 10 ^ 20 + 1)] : List P)) (n : Nat) : drw n x = true := by
  simp only [List.mem_cons, List.not_mem_nil, or_false] at h
  rcases h with rfl | rfl | rfl | rfl | rfl
  · exact drw_non
  · exact drw_int (by decide +kernel)
  · exact drw_int (by decide +kernel)
  · exact drw_int (by decide +kernel)
  · exact drw_int (by decide +kernel)
def Gen (r : Lt.R D) (f n : Nat) (st : Store) : Prop := ∃ t st', r = .ok (.p t) st' ∧ drw f t = true ∧ Dr n st' ∧ Grow n st st'
/-- what stands behind the drawing of the kind -/
def tT (c : CallT) : SM := (seqS (ifS (tbM (op2M (cmpD .Eq) (varM 2) (cM (.int (0))))) (seqS (asgS (.nm 3) (metM c pg.meth "join" (cM (.str [])) (consA (compM [4] (rngM (consA (op2M (binD .Mod) (appM bInt (consA (appM (callD c ("_law_next", none)) (consA (varM 0) nilA)) nilA)) (cM (.int (6)))) nilA)) (.nm 4) yesM (op2M ixD (cM (.str [97, 98, 99, 110, 111, 122, 101])) (op2M (binD .Mod) (appM bInt (consA (appM (callD c ("_law_next", none)) (consA (varM 0) nilA)) nilA)) (cM (.int (7)))))) nilA))) (seqS (retS (ifeM (tbM (op2M (cmpD .Eq) (varM 3) (cM (.str [110, 111, 110, 101])))) (cM (.str [122, 111, 110, 101])) (varM 3))) skipS)) skipS) (seqS (ifS (tbM (op2M (cmpD .Eq) (varM 2) (cM (.int (1))))) (seqS (retS (appM (callD c ("_law_pick", none)) (consA (varM 0) (consA (lstM (consA (cM .non) (consA (cM (.int (0))) (consA (op1M (unD .USub) (cM (.int (1)))) (consA (op2M (binD .Pow) (cM (.int (10))) (cM (.int (19)))) (consA (op2M (binD .Add) (op2M (binD .Sub) (cM (.int (0))) (op2M (binD .Pow) (cM (.int (10))) (cM (.int (20))))) (cM (.int (1)))) nilA)))))) nilA)))) skipS) skipS) (seqS (ifS (tbM (op2M (cmpD .Lt) (varM 2) (cM (.int (5))))) (seqS (retS (op2M (binD .Sub) (appM bInt (consA (appM (callD c ("_law_next", none)) (consA (varM 0) nilA)) nilA)) (op2M (binD .Mult) (cM (.int (100))) (op2M (binD .Mod) (appM bInt (consA (appM (callD c ("_law_next", none)) (consA (varM 0) nilA)) nilA)) (cM (.int (7))))))) skipS) skipS) (seqS (retS (appM bTuple (consA (compM [4] (rngM (consA (op2M (binD .Mod) (appM bInt (consA (appM (callD c ("_law_next", none)) (consA (varM 0) nilA)) nilA)) (cM (.int (4)))) nilA)) (.nm 4) yesM (appM (callD c ("_law_term", none)) (consA (varM 0) (consA (op2M (binD .Add) (varM 1) (cM (.int (1)))) nilA)))) nilA))) skipS))))
theorem m15_eq (c : CallT) : m15 c = seqS (asgS (.nm 2) (op2M (binD .Mod) (appM bInt (consA (appM (callD c ("_law_next", none)) (consA (varM 0) nilA)) nilA)) (ifeM (tbM (op2M (cmpD .Lt) (varM 1) (cM (.int (4))))) (cM (.int (8))) (cM (.int (5)))))) (tT c) := rfl
theorem pow_st {i : Int} {j : Int} {ρ : Rho} {st : Store} (h : 0 ≤ j ∧ j ≤ 1000000) (h2 : i.natAbs < 2 ^ 64) : op2M (binD .Pow) (cM (.int i)) (cM (.int j)) ρ st = .ok (di (i ^ j.toNat)) st := by
  refine op2_st (d := di i) (d2 := di j) (s1 := st) (s2 := st) rfl rfl ?_
  show (if (decide (0 ≤ j) && decide (j ≤ 1000000) && decide (i.natAbs < 2 ^ 64)) = true then okP (.int (i ^ j.toNat)) st else R.no) = _
  rw [decide_eq_true h.1, decide_eq_true h.2, decide_eq_true h2, if_pos (show (true && true && true) = true from rfl)]
  rfl
theorem five_st {ρ : Rho} {st : Store} : lstM (consA (cM .non) (consA (cM (.int (0))) (consA (op1M (unD .USub) (cM (.int (1)))) (consA (op2M (binD .Pow) (cM (.int (10))) (cM (.int (19)))) (consA (op2M (binD .Add) (op2M (binD .Sub) (cM (.int (0))) (op2M (binD .Pow) (cM (.int (10))) (cM (.int (20))))) (cM (.int (1)))) nilA))))) ρ st = .ok (.ref st.length) (st ++ [SO.lst (([.non, .int 0, .int (-1), .int (10 ^ 19), .int (0 - 10 ^ 20 + 1)] : List P).map D.p)]) := by
  have p19 : op2M (binD .Pow) (cM (.int (10))) (cM (.int (19))) ρ st = .ok (.p (.int (10 ^ 19))) st := pow_st (by omega) (by omega)
  have p20 : op2M (binD .Pow) (cM (.int (10))) (cM (.int (20))) ρ st = .ok (.p (.int (10 ^ 20))) st := pow_st (by omega) (by omega)
  have p21 : op2M (binD .Add) (op2M (binD .Sub) (cM (.int (0))) (op2M (binD .Pow) (cM (.int (10))) (cM (.int (20))))) (cM (.int (1))) ρ st = .ok (.p (.int (0 - 10 ^ 20 + 1))) st := op2_st (d := .p (.int (0 - 10 ^ 20))) (d2 := .p (.int 1)) (s2 := st) (op2_st (d := .p (.int 0)) (s1 := st) rfl p20 rfl) rfl rfl
  unfold lstM
  rw [arg_cons (d := .p .non) (s1 := st) rfl rfl (arg_cons (d := .p (.int 0)) (s1 := st) rfl rfl (arg_cons (d := .p (.int (-1))) (s1 := st) rfl rfl (arg_cons p19 rfl (arg1 p21 rfl)))), bind_ok, if_pos (by show 5 ≤ 16777216; omega)]
  rfl
theorem tT_run (K f n : Nat) (dep : Int) (kd : Nat) (st : Store) (h : Dr n st) (hk : kd < 8) (hf : 5 ≤ kd → ∃ g, f = g + 1 ∧ ∀ s, Dr n s → Gen (runF pg.T (K + 2) ("_law_term", none) [.ref n, di (dep + 1)] s) g n s) : ∃ ρ t st', tT (runF pg.T (K + 2)) [some (.ref n), some (di dep), some (di kd), none, none] st = .go (.rt (.p t)) ρ st' ∧ drw f t = true ∧ Dr n st' ∧ Grow n st st' := by
  have q : ∀ j : Int, tbM (op2M (cmpD .Eq) (varM 2) (cM (.int j))) [some (.ref n), some (di dep), some (di kd), none, none] st = .ok (decide ((kd : Int) = j)) st := fun j => tb_st (op2_st (d := di kd) (d2 := di j) rfl rfl rfl)
  have ql : ∀ j : Int, tbM (op2M (cmpD .Lt) (varM 2) (cM (.int j))) [some (.ref n), some (di dep), some (di kd), none, none] st = .ok (decide ((kd : Int) < j)) st := fun j => tb_st (op2_st (d := di kd) (d2 := di j) rfl rfl rfl)
  by_cases c0 : (kd : Int) = 0
  · obtain ⟨w, s1, e1, e2, e3, e4, e5⟩ := word_gen (K + 1) n (di dep) (di kd) st h rfl rfl
    have cmp : tbM (op2M (cmpD .Eq) (varM 3) (cM (.str [110, 111, 110, 101]))) [some (.ref n), some (di dep), some (di kd), some (ds w), none] s1 = .ok (decide (w = NON)) s1 := var_str rfl
    by_cases cw : w = NON
    · exact ⟨_, .str [122, 111, 110, 101], s1, seq_rt (if_yes ((q 0).trans (by rw [decide_eq_true c0])) (seq_nx (asg_st e1) (seq_rt (ret_st (ife_yes (cmp.trans (by rw [decide_eq_true cw])) rfl) rfl)))), drw_str (by decide) (by decide) (by decide), e4, e5⟩
    · exact ⟨_, .str w, s1, seq_rt (if_yes ((q 0).trans (by rw [decide_eq_true c0])) (seq_nx (asg_st e1) (seq_rt (ret_st (ife_no (cmp.trans (by rw [decide_eq_false cw])) rfl) rfl)))), drw_str cw e2 e3, e4, e5⟩
  · have n0 := (q 0).trans (by rw [decide_eq_false c0])
    by_cases c1 : (kd : Int) = 1
    · have hl := h.lt
      obtain ⟨x, s1, e1, e2, e3, e4⟩ := pick_run K n st.length (st ++ [SO.lst (([.non, .int 0, .int (-1), .int (10 ^ 19), .int (0 - 10 ^ 20 + 1)] : List P).map D.p)]) _ h.app (by rw [List.getElem?_append_right (Nat.le_refl _), Nat.sub_self]; rfl) (by omega) len5
      exact ⟨_, x, s1, seq_nx (if_skip n0) (seq_rt (if_yes ((q 1).trans (by rw [decide_eq_true c1])) (seq_rt (ret_st (app_st (arg_cons (d := .ref n) rfl rfl (arg1 five_st rfl)) (call_r rfl e1)) rfl)))), pick5 x e2 f, e3, grow_app.trans e4⟩
    · have n1 := (q 1).trans (by rw [decide_eq_false c1])
      by_cases c5 : (kd : Int) < 5
      · obtain ⟨i, s1, e1, e2, e3, e4⟩ := next_st (K + 1) n 0 (ρ := [some (.ref n), some (di dep), some (di kd), none, none]) (st := st) rfl h
        obtain ⟨m, s2, g1, g2, g3, g4⟩ := nmod (K + 1) n 0 (ρ := [some (.ref n), some (di dep), some (di kd), none, none]) (st := s1) (j := 7) rfl e3 (by omega)
        refine ⟨_, .int (i - 100 * m), s2, seq_nx (if_skip n0) (seq_nx (if_skip n1) (seq_rt (if_yes ((ql 5).trans (by rw [decide_eq_true c5])) (seq_rt (ret_st (op2_st (d := di i) (d2 := di (100 * m)) (app_st (arg1 e1 rfl) rfl) (op2_st (d := di 100) rfl g1 (mul_d (.inl (by omega)))) rfl) rfl))))), drw_int (by omega), g3, e4.trans g4⟩
      · obtain ⟨g, rfl, ih⟩ := hf (by omega)
        obtain ⟨m, s1, e1, e2, e3, e4⟩ := nmod (K + 1) n 0 (ρ := [some (.ref n), some (di dep), some (di kd), none, none]) (st := st) (j := 4) rfl h (by omega)
        obtain ⟨r1, r2⟩ := rng_n e1 (by omega)
        obtain ⟨ts, s2, d1, d2, d3, d4, d5⟩ := comp_gen (own := [4]) (n := n) (i := 4) (elt := appM (callD (runF pg.T (K + 2)) ("_law_term", none)) (consA (varM 0) (consA (op2M (binD .Add) (varM 1) (cM (.int (1)))) nilA))) (fun t => drw g t = true) (show noX [some (.ref n), some (di dep), some (di kd), none, none] = true from rfl) r1 e3 (fun d _ s hs => by
          obtain ⟨t, s', a1, a2, a3, a4⟩ := ih s hs
          exact ⟨t, s', app_st (arg_cons (d := .ref n) (s1 := s) rfl rfl (arg1 (op2_st (d := di dep) (d2 := di 1) (q := .ok (di (dep + 1)) s) (s1 := s) (s2 := s) rfl rfl rfl) rfl)) (call_r rfl a1), a2, a3, a4⟩) (by omega)
        have g0 : (s2 ++ [SO.lst (ts.map D.p)])[s2.length]? = some (.lst (ts.map D.p)) := by rw [List.getElem?_append_right (Nat.le_refl _), Nat.sub_self]; rfl
        have tp : bTuple [.ref s2.length] (s2 ++ [SO.lst (ts.map D.p)]) = .ok (.p (.tup ts)) (s2 ++ [SO.lst (ts.map D.p)]) := by
          show (match (match (s2 ++ [SO.lst (ts.map D.p)])[s2.length]? with
            | some (.lst l) => some l
            | some (.ro l) => some l
            | _ => none) with
            | some l => R.ok (mkTup l) (s2 ++ [SO.lst (ts.map D.p)])
            | none => R.no) = _
          rw [g0]
          show R.ok (mkTup (ts.map D.p)) _ = _
          rw [mkTup_map]
        refine ⟨_, .tup ts, _, seq_nx (if_skip n0) (seq_nx (if_skip n1) (seq_nx (if_skip ((ql 5).trans (by rw [decide_eq_false c5]))) (seq_rt (ret_st (app_st (arg1 d1 rfl) tp) rfl)))), ?_, d4.app, e4.trans (d5.trans grow_app)⟩
        show (decide (ts.length ≤ 3) && ts.all (drw g)) = true
        rw [decide_eq_true (by omega), Bool.true_and]
        exact List.all_eq_true.mpr d3
theorem term_gen : ∀ (f K n : Nat) (st : Store), f ≤ 4 → Dr n st → Gen (runF pg.T (K + f + 3) ("_law_term", none) [.ref n, di ((4 - f : Nat) : Int)] st) f n st := by
  intro f
  induction f with
  | zero =>
    intro K n st hf h
    show Gen (runF pg.T (K + 2 + 1) _ _ _) _ _ _
    rw [r15]
    obtain ⟨i, s1, e1, e2, e3, e4⟩ := next_st (K + 1) n 0 (ρ := startR 5 [.ref n, di ((4 - 0 : Nat) : Int)]) (st := st) rfl h
    have m1 := Int.fmod_nonneg_of_pos i (b := 5) (by omega)
    have m2 := Int.fmod_lt_of_pos i (b := 5) (by omega)
    generalize hm : i.fmod 5 = m0 at m1 m2
    obtain ⟨m, rfl⟩ : ∃ m : Nat, m0 = m := ⟨m0.toNat, by omega⟩
    obtain ⟨ρ, t, s2, g1, g2, g3, g4⟩ := tT_run K 0 n ((4 - 0 : Nat) : Int) m s1 e3 (by omega) (by omega)
    refine ⟨t, s2, runB_rt rfl (ρ1 := ρ) ?_, g2, g3, e4.trans g4⟩
    rw [m15_eq]
    refine seq_nx (asg_st (i := 2) (d := di m) (op2_st (d := di i) (d2 := di 5) (s2 := s1) (app_st (arg1 e1 rfl) rfl) (ife_no (s1 := s1) (tb_st (op2_st (d := di ((4 - 0 : Nat) : Int)) (d2 := di 4) (s1 := s1) (s2 := s1) rfl rfl rfl)) rfl) ?_)) g1
    rw [mod_d (by omega), hm]
  | succ f ih =>
    intro K n st hf h
    generalize hd : ((4 - (f + 1) : Nat) : Int) = d
    have hd1 : d + 1 = ((4 - f : Nat) : Int) := by omega
    have hd2 : d < 4 := by omega
    have ek : K + (f + 1) + 3 = (K + f + 1) + 2 + 1 := by omega
    rw [ek, r15]
    obtain ⟨i, s1, e1, e2, e3, e4⟩ := next_st (K + f + 1 + 1) n 0 (ρ := startR 5 [.ref n, di d]) (st := st) rfl h
    have m1 := Int.fmod_nonneg_of_pos i (b := 8) (by omega)
    have m2 := Int.fmod_lt_of_pos i (b := 8) (by omega)
    generalize hm : i.fmod 8 = m0 at m1 m2
    obtain ⟨m, rfl⟩ : ∃ m : Nat, m0 = m := ⟨m0.toNat, by omega⟩
    obtain ⟨ρ, t, s2, g1, g2, g3, g4⟩ := tT_run (K + f + 1) (f + 1) n d m s1 e3 (by omega) (fun _ => ⟨f, rfl, fun s hs => by
      rw [hd1]
      exact ih K n s (by omega) hs⟩)
    refine ⟨t, s2, runB_rt rfl (ρ1 := ρ) ?_, g2, g3, e4.trans g4⟩
    rw [m15_eq]
    refine seq_nx (asg_st (i := 2) (d := di m) (op2_st (d := di i) (d2 := di 8) (s2 := s1) (app_st (arg1 e1 rfl) rfl) (ife_yes (s1 := s1) (tb_st (op2_st (d := di d) (d2 := di 4) (s1 := s1) (s2 := s1) rfl rfl (by
      show R.ok (D.p (.bl (decide (d < 4)))) s1 = _
      rw [decide_eq_true hd2]))) rfl) ?_)) g1
    rw [mod_d (by omega), hm]
end K20
end S_K20zb

section S_K20zc
set_option Elab.async false
set_option linter.all false
set_option maxRecDepth 100000
set_option maxHeartbeats 1000000
namespace K20
open PySem L2 Lt
/-! ### comprehensions whose element changes nothing -/
theorem lsC_pure {i : Nat} {elt : EM} {ρ : Rho} {s : Store} {g : D → D} : ∀ (its acc : List D), (∀ d ∈ its, elt (ρ.set i (some d)) s = .ok (g d) s ∧ isX (g d) = false) → acc.length + its.length ≤ line → lsC (turnC (.nm i) yesM elt ρ) its acc s = .ok (acc ++ its.map g) s
  | [], acc, _, _ => by
    rw [List.map_nil, List.append_nil]
    rfl
  | d :: r, acc, h, hl => by
    obtain ⟨e1, e2⟩ := h d List.mem_cons_self
    have tu : turnC (.nm i) yesM elt ρ d s = .ok (some (g d)) s := by
      show (elt (ρ.set i (some d)) s).bind _ = _
      rw [e1, bind_ok, e2]
      rfl
    show (turnC (.nm i) yesM elt ρ d s).bind _ = _
    rw [tu, bind_ok, if_pos (by rw [List.length_cons] at hl; omega)]
    show lsC _ r (acc ++ [g d]) s = _
    rw [lsC_pure r (acc ++ [g d]) (fun d hd => h d (List.mem_cons_of_mem _ hd)) (by simp only [List.length_append, List.length_cons, List.length_nil] at hl ⊢; omega), List.append_assoc]
    rfl
theorem liveC_pure {i n : Nat} {elt : EM} {ρ : Rho} {s : Store} {g : D → D} {l : List D} (hn : s[n]? = some (.lst l)) (h : ∀ d ∈ l, elt (ρ.set i (some d)) s = .ok (g d) s ∧ isX (g d) = false) (hl : l.length ≤ line) : ∀ (m j : Nat), l.length - j < m → j ≤ l.length → liveC (turnC (.nm i) yesM elt ρ) n m j ((l.take j).map g) s = .ok (l.map g) s
  | 0, _, hm, _ => by omega
  | m + 1, j, hm, hj => by
    have la : liveAt s n j = some l[j]? := by
      unfold liveAt
      rw [hn]
    have step : liveC (turnC (.nm i) yesM elt ρ) n (m + 1) j ((l.take j).map g) s = (match (some l[j]? : Option (Option D)) with
      | some (some d) => (turnC (.nm i) yesM elt ρ d s).bind fun o s1 => if ((l.take j).map g).length < line then liveC (turnC (.nm i) yesM elt ρ) n m (j + 1) (addO ((l.take j).map g) o) s1 else .no
      | some none => .ok ((l.take j).map g) s
      | none => .no) := by
      rw [← la]
      rfl
    rw [step]
    cases q : l[j]? with
    | none =>
      have : l.length ≤ j := List.getElem?_eq_none_iff.mp q
      show R.ok ((l.take j).map g) s = _
      rw [List.take_of_length_le this]
    | some d =>
      obtain ⟨hlt, hd⟩ := List.getElem?_eq_some_iff.mp q
      obtain ⟨e1, e2⟩ := h d (by rw [← hd]; exact List.getElem_mem hlt)
      have tu : turnC (.nm i) yesM elt ρ d s = .ok (some (g d)) s := by
        show (elt (ρ.set i (some d)) s).bind _ = _
        rw [e1, bind_ok, e2]
        rfl
      dsimp only
      rw [tu, bind_ok, if_pos (by rw [List.length_map, List.length_take]; omega)]
      have ih := liveC_pure hn h hl m (j + 1) (by omega) (by omega)
      rw [List.take_succ_eq_append_getElem hlt, List.map_append, hd] at ih
      exact ih
theorem comp_pure {own : List Nat} {it : IM} {i : Nat} {elt : EM} {ρ : Rho} {st s1 : Store} {its : List D} {g : D → D} (hx : noX ρ = true) (hit : it ρ st = .ok (.ls its) s1) (he : ∀ d ∈ its, elt ((wipeR ρ own).set i (some d)) s1 = .ok (g d) s1 ∧ isX (g d) = false) (hl : its.length ≤ line) : compM own it (.nm i) yesM elt ρ st = .ok (.ref s1.length) (s1 ++ [SO.lst (its.map g)]) := by
  unfold compM
  rw [hx, if_pos rfl, hit, bind_ok]
  show (lsC _ its [] s1).bind _ = _
  rw [lsC_pure its [] he (by rw [List.length_nil]; omega)]
  rfl
theorem comp_live {own : List Nat} {it : IM} {i n : Nat} {elt : EM} {ρ : Rho} {st s1 : Store} {its : List D} {g : D → D} (hx : noX ρ = true) (hit : it ρ st = .ok (.live n) s1) (hn : s1[n]? = some (.lst its)) (he : ∀ d ∈ its, elt ((wipeR ρ own).set i (some d)) s1 = .ok (g d) s1 ∧ isX (g d) = false) (hl : its.length ≤ line) : compM own it (.nm i) yesM elt ρ st = .ok (.ref s1.length) (s1 ++ [SO.lst (its.map g)]) := by
  unfold compM
  rw [hx, if_pos rfl, hit, bind_ok]
  show (liveC _ n (liveLen s1 n) 0 [] s1).bind _ = _
  have ll : liveLen s1 n = its.length + 1 := by
    unfold liveLen
    rw [hn]
  have z := liveC_pure (i := i) (elt := elt) (ρ := wipeR ρ own) hn he hl (its.length + 1) 0 (by omega) (Nat.zero_le _)
  rw [List.take_zero, List.map_nil] at z
  rw [ll, z]
  rfl
/-! ### the text of a term -/
mutual
def txt : P → List Nat
  | .non => NON
  | .bl _ => []
  | .int i => strI i
  | .str s => if s = [] then [46] else s
  | .tup l => [40] ++ joinS [32] (txts l) ++ [41]
def txts : List P → List (List Nat)
  | [] => []
  | x :: r => txt x :: txts r
end
theorem txts_map : ∀ l : List P, txts l = l.map txt
  | [] => rfl
  | x :: r => by
    show txt x :: txts r = _
    rw [txts_map r]
    rfl
def bnd : Nat → Nat
  | 0 => 25
  | n + 1 => 3 * (bnd n + 1) + 2
theorem bnd_25 : ∀ n, 25 ≤ bnd n
  | 0 => Nat.le_refl _
  | n + 1 => by
    have := bnd_25 n
    unfold bnd
    omega
theorem strI_len {i : Int} (h : i.natAbs < 10 ^ 20) : (strI i).length ≤ 21 := by
  unfold strI
  split
  · have := TL.numL_len (n := i.toNat) (k := 20) (by omega) (by omega)
    omega
  · have := TL.numL_len (n := (-i).toNat) (k := 20) (by omega) (by omega)
    rw [List.length_cons]
    omega
theorem join_len {b : Nat} : ∀ ps : List (List Nat), (∀ p ∈ ps, p.length ≤ b) → (joinS [32] ps).length ≤ ps.length * (b + 1)
  | [], _ => Nat.zero_le _
  | [p], h => by
    have := h p List.mem_cons_self
    show p.length ≤ _
    rw [List.length_singleton]
    omega
  | p :: q :: r, h => by
    have h1 := h p List.mem_cons_self
    have ih := join_len (q :: r) fun x hx => h x (List.mem_cons_of_mem _ hx)
    show (p ++ ([32] ++ joinS [32] (q :: r))).length ≤ _
    rw [List.length_append, List.length_append, List.length_cons (as := q :: r), Nat.succ_mul]
    simp only [List.length_cons, List.length_nil] at ih ⊢
    omega
theorem drw_all {f : Nat} {l : List P} (h : drw (f + 1) (.tup l) = true) : l.length ≤ 3 ∧ ∀ x ∈ l, drw f x = true := by
  have h' : (decide (l.length ≤ 3) && l.all (drw f)) = true := h
  rw [Bool.and_eq_true] at h'
  exact ⟨of_decide_eq_true h'.1, fun x hx => List.all_eq_true.mp h'.2 x hx⟩
theorem drw_s {f : Nat} {s : List Nat} (h : drw f (.str s) = true) : s ≠ NON ∧ s.length ≤ 5 ∧ ∀ c ∈ s, c ∈ SML := by
  have h' : (decide (s ≠ NON) && decide (s.length ≤ 5) && s.all fun c => decide (c ∈ SML)) = true := by cases f <;> exact h
  rw [Bool.and_eq_true, Bool.and_eq_true] at h'
  exact ⟨of_decide_eq_true h'.1.1, of_decide_eq_true h'.1.2, fun c hc => of_decide_eq_true (List.all_eq_true.mp h'.2 c hc)⟩
theorem drw_i {f : Nat} {i : Int} (h : drw f (.int i) = true) : i.natAbs < 10 ^ 20 := of_decide_eq_true (by cases f <;> exact h)
theorem drw_b {f : Nat} {b : Bool} (h : drw f (.bl b) = true) : False := by cases f <;> cases h
theorem txt_len : ∀ (f : Nat) (t : P), drw f t = true → (txt t).length ≤ bnd f
  | f, .non, _ => by
    have := bnd_25 f
    show 4 ≤ _
    omega
  | f, .bl b, h => (drw_b h).elim
  | f, .int i, h => by
    have := bnd_25 f
    have := strI_len (drw_i h)
    show (strI i).length ≤ _
    omega
  | f, .str s, h => by
    have := bnd_25 f
    have := (drw_s h).2.1
    show (if s = [] then [46] else s).length ≤ _
    split
    · show 1 ≤ _
      omega
    · omega
  | 0, .tup l, h => by cases h
  | f + 1, .tup l, h => by
    obtain ⟨h1, h2⟩ := drw_all h
    have j := join_len (b := bnd f) (txts l) fun p hp => by
      rw [txts_map] at hp
      obtain ⟨x, hx, rfl⟩ := List.mem_map.mp hp
      exact txt_len f x (h2 x hx)
    rw [txts_map, List.length_map, ← txts_map] at j
    show ([40] ++ joinS [32] (txts l) ++ [41]).length ≤ 3 * (bnd f + 1) + 2
    rw [List.length_append, List.length_append]
    have : l.length * (bnd f + 1) ≤ 3 * (bnd f + 1) := Nat.mul_le_mul_right _ h1
    show 1 + _ + 1 ≤ _
    omega
theorem bnd_mono : ∀ f, f ≤ 4 → bnd f ≤ 3000 := by
  intro f h
  match f, h with
  | 0, _ => decide
  | 1, _ => decide
  | 2, _ => decide
  | 3, _ => decide
  | 4, _ => decide
  | n + 5, h => omega
/-! ### what stands behind the tests: '(' + ' '.join([..]) + ')' -/
theorem strs_map : ∀ l : List (List Nat), strsOf (l.map fun s => .p (.str s)) = some l
  | [] => rfl
  | x :: r => by
    show (strsOf (r.map fun s => .p (.str s))).map (x :: ·) = _
    rw [strs_map r]
    rfl
def gT : D → D
  | .p x => ds (txt x)
  | d => d
theorem paren {c : CallT} {has : Str → Str → Bool} {cm : EM} {ρ : Rho} {st s1 : Store} {l : List P} {f : Nat} (hc : cm ρ st = .ok (.ref s1.length) (s1 ++ [SO.lst ((l.map D.p).map gT)])) (h1 : l.length ≤ 3) (h2 : ∀ x ∈ l, drw f x = true) (hf : f ≤ 4) : op2M (binD .Add) (op2M (binD .Add) (cM (.str [40])) (metM c has "join" (cM (.str [32])) (consA cm nilA))) (cM (.str [41])) ρ st = .ok (ds (txt (.tup l))) (s1 ++ [SO.lst ((l.map D.p).map gT)]) := by
  have g0 : (s1 ++ [SO.lst ((l.map D.p).map gT)])[s1.length]? = some (.lst ((l.map D.p).map gT)) := by rw [List.getElem?_append_right (Nat.le_refl _), Nat.sub_self]; rfl
  have eq : (l.map D.p).map gT = (txts l).map fun s => .p (.str s) := by
    rw [txts_map, List.map_map, List.map_map]
    rfl
  have lens : ∀ p ∈ txts l, p.length ≤ 3000 := fun p hp => by
    rw [txts_map] at hp
    obtain ⟨x, hx, rfl⟩ := List.mem_map.mp hp
    exact Nat.le_trans (txt_len f x (h2 x hx)) (bnd_mono f hf)
  have sum : ((txts l).map List.length).sum ≤ 9000 := by
    have : ∀ ps : List (List Nat), (∀ p ∈ ps, p.length ≤ 3000) → (ps.map List.length).sum ≤ ps.length * 3000 := by
      intro ps
      induction ps with
      | nil => intro _; exact Nat.zero_le _
      | cons p r ih =>
        intro h
        have a := h p List.mem_cons_self
        have b := ih fun x hx => h x (List.mem_cons_of_mem _ hx)
        rw [List.map_cons, List.sum_cons, List.length_cons, Nat.succ_mul]
        omega
    have z := this (txts l) lens
    rw [txts_map, List.length_map, ← txts_map] at z
    omega
  have jl := join_len (txts l) lens
  rw [txts_map, List.length_map, ← txts_map] at jl
  have jn : metM c has "join" (cM (.str [32])) (consA cm nilA) ρ st = .ok (ds (joinS [32] (txts l))) (s1 ++ [SO.lst ((l.map D.p).map gT)]) := by
    unfold metM
    show (R.ok (D.p (P.str [32])) st).bind _ = _
    rw [bind_ok]
    show R.bind (consA cm nilA ρ st) (fun ds s2 => mStr [32] "join" ds s2) = _
    rw [arg1 hc rfl, bind_ok]
    show (match ((match (s1 ++ [SO.lst ((l.map D.p).map gT)])[s1.length]? with
        | some (.lst l) => some l
        | some (.ro l) => some l
        | _ => none).bind strsOf) with
      | some l2 => if (l2.map List.length).sum + l2.length * 1 ≤ line then okP (.str (joinS [32] l2)) (s1 ++ [SO.lst ((l.map D.p).map gT)]) else R.no
      | none => R.no) = _
    rw [g0]
    show (match strsOf ((l.map D.p).map gT) with
      | some l2 => if (l2.map List.length).sum + l2.length * 1 ≤ line then okP (.str (joinS [32] l2)) (s1 ++ [SO.lst ((l.map D.p).map gT)]) else R.no
      | none => R.no) = _
    rw [show strsOf ((l.map D.p).map gT) = some (txts l) by rw [eq, strs_map]]
    dsimp only
    rw [if_pos (by rw [txts_map, List.length_map, ← txts_map]; unfold line; omega)]
    rfl
  generalize s1 ++ [SO.lst ((l.map D.p).map gT)] = s2 at jn
  refine op2_st (d := ds ([40] ++ joinS [32] (txts l))) (d2 := ds [41]) (s1 := s2) (s2 := s2) (op2_st (d := ds [40]) (d2 := ds (joinS [32] (txts l))) (s1 := st) (s2 := s2) rfl jn ?_) rfl ?_
  · show (if [40].length + (joinS [32] (txts l)).length ≤ line then okP (.str ([40] ++ joinS [32] (txts l))) s2 else R.no) = _
    have : l.length * (3000 + 1) ≤ 3 * (3000 + 1) := Nat.mul_le_mul_right _ h1
    rw [if_pos (by rw [List.length_singleton]; unfold line; omega)]
    rfl
  · show (if ([40] ++ joinS [32] (txts l)).length + [41].length ≤ line then okP (.str ([40] ++ joinS [32] (txts l) ++ [41])) s2 else R.no) = _
    have : l.length * (3000 + 1) ≤ 3 * (3000 + 1) := Nat.mul_le_mul_right _ h1
    rw [if_pos (by rw [List.length_append, List.length_singleton, List.length_singleton]; unfold line; omega)]
    rfl
theorem str_i {i : Int} {ρ : Rho} {st : Store} {v : Nat} (h : varM v ρ st = .ok (di i) st) (hi : i.natAbs < 10 ^ 4300) : appM bStr (consA (varM v) nilA) ρ st = .ok (ds (strI i)) st := by
  refine app_st (arg1 h rfl) ?_
  show (if intOk i then okP (.str (strI i)) st else R.no) = _
  rw [if_pos (by unfold intOk; rw [decide_eq_true hi, Bool.or_true])]
  rfl
theorem lt_4300 {n : Nat} (h : n < 10 ^ 20) : n < 10 ^ 4300 := Nat.lt_of_lt_of_le h (Nat.pow_le_pow_right (by omega) (by omega))
theorem tup_it {i : Nat} {ρ : Rho} {st : Store} {l : List P} (h : varM i ρ st = .ok (.p (.tup l)) st) : itM (varM i) ρ st = .ok (.ls (l.map D.p)) st := by
  unfold itM
  rw [h]
  rfl
theorem is_non {ρ : Rho} {st : Store} {i : Nat} {t : P} (h : varM i ρ st = .ok (.p t) st) (hn : t ≠ .non) : tbM (op2M (cmpD .Is) (varM i) (cM .non)) ρ st = .ok false st := by
  refine tb_st (op2_st (d := .p t) (d2 := .p .non) (s2 := st) h rfl ?_)
  cases t <;> first | rfl | exact absurd rfl hn
theorem isi_p {ρ : Rho} {st : Store} {i : Nat} {t : P} {T : Str} {b : Bool} (h : varM i ρ st = .ok (.p t) st) (hb : isTy T (.p t) st = some b) : tvM (isiM T (varM i)) ρ st = .ok b st := by
  refine tv_st (d := .p (.bl b)) (s1 := st) ?_ rfl
  unfold isiM
  rw [h, bind_ok, hb]
  rfl
theorem ltext_run : ∀ (f K : Nat) (t : P), f ≤ 4 → drw f t = true → ∃ st', runF pg.T (K + f + 1) ("_law_text", none) [.p t] [] = .ok (ds (txt t)) st' := by
  intro f
  induction f with
  | zero =>
    intro K t hf h
    show ∃ st', runF pg.T (K + 0 + 1) _ _ _ = _
    rw [r16]
    cases t with
    | non => exact ⟨_, runB_rt rfl (seq_rt (if_yes rfl (seq_rt (ret_st rfl rfl))))⟩
    | bl b => exact (drw_b h).elim
    | int i => exact ⟨_, runB_rt rfl (seq_nx (if_skip (is_non (i := 0) rfl (fun z => by cases z))) (seq_rt (if_yes (isi_p (i := 0) rfl (by kernel_rfl)) (seq_rt (ret_st (str_i (v := 0) rfl (lt_4300 (drw_i h))) rfl)))))⟩
    | str s =>
      have hne : tbM (op2M (cmpD .NotEq) (varM 0) (cM (.str []))) (startR 2 [ds s]) [] = .ok (!decide (s = [])) [] := tb_st (op2_st (d := ds s) (d2 := ds []) (s1 := []) (s2 := []) rfl rfl rfl)
      refine ⟨[], runB_rt rfl (seq_nx (if_skip (is_non (i := 0) rfl (fun z => by cases z))) (seq_nx (if_skip (isi_p (i := 0) rfl (by kernel_rfl))) (seq_rt (if_yes (isi_p (i := 0) rfl (by kernel_rfl)) (seq_rt (ret_st (d := ds (txt (.str s))) ?_ rfl))))))⟩
      by_cases hs : s = []
      · rw [hs]
        exact ife_no rfl rfl
      · show ifeM _ _ _ _ _ = .ok (ds (if s = [] then [46] else s)) []
        rw [if_neg hs]
        exact ife_yes (hne.trans (by rw [decide_eq_false hs]; rfl)) rfl
    | tup l => cases h
  | succ f ih =>
    intro K t hf h
    show ∃ st', runF pg.T (K + f + 1 + 1) _ _ _ = _
    rw [r16]
    cases t with
    | non => exact ⟨_, runB_rt rfl (seq_rt (if_yes rfl (seq_rt (ret_st rfl rfl))))⟩
    | bl b => exact (drw_b h).elim
    | int i => exact ⟨_, runB_rt rfl (seq_nx (if_skip (is_non (i := 0) rfl (fun z => by cases z))) (seq_rt (if_yes (isi_p (i := 0) rfl (by kernel_rfl)) (seq_rt (ret_st (str_i (v := 0) rfl (lt_4300 (drw_i h))) rfl)))))⟩
    | str s =>
      have hne : tbM (op2M (cmpD .NotEq) (varM 0) (cM (.str []))) (startR 2 [ds s]) [] = .ok (!decide (s = [])) [] := tb_st (op2_st (d := ds s) (d2 := ds []) (s1 := []) (s2 := []) rfl rfl rfl)
      refine ⟨[], runB_rt rfl (seq_nx (if_skip (is_non (i := 0) rfl (fun z => by cases z))) (seq_nx (if_skip (isi_p (i := 0) rfl (by kernel_rfl))) (seq_rt (if_yes (isi_p (i := 0) rfl (by kernel_rfl)) (seq_rt (ret_st (d := ds (txt (.str s))) ?_ rfl))))))⟩
      by_cases hs : s = []
      · rw [hs]
        exact ife_no rfl rfl
      · show ifeM _ _ _ _ _ = .ok (ds (if s = [] then [46] else s)) []
        rw [if_neg hs]
        exact ife_yes (hne.trans (by rw [decide_eq_false hs]; rfl)) rfl
    | tup l =>
      obtain ⟨h1, h2⟩ := drw_all h
      have cp := comp_pure (own := [1]) (it := itM (varM 0)) (i := 1) (elt := appM (callD (runF pg.T (K + f + 1)) ("_law_text", none)) (consA (varM 1) nilA)) (ρ := startR 2 [.p (.tup l)]) (st := []) (g := gT) rfl (tup_it (i := 0) rfl) (fun d hd => by
        obtain ⟨x, hx, rfl⟩ := List.mem_map.mp hd
        obtain ⟨st', e⟩ := ih K x (by omega) (h2 x hx)
        exact ⟨app_st (arg1 (d := .p x) rfl rfl) (call_p rfl e), rfl⟩) (by rw [List.length_map]; unfold line; omega)
      exact ⟨_, runB_rt rfl (seq_nx (if_skip (is_non (i := 0) rfl (fun z => by cases z))) (seq_nx (if_skip (isi_p (i := 0) rfl (by kernel_rfl))) (seq_nx (if_skip (isi_p (i := 0) rfl (by kernel_rfl))) (seq_rt (ret_st (paren cp h1 h2 (by omega)) rfl)))))⟩
end K20
end S_K20zc

section S_K20zd
set_option Elab.async false
set_option linter.all false
set_option maxRecDepth 100000
set_option maxHeartbeats 1000000
namespace K20
open PySem L2 Lt
theorem shr_small (n : Nat) (hn : 67 ≤ n) (i : Int) (h0 : 0 ≤ i) (h : i < 10 ^ 20) : i / 2 ^ n = 0 := by
  refine Int.ediv_eq_zero_of_lt h0 (Int.lt_of_lt_of_le h ?_)
  have a : (10 : Int) ^ 20 ≤ 2 ^ 67 := by decide +kernel
  have b : ((2 ^ 67 : Nat) : Int) ≤ ((2 ^ n : Nat) : Int) := Int.ofNat_le.mpr (Nat.pow_le_pow_right (by omega) hn)
  rw [Int.natCast_pow, Int.natCast_pow] at b
  exact Int.le_trans a b
theorem shr_d {i : Int} {j : Nat} {st : Store} : binD .RShift (di i) (di j) st = .ok (di (i / 2 ^ j)) st := by
  show (if decide (0 ≤ (j : Int)) = true then okP (.int (i / 2 ^ (j : Int).toNat)) st else R.no) = _
  rw [if_pos (decide_eq_true (Int.natCast_nonneg j))]
  rfl
theorem abs_st {i : Int} {ρ : Rho} {st : Store} {v : Nat} (h : varM v ρ st = .ok (di i) st) : appM bAbs (consA (varM v) nilA) ρ st = .ok (di (if i < 0 then -i else i)) st := app_st (arg1 h rfl) rfl
theorem has_small (k : Nat) (i : Int) (st : Store) (h : i.natAbs < 10 ^ 20) : runF pg.T (k + 1) ("has_text", none) [di i] st = .ok (.p (.bl true)) st := by
  rw [r0]
  have a0 : 0 ≤ (if i < 0 then -i else i) := by split <;> omega
  have a1 : (if i < 0 then -i else i) < 10 ^ 20 := by split <;> omega
  have q : tvM (op2M (binD .RShift) (appM bAbs (consA (varM 0) nilA)) (cM (.int (13287)))) (startR 3 [di i]) st = .ok false st := by
    refine tv_st (d := di 0) (op2_st (d := di (if i < 0 then -i else i)) (d2 := di ((13287 : Nat) : Int)) (s1 := st) (s2 := st) (abs_st rfl) rfl ?_) rfl
    rw [shr_d, shr_small 13287 (by omega) _ a0 a1]
  exact runB_rt rfl (seq_rt (if_yes (not_st (k := false) q) (seq_rt (ret_st (d := .p (.bl true)) rfl rfl))))
/-- all([sign in SMALL for sign in s]) -/
def gB : D → D
  | .p (.str [c]) => .p (.bl (decide (c ∈ SML)))
  | d => d
theorem bools_map : ∀ s : List Nat, boolsOf ((s.map fun c => D.p (.str [c])).map gB) = some (s.map fun c => decide (c ∈ SML))
  | [] => rfl
  | c :: r => by
    show (boolsOf ((r.map fun c => D.p (.str [c])).map gB)).map _ = _
    rw [bools_map r]
    rfl
theorem all_sml {ρ : Rho} {st : Store} {s : List Nat} (hx : noX ρ = true) (h : varM 0 ρ st = .ok (ds s) st) (h1 : 1 < ρ.length) (hl : s.length ≤ line) : appM bAll (consA (compM [1] (itM (varM 0)) (.nm 1) yesM (op2M (cmpD .In) (varM 1) (cM (.str SML)))) nilA) ρ st = .ok (.p (.bl (s.all fun c => decide (c ∈ SML)))) (st ++ [SO.lst ((s.map fun c => D.p (.str [c])).map gB)]) := by
  have it : itM (varM 0) ρ st = .ok (.ls (s.map fun c => D.p (.str [c]))) st := by
    unfold itM
    rw [h, bind_ok]
    show (if s.length ≤ line then R.ok (Itr.ls (s.map fun c => D.p (.str [c]))) st else .no) = _
    rw [if_pos hl]
  have cp := comp_pure (own := [1]) (it := itM (varM 0)) (i := 1) (elt := op2M (cmpD .In) (varM 1) (cM (.str SML))) (ρ := ρ) (st := st) (g := gB) hx it (fun d hd => by
    obtain ⟨c, hc, rfl⟩ := List.mem_map.mp hd
    refine ⟨op2_st (d := ds [c]) (d2 := ds SML) (s1 := st) (s2 := st) (var_eq ?_) rfl rfl, rfl⟩
    show (((wipeR ρ []).set 1 none).set 1 (some (ds [c])))[1]? = _
    rw [List.set_set]
    exact List.getElem?_set_self h1) (by rw [List.length_map]; exact hl)
  have g0 : (st ++ [SO.lst ((s.map fun c => D.p (.str [c])).map gB)])[st.length]? = some (.lst ((s.map fun c => D.p (.str [c])).map gB)) := by rw [List.getElem?_append_right (Nat.le_refl _), Nat.sub_self]; rfl
  refine app_st (arg1 cp rfl) ?_
  show (match ((match (st ++ [SO.lst ((s.map fun c => D.p (.str [c])).map gB)])[st.length]? with
      | some (.lst l) => some l
      | some (.ro l) => some l
      | _ => none).bind boolsOf) with
    | some bs => okP (.bl (bs.all id)) (st ++ [SO.lst ((s.map fun c => D.p (.str [c])).map gB)])
    | none => R.no) = _
  rw [g0]
  show (match boolsOf ((s.map fun c => D.p (.str [c])).map gB) with
    | some bs => okP (.bl (bs.all id)) (st ++ [SO.lst ((s.map fun c => D.p (.str [c])).map gB)])
    | none => R.no) = _
  rw [bools_map]
  show R.ok (D.p (.bl ((s.map fun c => decide (c ∈ SML)).all id))) _ = _
  rw [List.all_map]
  rfl
/-- what stands behind the test for None -/
def tI (c : CallT) : SM := (seqS (ifS (notM (tvM (appM (callD c ("has_text", none)) (consA (varM 0) nilA)))) (seqS (rseS "BadNumber") skipS) skipS) (seqS (retS (appM bStr (consA (varM 0) nilA))) skipS))
def tS : SM := (seqS (ifS (orM (tbM (op2M (cmpD .Eq) (varM 0) (cM (.str NON)))) (notM (tvM (appM bAll (consA (compM [1] (itM (varM 0)) (.nm 1) yesM (op2M (cmpD .In) (varM 1) (cM (.str SML)))) nilA))))) (seqS (rseS "BadNumber") skipS) skipS) (seqS (retS (orE (varM 0) (cM (.str [46])))) skipS))
def tL (c : CallT) : EM := (op2M (binD .Add) (op2M (binD .Add) (cM (.str [40])) (metM c pg.meth "join" (cM (.str [32])) (consA (compM [2] (itM (varM 0)) (.nm 2) yesM (appM (callD c ("term_text", none)) (consA (varM 2) nilA))) nilA))) (cM (.str [41])))
theorem m1_eq (c : CallT) : m1 c = seqS (ifS (tbM (op2M (cmpD .Is) (varM 0) (cM .non))) (seqS (retS (cM (.str NON))) skipS) skipS) (seqS (ifS (tvM (isiM "int" (varM 0))) (tI c) skipS) (seqS (ifS (tvM (isiM "str" (varM 0))) tS skipS) (seqS (retS (tL c)) skipS))) := rfl
theorem tI_run (k : Nat) (i : Int) (st : Store) (b : Bool) (hb : ∀ st, runF pg.T (k + 1) ("has_text", none) [di i] st = .ok (.p (.bl b)) st) : tvM (appM (callD (runF pg.T (k + 1)) ("has_text", none)) (consA (varM 0) nilA)) (startR 3 [di i]) st = .ok b st := tv_st (app_st (arg1 (d := di i) rfl rfl) (call_p rfl (hb []))) rfl
theorem tS_run (s : List Nat) (st : Store) (h : s ≠ NON) (h2 : ∀ c ∈ s, c ∈ SML) (hl : s.length ≤ line) : ∃ st', tS (startR 3 [ds s]) st = .go (.rt (ds (txt (.str s)))) (startR 3 [ds s]) st' := by
  have q1 : tbM (op2M (cmpD .Eq) (varM 0) (cM (.str NON))) (startR 3 [ds s]) st = .ok false st := (var_str (x := s) rfl).trans (by rw [decide_eq_false h])
  have q2 := all_sml (ρ := startR 3 [ds s]) (st := st) (s := s) rfl rfl (by show 1 < 3; omega) hl
  rw [List.all_eq_true.mpr fun c hc => decide_eq_true (h2 c hc)] at q2
  refine ⟨st ++ [SO.lst ((s.map fun c => D.p (.str [c])).map gB)], seq_nx (if_skip (or_no q1 (not_st (k := true) (tv_st q2 rfl)))) (seq_rt (ret_st (d := ds (txt (.str s))) ?_ rfl))⟩
  generalize st ++ [SO.lst ((s.map fun c => D.p (.str [c])).map gB)] = st2
  show (R.ok (ds s) st2).bind _ = _
  rw [bind_ok]
  show R.bind (if s.length ≤ line then R.ok (!s.isEmpty) st2 else .no) _ = _
  rw [if_pos hl, bind_ok]
  show _ = R.ok (ds (if s = [] then [46] else s)) st2
  cases s with
  | nil => rfl
  | cons c r => rfl
theorem ttext_leaf (K : Nat) (t : P) {f : Nat} (h : drw f t = true) (ht : ∀ l, t ≠ .tup l) : ∃ st', runF pg.T (K + 2) ("term_text", none) [.p t] [] = .ok (ds (txt t)) st' := by
  rw [r1]
  cases t with
  | non => exact ⟨_, runB_rt rfl (seq_rt (if_yes rfl (seq_rt (ret_st rfl rfl))))⟩
  | bl b => exact (drw_b h).elim
  | int i =>
    have q := tI_run K i [] true fun st => has_small K i st (drw_i h)
    exact ⟨_, runB_rt rfl (by
      rw [m1_eq]
      exact seq_nx (if_skip (is_non (i := 0) rfl (fun z => by cases z))) (seq_rt (if_yes (isi_p (i := 0) rfl (by kernel_rfl)) (seq_nx (if_skip (not_st (k := true) q)) (seq_rt (ret_st (str_i (v := 0) rfl (lt_4300 (drw_i h))) rfl))))))⟩
  | str s =>
    obtain ⟨h1, h2, h3⟩ := drw_s h
    obtain ⟨st', e⟩ := tS_run s [] h1 h3 (by unfold line; omega)
    exact ⟨st', runB_rt rfl (by
      rw [m1_eq]
      exact seq_nx (if_skip (is_non (i := 0) rfl (fun z => by cases z))) (seq_nx (if_skip (isi_p (i := 0) rfl (by kernel_rfl))) (seq_rt (if_yes (isi_p (i := 0) rfl (by kernel_rfl)) e))))⟩
  | tup l => exact absurd rfl (ht l)
theorem tL_run (k f : Nat) {l : List P} (st : Store) (h1 : l.length ≤ 3) (h2 : ∀ x ∈ l, drw f x = true) (hf : f ≤ 4) (ih : ∀ x ∈ l, ∃ st', runF pg.T k ("term_text", none) [.p x] [] = .ok (ds (txt x)) st') (d : D) (hd : d = .p (.tup l) ∨ ∃ q, d = .ref q ∧ st[q]? = some (.lst (l.map D.p))) : tL (runF pg.T k) (startR 3 [d]) st = .ok (ds (txt (.tup l))) (st ++ [SO.lst ((l.map D.p).map gT)]) := by
  have el : ∀ x ∈ l, ∀ d0 : D, appM (callD (runF pg.T k) ("term_text", none)) (consA (varM 2) nilA) ((wipeR (startR 3 [d0]) [2]).set 2 (some (.p x))) st = .ok (gT (.p x)) st ∧ isX (gT (.p x)) = false := fun x hx d0 => by
    obtain ⟨st', e⟩ := ih x hx
    exact ⟨app_st (arg1 (d := .p x) rfl rfl) (call_p rfl e), rfl⟩
  have hlen : (l.map D.p).length ≤ line := by rw [List.length_map]; unfold line; omega
  rcases hd with rfl | ⟨q, rfl, hq⟩
  · have cp := comp_pure (own := [2]) (it := itM (varM 0)) (i := 2) (elt := appM (callD (runF pg.T k) ("term_text", none)) (consA (varM 2) nilA)) (ρ := startR 3 [.p (.tup l)]) (st := st) (g := gT) rfl (tup_it (i := 0) rfl) (fun d hd => by
      obtain ⟨x, hx, rfl⟩ := List.mem_map.mp hd
      exact el x hx _) hlen
    exact paren cp h1 h2 hf
  · have it : itM (varM 0) (startR 3 [.ref q]) st = .ok (.live q) st := by
      show (match st[q]? with
        | some (.lst _) => R.ok (Itr.live q) st
        | some (.ro _) => .ok (.live q) st
        | _ => .no) = _
      rw [hq]
    have cp := comp_live (own := [2]) (it := itM (varM 0)) (i := 2) (elt := appM (callD (runF pg.T k) ("term_text", none)) (consA (varM 2) nilA)) (ρ := startR 3 [.ref q]) (st := st) (g := gT) rfl it hq (fun d hd => by
      obtain ⟨x, hx, rfl⟩ := List.mem_map.mp hd
      exact el x hx _) hlen
    exact paren cp h1 h2 hf
theorem ttext_run : ∀ (f K : Nat) (t : P), f ≤ 4 → drw f t = true → ∃ st', runF pg.T (K + f + 2) ("term_text", none) [.p t] [] = .ok (ds (txt t)) st' := by
  intro f
  induction f with
  | zero => exact fun K t hf h => ttext_leaf K t h fun l z => by rw [z] at h; cases h
  | succ f ih =>
    intro K t hf h
    by_cases ht : ∃ l, t = .tup l
    · obtain ⟨l, rfl⟩ := ht
      obtain ⟨h1, h2⟩ := drw_all h
      have e := tL_run (K + f + 2) f (l := l) [] h1 h2 (by omega) (fun x hx => ih K x (by omega) (h2 x hx)) (.p (.tup l)) (.inl rfl)
      show ∃ st', runF pg.T (K + f + 2 + 1) _ _ _ = _
      rw [r1]
      exact ⟨_, runB_rt rfl (by
        rw [m1_eq]
        exact seq_nx (if_skip (is_non (i := 0) rfl (fun z => by cases z))) (seq_nx (if_skip (isi_p (i := 0) rfl (by kernel_rfl))) (seq_nx (if_skip (isi_p (i := 0) rfl (by kernel_rfl))) (seq_rt (ret_st e rfl)))))⟩
    · have := ttext_leaf (K + f + 1) t h fun l z => ht ⟨l, z⟩
      exact this
/-- term_text(list(..)) -/
theorem ttext_list (f K q : Nat) (l : List P) (st : Store) (hf : f ≤ 4) (h : drw (f + 1) (.tup l) = true) (hq : st[q]? = some (.lst (l.map D.p))) : runF pg.T (K + f + 3) ("term_text", none) [.ref q] st = .ok (ds (txt (.tup l))) (st ++ [SO.lst ((l.map D.p).map gT)]) := by
  obtain ⟨h1, h2⟩ := drw_all h
  have e := tL_run (K + f + 2) f (l := l) st h1 h2 hf (fun x hx => ttext_run f K x hf (h2 x hx)) (.ref q) (.inr ⟨q, rfl, hq⟩)
  show runF pg.T (K + f + 2 + 1) _ _ _ = _
  rw [r1]
  have n1 : tbM (op2M (cmpD .Is) (varM 0) (cM .non)) (startR 3 [.ref q]) st = .ok false st := tb_st (op2_st (d := .ref q) (d2 := .p .non) (s1 := st) (s2 := st) rfl rfl rfl)
  have ty : ∀ T : Str, isTy T (.ref q) st = some (decide (T = "list")) := fun T => by
    show (match st[q]? with
      | some (.lst _) => some (decide (T = "list"))
      | _ => none) = _
    rw [hq]
  have n2 : ∀ T : Str, decide (T = "list") = false → tvM (isiM T (varM 0)) (startR 3 [.ref q]) st = .ok false st := fun T hT => by
    refine tv_st (d := .p (.bl false)) (s1 := st) ?_ rfl
    show (R.ok (D.ref q) st).bind _ = _
    rw [bind_ok, ty T, hT]
    rfl
  exact runB_rt rfl (by
    rw [m1_eq]
    exact seq_nx (if_skip n1) (seq_nx (if_skip (n2 "int" (by decide +kernel))) (seq_nx (if_skip (n2 "str" (by decide +kernel))) (seq_rt (ret_st e rfl)))))
end K20
end S_K20zd

section S_K20ze
set_option Elab.async false
set_option linter.all false
set_option maxRecDepth 100000
set_option maxHeartbeats 1000000
namespace K20
open PySem L2 Lt
/-! ### the text of a term is read back -/
theorem isAt_c {s r : List Nat} {a c : Nat} (h : s.drop a = c :: r) (z : List Nat) : isAt s a z = decide (c ∈ z) := by
  have e : s[a]? = some c := by rw [← List.head?_drop, h]; rfl
  unfold isAt
  rw [e]
theorem isAt_n {s : List Nat} {a : Nat} (h : s.drop a = []) (z : List Nat) : isAt s a z = false := by
  have e : s[a]? = none := by rw [← List.head?_drop, h]; rfl
  unfold isAt
  rw [e]
/-- nothing goes on -/
def stp (v : List Nat) : Prop := ∀ c r, v = c :: r → c = 32 ∨ c = 41
theorem take_all {u v z : List Nat} (hu : ∀ c ∈ u, c ∈ z) (hv : ∀ c r, v = c :: r → c ∉ z) : (u ++ v).takeWhile (fun c => decide (c ∈ z)) = u := by
  induction u with
  | nil =>
    rw [List.nil_append]
    cases v with
    | nil => rfl
    | cons c r => rw [List.takeWhile_cons, decide_eq_false (hv c r rfl)]; rfl
  | cons c r ih =>
    rw [List.cons_append, List.takeWhile_cons, decide_eq_true (hu c List.mem_cons_self), if_pos rfl, ih fun d hd => hu d (List.mem_cons_of_mem _ hd)]
theorem part_is {s u v z : List Nat} {a : Nat} (h : s.drop a = u ++ v) (hu : ∀ c ∈ u, c ∈ z) (hv : ∀ c r, v = c :: r → c ∉ z) : part s z a = u ∧ endp s z a = a + u.length := by
  have t := take_all hu hv
  refine ⟨by rw [part_eq, h, t], ?_⟩
  unfold endp
  rw [h, t]
theorem pTerm_rest {s : List Nat} {r a : Nat} (h : isAt s a [40] = false) : pTerm s r a = pRest s a := by
  cases r with
  | zero => rw [pTerm_zero, h]; rfl
  | succ r => rw [pTerm_succ, h]; rfl
theorem numL_head : ∀ (n : Nat), 0 < n → ∃ c r, TL.numL n = c :: r ∧ 49 ≤ c ∧ c ≤ 57 := by
  intro n
  induction n using Nat.strongRecOn with
  | ind n ih =>
    intro h
    by_cases hn : n < 10
    · exact ⟨48 + n, [], TL.numL_lt hn, by omega, by omega⟩
    · obtain ⟨c, r, e, h1, h2⟩ := ih (n / 10) (by omega) (by omega)
      exact ⟨c, r ++ [48 + n % 10], by rw [TL.numL_step (by omega), e]; rfl, h1, h2⟩
theorem numL_fig (n : Nat) : ∀ c ∈ TL.numL n, c ∈ FIG := fun c hc => by
  have := TL.numL_digits n c hc
  simp only [FIG, List.mem_cons, List.not_mem_nil, or_false]
  omega
theorem stp_fig {v : List Nat} (h : stp v) : ∀ c r, v = c :: r → c ∉ FIG := fun c r e hc => by
  have := h c r e
  simp only [FIG, List.mem_cons, List.not_mem_nil, or_false] at hc
  omega
theorem stp_sml {v : List Nat} (h : stp v) : ∀ c r, v = c :: r → c ∉ SML := fun c r e hc => by
  have := h c r e
  simp only [SML, List.mem_cons, List.not_mem_nil, or_false] at hc
  omega
theorem drop_more {s u v : List Nat} {a : Nat} (h : s.drop a = u ++ v) : s.drop (a + u.length) = v := by
  rw [← List.drop_drop, h, List.drop_left]
/-- figures that stand at b are read -/
theorem figs {s v : List Nat} {b n : Nat} (h : s.drop b = TL.numL n ++ v) (hv : stp v) (hn : n < 10 ^ 20) : isAt s b FIG = true ∧ (isAt s b [48] && decide ((part s FIG b).length > 1)) = false ∧ ¬ (part s FIG b).length > 20 ∧ iv (part s FIG b) = n ∧ endp s FIG b = b + (TL.numL n).length ∧ (0 < n → isAt s b [48] = false) := by
  obtain ⟨p1, p2⟩ := part_is h (numL_fig n) (stp_fig hv)
  have len := TL.numL_len (n := n) (k := 20) (by omega) hn
  have val : iv (TL.numL n) = n := by
    show ((NumText.digitsVal (TL.numL n) : Nat) : Int) = n
    rw [TL.numL_val]
  rw [p1, p2]
  by_cases h0 : n = 0
  · subst h0
    have e : TL.numL 0 = [48] := TL.numL_lt (by omega)
    rw [e] at h ⊢
    exact ⟨by rw [isAt_c h]; rfl, by simp, by simp, by rw [← e]; exact val, rfl, fun z => by omega⟩
  · obtain ⟨c, r, e, h1, h2⟩ := numL_head n (by omega)
    have hc := numL_fig n c (by rw [e]; exact List.mem_cons_self)
    have i48 : isAt s b [48] = false := by
      rw [e] at h
      rw [isAt_c h]
      exact decide_eq_false fun z => by
        have := List.mem_singleton.mp z
        omega
    have ifg : isAt s b FIG = true := by
      rw [e] at h
      rw [isAt_c h]
      exact decide_eq_true hc
    exact ⟨ifg, by rw [i48]; rfl, by omega, val, rfl, fun _ => i48⟩
theorem int_back {s v : List Nat} {a : Nat} {i : Int} (h : s.drop a = strI i ++ v) (hv : stp v) (hi : i.natAbs < 10 ^ 20) : pInt s a = .ok (.int i) (a + (strI i).length) := by
  unfold strI at h ⊢
  unfold pInt
  dsimp only
  by_cases h0 : 0 ≤ i
  · rw [if_pos h0] at h ⊢
    obtain ⟨f1, f2, f3, f4, f5, f6⟩ := figs h hv (by omega)
    have m : isAt s a [45] = false := by
      cases q : TL.numL i.toNat with
      | nil => exact absurd q (TL.numL_ne _)
      | cons c r =>
        have hc := numL_fig i.toNat c (by rw [q]; exact List.mem_cons_self)
        rw [q] at h
        rw [isAt_c h]
        refine decide_eq_false fun z => ?_
        rw [List.mem_singleton.mp z] at hc
        exact absurd hc (by decide)
    rw [m]
    simp only [Bool.false_eq_true, if_false, Bool.false_and, Bool.or_false]
    rw [f1, f2, if_neg (by simp), if_neg (by simp), if_neg f3, f4, f5]
    congr 2
    omega
  · rw [if_neg h0] at h ⊢
    have m : isAt s a [45] = true := by
      rw [isAt_c (r := TL.numL (-i).toNat ++ v) h]
      rfl
    have h' : s.drop (a + 1) = TL.numL (-i).toNat ++ v := drop_more (u := [45]) (v := TL.numL (-i).toNat ++ v) h
    obtain ⟨f1, f2, f3, f4, f5, f6⟩ := figs h' hv (by omega)
    rw [m]
    simp only [if_true, Bool.true_and]
    rw [f6 (by omega)] at f2 ⊢
    rw [f1, f2, if_neg (by simp), if_neg (by simp), if_neg f3, f4, f5, List.length_cons]
    refine congr (congrArg Res.ok (congrArg P.int ?_)) ?_ <;> omega
def tailj (l : List P) : List Nat := (l.map fun x => 32 :: txt x).flatten
theorem tailj_cons (x : P) (r : List P) : tailj (x :: r) = 32 :: (txt x ++ tailj r) := rfl
theorem join_tail : ∀ (x : P) (r : List P), joinS [32] (txts (x :: r)) = txt x ++ tailj r
  | x, [] => by
    show txt x = txt x ++ []
    rw [List.append_nil]
  | x, y :: r => by
    have ih := join_tail y r
    show txt x ++ ([32] ++ joinS [32] (txts (y :: r))) = _
    rw [ih]
    rfl
theorem stp_tail (l : List P) (v : List Nat) : stp (tailj l ++ 41 :: v) := fun c r e => by
  cases l with
  | nil => injection e with e1 e2; exact .inr e1.symm
  | cons x r => injection e with e1 e2; exact .inl e1.symm
theorem strI_head (i : Int) : ∃ c r, strI i = c :: r ∧ (c = 45 ∨ c ∈ FIG) := by
  unfold strI
  split
  · cases q : TL.numL i.toNat with
    | nil => exact absurd q (TL.numL_ne _)
    | cons c r => exact ⟨c, r, rfl, .inr (numL_fig _ c (by rw [q]; exact List.mem_cons_self))⟩
  · exact ⟨45, _, rfl, .inl rfl⟩
/-- how a text of a term begins -/
theorem txt_head {f : Nat} {t : P} (h : drw f t = true) : ∃ c r, txt t = c :: r ∧ c ≠ 41 := by
  cases t with
  | non => exact ⟨110, _, rfl, by decide⟩
  | bl b => exact (drw_b h).elim
  | int i =>
    obtain ⟨c, r, e, hc⟩ := strI_head i
    refine ⟨c, r, e, fun z => ?_⟩
    subst z
    rcases hc with hc | hc
    · omega
    · exact absurd hc (by decide)
  | str s =>
    obtain ⟨_, _, h3⟩ := drw_s h
    cases s with
    | nil => exact ⟨46, [], rfl, by decide⟩
    | cons c r =>
      refine ⟨c, r, rfl, fun z => ?_⟩
      have := h3 c List.mem_cons_self
      rw [z] at this
      exact absurd this (by decide)
  | tup l => exact ⟨40, _, rfl, by decide⟩
theorem ent_back {s : List Nat} {f r : Nat} (ih : ∀ (t : P) (a : Nat) (v : List Nat), drw f t = true → s.drop a = txt t ++ v → stp v → pTerm s r a = .ok t (a + (txt t).length)) : ∀ (l acc : List P) (fuel a : Nat) (v : List Nat), (∀ x ∈ l, drw f x = true) → acc ≠ [] → l.length < fuel → s.drop a = tailj l ++ 41 :: v → pEnt (pTerm s r) s fuel a acc = .ok (.tup (acc ++ l)) (a + (tailj l).length + 1)
  | [], acc, fuel + 1, a, v, _, _, _, h => by
    rw [pEnt_eq, isAt_c (c := 41) (r := v) h]
    simp [tailj]
  | x :: l, acc, fuel + 1, a, v, hl, hne, hf, h => by
    have h1 : s.drop a = 32 :: (txt x ++ tailj l ++ 41 :: v) := h
    have i41 : isAt s a [41] = false := by rw [isAt_c h1]; rfl
    have i32 : isAt s a [32] = true := by rw [isAt_c h1]; rfl
    have ne : acc.isEmpty = false := by
      cases acc with
      | nil => exact absurd rfl hne
      | cons _ _ => rfl
    have h2 : s.drop (a + 1) = txt x ++ (tailj l ++ 41 :: v) := by
      have := drop_more (u := [32]) (v := txt x ++ tailj l ++ 41 :: v) h1
      rw [List.append_assoc] at this
      exact this
    have e := ih x (a + 1) _ (hl x List.mem_cons_self) h2 (stp_tail l v)
    have h3 := drop_more h2
    have rec_ := ent_back ih l (acc ++ [x]) fuel (a + 1 + (txt x).length) v (fun y hy => hl y (List.mem_cons_of_mem _ hy)) (by simp) (by simp only [List.length_cons] at hf; omega) h3
    rw [pEnt_eq, i41, i32, ne]
    simp only [Bool.false_eq_true, if_false, Bool.not_false, Bool.not_true, Bool.and_false, aft]
    rw [e]
    dsimp only
    rw [rec_, List.append_assoc, tailj_cons, List.length_cons, List.length_append]
    congr 1
    omega
theorem txt_pos {f : Nat} {t : P} (h : drw f t = true) : 1 ≤ (txt t).length := by
  obtain ⟨c, r, e, _⟩ := txt_head h
  rw [e, List.length_cons]
  omega
theorem tailj_len : ∀ l : List P, l.length ≤ (tailj l).length
  | [] => Nat.le_refl _
  | x :: r => by
    have := tailj_len r
    rw [tailj_cons, List.length_cons, List.length_cons, List.length_append]
    omega
theorem term_back (s : List Nat) : ∀ (f r : Nat), f ≤ r → ∀ (t : P) (a : Nat) (v : List Nat), drw f t = true → s.drop a = txt t ++ v → stp v → pTerm s r a = .ok t (a + (txt t).length) := by
  have leaf : ∀ (f r : Nat) (t : P) (a : Nat) (v : List Nat), drw f t = true → (∀ l, t ≠ .tup l) → s.drop a = txt t ++ v → stp v → pTerm s r a = .ok t (a + (txt t).length) := by
    intro f r t a v h hl hd hv
    cases t with
    | non =>
      have hd' : s.drop a = 110 :: ([111, 110, 101] ++ v) := hd
      obtain ⟨p1, p2⟩ := part_is (z := SML) (u := NON) hd (by decide) (stp_sml hv)
      rw [pTerm_rest (by rw [isAt_c hd']; rfl)]
      unfold pRest
      rw [isAt_c hd', isAt_c hd', p1, p2]
      rfl
    | bl b => exact (drw_b h).elim
    | int i =>
      obtain ⟨c, r', e, hc⟩ := strI_head i
      have hd' : s.drop a = c :: (r' ++ v) := by
        show _ = (c :: r') ++ v
        rw [← e]
        exact hd
      have no : ∀ z, (∀ d, d = 45 ∨ d ∈ FIG → d ∉ z) → isAt s a z = false := fun z hz => by
        rw [isAt_c hd']
        exact decide_eq_false (hz c hc)
      rw [pTerm_rest (no _ fun d hd z => by
        rw [List.mem_singleton.mp z] at hd
        exact absurd hd (by decide))]
      unfold pRest
      rw [no [46] fun d hd z => by
        rw [List.mem_singleton.mp z] at hd
        exact absurd hd (by decide)]
      rw [no SML fun d hd z => by
        rcases hd with rfl | hd
        · exact absurd z (by decide)
        · simp only [FIG, SML, List.mem_cons, List.not_mem_nil, or_false] at hd z
          omega]
      simp only [Bool.false_eq_true, if_false]
      exact int_back hd hv (drw_i h)
    | str w =>
      obtain ⟨h1, h2, h3⟩ := drw_s h
      cases w with
      | nil =>
        have hd' : s.drop a = 46 :: v := hd
        rw [pTerm_rest (by rw [isAt_c hd']; rfl)]
        unfold pRest
        rw [isAt_c hd']
        rfl
      | cons c w =>
        have hd' : s.drop a = (c :: w) ++ v := hd
        have hc := h3 c List.mem_cons_self
        have no : ∀ d, d < 97 → isAt s a [d] = false := fun d hd => by
          rw [isAt_c (r := w ++ v) hd']
          refine decide_eq_false fun z => ?_
          have := List.mem_singleton.mp z
          simp only [SML, List.mem_cons, List.not_mem_nil, or_false] at hc
          omega
        obtain ⟨p1, p2⟩ := part_is (z := SML) hd' h3 (stp_sml hv)
        rw [pTerm_rest (no 40 (by omega))]
        unfold pRest
        rw [no 46 (by omega), isAt_c (r := w ++ v) hd', decide_eq_true hc, p1, p2, if_neg h1]
        rfl
    | tup l => exact absurd rfl (hl l)
  intro f
  induction f with
  | zero => exact fun r hr t a v h hd hv => leaf 0 r t a v h (fun l z => by rw [z] at h; cases h) hd hv
  | succ f ih =>
    intro r hr t a v h hd hv
    by_cases ht : ∃ l, t = .tup l
    · obtain ⟨l, rfl⟩ := ht
      obtain ⟨h1, h2⟩ := drw_all h
      obtain ⟨r, rfl⟩ : ∃ r', r = r' + 1 := ⟨r - 1, by omega⟩
      have hd' : s.drop a = 40 :: (joinS [32] (txts l) ++ [41] ++ v) := hd
      have hd1 : s.drop (a + 1) = joinS [32] (txts l) ++ 41 :: v := by
        have := drop_more (u := [40]) (v := joinS [32] (txts l) ++ [41] ++ v) hd'
        rw [List.append_assoc] at this
        exact this
      have lent : (txt (.tup l)).length = (joinS [32] (txts l)).length + 2 := by
        show ([40] ++ joinS [32] (txts l) ++ [41]).length = _
        rw [List.length_append, List.length_append, List.length_singleton, List.length_singleton]
        omega
      have slen : (joinS [32] (txts l)).length ≤ s.length := by
        have := congrArg List.length hd1
        rw [List.length_drop, List.length_append] at this
        omega
      rw [pTerm_succ, isAt_c hd', lent]
      show pEnt (pTerm s r) s (s.length + 1) (a + 1) [] = _
      cases l with
      | nil =>
        rw [pEnt_eq, isAt_c (c := 41) (r := v) hd1]
        rfl
      | cons x l =>
        rw [join_tail] at hd1 slen ⊢
        obtain ⟨c, rr, ec, hc⟩ := txt_head (h2 x List.mem_cons_self)
        have hd2 : s.drop (a + 1) = c :: (rr ++ (tailj l ++ 41 :: v)) := by rw [hd1, List.append_assoc, ec]; rfl
        have i41 : isAt s (a + 1) [41] = false := by
          rw [isAt_c hd2]
          exact decide_eq_false fun z => hc (List.mem_singleton.mp z)
        rw [List.append_assoc] at hd1
        have e := ih r (by omega) x (a + 1) _ (h2 x List.mem_cons_self) hd1 (stp_tail l v)
        have tl := tailj_len l
        have tp := txt_pos (h2 x List.mem_cons_self)
        rw [List.length_append] at slen
        have en := ent_back (s := s) (f := f) (r := r) (fun t a v h => ih r (by omega) t a v h) l ([] ++ [x]) s.length (a + 1 + (txt x).length) v (fun y hy => h2 y (List.mem_cons_of_mem _ hy)) (by simp) (by omega) (drop_more hd1)
        rw [pEnt_eq, i41]
        simp only [Bool.false_eq_true, if_false, List.isEmpty_nil, Bool.not_true, Bool.false_and, aft, if_true]
        rw [e]
        dsimp only
        rw [en, List.length_append]
        congr 1
        omega
    · exact leaf (f + 1) r t a v h (fun l z => ht ⟨l, z⟩) hd hv
theorem read_back {f : Nat} {t : P} (h : drw f t = true) (hf : f ≤ 12) : pRead (txt t) = .ok t (txt t).length := by
  have e := term_back (txt t) f 12 hf t 0 [] h (by rw [List.drop_zero, List.append_nil]) (fun c r z => by cases z)
  unfold pRead
  rw [e, Nat.zero_add]
  simp
end K20
end S_K20ze

section S_K20zf
set_option Elab.async false
set_option linter.all false
set_option maxRecDepth 100000
set_option maxHeartbeats 1000000
namespace K20
open PySem L2 Lt
/-! ### great integers -/
theorem nines : ∀ n : Nat, TL.numL (10 ^ (n + 1) - 1) = List.replicate (n + 1) 57
  | 0 => TL.numL_lt (by omega)
  | n + 1 => by
    have p : 0 < 10 ^ n := Nat.pow_pos (by omega)
    have e1 : 10 ^ (n + 1) = 10 ^ n * 10 := Nat.pow_succ ..
    have e2 : 10 ^ (n + 1 + 1) = 10 ^ (n + 1) * 10 := Nat.pow_succ ..
    rw [TL.numL_step (by omega), show (10 ^ (n + 1 + 1) - 1) / 10 = 10 ^ (n + 1) - 1 by omega, show (10 ^ (n + 1 + 1) - 1) % 10 = 9 by omega, nines n]
    exact (List.replicate_succ' (n := n + 1) (a := 57)).symm
theorem repL_one (c n : Nat) : repL [c] (n : Int) = List.replicate n c := by
  unfold repL
  rw [show ((n : Nat) : Int).toNat = n by omega]
  induction n with
  | zero => rfl
  | succ n ih => rw [List.replicate_succ, List.flatten_cons, ih, List.replicate_succ]; rfl
/-- the loop in has_text -/
theorem bound_loop (w0 w2 : Option D) (st : Store) : ∀ (its : List D) (b : Int) (w : Option D), ∃ w', lsS (.nm 2) (seqS (augS 1 .Mult (cM (.int (10)))) skipS) its [w0, some (di b), w] st = .go .nx [w0, some (di (b * 10 ^ its.length)), w'] st
  | [], b, w => ⟨w, by rw [List.length_nil, Int.pow_zero, Int.mul_one]; rfl⟩
  | d :: r, b, w => by
    obtain ⟨w', e⟩ := bound_loop w0 w2 st r (b * 10) (some d)
    refine ⟨w', ?_⟩
    show loopK (seqS (augS 1 .Mult (cM (.int (10)))) skipS [w0, some (di b), some d] st) (lsS (.nm 2) (seqS (augS 1 .Mult (cM (.int (10)))) skipS) r) = _
    have a : augS 1 .Mult (cM (.int (10))) [w0, some (di b), some d] st = .go .nx [w0, some (di (b * 10)), some d] st := by
      unfold augS
      show RS.of (if mulOk b 10 = true then okP (.int (b * 10)) st else R.no) [w0, some (di b), some d] _ = _
      rw [if_pos (show mulOk b 10 = true by unfold mulOk; rw [decide_eq_true (show (10 : Int).natAbs < 2 ^ 64 by omega), Bool.or_true])]
      rfl
    rw [show seqS (augS 1 .Mult (cM (.int (10)))) skipS [w0, some (di b), some d] st = .go .nx [w0, some (di (b * 10)), some d] st from seq_nx a rfl]
    show lsS _ _ _ _ _ = _
    rw [e, List.length_cons, Int.pow_succ, Int.mul_assoc, Int.mul_comm 10]
def absI (i : Int) : Int := if i < 0 then -i else i
theorem has_big (k : Nat) (i : Int) (st : Store) (h : (2 : Int) ^ 13287 ≤ absI i) : runF pg.T (k + 1) ("has_text", none) [di i] st = .ok (.p (.bl (decide (absI i < 10 ^ 4000)))) st := by
  rw [r0]
  have q : tvM (op2M (binD .RShift) (appM bAbs (consA (varM 0) nilA)) (cM (.int (13287)))) (startR 3 [di i]) st = .ok true st := by
    refine tv_st (d := di (absI i / 2 ^ 13287)) (op2_st (d := di (absI i)) (d2 := di ((13287 : Nat) : Int)) (s1 := st) (s2 := st) (abs_st rfl) rfl shr_d) ?_
    have pos : 1 ≤ absI i / 2 ^ 13287 := by
      have h2 : (0 : Int) < 2 ^ 13287 := Int.pow_pos (by omega)
      generalize (2 : Int) ^ 13287 = b at h h2
      rw [Int.le_ediv_iff_mul_le h2, Int.one_mul]
      exact h
    generalize absI i / 2 ^ 13287 = v at pos
    show R.ok (v != 0) st = _
    rw [show (v != 0) = true by simp; omega]
  obtain ⟨w', lp⟩ := bound_loop (some (di i)) none st (rngL 0 ((4000 : Nat) : Int)) 1 none
  obtain ⟨rg, ln⟩ := rng_n (a := cM (.int 4000)) (ρ := [some (di i), some (di 1), none]) (st := st) (s1 := st) (m := 4000) rfl (by omega)
  rw [ln, Int.one_mul] at lp
  have fr : forS (rngM (consA (cM (.int (4000))) nilA)) (.nm 2) (seqS (augS 1 .Mult (cM (.int (10)))) skipS) [some (di i), some (di 1), none] st = .go .nx [some (di i), some (di (10 ^ 4000)), w'] st := by
    unfold forS
    rw [rg, of_ok]
    exact lp
  generalize (10 : Int) ^ 4000 = g at fr ⊢
  refine runB_rt rfl (seq_nx (if_skip (not_st (k := true) q)) (seq_nx (asg_st (d := di 1) rfl) (seq_nx fr (seq_rt (ret_st (d := .p (.bl (decide (absI i < g)))) (op2_st (d := di (absI i)) (d2 := di g) (s1 := st) (s2 := st) (abs_st rfl) rfl rfl) rfl)))))
theorem ttext_int (k : Nat) (i : Int) (b : Bool) (hb : ∀ st, runF pg.T (k + 1) ("has_text", none) [di i] st = .ok (.p (.bl b)) st) (hi : i.natAbs < 10 ^ 4300) (st : Store) : runF pg.T (k + 2) ("term_text", none) [di i] st = if b then .ok (ds (strI i)) st else .ex ⟨"BadNumber", []⟩ st := by
  have q := tI_run k i st b hb
  rw [r1]
  cases b with
  | true =>
    exact runB_rt rfl (by
      rw [m1_eq]
      exact seq_nx (if_skip (is_non (i := 0) rfl (fun z => by cases z))) (seq_rt (if_yes (isi_p (i := 0) rfl (by kernel_rfl)) (seq_nx (if_skip (not_st (k := true) q)) (seq_rt (ret_st (str_i (v := 0) rfl hi) rfl))))))
  | false =>
    exact runB_ex rfl (by
      rw [m1_eq]
      exact seq_nx (if_skip (is_non (i := 0) rfl (fun z => by cases z))) (seq_ex (if_yes (isi_p (i := 0) rfl (by kernel_rfl)) (seq_ex (if_yes (not_st (k := false) q) (seq_ex rfl))))))
theorem try_ex0 {sub : Str → Option Bool} {b h : SM} {ρ ρ1 ρ2 : Rho} {st s1 s2 : Store} {f : Fl} {x : Xc} (n : noX ρ = true) (e : b ρ st = .ex x ρ1 s1) (n1 : noX ρ1 = true) (hs : sub x.cls = some true) (hh : h ρ1 s1 = .go f ρ2 s2) (n2 : noX ρ2 = true) : tryS sub b none h ρ st = .go f ρ2 s2 := by
  unfold tryS
  rw [n, if_pos rfl, e]
  dsimp only
  rw [n1, if_pos rfl, hs]
  dsimp only
  rw [hh]
  dsimp only
  rw [n2, if_pos rfl]
theorem refuse_run (k : Nat) (x : P) (st : Store) (h : ∃ st', runF pg.T k ("term_text", none) [.p x] [] = .ex ⟨"BadNumber", []⟩ st') : runF pg.T (k + 1) ("_law_refused", none) [.p x] st = .ok (.p (.bl true)) st := by
  obtain ⟨st', h⟩ := h
  rw [r22]
  have sub : pg.subB "BadNumber" "BadNumber" = some true := by kernel_rfl
  refine runB_rt rfl (seq_rt (try_ex0 (x := ⟨"BadNumber", []⟩) (ρ1 := startR 1 [.p x]) (s1 := st) rfl (seq_ex (x := exprS (appM (callD (runF pg.T k) ("term_text", none)) (consA (varM 0) nilA))) (expr_ex ?_)) rfl sub (seq_rt (ret_st (d := .p (.bl true)) rfl rfl)) rfl))
  exact app_st (arg1 (d := .p x) rfl rfl) (call_pex rfl h)
/-- what law asks of great integers -/
theorem big_1 : (2 : Int) ^ 13287 ≤ 10 ^ 4000 - 1 := by decide +kernel
theorem big_2 : (10 ^ 4000 - 1 : Nat) < 10 ^ 4300 ∧ (10 ^ 4000 : Nat) < 10 ^ 4300 := by decide +kernel
theorem big_gen (g : Int) (gn : Nat) (hg : g = gn) (h1 : 1 ≤ gn) (hn : gn < 10 ^ 4300) (h2 : (2 : Int) ^ 13287 ≤ g - 1) (h4 : g = 10 ^ 4000) (hs : TL.numL (gn - 1) = List.replicate 4000 57) (k : Nat) (st : Store) :
    runF pg.T (k + 2) ("term_text", none) [di (g - 1)] st = .ok (ds (List.replicate 4000 57)) st ∧ runF pg.T (k + 2) ("term_text", none) [di (1 - g)] st = .ok (ds (45 :: List.replicate 4000 57)) st ∧ runF pg.T (k + 2) ("term_text", none) [di g] st = .ex ⟨"BadNumber", []⟩ st := by
  have n1 : ((g - 1).natAbs) < 10 ^ 4300 := by clear h2 h4; generalize 10 ^ 4300 = z at hn ⊢; omega
  have n2 : ((1 - g).natAbs) < 10 ^ 4300 := by clear h2 h4; generalize 10 ^ 4300 = z at hn ⊢; omega
  have n3 : (g.natAbs) < 10 ^ 4300 := by clear h2 h4; generalize 10 ^ 4300 = z at hn ⊢; omega
  have g0 : 1 ≤ g := by clear h2 h4 hn n1 n2 n3; omega
  have gt : (g - 1).toNat = gn - 1 := by clear h2 h4 hn n1 n2 n3; omega
  have gt2 : (-(1 - g)).toNat = gn - 1 := by clear h2 h4 hn n1 n2 n3; omega
  have le : g - 1 ≤ g := by clear h2 h4 hn n1 n2 n3; omega
  have ls : g - 1 < g := by clear h2 h4 hn n1 n2 n3; omega
  have n0 : 0 ≤ g - 1 := by clear h2 h4 hn n1 n2 n3; omega
  have ne1 : g ≠ 1 := fun z => by
    have e : gn = 1 := by clear h2 h4 hn n1 n2 n3; omega
    rw [e] at hs
    have := congrArg List.length hs
    rw [List.length_replicate] at this
    exact absurd this (by decide)
  have a1 : absI (g - 1) = g - 1 := by unfold absI; rw [if_neg (by clear h2 h4 hn n1 n2 n3; omega)]
  have a2 : absI (1 - g) = g - 1 := by
    unfold absI
    rw [if_pos (by clear h2 h4 hn n1 n2 n3; omega)]
    clear h2 h4 hn n1 n2 n3
    omega
  have a3 : absI g = g := by unfold absI; rw [if_neg (by clear h2 h4 hn n1 n2 n3; omega)]
  have lt : g - 1 < 10 ^ 4000 := by rw [← h4]; exact ls
  have nl : ¬ g < 10 ^ 4000 := by rw [← h4]; exact Int.lt_irrefl g
  have s1 : strI (g - 1) = List.replicate 4000 57 := by
    unfold strI
    rw [if_pos n0, gt, hs]
  have s2 : strI (1 - g) = 45 :: List.replicate 4000 57 := by
    unfold strI
    rw [if_neg (by clear h2 h4 hn n1 n2 n3; omega), gt2, hs]
  have t1 := ttext_int k (g - 1) true (fun st => by
    have z := has_big k (g - 1) st (by rw [a1]; exact h2)
    rw [a1, decide_eq_true lt] at z
    exact z) n1 st
  have t2 := ttext_int k (1 - g) true (fun st => by
    have z := has_big k (1 - g) st (by rw [a2]; exact h2)
    rw [a2, decide_eq_true lt] at z
    exact z) n2 st
  have t3 := ttext_int k g false (fun st => by
    have z := has_big k g st (by rw [a3]; exact Int.le_trans h2 le)
    rw [a3, decide_eq_false nl] at z
    exact z) n3 st
  rw [s1, if_pos rfl] at t1
  rw [s2, if_pos rfl] at t2
  rw [if_neg Bool.false_ne_true] at t3
  exact ⟨t1, t2, t3⟩
theorem big (k : Nat) (st : Store) : runF pg.T (k + 2) ("term_text", none) [di (10 ^ 4000 - 1)] st = .ok (ds (List.replicate 4000 57)) st ∧ runF pg.T (k + 2) ("term_text", none) [di (1 - 10 ^ 4000)] st = .ok (ds (45 :: List.replicate 4000 57)) st ∧ runF pg.T (k + 2) ("term_text", none) [di (10 ^ 4000)] st = .ex ⟨"BadNumber", []⟩ st :=
  big_gen (10 ^ 4000) (10 ^ 4000) (Int.natCast_pow 10 4000).symm (Nat.pow_pos (by omega)) big_2.2 big_1 rfl (nines 3999) k st
end K20
end S_K20zf

section S_K20zg
set_option Elab.async false
set_option linter.all false
set_option maxRecDepth 100000
set_option maxHeartbeats 1000000
namespace K20
open PySem L2 Lt
/-! ### texts without 'bad' -/
theorem nobad {s : List Nat} (h : subS BAD s = false) : NoBad s := fun a e => by
  have h' : (!(Builtin.Str.occurrences (toS s) (toS BAD) 0 (toS s).length 1).isEmpty) = false := by
    rw [toS_len]
    exact h
  have p : (s.drop a).take 3 = BAD := by
    have e2 := e
    rw [part_eq] at e2
    have pre := List.takeWhile_prefix (l := s.drop a) fun c => decide (c ∈ SML)
    rw [e2] at pre
    exact (List.prefix_iff_eq_take.mp pre).symm
  have len : a + 3 ≤ s.length := by
    have := congrArg List.length p
    rw [List.length_take, List.length_drop] at this
    have e3 : BAD.length = 3 := rfl
    omega
  have := (StrLaws.found_iff (toS s) (toS BAD)).mpr ⟨a, by rw [toS_len, toS_len]; exact len, by
    rw [StrLaws.subAt_eq]
    show ((s.drop a).take 3 == BAD) = true
    rw [p]
    rfl⟩
  rw [this] at h'
  cases h'
/-! ### a comprehension over a list, its element leaving what stands -/
theorem liveC_grow {i n : Nat} {elt : EM} {ρ : Rho} {g : D → D} {l : List D} (h : ∀ d ∈ l, ∀ s : Store, ∃ t, elt (ρ.set i (some d)) s = .ok (g d) (s ++ t) ∧ isX (g d) = false) (hl : l.length ≤ line) : ∀ (m j : Nat) (s : Store), s[n]? = some (.lst l) → l.length - j < m → j ≤ l.length → ∃ t, liveC (turnC (.nm i) yesM elt ρ) n m j ((l.take j).map g) s = .ok (l.map g) (s ++ t)
  | 0, _, _, _, hm, _ => by omega
  | m + 1, j, s, hn, hm, hj => by
    have la : liveAt s n j = some l[j]? := by
      unfold liveAt
      rw [hn]
    have step : liveC (turnC (.nm i) yesM elt ρ) n (m + 1) j ((l.take j).map g) s = (match (some l[j]? : Option (Option D)) with
      | some (some d) => (turnC (.nm i) yesM elt ρ d s).bind fun o s1 => if ((l.take j).map g).length < line then liveC (turnC (.nm i) yesM elt ρ) n m (j + 1) (addO ((l.take j).map g) o) s1 else .no
      | some none => .ok ((l.take j).map g) s
      | none => .no) := by
      rw [← la]
      rfl
    rw [step]
    cases q : l[j]? with
    | none =>
      have : l.length ≤ j := List.getElem?_eq_none_iff.mp q
      refine ⟨[], ?_⟩
      show R.ok ((l.take j).map g) s = _
      rw [List.take_of_length_le this, List.append_nil]
    | some d =>
      obtain ⟨hlt, hd⟩ := List.getElem?_eq_some_iff.mp q
      obtain ⟨t, e1, e2⟩ := h d (by rw [← hd]; exact List.getElem_mem hlt) s
      have tu : turnC (.nm i) yesM elt ρ d s = .ok (some (g d)) (s ++ t) := by
        show (elt (ρ.set i (some d)) s).bind _ = _
        rw [e1, bind_ok, e2]
        rfl
      obtain ⟨t2, ih⟩ := liveC_grow h hl m (j + 1) (s ++ t) (by rw [List.getElem?_append_left (List.getElem?_eq_some_iff.mp hn).1]; exact hn) (by omega) (by omega)
      dsimp only
      rw [tu, bind_ok, if_pos (by rw [List.length_map, List.length_take]; omega)]
      rw [List.take_succ_eq_append_getElem hlt, List.map_append, hd, List.append_assoc] at ih
      exact ⟨t ++ t2, ih⟩
theorem comp_grow {own : List Nat} {it : IM} {i n : Nat} {elt : EM} {ρ : Rho} {st s1 : Store} {its : List D} {g : D → D} (hx : noX ρ = true) (hit : it ρ st = .ok (.live n) s1) (hn : s1[n]? = some (.lst its)) (he : ∀ d ∈ its, ∀ s : Store, ∃ t, elt ((wipeR ρ own).set i (some d)) s = .ok (g d) (s ++ t) ∧ isX (g d) = false) (hl : its.length ≤ line) : ∃ t, compM own it (.nm i) yesM elt ρ st = .ok (.ref (s1 ++ t).length) (s1 ++ t ++ [SO.lst (its.map g)]) := by
  have ll : liveLen s1 n = its.length + 1 := by
    unfold liveLen
    rw [hn]
  obtain ⟨t, z⟩ := liveC_grow (i := i) (elt := elt) (ρ := wipeR ρ own) he hl (its.length + 1) 0 s1 hn (by omega) (Nat.zero_le _)
  refine ⟨t, ?_⟩
  unfold compM
  rw [hx, if_pos rfl, hit, bind_ok]
  show (liveC _ n (liveLen s1 n) 0 [] s1).bind _ = _
  rw [List.take_zero, List.map_nil] at z
  rw [ll, z]
  rfl
theorem it_live {i n : Nat} {ρ : Rho} {st : Store} {l : List D} (h : varM i ρ st = .ok (.ref n) st) (hn : st[n]? = some (.lst l)) : itM (varM i) ρ st = .ok (.live n) st := by
  unfold itM
  rw [h, bind_ok]
  show (match st[n]? with
    | some (.lst _) => R.ok (Itr.live n) st
    | some (.ro _) => .ok (.live n) st
    | _ => .no) = _
  rw [hn]
/-! ### what is refused -/
theorem ref_none (k : Nat) : runF pg.T (k + 6) ("_law_refused", none) [ds NON] [] = .ok (.p (.bl true)) [] := by kernel_rfl
theorem ref_A (k : Nat) : runF pg.T (k + 6) ("_law_refused", none) [ds [65]] [] = .ok (.p (.bl true)) [] := by kernel_rfl
theorem ref_ab (k : Nat) : runF pg.T (k + 6) ("_law_refused", none) [ds [97, 32, 98]] [] = .ok (.p (.bl true)) [] := by kernel_rfl
theorem ref_ok (k : Nat) : runF pg.T (k + 6) ("_law_refused", none) [.p (.tup [.str [111, 107], .str [120, 49]])] [] = .ok (.p (.bl true)) [] := by kernel_rfl
theorem ref_nn (k : Nat) : runF pg.T (k + 6) ("_law_refused", none) [.p (.tup [.tup [.str NON]])] [] = .ok (.p (.bl true)) [] := by kernel_rfl
/-! ### the texts that the law gives -/
def DEEP : List Nat := [40, 40, 40, 40, 40, 40, 40, 40, 40, 40, 40, 40, 53, 41, 41, 41, 41, 41, 41, 41, 41, 41, 41, 41, 41]
def TX : List (List Nat) := [[], [40], [40, 41], [40, 32, 41], [40, 49, 32, 41], [40, 49, 32, 32, 50, 41], [40, 49, 32, 50], [49, 32, 50], [45, 48], [48, 48], [48, 49], [45], List.replicate 20 49, List.replicate 21 49, 45 :: List.replicate 21 57, DEEP, 40 :: (DEEP ++ [41]), [40, 41, 40, 41], [40, 97, 46, 41], [53, 97], [97, 53], NON, [46, 46], [41]]
theorem tx_fit : (TX.all fun s => decide (s.length < 100) && !subS BAD s && (shw (pRead s)).all fun c => decide (c < 128)) = true := by decide +kernel
end K20
end S_K20zg

section S_K20zh
set_option Elab.async false
set_option linter.all false
set_option maxRecDepth 100000
set_option maxHeartbeats 1000000
namespace K20
open PySem L2 Lt
theorem ne_same {a b : EM} {ρ : Rho} {st s1 s2 : Store} {x : List Nat} (h : a ρ st = .ok (ds x) s1) (k : b ρ s1 = .ok (ds x) s2) : tbM (op2M (cmpD .NotEq) a b) ρ st = .ok false s2 := tb_st (op2_st h k (by
  show R.ok (D.p (.bl (!decide (x = x)))) s2 = _
  rw [decide_eq_true rfl]
  rfl))
/-- a turn of the inner loop -/
def jB (c : CallT) : SM := (seqS (asgS (.nm 7) (op2M (binD .Mod) (appM bInt (consA (appM (callD c ("_law_next", none)) (consA (varM 1) nilA)) nilA)) (op2M (binD .Add) (appM bLen (consA (varM 5) nilA)) (cM (.int (1)))))) (seqS (asgS (.nm 8) (op2M (binD .Mod) (appM bInt (consA (appM (callD c ("_law_next", none)) (consA (varM 1) nilA)) nilA)) (cM (.int (2))))) (seqS (asgS (.nm 9) (appM (callD c ("_law_pick", none)) (consA (varM 1) (consA (lstM (consA (cM (.str [])) (consA (cM (.str [32])) (consA (cM (.str [40])) (consA (cM (.str [41])) (consA (cM (.str [45])) (consA (cM (.str [48])) (consA (cM (.str [55])) (consA (cM (.str [97])) (consA (cM (.str [46])) (consA (cM (.str [65])) (consA (cM (.str [95])) (consA (cM (.str [9])) nilA))))))))))))) nilA)))) (seqS (asgS (.nm 10) (op2M (binD .Add) (op2M (binD .Add) (slM (varM 5) noO (someO (varM 7))) (varM 9)) (slM (varM 5) (someO (op2M (binD .Add) (varM 7) (varM 8))) noO))) (seqS (ifS (andM (tbM (op2M (cmpD .NotIn) (cM (.str [98, 97, 100])) (varM 10))) (tbM (op2M (cmpD .NotEq) (appM bRepr (consA (appM (callD c ("_law_told", none)) (consA (varM 10) nilA)) nilA)) (appM bRepr (consA (appM (callD c ("_law_due", none)) (consA (varM 10) nilA)) nilA))))) (seqS (retS (cM (.bl false))) skipS) skipS) skipS)))))
def SGN : List P := [.str [], .str [32], .str [40], .str [41], .str [45], .str [48], .str [55], .str [97], .str [46], .str [65], .str [95], .str [9]]
theorem sgn_st {ρ : Rho} {st : Store} : lstM (consA (cM (.str [])) (consA (cM (.str [32])) (consA (cM (.str [40])) (consA (cM (.str [41])) (consA (cM (.str [45])) (consA (cM (.str [48])) (consA (cM (.str [55])) (consA (cM (.str [97])) (consA (cM (.str [46])) (consA (cM (.str [65])) (consA (cM (.str [95])) (consA (cM (.str [9])) nilA)))))))))))) ρ st = .ok (.ref st.length) (st ++ [SO.lst (SGN.map D.p)]) := rfl
theorem sgn_one_ {x : P} (h : x ∈ SGN) : ∃ w, x = .str w ∧ w.length ≤ 1 := by
  simp only [SGN, List.mem_cons, List.not_mem_nil, or_false] at h
  rcases h with rfl | rfl | rfl | rfl | rfl | rfl | rfl | rfl | rfl | rfl | rfl | rfl <;> exact ⟨_, rfl, by decide⟩
theorem cut_len (s : List Nat) (lo hi : Option Int) : (cutL s lo hi).length ≤ s.length := by
  unfold cutL
  rw [List.length_take, List.length_drop]
  omega
theorem jturn (m : Nat) (s : List Nat) (ρ : Rho) (st : Store) (hl : ρ.length = 14) (h1 : ρ[1]? = some (some (.ref m))) (h5 : ρ[5]? = some (some (ds s))) (hs : s.length ≤ 5000) (hd : Dr m st) : ∃ a b w x st', jB (runF pg.T 59) ρ st = .go .nx ((((ρ.set 7 (some (di a))).set 8 (some (di b))).set 9 (some (ds w))).set 10 (some (ds x))) st' ∧ Dr m st' ∧ Grow m st st' := by
  have hln : s.length ≤ line := by unfold line; omega
  -- at
  obtain ⟨j, s1, e1, _, e3, e4⟩ := next_st 58 m 1 (ρ := ρ) (st := st) (var_eq h1) hd
  have b1 := Int.fmod_nonneg_of_pos j (b := ((s.length + 1 : Nat) : Int)) (by omega)
  have b2 := Int.fmod_lt_of_pos j (b := ((s.length + 1 : Nat) : Int)) (by omega)
  have ln : op2M (binD .Add) (appM bLen (consA (varM 5) nilA)) (cM (.int (1))) ρ s1 = .ok (di ((s.length + 1 : Nat) : Int)) s1 := op2_st (d := di s.length) (d2 := di 1) (s1 := s1) (s2 := s1) (app_st (arg1 (d := ds s) (var_eq h5) rfl) (by
    show (if s.length ≤ line then okP (.int s.length) _ else R.no) = _
    rw [if_pos hln]
    rfl)) rfl rfl
  have a7 : asgS (.nm 7) (op2M (binD .Mod) (appM bInt (consA (appM (callD (runF pg.T 59) ("_law_next", none)) (consA (varM 1) nilA)) nilA)) (op2M (binD .Add) (appM bLen (consA (varM 5) nilA)) (cM (.int (1))))) ρ st = .go .nx (ρ.set 7 (some (di (j.fmod ((s.length + 1 : Nat) : Int))))) s1 := asg_st (op2_st (d := di j) (d2 := di ((s.length + 1 : Nat) : Int)) (app_st (arg1 e1 rfl) rfl) ln (mod_d (by omega)))
  generalize j.fmod ((s.length + 1 : Nat) : Int) = a at a7 b1 b2
  -- cut
  generalize hr1 : ρ.set 7 (some (di a)) = ρ1 at a7
  have h11 : ρ1[1]? = some (some (.ref m)) := by rw [← hr1, List.getElem?_set_ne (by omega)]; exact h1
  have h15 : ρ1[5]? = some (some (ds s)) := by rw [← hr1, List.getElem?_set_ne (by omega)]; exact h5
  have h17 : ρ1[7]? = some (some (di a)) := by rw [← hr1]; exact List.getElem?_set_self (by omega)
  have hl1 : ρ1.length = 14 := by rw [← hr1, List.length_set]; exact hl
  obtain ⟨b, s2, e5, _, e6, e7⟩ := nmod 58 m 1 (ρ := ρ1) (st := s1) (j := 2) (var_eq h11) e3 (by omega)
  have a8 := asg_st (i := 8) e5
  generalize hr2 : ρ1.set 8 (some (di b)) = ρ2 at a8
  have h21 : ρ2[1]? = some (some (.ref m)) := by rw [← hr2, List.getElem?_set_ne (by omega)]; exact h11
  have h25 : ρ2[5]? = some (some (ds s)) := by rw [← hr2, List.getElem?_set_ne (by omega)]; exact h15
  have h27 : ρ2[7]? = some (some (di a)) := by rw [← hr2, List.getElem?_set_ne (by omega)]; exact h17
  have h28 : ρ2[8]? = some (some (di b)) := by rw [← hr2]; exact List.getElem?_set_self (by omega)
  have hl2 : ρ2.length = 14 := by rw [← hr2, List.length_set]; exact hl1
  -- sign
  have hml := e6.lt
  obtain ⟨x, s3, e8, e9, e10, e11⟩ := pick_run 57 m s2.length (s2 ++ [SO.lst (SGN.map D.p)]) SGN e6.app (by rw [List.getElem?_append_right (Nat.le_refl _), Nat.sub_self]; rfl) (by omega) (by simp [SGN])
  obtain ⟨w, rfl, hw⟩ := sgn_one_ e9
  have a9 : asgS (.nm 9) (appM (callD (runF pg.T 59) ("_law_pick", none)) (consA (varM 1) (consA (lstM (consA (cM (.str [])) (consA (cM (.str [32])) (consA (cM (.str [40])) (consA (cM (.str [41])) (consA (cM (.str [45])) (consA (cM (.str [48])) (consA (cM (.str [55])) (consA (cM (.str [97])) (consA (cM (.str [46])) (consA (cM (.str [65])) (consA (cM (.str [95])) (consA (cM (.str [9])) nilA))))))))))))) nilA))) ρ2 s2 = .go .nx (ρ2.set 9 (some (ds w))) s3 := asg_st (d := ds w) (app_st (arg_cons (d := .ref m) (var_eq h21) rfl (arg1 sgn_st rfl)) (call_r rfl e8))
  generalize hr3 : ρ2.set 9 (some (ds w)) = ρ3 at a9
  have h35 : ρ3[5]? = some (some (ds s)) := by rw [← hr3, List.getElem?_set_ne (by omega)]; exact h25
  have h37 : ρ3[7]? = some (some (di a)) := by rw [← hr3, List.getElem?_set_ne (by omega)]; exact h27
  have h38 : ρ3[8]? = some (some (di b)) := by rw [← hr3, List.getElem?_set_ne (by omega)]; exact h28
  have h39 : ρ3[9]? = some (some (ds w)) := by rw [← hr3]; exact List.getElem?_set_self (by omega)
  have hl3 : ρ3.length = 14 := by rw [← hr3, List.length_set]; exact hl2
  -- spoilt
  have c1 : slM (varM 5) noO (someO (varM 7)) ρ3 s3 = .ok (ds (cutL s none (some a))) s3 := sl_st (i := none) (j := some a) (s2 := s3) (s3 := s3) (var_eq h35) rfl (part_st (var_eq h37)) (by
    show (if s.length ≤ line then okP (.str (cutL s none (some a))) s3 else R.no) = _
    rw [if_pos hln]
    rfl)
  have c2 : slM (varM 5) (someO (op2M (binD .Add) (varM 7) (varM 8))) noO ρ3 s3 = .ok (ds (cutL s (some (a + b)) none)) s3 := sl_st (i := some (a + b)) (j := none) (s2 := s3) (s3 := s3) (var_eq h35) (part_st (op2_st (var_eq h37) (var_eq h38) rfl)) rfl (by
    show (if s.length ≤ line then okP (.str (cutL s (some (a + b)) none)) s3 else R.no) = _
    rw [if_pos hln]
    rfl)
  have l1 := cut_len s none (some a)
  have l2 := cut_len s (some (a + b)) none
  generalize cutL s none (some a) = u1 at c1 l1
  generalize cutL s (some (a + b)) none = u2 at c2 l2
  have a10 : asgS (.nm 10) (op2M (binD .Add) (op2M (binD .Add) (slM (varM 5) noO (someO (varM 7))) (varM 9)) (slM (varM 5) (someO (op2M (binD .Add) (varM 7) (varM 8))) noO)) ρ3 s3 = .go .nx (ρ3.set 10 (some (ds (u1 ++ w ++ u2)))) s3 := by
    refine asg_st (op2_st (d := ds (u1 ++ w)) (s1 := s3) (op2_st c1 (var_eq h39) ?_) c2 ?_)
    · show (if u1.length + w.length ≤ line then okP (.str (u1 ++ w)) s3 else R.no) = _
      rw [if_pos (by unfold line; omega)]
      rfl
    · show (if (u1 ++ w).length + u2.length ≤ line then okP (.str (u1 ++ w ++ u2)) s3 else R.no) = _
      rw [if_pos (by rw [List.length_append]; unfold line; omega)]
      rfl
  have lx : (u1 ++ w ++ u2).length < 100000 := by rw [List.length_append, List.length_append]; omega
  generalize u1 ++ w ++ u2 = v at a10 lx
  generalize hr4 : ρ3.set 10 (some (ds v)) = ρ4 at a10
  have h410 : ρ4[10]? = some (some (ds v)) := by rw [← hr4]; exact List.getElem?_set_self (by omega)
  have q1 : tbM (op2M (cmpD .NotIn) (cM (.str [98, 97, 100])) (varM 10)) ρ4 s3 = .ok (!subS BAD v) s3 := tb_st (op2_st (d := ds BAD) (s1 := s3) rfl (var_eq h410) rfl)
  refine ⟨a, b, w, v, ?_⟩
  rw [hr1, hr2, hr3, hr4]
  cases q : subS BAD v with
  | true =>
    rw [q] at q1
    exact ⟨s3, seq_nx a7 (seq_nx a8 (seq_nx a9 (seq_nx a10 (seq_nx (if_skip (and_no q1)) rfl)))), e10, e4.trans (e7.trans (grow_app.trans e11))⟩
  | false =>
    rw [q] at q1
    obtain ⟨t1, f1⟩ := rep_told 28 (ρ := ρ4) (st := s3) lx (var_eq h410)
    obtain ⟨t2, f2⟩ := rep_due 32 (ρ := ρ4) (st := s3 ++ t1) lx (nobad q) (var_eq h410)
    exact ⟨s3 ++ t1 ++ t2, seq_nx a7 (seq_nx a8 (seq_nx a9 (seq_nx a10 (seq_nx (if_skip (and_yes q1 (ne_same f1 f2))) rfl)))), e10.app.app, e4.trans (e7.trans (grow_app.trans (e11.trans (grow_app.trans grow_app))))⟩
end K20
end S_K20zh

section S_K20zi
set_option Elab.async false
set_option linter.all false
set_option maxRecDepth 100000
set_option maxHeartbeats 1000000
namespace K20
open PySem L2 Lt
theorem noX_set {ρ : Rho} {i : Nat} {d : D} (h : noX ρ = true) (hd : isX d = false) : noX (ρ.set i (some d)) = true := by
  refine List.all_eq_true.mpr fun o ho => ?_
  rcases List.mem_or_eq_of_mem_set ho with h1 | rfl
  · exact List.all_eq_true.mp h o h1
  · show (!isX d) = true
    rw [hd]
    rfl
/-- what the loops keep -/
def Kp (m : Nat) (ρ : Rho) : Prop := ρ.length = 14 ∧ ρ[1]? = some (some (.ref m)) ∧ noX ρ = true
theorem Kp.set {m i : Nat} {ρ : Rho} {d : D} (h : Kp m ρ) (hi : i ≠ 1) (hd : isX d = false) : Kp m (ρ.set i (some d)) := ⟨by rw [List.length_set]; exact h.1, by rw [List.getElem?_set_ne hi]; exact h.2.1, noX_set h.2.2 hd⟩
theorem jloop (m : Nat) (s : List Nat) (hs : s.length ≤ 5000) : ∀ (its : List D) (ρ : Rho) (st : Store), (∀ d ∈ its, isX d = false) → Kp m ρ → ρ[5]? = some (some (ds s)) → Dr m st → ∃ ρ' st', lsS (.nm 6) (jB (runF pg.T 59)) its ρ st = .go .nx ρ' st' ∧ Kp m ρ' ∧ Dr m st' ∧ Grow m st st'
  | [], ρ, st, _, hk, _, hd => ⟨ρ, st, rfl, hk, hd, Grow.refl⟩
  | d :: r, ρ, st, hx, hk, h5, hd => by
    have hk1 := hk.set (i := 6) (by omega) (hx d List.mem_cons_self)
    have h51 : (ρ.set 6 (some d))[5]? = some (some (ds s)) := by rw [List.getElem?_set_ne (by omega)]; exact h5
    obtain ⟨a, b, w, x, s1, e1, e2, e3⟩ := jturn m s (ρ.set 6 (some d)) st hk1.1 hk1.2.1 h51 hs hd
    have hk2 : Kp m (((((ρ.set 6 (some d)).set 7 (some (di a))).set 8 (some (di b))).set 9 (some (ds w))).set 10 (some (ds x))) := (((hk1.set (by omega) rfl).set (by omega) rfl).set (by omega) rfl).set (by omega) rfl
    obtain ⟨ρ', s2, f1, f2, f3, f4⟩ := jloop m s hs r _ s1 (fun d hd => hx d (List.mem_cons_of_mem _ hd)) hk2 (by
      rw [List.getElem?_set_ne (by omega), List.getElem?_set_ne (by omega), List.getElem?_set_ne (by omega), List.getElem?_set_ne (by omega)]
      exact h51) e2
    refine ⟨ρ', s2, ?_, f2, f3, e3.trans f4⟩
    show loopK (jB (runF pg.T 59) (ρ.set 6 (some d)) st) (lsS (.nm 6) (jB (runF pg.T 59)) r) = _
    rw [e1]
    exact f1
/-- a turn of the outer loop -/
def wB (c : CallT) : SM := (seqS (asgS (.nm 4) (appM (callD c ("_law_term", none)) (consA (varM 1) (consA (cM (.int (0))) nilA)))) (seqS (asgS (.nm 5) (appM (callD c ("_law_text", none)) (consA (varM 4) nilA))) (seqS (ifS (orM (tbM (op2M (cmpD .NotEq) (appM (callD c ("term_text", none)) (consA (varM 4) nilA)) (varM 5))) (tbM (op2M (cmpD .NotEq) (appM bRepr (consA (appM (callD c ("_law_told", none)) (consA (varM 5) nilA)) nilA)) (appM bRepr (consA (lstM (consA (cM (.str [116, 101, 114, 109])) (consA (varM 4) nilA))) nilA))))) (seqS (retS (cM (.bl false))) skipS) skipS) (seqS (ifS (andM (tvM (isiM "tuple" (varM 4))) (tbM (op2M (cmpD .NotEq) (appM (callD c ("term_text", none)) (consA (appM bList (consA (varM 4) nilA)) nilA)) (varM 5)))) (seqS (retS (cM (.bl false))) skipS) skipS) (seqS (forS (rngM (consA (cM (.int (5))) nilA)) (.nm 6) (jB c)) skipS)))))
theorem rng_x (i j : Int) : ∀ d ∈ rngL i j, isX d = false := fun d hd => by
  unfold rngL at hd
  obtain ⟨k, _, rfl⟩ := List.mem_map.mp hd
  rfl
theorem wturn (m : Nat) (ρ : Rho) (st : Store) (hk : Kp m ρ) (hd : Dr m st) : ∃ ρ' st', wB (runF pg.T 59) ρ st = .go .nx ρ' st' ∧ Kp m ρ' ∧ Dr m st' ∧ Grow m st st' := by
  obtain ⟨t, s1, e1, e2, e3, e4⟩ := term_gen 4 52 m st (Nat.le_refl _) hd
  have a4 : asgS (.nm 4) (appM (callD (runF pg.T 59) ("_law_term", none)) (consA (varM 1) (consA (cM (.int (0))) nilA))) ρ st = .go .nx (ρ.set 4 (some (.p t))) s1 := asg_st (app_st (arg_cons (d := .ref m) (var_eq hk.2.1) rfl (arg1 (d := di 0) rfl rfl)) (call_r rfl e1))
  have hk4 := hk.set (i := 4) (d := .p t) (by omega) rfl
  have h44 : (ρ.set 4 (some (.p t)))[4]? = some (some (.p t)) := List.getElem?_set_self (by rw [hk.1]; omega)
  generalize ρ.set 4 (some (.p t)) = ρ4 at a4 hk4 h44
  obtain ⟨z1, lt⟩ := ltext_run 4 54 t (Nat.le_refl _) e2
  have a5 : asgS (.nm 5) (appM (callD (runF pg.T 59) ("_law_text", none)) (consA (varM 4) nilA)) ρ4 s1 = .go .nx (ρ4.set 5 (some (ds (txt t)))) s1 := asg_st (app_st (arg1 (d := .p t) (var_eq h44) rfl) (call_p rfl lt))
  have hk5 := hk4.set (i := 5) (d := ds (txt t)) (by omega) rfl
  have h54 : (ρ4.set 5 (some (ds (txt t))))[4]? = some (some (.p t)) := by rw [List.getElem?_set_ne (by omega)]; exact h44
  have h55 : (ρ4.set 5 (some (ds (txt t))))[5]? = some (some (ds (txt t))) := List.getElem?_set_self (by rw [hk4.1]; omega)
  generalize ρ4.set 5 (some (ds (txt t))) = ρ5 at a5 hk5 h54 h55
  have tl : (txt t).length ≤ 3000 := Nat.le_trans (txt_len 4 t e2) (bnd_mono 4 (Nat.le_refl _))
  -- term_text(term) == text
  obtain ⟨z2, tt⟩ := ttext_run 4 53 t (Nat.le_refl _) e2
  have q1 : tbM (op2M (cmpD .NotEq) (appM (callD (runF pg.T 59) ("term_text", none)) (consA (varM 4) nilA)) (varM 5)) ρ5 s1 = .ok false s1 := ne_same (app_st (arg1 (d := .p t) (var_eq h54) rfl) (call_p rfl tt)) (var_eq h55)
  -- read back
  have rb := read_back e2 (by omega)
  obtain ⟨t1, f1⟩ := rep_told 28 (ρ := ρ5) (st := s1) (s := txt t) (by omega) (var_eq h55)
  have f2 : appM bRepr (consA (lstM (consA (cM (.str [116, 101, 114, 109])) (consA (varM 4) nilA))) nilA) ρ5 (s1 ++ t1) = .ok (ds (shw (pRead (txt t)))) (s1 ++ t1 ++ [SO.lst [ds TRM, .p t]]) := by
    refine app_st (arg1 (lst2 (a := cM (.str [116, 101, 114, 109])) (y := .p t) rfl (var_eq h54) rfl rfl) rfl) (repr_told (by omega) ?_)
    rw [List.getElem?_append_right (Nat.le_refl _), Nat.sub_self, rb]
    rfl
  have q2 := ne_same f1 f2
  have hd2 : Dr m (s1 ++ t1 ++ [SO.lst [ds TRM, .p t]]) := e3.app.app
  have g2 : Grow m st (s1 ++ t1 ++ [SO.lst [ds TRM, .p t]]) := e4.trans (grow_app.trans grow_app)
  generalize (s1 ++ t1 ++ [SO.lst [ds TRM, .p t]]) = s2 at q2 hd2 g2
  -- lists as tuples
  have q3 : ∃ t2, andM (tvM (isiM "tuple" (varM 4))) (tbM (op2M (cmpD .NotEq) (appM (callD (runF pg.T 59) ("term_text", none)) (consA (appM bList (consA (varM 4) nilA)) nilA)) (varM 5))) ρ5 s2 = .ok false (s2 ++ t2) := by
    by_cases ht : ∃ l, t = .tup l
    · obtain ⟨l, rfl⟩ := ht
      have bl : appM bList (consA (varM 4) nilA) ρ5 s2 = .ok (.ref s2.length) (s2 ++ [SO.lst (l.map D.p)]) := app_st (arg1 (d := .p (.tup l)) (var_eq h54) rfl) rfl
      have tx := ttext_list 3 53 s2.length l (s2 ++ [SO.lst (l.map D.p)]) (by omega) e2 (by rw [List.getElem?_append_right (Nat.le_refl _), Nat.sub_self]; rfl)
      have y := isi_p (T := "tuple") (b := true) (ρ := ρ5) (st := s2) (i := 4) (var_eq h54) (by kernel_rfl)
      refine ⟨[SO.lst (l.map D.p)] ++ [SO.lst ((l.map D.p).map gT)], ?_⟩
      rw [← List.append_assoc]
      exact and_yes y (ne_same (app_st (arg1 bl rfl) (call_r rfl tx)) (var_eq h55))
    · refine ⟨[], ?_⟩
      rw [List.append_nil]
      refine and_no (isi_p (i := 4) (var_eq h54) ?_)
      cases t with
      | tup l => exact absurd ⟨l, rfl⟩ ht
      | non => kernel_rfl
      | bl b => kernel_rfl
      | int i => kernel_rfl
      | str w => kernel_rfl
  obtain ⟨t2, q3⟩ := q3
  obtain ⟨ρ', s3, f1, f2, f3, f4⟩ := jloop m (txt t) (by omega) (rngL 0 5) ρ5 (s2 ++ t2) (rng_x 0 5) hk5 h55 hd2.app
  have fr : forS (rngM (consA (cM (.int (5))) nilA)) (.nm 6) (jB (runF pg.T 59)) ρ5 (s2 ++ t2) = .go .nx ρ' s3 := f1
  exact ⟨ρ', s3, seq_nx a4 (seq_nx a5 (seq_nx (if_skip (or_no q1 q2)) (seq_nx (if_skip q3) (seq_nx fr rfl)))), f2, f3, g2.trans (grow_app.trans f4)⟩
theorem wloop (m : Nat) : ∀ (its : List D) (ρ : Rho) (st : Store), (∀ d ∈ its, isX d = false) → Kp m ρ → Dr m st → ∃ ρ' st', lsS (.nm 3) (wB (runF pg.T 59)) its ρ st = .go .nx ρ' st' ∧ Kp m ρ'
  | [], ρ, st, _, hk, hd => ⟨ρ, st, rfl, hk⟩
  | d :: r, ρ, st, hx, hk, hd => by
    obtain ⟨ρ1, s1, e1, e2, e3, _⟩ := wturn m (ρ.set 3 (some d)) st (hk.set (by omega) (hx d List.mem_cons_self)) hd
    obtain ⟨ρ', s2, f1, f2⟩ := wloop m r ρ1 s1 (fun d hd => hx d (List.mem_cons_of_mem _ hd)) e2 e3
    refine ⟨ρ', s2, ?_, f2⟩
    show loopK (wB (runF pg.T 59) (ρ.set 3 (some d)) st) (lsS (.nm 3) (wB (runF pg.T 59)) r) = _
    rw [e1]
    exact f1
end K20
end S_K20zi

section S_K20zj
set_option Elab.async false
set_option linter.all false
set_option maxRecDepth 100000
set_option maxHeartbeats 1000000
namespace K20
open PySem L2 Lt
/-! ### law, part by part -/
def p1 (c : CallT) (y : SM) : SM := (seqS (asgS (.nm 1) (appM (callD c ("_law_draws", none)) (consA (varM 0) nilA))) (seqS (asgS (.nm 1) (appM (callD c ("_law_more", none)) (consA (varM 1) (consA (cM (.int (120))) nilA)))) (seqS (asgS (.nm 2) (tupM (consA (tupM (consA (cM (.int (1))) (consA (cM (.int (2))) nilA))) (consA (tupM (consA (cM (.int (1))) (consA (cM (.int (1))) nilA))) nilA)))) (seqS (ifS (orM (tbM (op2M (cmpD .NotEq) (appM (callD c ("term_text", none)) (consA (varM 2) nilA)) (cM (.str [40, 40, 49, 32, 50, 41, 32, 40, 49, 32, 49, 41, 41])))) (tbM (op2M (cmpD .NotEq) (appM bRepr (consA (appM (callD c ("read_term", none)) (consA (cM (.str [40, 46, 32, 110, 111, 110, 101, 32, 40, 45, 53, 41, 41])) nilA)) nilA)) (appM bRepr (consA (tupM (consA (cM (.str [])) (consA (cM .non) (consA (tupM (consA (op1M (unD .USub) (cM (.int (5)))) nilA)) nilA)))) nilA))))) (seqS (retS (cM (.bl false))) skipS) skipS) (seqS (forS (rngM (consA (cM (.int (4))) nilA)) (.nm 3) (wB c)) y)))))
def p2 (c : CallT) (y : SM) : SM := (seqS (asgS (.nm 11) (op2M (binD .Add) (op2M (binD .Add) (op2M (binD .Mult) (cM (.str [40])) (cM (.int (12)))) (cM (.str [53]))) (op2M (binD .Mult) (cM (.str [41])) (cM (.int (12)))))) (seqS (asgS (.nm 12) (lstM (consA (cM (.str [])) (consA (cM (.str [40])) (consA (cM (.str [40, 41])) (consA (cM (.str [40, 32, 41])) (consA (cM (.str [40, 49, 32, 41])) (consA (cM (.str [40, 49, 32, 32, 50, 41])) (consA (cM (.str [40, 49, 32, 50])) (consA (cM (.str [49, 32, 50])) (consA (cM (.str [45, 48])) (consA (cM (.str [48, 48])) (consA (cM (.str [48, 49])) (consA (cM (.str [45])) (consA (op2M (binD .Mult) (cM (.str [49])) (cM (.int (20)))) (consA (op2M (binD .Mult) (cM (.str [49])) (cM (.int (21)))) (consA (op2M (binD .Add) (cM (.str [45])) (op2M (binD .Mult) (cM (.str [57])) (cM (.int (21))))) (consA (varM 11) (consA (op2M (binD .Add) (op2M (binD .Add) (cM (.str [40])) (varM 11)) (cM (.str [41]))) (consA (cM (.str [40, 41, 40, 41])) (consA (cM (.str [40, 97, 46, 41])) (consA (cM (.str [53, 97])) (consA (cM (.str [97, 53])) nilA))))))))))))))))))))))) (seqS (asgS (.nm 12) (op2M (binD .Add) (varM 12) (lstM (consA (cM (.str [110, 111, 110, 101])) (consA (cM (.str [46, 46])) (consA (cM (.str [41])) nilA)))))) (seqS (ifS (tbM (op2M (cmpD .NotEq) (compM [5] (itM (varM 12)) (.nm 5) yesM (appM bRepr (consA (appM (callD c ("_law_told", none)) (consA (varM 5) nilA)) nilA))) (compM [5] (itM (varM 12)) (.nm 5) yesM (appM bRepr (consA (appM (callD c ("_law_due", none)) (consA (varM 5) nilA)) nilA))))) (seqS (retS (cM (.bl false))) skipS) skipS) y))))
def p3 (c : CallT) : SM := (seqS (asgS (.nm 13) (cM (.int (1)))) (seqS (forS (rngM (consA (cM (.int (4000))) nilA)) (.nm 3) (seqS (asgS (.nm 13) (op2M (binD .Mult) (cM (.int (10))) (varM 13))) skipS)) (seqS (ifS (orM (tbM (op2M (cmpD .NotEq) (appM (callD c ("term_text", none)) (consA (op2M (binD .Sub) (varM 13) (cM (.int (1)))) nilA)) (op2M (binD .Mult) (cM (.str [57])) (cM (.int (4000)))))) (orM (tbM (op2M (cmpD .NotEq) (appM (callD c ("term_text", none)) (consA (op2M (binD .Sub) (cM (.int (1))) (varM 13)) nilA)) (op2M (binD .Add) (cM (.str [45])) (op2M (binD .Mult) (cM (.str [57])) (cM (.int (4000))))))) (notM (tvM (appM (callD c ("_law_refused", none)) (consA (varM 13) nilA)))))) (seqS (retS (cM (.bl false))) skipS) skipS) (seqS (retS (op2M (cmpD .Eq) (compM [4] (itM (lstM (consA (cM (.str [110, 111, 110, 101])) (consA (cM (.str [65])) (consA (cM (.str [97, 32, 98])) (consA (tupM (consA (cM (.str [111, 107])) (consA (cM (.str [120, 49])) nilA))) (consA (tupM (consA (tupM (consA (cM (.str [110, 111, 110, 101])) nilA)) nilA)) nilA))))))) (.nm 4) yesM (appM (callD c ("_law_refused", none)) (consA (varM 4) nilA))) (op2M (binD .Mult) (lstM (consA (cM (.bl true)) nilA)) (cM (.int (5)))))) skipS))))
theorem m23_eq (c : CallT) : m23 c = p1 c (p2 c (p3 c)) := rfl
/-! ### part 3 -/
theorem mulS {c : Nat} {n : Nat} {ρ : Rho} {st : Store} (h : n < 100000) : op2M (binD .Mult) (cM (.str [c])) (cM (.int (n : Int))) ρ st = .ok (ds (List.replicate n c)) st := by
  refine op2_st (d := ds [c]) (d2 := di n) (s1 := st) (s2 := st) rfl rfl ?_
  show (if (decide ((n : Int).natAbs < 2 ^ 62) && decide ([c].length * (n : Int).toNat ≤ line)) = true then okP (.str (repL [c] n)) st else R.no) = _
  rw [if_pos (by
    rw [Bool.and_eq_true]
    refine ⟨decide_eq_true (by omega), decide_eq_true ?_⟩
    rw [List.length_singleton, Nat.one_mul]
    unfold line
    omega), repL_one]
  rfl
theorem gloop : ∀ (its : List D) (ρ : Rho) (st : Store) (b : Int), (∀ d ∈ its, isX d = false) → ρ.length = 14 → noX ρ = true → ρ[13]? = some (some (di b)) → ∃ ρ', lsS (.nm 3) (seqS (asgS (.nm 13) (op2M (binD .Mult) (cM (.int (10))) (varM 13))) skipS) its ρ st = .go .nx ρ' st ∧ ρ'.length = 14 ∧ noX ρ' = true ∧ ρ'[13]? = some (some (di (10 ^ its.length * b)))
  | [], ρ, st, b, _, hl, hx, h => ⟨ρ, rfl, hl, hx, by rw [List.length_nil, Int.pow_zero, Int.one_mul]; exact h⟩
  | d :: r, ρ, st, b, hi, hl, hx, h => by
    have hx1 := noX_set (i := 3) hx (hi d List.mem_cons_self)
    have h1 : (ρ.set 3 (some d))[13]? = some (some (di b)) := by rw [List.getElem?_set_ne (by omega)]; exact h
    have a : asgS (.nm 13) (op2M (binD .Mult) (cM (.int (10))) (varM 13)) (ρ.set 3 (some d)) st = .go .nx ((ρ.set 3 (some d)).set 13 (some (di (10 * b)))) st := asg_st (op2_st (d := di 10) (d2 := di b) (s1 := st) (s2 := st) rfl (var_eq h1) (mul_d (.inl (by omega))))
    obtain ⟨ρ', e1, e2, e3, e4⟩ := gloop r ((ρ.set 3 (some d)).set 13 (some (di (10 * b)))) st (10 * b) (fun d hd => hi d (List.mem_cons_of_mem _ hd)) (by rw [List.length_set, List.length_set]; exact hl) (noX_set hx1 rfl) (List.getElem?_set_self (by rw [List.length_set]; omega))
    refine ⟨ρ', ?_, e2, e3, ?_⟩
    · show loopK (seqS (asgS (.nm 13) (op2M (binD .Mult) (cM (.int (10))) (varM 13))) skipS (ρ.set 3 (some d)) st) _ = _
      rw [show seqS (asgS (.nm 13) (op2M (binD .Mult) (cM (.int (10))) (varM 13))) skipS (ρ.set 3 (some d)) st = .go .nx ((ρ.set 3 (some d)).set 13 (some (di (10 * b)))) st from seq_nx a rfl]
      exact e1
    · rw [e4, List.length_cons, Int.pow_succ, Int.mul_assoc]
theorem all_pds (st : Store) : ∀ l : List P, allSome (pdOf st 63) (l.map D.p) = some (P.pds l)
  | [] => rfl
  | x :: r => by
    show (match pdOf st 63 (.p x) with
      | some y => (allSome (pdOf st 63) (r.map D.p)).map (y :: ·)
      | none => none) = _
    rw [all_pds st r]
    rfl
theorem eq_lists {st : Store} {a b n : Nat} {l : List P} (ha : st[a]? = some (.lst (l.map D.p))) (hb : st[b]? = some (.lst (l.map D.p))) (hn : n ≤ 60) (hf : ∀ t ∈ l, Fits n t) : eqD (.ref a) (.ref b) st = some true := by
  have pd : ∀ a : Nat, st[a]? = some (.lst (l.map D.p)) → pdOf st 64 (.ref a) = some (.list (P.pds l)) := fun a ha => by
    show (match st[a]? with
      | some (.lst l) => (allSome (pdOf st 63) l).map PyData.list
      | some (.ro l) => (allSome (pdOf st 63) l).map .list
      | _ => none) = _
    rw [ha]
    dsimp only
    rw [all_pds]
    rfl
  obtain ⟨b1, b2, b3, b4⟩ := fits_all l hf
  have lay : (PyData.list (P.pds l)).canLay0 = true := by simpa only [PyData.canLay0] using b1
  have sh : SeqAt.shaped (.list (P.pds l)) = true := by
    unfold SeqAt.shaped
    rw [lay, Bool.true_and]
    refine decide_eq_true ?_
    simp only [PyData.depth]
    omega
  show eqDeep (.ref a) (.ref b) st = _
  unfold eqDeep
  rw [pd a ha, pd b hb]
  dsimp only
  rw [sh, Bool.and_self, if_pos rfl, SeqAt.eqv_refl _ lay]
theorem p3_run (G : Int) (hG : G = 10 ^ 4000) (b1 : runF pg.T 59 ("term_text", none) [di (G - 1)] [] = .ok (ds (List.replicate 4000 57)) []) (b2 : runF pg.T 59 ("term_text", none) [di (1 - G)] [] = .ok (ds (45 :: List.replicate 4000 57)) []) (b3 : runF pg.T 59 ("_law_refused", none) [di G] [] = .ok (.p (.bl true)) []) (ρ : Rho) (st : Store) (hl : ρ.length = 14) (hx : noX ρ = true) : ∃ ρ' st', p3 (runF pg.T 59) ρ st = .go (.rt (.p (.bl true))) ρ' st' := by
  have a1 : asgS (.nm 13) (cM (.int (1))) ρ st = .go .nx (ρ.set 13 (some (di 1))) st := asg_st rfl
  obtain ⟨ρ2, e1, e2, e3, e4⟩ := gloop (rngL 0 ((4000 : Nat) : Int)) (ρ.set 13 (some (di 1))) st 1 (rng_x _ _) (by rw [List.length_set]; exact hl) (noX_set hx rfl) (List.getElem?_set_self (by omega))
  obtain ⟨rg, ln⟩ := rng_n (a := cM (.int 4000)) (ρ := ρ.set 13 (some (di 1))) (st := st) (s1 := st) (m := 4000) rfl (by omega)
  rw [ln, Int.mul_one, ← hG] at e4
  clear hG
  have fr : forS (rngM (consA (cM (.int (4000))) nilA)) (.nm 3) (seqS (asgS (.nm 13) (op2M (binD .Mult) (cM (.int (10))) (varM 13))) skipS) (ρ.set 13 (some (di 1))) st = .go .nx ρ2 st := by
    unfold forS
    rw [rg, of_ok]
    exact e1
  have q1 : tbM (op2M (cmpD .NotEq) (appM (callD (runF pg.T 59) ("term_text", none)) (consA (op2M (binD .Sub) (varM 13) (cM (.int (1)))) nilA)) (op2M (binD .Mult) (cM (.str [57])) (cM (.int (4000))))) ρ2 st = .ok false st := ne_same (app_st (arg1 (op2_st (d := di G) (d2 := di 1) (q := .ok (di (G - 1)) st) (s1 := st) (s2 := st) (var_eq e4) rfl rfl) rfl) (call_p rfl b1)) (mulS (n := 4000) (by omega))
  have m2 : op2M (binD .Add) (cM (.str [45])) (op2M (binD .Mult) (cM (.str [57])) (cM (.int (4000)))) ρ2 st = .ok (ds (45 :: List.replicate 4000 57)) st := by
    refine op2_st (d := ds [45]) (s1 := st) rfl (mulS (n := 4000) (by omega)) ?_
    show (if [45].length + (List.replicate 4000 57).length ≤ line then okP (.str ([45] ++ List.replicate 4000 57)) st else R.no) = _
    rw [if_pos (by rw [List.length_replicate, List.length_singleton]; unfold line; omega)]
    rfl
  have q2 : tbM (op2M (cmpD .NotEq) (appM (callD (runF pg.T 59) ("term_text", none)) (consA (op2M (binD .Sub) (cM (.int (1))) (varM 13)) nilA)) (op2M (binD .Add) (cM (.str [45])) (op2M (binD .Mult) (cM (.str [57])) (cM (.int (4000)))))) ρ2 st = .ok false st := ne_same (app_st (arg1 (op2_st (d := di 1) (d2 := di G) (q := .ok (di (1 - G)) st) (s1 := st) (s2 := st) rfl (var_eq e4) rfl) rfl) (call_p rfl b2)) m2
  have q3 : notM (tvM (appM (callD (runF pg.T 59) ("_law_refused", none)) (consA (varM 13) nilA))) ρ2 st = .ok false st := not_st (k := true) (tv_st (app_st (arg1 (var_eq e4) rfl) (call_p rfl b3)) rfl)
  -- the five
  have l5 : lstM (consA (cM (.str [110, 111, 110, 101])) (consA (cM (.str [65])) (consA (cM (.str [97, 32, 98])) (consA (tupM (consA (cM (.str [111, 107])) (consA (cM (.str [120, 49])) nilA))) (consA (tupM (consA (tupM (consA (cM (.str [110, 111, 110, 101])) nilA)) nilA)) nilA))))) ρ2 st = .ok (.ref st.length) (st ++ [SO.lst [ds NON, ds [65], ds [97, 32, 98], .p (.tup [.str [111, 107], .str [120, 49]]), .p (.tup [.tup [.str NON]])]]) := rfl
  have g5 : (st ++ [SO.lst [ds NON, ds [65], ds [97, 32, 98], .p (.tup [.str [111, 107], .str [120, 49]]), .p (.tup [.tup [.str NON]])]])[st.length]? = some (.lst [ds NON, ds [65], ds [97, 32, 98], .p (.tup [.str [111, 107], .str [120, 49]]), .p (.tup [.tup [.str NON]])]) := by rw [List.getElem?_append_right (Nat.le_refl _), Nat.sub_self]; rfl
  generalize (st ++ [SO.lst [ds NON, ds [65], ds [97, 32, 98], .p (.tup [.str [111, 107], .str [120, 49]]), .p (.tup [.tup [.str NON]])]]) = s5 at l5 g5
  have it : itM (lstM (consA (cM (.str [110, 111, 110, 101])) (consA (cM (.str [65])) (consA (cM (.str [97, 32, 98])) (consA (tupM (consA (cM (.str [111, 107])) (consA (cM (.str [120, 49])) nilA))) (consA (tupM (consA (tupM (consA (cM (.str [110, 111, 110, 101])) nilA)) nilA)) nilA)))))) ρ2 st = .ok (.live st.length) s5 := by
    unfold itM
    rw [l5, bind_ok]
    show (match s5[st.length]? with
      | some (.lst _) => R.ok (Itr.live st.length) s5
      | some (.ro _) => .ok (.live st.length) s5
      | _ => .no) = _
    rw [g5]
  have cp := comp_live (own := [4]) (i := 4) (elt := appM (callD (runF pg.T 59) ("_law_refused", none)) (consA (varM 4) nilA)) (ρ := ρ2) (st := st) (g := fun _ => .p (.bl true)) e3 it g5 (fun d hd => by
    have hv : varM 4 ((wipeR ρ2 [4]).set 4 (some d)) s5 = .ok d s5 := var_eq (by
      show ((ρ2.set 4 none).set 4 (some d))[4]? = _
      rw [List.set_set]
      exact List.getElem?_set_self (by omega))
    refine ⟨?_, rfl⟩
    simp only [List.mem_cons, List.not_mem_nil, or_false] at hd
    rcases hd with rfl | rfl | rfl | rfl | rfl
    · exact app_st (arg1 hv rfl) (call_p rfl (ref_none 53))
    · exact app_st (arg1 hv rfl) (call_p rfl (ref_A 53))
    · exact app_st (arg1 hv rfl) (call_p rfl (ref_ab 53))
    · exact app_st (arg1 hv rfl) (call_p rfl (ref_ok 53))
    · exact app_st (arg1 hv rfl) (call_p rfl (ref_nn 53))) (by show 5 ≤ 16777216; omega)
  have g6 : (s5 ++ [SO.lst (([.bl true, .bl true, .bl true, .bl true, .bl true] : List P).map D.p)])[s5.length]? = some (.lst (([.bl true, .bl true, .bl true, .bl true, .bl true] : List P).map D.p)) := by rw [List.getElem?_append_right (Nat.le_refl _), Nat.sub_self]; rfl
  have cp' : compM [4] (itM (lstM (consA (cM (.str [110, 111, 110, 101])) (consA (cM (.str [65])) (consA (cM (.str [97, 32, 98])) (consA (tupM (consA (cM (.str [111, 107])) (consA (cM (.str [120, 49])) nilA))) (consA (tupM (consA (tupM (consA (cM (.str [110, 111, 110, 101])) nilA)) nilA)) nilA))))))) (.nm 4) yesM (appM (callD (runF pg.T 59) ("_law_refused", none)) (consA (varM 4) nilA)) ρ2 st = .ok (.ref s5.length) (s5 ++ [SO.lst (([.bl true, .bl true, .bl true, .bl true, .bl true] : List P).map D.p)]) := cp
  generalize hs6 : (s5 ++ [SO.lst (([.bl true, .bl true, .bl true, .bl true, .bl true] : List P).map D.p)]) = s6 at g6 cp'
  have ml : op2M (binD .Mult) (lstM (consA (cM (.bl true)) nilA)) (cM (.int (5))) ρ2 s6 = .ok (.ref (s6 ++ [SO.lst [.p (.bl true)]]).length) (s6 ++ [SO.lst [.p (.bl true)]] ++ [SO.lst (([.bl true, .bl true, .bl true, .bl true, .bl true] : List P).map D.p)]) := by
    have l1 : lstM (consA (cM (.bl true)) nilA) ρ2 s6 = .ok (.ref s6.length) (s6 ++ [SO.lst [.p (.bl true)]]) := rfl
    have g7 : (s6 ++ [SO.lst [.p (.bl true)]])[s6.length]? = some (.lst [.p (.bl true)]) := by rw [List.getElem?_append_right (Nat.le_refl _), Nat.sub_self]; rfl
    generalize (s6 ++ [SO.lst [.p (.bl true)]]) = s7 at l1 g7
    refine op2_st (d2 := di 5) (s2 := s7) l1 rfl ?_
    show (match s7[s6.length]? with
      | some (.lst x) => if decide ((5 : Int).natAbs < 2 ^ 62) && decide (x.length * (5 : Int).toNat ≤ line) then R.ok (D.ref s7.length) (s7 ++ [SO.lst (repL x 5)]) else .no
      | _ => .no) = _
    rw [g7]
    rfl
  have g8 : (s6 ++ [SO.lst [.p (.bl true)]] ++ [SO.lst (([.bl true, .bl true, .bl true, .bl true, .bl true] : List P).map D.p)])[(s6 ++ [SO.lst [.p (.bl true)]]).length]? = some (.lst (([.bl true, .bl true, .bl true, .bl true, .bl true] : List P).map D.p)) := by rw [List.getElem?_append_right (Nat.le_refl _), Nat.sub_self]; rfl
  have g9 : (s6 ++ [SO.lst [.p (.bl true)]] ++ [SO.lst (([.bl true, .bl true, .bl true, .bl true, .bl true] : List P).map D.p)])[s5.length]? = some (.lst (([.bl true, .bl true, .bl true, .bl true, .bl true] : List P).map D.p)) := by
    have lt := (List.getElem?_eq_some_iff.mp g6).1
    rw [List.getElem?_append_left (by rw [List.length_append]; omega), List.getElem?_append_left lt]
    exact g6
  have fin : op2M (cmpD .Eq) (compM [4] (itM (lstM (consA (cM (.str [110, 111, 110, 101])) (consA (cM (.str [65])) (consA (cM (.str [97, 32, 98])) (consA (tupM (consA (cM (.str [111, 107])) (consA (cM (.str [120, 49])) nilA))) (consA (tupM (consA (tupM (consA (cM (.str [110, 111, 110, 101])) nilA)) nilA)) nilA))))))) (.nm 4) yesM (appM (callD (runF pg.T 59) ("_law_refused", none)) (consA (varM 4) nilA))) (op2M (binD .Mult) (lstM (consA (cM (.bl true)) nilA)) (cM (.int (5)))) ρ2 st = .ok (.p (.bl true)) (s6 ++ [SO.lst [.p (.bl true)]] ++ [SO.lst (([.bl true, .bl true, .bl true, .bl true, .bl true] : List P).map D.p)]) := by
    refine op2_st cp' ml ?_
    show ofO (eqD _ _ _) _ = _
    rw [eq_lists (n := 0) g9 g8 (by omega) fun t ht => by
      have : t = .bl true := by simpa using ht
      rw [this]
      exact fits_tok 0 _ rfl]
    rfl
  exact ⟨ρ2, _, seq_nx a1 (seq_nx fr (seq_nx (if_skip (or_no q1 (or_no q2 q3))) (seq_rt (ret_st fin rfl))))⟩
/-! ### part 2 -/
theorem carg {x : List Nat} {ar : AM} {ρ : Rho} {st : Store} {l : List D} (h : ar ρ st = .ok l st) : consA (cM (.str x)) ar ρ st = .ok (ds x :: l) st := arg_cons rfl rfl h
theorem addS {a b : EM} {ρ : Rho} {st : Store} {x y : List Nat} (h : a ρ st = .ok (ds x) st) (k : b ρ st = .ok (ds y) st) (hl : x.length + y.length ≤ 100000) : op2M (binD .Add) a b ρ st = .ok (ds (x ++ y)) st := by
  refine op2_st h k ?_
  show (if x.length + y.length ≤ line then okP (.str (x ++ y)) st else R.no) = _
  rw [if_pos (by unfold line; omega)]
  rfl
def TX1 : List D := [ds [], ds [40], ds [40, 41], ds [40, 32, 41], ds [40, 49, 32, 41], ds [40, 49, 32, 32, 50, 41], ds [40, 49, 32, 50], ds [49, 32, 50], ds [45, 48], ds [48, 48], ds [48, 49], ds [45], ds (List.replicate 20 49), ds (List.replicate 21 49), ds ([45] ++ List.replicate 21 57), ds DEEP, ds ([40] ++ DEEP ++ [41]), ds [40, 41, 40, 41], ds [40, 97, 46, 41], ds [53, 97], ds [97, 53]]
theorem tx_all : TX1 ++ [ds NON, ds [46, 46], ds [41]] = TX.map ds := rfl
def gS (q : Res → List Nat) : D → D
  | .p (.str s) => ds (q (pRead s))
  | d => d
theorem p2_run (y : SM) (ρ : Rho) (st : Store) (hl : ρ.length = 14) (hx : noX ρ = true) : ∃ ρ' st', p2 (runF pg.T 59) y ρ st = y ρ' st' ∧ ρ'.length = 14 ∧ noX ρ' = true := by
  have a11 : asgS (.nm 11) (op2M (binD .Add) (op2M (binD .Add) (op2M (binD .Mult) (cM (.str [40])) (cM (.int (12)))) (cM (.str [53]))) (op2M (binD .Mult) (cM (.str [41])) (cM (.int (12))))) ρ st = .go .nx (ρ.set 11 (some (ds DEEP))) st := asg_st (addS (addS (mulS (n := 12) (by omega)) (y := [53]) rfl (by decide)) (mulS (n := 12) (by omega)) (by decide))
  have hx1 := noX_set (i := 11) (d := ds DEEP) hx rfl
  have h11 : (ρ.set 11 (some (ds DEEP)))[11]? = some (some (ds DEEP)) := List.getElem?_set_self (by omega)
  have hl1 : (ρ.set 11 (some (ds DEEP))).length = 14 := by rw [List.length_set]; exact hl
  generalize ρ.set 11 (some (ds DEEP)) = ρ1 at a11 hx1 h11 hl1
  have ar : (consA (cM (.str [])) (consA (cM (.str [40])) (consA (cM (.str [40, 41])) (consA (cM (.str [40, 32, 41])) (consA (cM (.str [40, 49, 32, 41])) (consA (cM (.str [40, 49, 32, 32, 50, 41])) (consA (cM (.str [40, 49, 32, 50])) (consA (cM (.str [49, 32, 50])) (consA (cM (.str [45, 48])) (consA (cM (.str [48, 48])) (consA (cM (.str [48, 49])) (consA (cM (.str [45])) (consA (op2M (binD .Mult) (cM (.str [49])) (cM (.int (20)))) (consA (op2M (binD .Mult) (cM (.str [49])) (cM (.int (21)))) (consA (op2M (binD .Add) (cM (.str [45])) (op2M (binD .Mult) (cM (.str [57])) (cM (.int (21))))) (consA (varM 11) (consA (op2M (binD .Add) (op2M (binD .Add) (cM (.str [40])) (varM 11)) (cM (.str [41]))) (consA (cM (.str [40, 41, 40, 41])) (consA (cM (.str [40, 97, 46, 41])) (consA (cM (.str [53, 97])) (consA (cM (.str [97, 53])) nilA))))))))))))))))))))) ρ1 st = .ok TX1 st := by
    refine carg (carg (carg (carg (carg (carg (carg (carg (carg (carg (carg (carg ?_)))))))))))
    refine arg_cons (mulS (n := 20) (by omega)) rfl (arg_cons (mulS (n := 21) (by omega)) rfl (arg_cons (addS (x := [45]) rfl (mulS (n := 21) (by omega)) (by decide)) rfl (arg_cons (var_eq h11) rfl (arg_cons (addS (addS (x := [40]) rfl (var_eq h11) (by decide)) (y := [41]) rfl (by decide)) rfl ?_))))
    exact carg (carg (carg (carg rfl)))
  have a12 : asgS (.nm 12) (lstM (consA (cM (.str [])) (consA (cM (.str [40])) (consA (cM (.str [40, 41])) (consA (cM (.str [40, 32, 41])) (consA (cM (.str [40, 49, 32, 41])) (consA (cM (.str [40, 49, 32, 32, 50, 41])) (consA (cM (.str [40, 49, 32, 50])) (consA (cM (.str [49, 32, 50])) (consA (cM (.str [45, 48])) (consA (cM (.str [48, 48])) (consA (cM (.str [48, 49])) (consA (cM (.str [45])) (consA (op2M (binD .Mult) (cM (.str [49])) (cM (.int (20)))) (consA (op2M (binD .Mult) (cM (.str [49])) (cM (.int (21)))) (consA (op2M (binD .Add) (cM (.str [45])) (op2M (binD .Mult) (cM (.str [57])) (cM (.int (21))))) (consA (varM 11) (consA (op2M (binD .Add) (op2M (binD .Add) (cM (.str [40])) (varM 11)) (cM (.str [41]))) (consA (cM (.str [40, 41, 40, 41])) (consA (cM (.str [40, 97, 46, 41])) (consA (cM (.str [53, 97])) (consA (cM (.str [97, 53])) nilA)))))))))))))))))))))) ρ1 st = .go .nx (ρ1.set 12 (some (.ref st.length))) (st ++ [SO.lst TX1]) := by
    refine asg_st ?_
    unfold lstM
    rw [ar, bind_ok, if_pos (by show 21 ≤ 16777216; omega)]
  have hx2 := noX_set (i := 12) (d := .ref st.length) hx1 rfl
  have h12 : (ρ1.set 12 (some (.ref st.length)))[12]? = some (some (.ref st.length)) := List.getElem?_set_self (by omega)
  have hl2 : (ρ1.set 12 (some (.ref st.length))).length = 14 := by rw [List.length_set]; exact hl1
  generalize ρ1.set 12 (some (.ref st.length)) = ρ2 at a12 hx2 h12 hl2
  have g1 : (st ++ [SO.lst TX1])[st.length]? = some (.lst TX1) := by rw [List.getElem?_append_right (Nat.le_refl _), Nat.sub_self]; rfl
  generalize (st ++ [SO.lst TX1]) = s1 at a12 g1
  have ad : op2M (binD .Add) (varM 12) (lstM (consA (cM (.str [110, 111, 110, 101])) (consA (cM (.str [46, 46])) (consA (cM (.str [41])) nilA)))) ρ2 s1 = .ok (.ref (s1 ++ [SO.lst [ds NON, ds [46, 46], ds [41]]]).length) (s1 ++ [SO.lst [ds NON, ds [46, 46], ds [41]]] ++ [SO.lst (TX.map ds)]) := by
    have l3 : lstM (consA (cM (.str [110, 111, 110, 101])) (consA (cM (.str [46, 46])) (consA (cM (.str [41])) nilA))) ρ2 s1 = .ok (.ref s1.length) (s1 ++ [SO.lst [ds NON, ds [46, 46], ds [41]]]) := rfl
    have g3 : (s1 ++ [SO.lst [ds NON, ds [46, 46], ds [41]]])[s1.length]? = some (.lst [ds NON, ds [46, 46], ds [41]]) := by rw [List.getElem?_append_right (Nat.le_refl _), Nat.sub_self]; rfl
    have g4 : (s1 ++ [SO.lst [ds NON, ds [46, 46], ds [41]]])[st.length]? = some (.lst TX1) := by rw [List.getElem?_append_left (List.getElem?_eq_some_iff.mp g1).1]; exact g1
    generalize (s1 ++ [SO.lst [ds NON, ds [46, 46], ds [41]]]) = s2 at l3 g3 g4
    refine op2_st (d := .ref st.length) (s1 := s1) (var_eq h12) l3 ?_
    show (match s2[st.length]?, s2[s1.length]? with
      | some (.lst x), some (.lst y) => if x.length + y.length ≤ line then R.ok (D.ref s2.length) (s2 ++ [SO.lst (x ++ y)]) else .no
      | _, _ => .no) = _
    rw [g3, g4]
    dsimp only
    rw [if_pos (by show 21 + 3 ≤ 16777216; omega), tx_all]
  generalize (s1 ++ [SO.lst [ds NON, ds [46, 46], ds [41]]]) = s2 at ad
  have a12' := asg_st (i := 12) ad
  have hx3 := noX_set (i := 12) (d := .ref s2.length) hx2 rfl
  have h13 : (ρ2.set 12 (some (.ref s2.length)))[12]? = some (some (.ref s2.length)) := List.getElem?_set_self (by omega)
  have hl3 : (ρ2.set 12 (some (.ref s2.length))).length = 14 := by rw [List.length_set]; exact hl2
  generalize ρ2.set 12 (some (.ref s2.length)) = ρ3 at a12' hx3 h13 hl3
  have g5 : (s2 ++ [SO.lst (TX.map ds)])[s2.length]? = some (.lst (TX.map ds)) := by rw [List.getElem?_append_right (Nat.le_refl _), Nat.sub_self]; rfl
  generalize (s2 ++ [SO.lst (TX.map ds)]) = s3 at a12' g5
  have fit : ∀ s ∈ TX, s.length < 100 ∧ subS BAD s = false ∧ (shw (pRead s)).all (fun c => decide (c < 128)) = true := fun s hs => by
    have z := List.all_eq_true.mp tx_fit s hs
    rw [Bool.and_eq_true, Bool.and_eq_true] at z
    exact ⟨of_decide_eq_true z.1.1, by simpa using z.1.2, z.2⟩
  have tl : (TX.map ds).length ≤ line := by show 24 ≤ 16777216; omega
  have v5 : ∀ (d : D) (s : Store), varM 5 ((wipeR ρ3 [5]).set 5 (some d)) s = .ok d s := fun d s => var_eq (by
    show ((ρ3.set 5 none).set 5 (some d))[5]? = _
    rw [List.set_set]
    exact List.getElem?_set_self (by omega))
  obtain ⟨t1, c1⟩ := comp_grow (own := [5]) (i := 5) (elt := appM bRepr (consA (appM (callD (runF pg.T 59) ("_law_told", none)) (consA (varM 5) nilA)) nilA)) (ρ := ρ3) (st := s3) (g := gS shw) hx3 (it_live (i := 12) (var_eq h13) g5) g5 (fun d hd s => by
    obtain ⟨w, hw, rfl⟩ := List.mem_map.mp hd
    obtain ⟨f1, f2, f3⟩ := fit w hw
    obtain ⟨t, e⟩ := rep_told 28 (i := 5) (ρ := (wipeR ρ3 [5]).set 5 (some (ds w))) (st := s) (by omega) (v5 _ _)
    exact ⟨t, e, rfl⟩) tl
  have g6 : (s3 ++ t1 ++ [SO.lst ((TX.map ds).map (gS shw))])[s2.length]? = some (.lst (TX.map ds)) := by
    have lt := (List.getElem?_eq_some_iff.mp g5).1
    rw [List.getElem?_append_left (by rw [List.length_append]; omega), List.getElem?_append_left lt]
    exact g5
  have g7 : (s3 ++ t1 ++ [SO.lst ((TX.map ds).map (gS shw))])[(s3 ++ t1).length]? = some (.lst ((TX.map ds).map (gS shw))) := by rw [List.getElem?_append_right (Nat.le_refl _), Nat.sub_self]; rfl
  generalize (s3 ++ t1).length = q1 at c1 g7
  generalize (s3 ++ t1 ++ [SO.lst ((TX.map ds).map (gS shw))]) = s4 at c1 g6 g7
  obtain ⟨t2, c2⟩ := comp_grow (own := [5]) (i := 5) (elt := appM bRepr (consA (appM (callD (runF pg.T 59) ("_law_due", none)) (consA (varM 5) nilA)) nilA)) (ρ := ρ3) (st := s4) (g := gS shw) hx3 (it_live (i := 12) (var_eq h13) g6) g6 (fun d hd s => by
    obtain ⟨w, hw, rfl⟩ := List.mem_map.mp hd
    obtain ⟨f1, f2, f3⟩ := fit w hw
    obtain ⟨t, e⟩ := rep_due 32 (i := 5) (ρ := (wipeR ρ3 [5]).set 5 (some (ds w))) (st := s) (by omega) (nobad f2) (v5 _ _)
    exact ⟨t, e, rfl⟩) tl
  have g8 : (s4 ++ t2 ++ [SO.lst ((TX.map ds).map (gS shw))])[q1]? = some (.lst ((TX.map ds).map (gS shw))) := by
    have lt := (List.getElem?_eq_some_iff.mp g7).1
    rw [List.getElem?_append_left (by rw [List.length_append]; omega), List.getElem?_append_left lt]
    exact g7
  have g9 : (s4 ++ t2 ++ [SO.lst ((TX.map ds).map (gS shw))])[(s4 ++ t2).length]? = some (.lst ((TX.map ds).map (gS shw))) := by rw [List.getElem?_append_right (Nat.le_refl _), Nat.sub_self]; rfl
  have eqs : (TX.map ds).map (gS shw) = (TX.map fun s => P.str (shw (pRead s))).map D.p := by
    rw [List.map_map, List.map_map]
    rfl
  rw [eqs] at g8 g9
  have q : tbM (op2M (cmpD .NotEq) (compM [5] (itM (varM 12)) (.nm 5) yesM (appM bRepr (consA (appM (callD (runF pg.T 59) ("_law_told", none)) (consA (varM 5) nilA)) nilA))) (compM [5] (itM (varM 12)) (.nm 5) yesM (appM bRepr (consA (appM (callD (runF pg.T 59) ("_law_due", none)) (consA (varM 5) nilA)) nilA)))) ρ3 s3 = .ok false (s4 ++ t2 ++ [SO.lst ((TX.map ds).map (gS shw))]) := by
    refine tb_st (op2_st c1 c2 ?_)
    show ofO ((eqD _ _ _).map not) _ = _
    rw [eqs, eq_lists (n := 0) g8 g9 (by omega) fun t ht => by
      obtain ⟨w, hw, rfl⟩ := List.mem_map.mp ht
      exact fits_str (fit w hw).2.2]
    rfl
  exact ⟨ρ3, _, seq_nx a11 (seq_nx a12 (seq_nx a12' (seq_nx (if_skip q) rfl))), hl3, hx3⟩
end K20
end S_K20zj

section S_K20zk
set_option Elab.async false
set_option linter.all false
set_option maxRecDepth 100000
set_option maxHeartbeats 1000000
namespace K20
open PySem L2 Lt
/-! ### part 1, and the whole -/
def SOME : P := .tup [.tup [.int 1, .int 2], .tup [.int 1, .int 1]]
def BACK : P := .tup [.str [], .non, .tup [.int (-5)]]
theorem some_txt : txt SOME = [40, 40, 49, 32, 50, 41, 32, 40, 49, 32, 49, 41, 41] := by decide +kernel
theorem some_drw : drw 4 SOME = true := by decide +kernel
theorem back_read : ∃ e, pRead [40, 46, 32, 110, 111, 110, 101, 32, 40, 45, 53, 41, 41] = .ok BACK e := ⟨13, by kernel_rfl⟩
theorem back_tok : tok 4 BACK = true := by decide +kernel
theorem repr_p {t : P} {n : Nat} (ht : tok n t = true) (hn : n ≤ 60) (hw : wt t ≤ 4100000) (st : Store) : bRepr [.p t] st = .ok (ds t.pd.shown.cps.toList) st := by
  have f := fits_tok n t ht
  show (if SeqAt.shaped t.pd && t.pd.showable && decide (t.pd.shown.length ≤ line) then okP (.str t.pd.shown.cps.toList) st else R.no) = _
  rw [fits_shaped f (by omega), f.2.2.1, decide_eq_true (Nat.le_trans f.2.2.2 (by unfold line; omega)), if_pos (show (true && true && true) = true from rfl)]
  rfl
theorem hrun (ns : List Int) (hlen : ns.length ≤ 63) (_ : ∀ i ∈ ns, Builtin.Int.intBits i ≤ 1048576) : ∃ st, Lt.runF K20.pg.T 60 ("law", none) [.ref 0] [.ro (Lt.scriptD ns)] = .ok (.p (.bl true)) st := by
  obtain ⟨n, l, s1, e1, e2, e3, e4⟩ := draws_run 57 ns hlen
  have st0 : startR 14 [.ref 0] = [some (.ref 0), none, none, none, none, none, none, none, none, none, none, none, none, none] := rfl
  have a1 : asgS (.nm 1) (appM (callD (runF pg.T 59) ("_law_draws", none)) (consA (varM 0) nilA)) (startR 14 [.ref 0]) [.ro (scriptD ns)] = .go .nx [some (.ref 0), some (.ref n), none, none, none, none, none, none, none, none, none, none, none, none] s1 := asg_st (i := 1) (d := .ref n) (app_st (arg1 (d := .ref 0) rfl rfl) (call_r rfl e1))
  obtain ⟨m, s2, f1, f2⟩ := more_run 57 n s1 ⟨l, e2, e3, by omega⟩
  have a2 : asgS (.nm 1) (appM (callD (runF pg.T 59) ("_law_more", none)) (consA (varM 1) (consA (cM (.int (120))) nilA))) [some (.ref 0), some (.ref n), none, none, none, none, none, none, none, none, none, none, none, none] s1 = .go .nx [some (.ref 0), some (.ref m), none, none, none, none, none, none, none, none, none, none, none, none] s2 := asg_st (i := 1) (d := .ref m) (app_st (arg_cons (d := .ref n) rfl rfl (arg1 (d := di 120) rfl rfl)) (call_r rfl f1))
  have a3 : asgS (.nm 2) (tupM (consA (tupM (consA (cM (.int (1))) (consA (cM (.int (2))) nilA))) (consA (tupM (consA (cM (.int (1))) (consA (cM (.int (1))) nilA))) nilA))) [some (.ref 0), some (.ref m), none, none, none, none, none, none, none, none, none, none, none, none] s2 = .go .nx [some (.ref 0), some (.ref m), some (.p SOME), none, none, none, none, none, none, none, none, none, none, none] s2 := asg_st (i := 2) (d := .p SOME) rfl
  generalize hρ : ([some (.ref 0), some (.ref m), some (.p SOME), none, none, none, none, none, none, none, none, none, none, none] : Rho) = ρ at a3
  have kp : Kp m ρ := by rw [← hρ]; exact ⟨rfl, rfl, rfl⟩
  have v2 : varM 2 ρ s2 = .ok (.p SOME) s2 := by rw [← hρ]; rfl
  obtain ⟨z, tt⟩ := ttext_run 4 53 SOME (Nat.le_refl _) some_drw
  rw [some_txt] at tt
  have q1 : tbM (op2M (cmpD .NotEq) (appM (callD (runF pg.T 59) ("term_text", none)) (consA (varM 2) nilA)) (cM (.str [40, 40, 49, 32, 50, 41, 32, 40, 49, 32, 49, 41, 41]))) ρ s2 = .ok false s2 := ne_same (app_st (arg1 v2 rfl) (call_p rfl tt)) rfl
  have rd := read_run 29 [40, 46, 32, 110, 111, 110, 101, 32, 40, 45, 53, 41, 41] (by decide)
  obtain ⟨e, br⟩ := back_read
  rw [br] at rd
  obtain ⟨z2, rd⟩ := rd
  have r1 : appM bRepr (consA (appM (callD (runF pg.T 59) ("read_term", none)) (consA (cM (.str [40, 46, 32, 110, 111, 110, 101, 32, 40, 45, 53, 41, 41])) nilA)) nilA) ρ s2 = .ok (ds BACK.pd.shown.cps.toList) s2 := app_st (arg1 (d := .p BACK) (app_st (carg rfl) (call_p rfl rd)) rfl) (repr_p back_tok (by omega) (by decide +kernel) s2)
  have r2 : appM bRepr (consA (tupM (consA (cM (.str [])) (consA (cM .non) (consA (tupM (consA (op1M (unD .USub) (cM (.int (5)))) nilA)) nilA)))) nilA) ρ s2 = .ok (ds BACK.pd.shown.cps.toList) s2 := app_st (arg1 (d := .p BACK) rfl rfl) (repr_p back_tok (by omega) (by decide +kernel) s2)
  have q2 := ne_same r1 r2
  obtain ⟨ρ1, s3, w1, w2⟩ := wloop m (rngL 0 4) ρ s2 (rng_x 0 4) kp f2
  have fr : forS (rngM (consA (cM (.int (4))) nilA)) (.nm 3) (wB (runF pg.T 59)) ρ s2 = .go .nx ρ1 s3 := w1
  obtain ⟨ρ2, s4, x1, x2, x3⟩ := p2_run (p3 (runF pg.T 59)) ρ1 s3 w2.1 w2.2.2
  have bg := big 57 []
  have bl := refuse_run 58 (.int (10 ^ 4000)) [] ⟨[], (big 56 []).2.2⟩
  obtain ⟨ρ3, s5, y1⟩ := p3_run (10 ^ 4000) rfl bg.1 bg.2.1 bl ρ2 s4 x2 x3
  refine ⟨s5, ?_⟩
  rw [r23]
  refine runB_rt rfl (ρ1 := ρ3) ?_
  rw [m23_eq]
  exact seq_nx a1 (seq_nx a2 (seq_nx a3 (seq_nx (if_skip (or_no q1 q2)) (seq_nx fr (x1.trans y1)))))
end K20
end S_K20zk
open PySem PySem.W PyProof.Rows
theorem PySem.Challenge.cw_planspriced_k20_texts_of_terms_holds : PySem.Challenge.rw_planspriced_k20_texts_of_terms.Holds := by
  exact k20_of_run K20.hrun
