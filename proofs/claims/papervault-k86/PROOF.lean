import PyProof.Rows.All
import Wide.All
import OpenK.AllK
import Wide.FinOn
import PySem.Challenge.RW_papervault_k86_steps_read
import PyProof.EqAt
import PyProof.EqKinds
import PyProof.TupleCall
import HandS.ForMost
import HandS.ForExc
import HandS.Wide
import KE.DataEq
import KE.DataCmp
import KE.SortKeyHeap
import HandS.FStr
import HandS.ReplaceLit
import HandS.Zip
import HandS.Rev
import HandS.CallSlots
import HandS.IsInst
import KE.KDictZip
import HandS.ListItems
import HandS.Keys
import HandS.More
import HandS.SortKw
import HandS.Small
import HandS.Codes
import HandS.ReplaceList
set_option Elab.async false
set_option linter.all false
set_option maxRecDepth 100000
/-! Mi, part A: values, stores, the small language and what it means. -/
namespace Mi
open PySem L2

/-- a value: tuples and constant lists by value, lists and dicts and instances by their place in the store -/
inductive D where
  | non | bl (b : Bool) | int (i : Int) | str (x : Str) | tup (ds : List D) | ls (ds : List D) | kt (ds : List D) | ref (n : Nat)
  deriving Inhabited

inductive O where
  | lst (ds : List D)
  | dk (kvs : List (Key × D))
  | dt (kvs : List (List Key × D))
  | ins (c : Nat) (fs : List (Str × D))

abbrev Store := List O
abbrev Env := List (Option D)

/-- a value, or a list that nobody else has -/
inductive W where
  | val (d : D) | lis (ds : List D)

inductive R (α : Type) where
  | ok (a : α) (S : Store) | ex (c : Nat) (fs : List (Str × D)) (S : Store) | bad

def R.nox {α : Type} (r : R α) : R α := match r with
  | .ex _ _ _ => .bad | r => r
def R.bd {α β : Type} (r : R α) (f : α → Store → R β) : R β := match r with
  | .ok a S => f a S | .ex c fs S => .ex c fs S | .bad => .bad
theorem R.bd_ok {α β : Type} {a : α} {S : Store} {f : α → Store → R β} : (R.ok a S).bd f = f a S := rfl
theorem R.bd_ex {α β : Type} {c : Nat} {fs : List (Str × D)} {S : Store} {f : α → Store → R β} : (R.ex c fs S : R α).bd f = .ex c fs S := rfl
theorem R.bd_bad {α β : Type} {f : α → Store → R β} : (R.bad : R α).bd f = .bad := rfl

/-- a list that is kept gets a place -/
def toD : W → Store → R D
  | .val d, S => .ok d S
  | .lis ds, S => .ok (.ref S.length) (S ++ [.lst ds])

def mapO {α β : Type} (f : α → Option β) : List α → Option (List β)
  | [] => some []
  | a :: r => match f a, mapO f r with
    | some b, some bs => some (b :: bs)
    | _, _ => none
/-! ### data as a whole -/
def toPy (S : Store) : Nat → D → Option PyData
  | 0, _ => none
  | _ + 1, .non => some .none
  | _ + 1, .bl b => some (.bool b)
  | _ + 1, .int i => some (.int i)
  | _ + 1, .str x => some (.str x)
  | n + 1, .tup ds => (mapO (toPy S n) ds).map .tuple
  | n + 1, .ls ds => (mapO (toPy S n) ds).map .list
  | n + 1, .kt ds => (mapO (toPy S n) ds).map .tuple
  | n + 1, .ref k => match S[k]? with
    | some (.lst ds) => (mapO (toPy S n) ds).map .list
    | _ => none
def deepest : Nat := 40
def W.py (S : Store) : W → Option PyData
  | .val d => toPy S deepest d
  | .lis ds => (mapO (toPy S deepest) ds).map .list
/-- the items of a list or a tuple; whether it is a tuple -/
def W.seq (S : Store) : W → Option (Bool × List D)
  | .lis ds => some (false, ds)
  | .val (.tup ds) => some (true, ds)
  | .val (.ls ds) => some (false, ds)
  | .val (.kt ds) => some (true, ds)
  | .val (.ref k) => match S[k]? with
    | some (.lst ds) => some (false, ds)
    | _ => none
  | .val _ => none

/-! ### what one does with values -/
inductive P1 where
  | neg | isN | notN | len | int_ | ord | str_ | tuple_ | list_ | sum | all_ | any_ | pop | dict_ | abs | items | keysSorted | values | fmt
  deriving DecidableEq
inductive P2 where
  | add | sub | mul | fdiv | mod | pow | eq | ne | lt | le | gt | ge | inn | nin | ix | append | extend | join | index | count | split | partition | max_ | min_ | get1 | lzip
  deriving DecidableEq
inductive P3 where
  | get2 | replace | insert
  deriving DecidableEq
/-- kinds of isinstance -/
inductive Ty where
  | int | str | bool | tuple | list
  deriving DecidableEq
def Ty.of (S : Store) : W → Ty → Bool
  | .lis _, .list => true
  | .val (.ls _), .list => true
  | .val (.tup _), .tuple => true
  | .val (.kt _), .tuple => true
  | .val (.str _), .str => true
  | .val (.int _), .int => true
  | .val (.bl _), .int => true
  | .val (.bl _), .bool => true
  | .val (.ref k), .list => match S[k]? with
    | some (.lst _) => true
    | _ => false
  | _, _ => false

def vv (d : D) (S : Store) : R W := .ok (.val d) S
def W.plain (S : Store) : W → Bool
  | .val (.ref n) => match S[n]? with
    | some (.lst _) => true
    | some (.dk _) => true
    | some (.dt _) => true
    | _ => false
  | _ => true
def isiW (ts : List Ty) (x : W) (S : Store) : R W := if x.plain S = true then vv (.bl (ts.any (Ty.of S x))) S else .bad
def lookD {κ : Type} [DecidableEq κ] (kvs : List (κ × D)) (k : κ) : Option D := (kvs.find? fun kv => decide (kv.1 = k)).map (·.2)
def putD {κ : Type} [DecidableEq κ] (kvs : List (κ × D)) (k : κ) (d : D) : List (κ × D) :=
  if (kvs.any fun kv => decide (kv.1 = k)) = true then kvs.map fun kv => if kv.1 = k then (kv.1, d) else kv else kvs ++ [(k, d)]
def D.key : D → Option Key
  | .int i => some (.inl i)
  | .str x => some (.inr x)
  | _ => none
def D.keyT : D → Option (List Key)
  | .tup ds => mapO D.key ds
  | _ => none
def D.ofKey : Key → D
  | .inl i => .int i
  | .inr x => .str x
/-- what stands at a key -/
def look (S : Store) (n : Nat) (k : D) : Option (Option D) := match S[n]? with
  | some (.dk kvs) => k.key.map (lookD kvs)
  | some (.dt kvs) => k.keyT.map (lookD kvs)
  | _ => none
/-- the dict behind a store -/
def putO (o : O) (k : D) (v : D) : Option O := match o with
  | .dk kvs => match k.key with
    | some k => if kvs.length < sizeLine then some (.dk (putD kvs k v)) else none
    | none => match k.keyT with
      | some k => if kvs.isEmpty then some (.dt [(k, v)]) else none
      | none => none
  | .dt kvs => match k.keyT with
    | some k => if kvs.length < sizeLine then some (.dt (putD kvs k v)) else none
    | none => none
  | _ => none

def fits62 (i : Int) : Bool := decide (-(2 ^ 62) ≤ i ∧ i < 2 ^ 62)
def pairK : D → Option (Key × D)
  | .tup [k, v] => k.key.map fun k => (k, v)
  | _ => none
def pairT : D → Option (List Key × D)
  | .tup [k, v] => k.keyT.map fun k => (k, v)
  | _ => none
/-- a dict of pairs -/
def dictOf : List D → Option O
  | [] => some (.dk [])
  | .tup [k, v] :: r => match k.key with
    | some k => (mapO pairK r).map fun r => .dk (((k, v) :: r).foldl (fun acc kv => putD acc kv.1 kv.2) [])
    | none => match k.keyT with
      | some k => (mapO pairT r).map fun r => .dt (((k, v) :: r).foldl (fun acc kv => putD acc kv.1 kv.2) [])
      | none => none
  | _ => none

def intsOf : List D → Option (List Int)
  | [] => some []
  | .int i :: r => (intsOf r).map (i :: ·)
  | _ => none
def strsOf : List D → Option (List Str)
  | [] => some []
  | .str i :: r => (strsOf r).map (i :: ·)
  | _ => none
def blsOf : List D → Option (List Bool)
  | [] => some []
  | .bl i :: r => (blsOf r).map (i :: ·)
  | _ => none

def p1 (o : P1) (w : W) (S : Store) : R W := match o with
  | .neg => match w with
    | .val (.int i) => vv (.int (-i)) S
    | _ => .bad
  | .isN => match w with
    | .val .non => vv (.bl true) S
    | _ => vv (.bl false) S
  | .notN => match w with
    | .val .non => vv (.bl false) S
    | _ => vv (.bl true) S
  | .len => match w with
    | .val (.str x) => if x.length ≤ sizeLine then vv (.int x.length) S else .bad
    | w => match w.seq S with
      | some (_, ds) => vv (.int ds.length) S
      | none => .bad
  | .int_ => match w with
    | .val (.int i) => vv (.int i) S
    | .val (.bl b) => vv (.int (if b then 1 else 0)) S
    | .val (.str x) => match PySem.intText? x with
      | some n => if x.length ≤ 640 then vv (.int n) S else .bad
      | none => .bad
    | _ => .bad
  | .all_ => match w.seq S with
    | some (false, ds) => match blsOf ds with
      | some bs => vv (.bl (bs.all id)) S
      | none => .bad
    | _ => .bad
  | .sum => match w.seq S with
    | some (false, ds) => match intsOf ds with
      | some ns => vv (.int ns.sum) S
      | none => .bad
    | _ => .bad
  | .abs => match w with
    | .val (.int i) => vv (.int (if i < 0 then -i else i)) S
    | _ => .bad
  | .fmt => match w with
    | .val (.str x) => if x.length ≤ sizeLine then vv (.str x) S else .bad
    | .val (.int i) => if i.natAbs.log2 < 1920 then vv (.str (toString i)) S else .bad
    | _ => .bad
  | .ord => match w with
    | .val (.str x) => if x.length = 1 then vv (.int (x.cps.getD 0 0 : Nat)) S else .bad
    | _ => .bad
  | .str_ => match w with
    | .val (.int i) => if i.natAbs.log2 < 1920 then vv (.str (toString i)) S else .bad
    | _ => .bad
  | .tuple_ => match w.seq S with
    | some (_, ds) => match w with
      | .val (.kt _) => .bad
      | _ => vv (.tup ds) S
    | none => .bad
  | .list_ => match w.seq S with
    | some (_, ds) => .ok (.lis ds) S
    | none => .bad
  | .pop => match w with
    | .val (.ref n) => match S[n]? with
      | some (.lst ds) => match ds.getLast? with
        | some d => .ok (.val d) (S.set n (.lst ds.dropLast))
        | none => .bad
      | _ => .bad
    | _ => .bad
  | .dict_ => match w.seq S with
    | some (false, ds) => match dictOf ds with
      | some o => .ok (.val (.ref S.length)) (S ++ [o])
      | none => .bad
    | _ => .bad
  | _ => .bad

def strLt (x y : Str) : Bool := decide (x.cps.toList < y.cps.toList)

def isNonePy : PyData → Bool
  | .none => true
  | _ => false
def cmpD (o : P2) (x y : PyData) : Option Bool :=
  if (W.alike x y && !isNonePy x) = true then
    match o with
    | .lt => some (W.dataLt x y)
    | .gt => some (W.dataLt y x)
    | .le => some (!W.dataLt y x)
    | .ge => some (!W.dataLt x y)
    | _ => none
  else none
def mulFits (i j : Int) : Bool := decide (i.natAbs.log2 + j.natAbs.log2 < 900000)
def divFits (j : Int) : Bool := decide (0 < j ∧ j.natAbs.log2 < 9000)
def isIn (x y : W) (S : Store) : Option Bool := match y with
  | .val (.str t) => match x with
    | .val (.str z) => some (!(Builtin.Str.occurrences t z 0 t.length 1).isEmpty)
    | _ => none
  | y => match y.seq S with
    | some (_, ds) => (x.py S).bind fun p => (mapO (toPy S deepest) ds).map fun ys => ys.any fun y => PyData.eqv y p
    | none => match x, y with
      | .val d, .val (.ref n) => (look S n d).map (·.isSome)
      | _, _ => none
def ob (o : Option Bool) (S : Store) : R W := match o with
  | some b => vv (.bl b) S
  | none => .bad
def joinFits (a : Str) (ys : List Str) : Bool := decide ((ys.map (·.length)).sum + ys.length * a.length ≤ 16777216)

/-- a list that stands in the heap by itself -/
def isLst (S : Store) (w : W) : Bool := match w with
  | .lis _ => true
  | .val (.ref n) => match S[n]? with
    | some (.lst _) => true
    | _ => false
  | _ => false
/-- list(zip(x, y)) -/
def lzipW (x y : W) (S : Store) : R W := match x.seq S, y.seq S with
  | some p, some q => if p.1 = q.1 then .ok (.lis ((p.2.zip q.2).map fun p => .tup [p.1, p.2])) S else .bad
  | _, _ => .bad
def p2 (o : P2) (x y : W) (S : Store) : R W := match o with
  | .lzip => lzipW x y S
  | .add => match x, y with
    | .val (.int i), .val (.int j) => vv (.int (i + j)) S
    | .val (.str a), .val (.str b) => if a.length + b.length ≤ sizeLine then vv (.str (a ++ b)) S else .bad
    | x, y => match x.seq S, y.seq S with
      | some (false, xs), some (false, ys) => if (isLst S x && isLst S y && decide (xs.length + ys.length ≤ sizeLine)) = true then .ok (.lis (xs ++ ys)) S else .bad
      | some (true, xs), some (true, ys) => if (!xs.isEmpty && !ys.isEmpty && decide (xs.length + ys.length ≤ sizeLine)) = true then vv (.tup (xs ++ ys)) S else .bad
      | _, _ => .bad
  | .sub => match x, y with
    | .val (.int i), .val (.int j) => vv (.int (i - j)) S
    | _, _ => .bad
  | .mul => match x, y with
    | .val (.int i), .val (.int j) => if mulFits i j = true then vv (.int (i * j)) S else .bad
    | x, .val (.int j) => match x.seq S with
      | some (false, ds) => if (isLst S x && fits62 j && decide (ds.length * j.toNat ≤ sizeLine)) = true then .ok (.lis (List.replicate j.toNat ds).flatten) S else .bad
      | _ => .bad
    | _, _ => .bad
  | .fdiv => match x, y with
    | .val (.int i), .val (.int j) => if divFits j = true then vv (.int (i / j)) S else .bad
    | _, _ => .bad
  | .mod => match x, y with
    | .val (.int i), .val (.int j) => if 0 < j then vv (.int (i % j)) S else .bad
    | _, _ => .bad
  | .pow => match x, y with
    | .val (.int i), .val (.int j) => if 0 ≤ j ∧ j ≤ 1000000 ∧ i.natAbs < 2 ^ 64 then vv (.int (i ^ j.toNat)) S else .bad
    | _, _ => .bad
  | .eq => match x.py S, y.py S with
    | some a, some b => vv (.bl (PyData.eqv a b)) S
    | _, _ => .bad
  | .ne => match x.py S, y.py S with
    | some a, some b => vv (.bl (!PyData.eqv a b)) S
    | _, _ => .bad
  | .lt => match x.py S, y.py S with
    | some a, some b => ob (cmpD .lt a b) S
    | _, _ => .bad
  | .le => match x.py S, y.py S with
    | some a, some b => ob (cmpD .le a b) S
    | _, _ => .bad
  | .gt => match x.py S, y.py S with
    | some a, some b => ob (cmpD .gt a b) S
    | _, _ => .bad
  | .ge => match x.py S, y.py S with
    | some a, some b => ob (cmpD .ge a b) S
    | _, _ => .bad
  | .inn => ob (isIn x y S) S
  | .nin => ob ((isIn x y S).map (!·)) S
  | .ix => match x with
    | .val (.str z) => match y with
      | .val (.int i) => match atI z.cps.toList i with
        | some c => if z.length ≤ sizeLine then vv (.str ⟨#[c]⟩) S else .bad
        | none => .bad
      | _ => .bad
    | x => match x.seq S with
      | some (_, ds) => match y with
        | .val (.int i) => match atI ds i with
          | some d => vv d S
          | none => .bad
        | _ => .bad
      | none => match x, y with
        | .val (.ref n), .val k => match look S n k with
          | some (some d) => vv d S
          | _ => .bad
        | _, _ => .bad
  | .append => (toD y S).bd fun d S => match x with
    | .val (.ref n) => match S[n]? with
      | some (.lst ds) => if ds.length < sizeLine then vv .non (S.set n (.lst (ds ++ [d]))) else .bad
      | _ => .bad
    | _ => .bad
  | .extend => match x with
    | .val (.ref n) => match S[n]? with
      | some (.lst ds) => match y.seq S with
        | some (b, es) => if ((b || isLst S y) && decide (ds.length + es.length ≤ sizeLine)) = true then vv .non (S.set n (.lst (ds ++ es))) else .bad
        | _ => .bad
      | _ => .bad
    | _ => .bad
  | .join => match x with
    | .val (.str a) => match y.seq S with
      | some (_, ds) => match strsOf ds with
        | some ys => if joinFits a ys = true then vv (.str (Txt.join a ys)) S else .bad
        | none => .bad
      | none => .bad
    | _ => .bad
  | .max_ => match x, y with
    | .val (.int i), .val (.int j) => vv (.int (if j > i then j else i)) S
    | _, _ => .bad
  | .min_ => match x, y with
    | .val (.int i), .val (.int j) => vv (.int (if j < i then j else i)) S
    | _, _ => .bad
  | .split => match x, y with
    | .val (.str a), .val (.str b) => if (b.length == 0) = false ∧ a.length + 2 ≤ sizeLine then .ok (.lis ((Txt.split a b).map .str)) S else .bad
    | _, _ => .bad
  | _ => .bad

/-- x.replace(y, z), y and z written and unlike -/
def replW (y z : Str) (x : W) (S : Store) : R W := match x with
  | .val (.str a) => if a.length + (a.length + 1) * z.length ≤ 16777216 then vv (.str (Txt.replace a y z)) S else .bad
  | _ => .bad
def p3 (o : P3) (x y z : W) (S : Store) : R W := match o with
  | .get2 => match x, y, z with
    | .val (.ref n), .val k, .val d => match look S n k with
      | some r => vv (r.getD d) S
      | none => .bad
    | _, _, _ => .bad
  | _ => .bad

def optI : Option W → Option (Option Int)
  | none => some none
  | some (.val (.int i)) => some (some i)
  | _ => none
def partI (ws : List W) (S : Store) : R (Option Int) := match optI ws.head? with
  | some i => .ok i S
  | none => .bad
def cutD {α : Type} (xs : List α) (lo hi : Option Int) : List α := (xs.drop (HT.sIx xs.length 0 lo)).take (HT.sIx xs.length xs.length hi - HT.sIx xs.length 0 lo)
/-- x[lo:hi] -/
def cutW (x : W) (lo hi : Option Int) (S : Store) : R W := match x with
  | .val (.str z) => if z.length ≤ sizeLine then vv (.str (cutS z lo hi)) S else .bad
  | x => match x.seq S with
    | some (true, ds) => if (cutD ds lo hi).length = ds.length then .bad else vv (.tup (cutD ds lo hi)) S
    | some (false, ds) => .ok (.lis (cutD ds lo hi)) S
    | none => .bad

/-- x[l:p + q].replace(y, z), y and z written and unlike -/
def replC (x : W) (l : Option Int) (p q : W) (y z : Str) (S : Store) : R W := match p, q with
  | .val (.int i), .val (.int j) => (cutW x l (some (i + j)) S).bd fun x S => replW y z x S
  | _, _ => .bad
/-- the receiver of a built-in type's method -/
inductive MK where
  | list | str | dict
  deriving DecidableEq
def MK.is (S : Store) : MK → W → Bool
  | .list, .lis _ => true
  | .list, .val (.ls _) => true
  | .list, .val (.ref k) => match S[k]? with
    | some (.lst _) => true
    | _ => false
  | .str, .val (.str _) => true
  | .dict, .val (.ref k) => match S[k]? with
    | some (.dk _) => true
    | some (.dt _) => true
    | _ => false
  | _, _ => false

/-! ### the language -/
inductive Tg where
  | nm (i : Nat) | tp (is : List Nat)
/-- what is walked -/
inductive IK where
  | it | rng1 | rng2 | rng3 | zip | enm | rev
  deriving DecidableEq

inductive Ex where
  | c (d : D)
  | v (i : Nat)
  | p1 (o : P1) (a : Ex)
  | p2 (o : P2) (a b : Ex)
  | sl (a : Ex) (lo hi : List Ex)
  | isi (ts : List Ty) (a : Ex)
  | and_ (a b : Ex) | or_ (a b : Ex) | not_ (a : Ex) | ite (c a b : Ex)
  | ch (o o' : P2) (a b c : Ex)
  | tup (es : List Ex)
  | disp (es : List Ex)
  | dict (kvs : List Ex)
  | comp (t : Tg) (k : IK) (its cs : List Ex) (e : Ex) (own : List Nat)
  | call (f : Nat) (es : List Ex)
  | m0 (k : MK) (o : P1) (a : Ex)
  | m1 (k : MK) (o : P2) (a b : Ex)
  | m2 (k : MK) (o : P3) (a b c : Ex)
  | srt (key : Nat) (rev : Bool) (a : Ex)
  | repl (a : Ex) (lo : List Ex) (v w : Ex) (y z : Str)
  | fst (es : List Ex)

def bindTs : List Nat → List D → Env → Option Env
  | [], [], ρ => some ρ
  | i :: is, d :: ds, ρ => bindTs is ds (ρ.set i (some d))
  | _, _, _ => none
def bindTg : Tg → D → Env → Option Env
  | .nm i, d, ρ => some (ρ.set i (some d))
  | .tp is, .tup ds, ρ => bindTs is ds ρ
  | _, _, _ => none
def wipeD (ρ : Env) : List Nat → Env
  | [] => ρ
  | v :: vs => (wipeD ρ vs).set v none

/-- items, and the lists that must stay as they are -/
structure Its where
  items : List D
  live : List (Nat × List D)
def live1 : W → List D → List (Nat × List D)
  | .val (.ref n), ds => [(n, ds)]
  | _, _ => []
def intsD (n : Nat) (f : Nat → Int) : List D := (List.range n).map fun i => .int (f i)
/-- how many numbers from i by c below j -/
def steps (i j c : Int) : Nat := if i < j then ((j - i - 1) / c + 1).toNat else 0
def its (k : IK) (ws : List W) (S : Store) : Option Its := match k with
  | .it => match ws with
    | [w] => match w.seq S with
      | some p => some ⟨p.2, live1 w p.2⟩
      | none => match w with
        | .val (.str z) => some ⟨z.cps.toList.map fun c => .str ⟨#[c]⟩, []⟩
        | _ => none
    | _ => none
  | .rng1 => match ws with
    | [.val (.int n)] => if fits62 n = true then some ⟨intsD n.toNat fun i => (i : Int), []⟩ else none
    | _ => none
  | .rng2 => match ws with
    | [.val (.int a), .val (.int b)] => if (fits62 a && fits62 b) = true then some ⟨intsD (b - a).toNat fun i => a + i, []⟩ else none
    | _ => none
  | .rng3 => match ws with
    | [.val (.int a), .val (.int b), .val (.int c)] => if (fits62 a && fits62 b && decide (0 < c ∧ c < 1073741824)) = true then some ⟨intsD (steps a b c) fun i => a + i * c, []⟩ else none
    | _ => none
  | .zip => match ws with
    | [w, w'] => match w.seq S, w'.seq S with
      | some p, some q => if p.1 = q.1 then some ⟨(p.2.zip q.2).map fun p => .tup [p.1, p.2], live1 w p.2 ++ live1 w' q.2⟩ else none
      | _, _ => none
    | _ => none
  | .enm => match ws with
    | [w] => match w.seq S with
      | some (false, ds) => some ⟨ds.zipIdx.map fun q => .tup [.int q.2, q.1], live1 w ds⟩
      | _ => none
    | _ => none
  | .rev => match ws with
    | [w] => match w.seq S with
      | some p => some ⟨p.2.reverse, live1 w p.2⟩
      | none => none
    | _ => none
def isLive (live : List (Nat × List D)) (S : Store) : Prop := ∀ p ∈ live, S[p.1]? = some (.lst p.2)

open Classical in
/-- a comprehension's turns -/
noncomputable def compL (live : List (Nat × List D)) (turn : D → Store → R (Option D)) : List D → Store → List D → R (List D)
  | [], S, acc => if isLive live S then .ok acc S else .bad
  | d :: r, S, acc => if isLive live S then (turn d S).bd fun o S => match o with
      | none => compL live turn r S acc
      | some e => if acc.length < sizeLine then compL live turn r S (acc ++ [e]) else .bad
    else .bad

def toB (w : W) (S : Store) : R Bool := match w with
  | .val (.bl b) => .ok b S
  | _ => .bad
def toDs : List W → Store → R (List D)
  | [], S => .ok [] S
  | w :: r, S => (toD w S).bd fun d S => (toDs r S).bd fun ds S => .ok (d :: ds) S
/-- what stands in turn: key, value, key, .. -/
def unpair : List D → Option (List (Key × D))
  | [] => some []
  | k :: v :: r => match k.key with
    | some k => (unpair r).map ((k, v) :: ·)
    | none => none
  | _ => none
/-- a display's new dict -/
def dispO (ds : List D) : Option O := match unpair ds with
  | some kvs => if kvs.length ≤ 15 then some (.dk (kvs.foldl (fun acc kv => putD acc kv.1 kv.2) [])) else none
  | none => none
/-- the keys, in turn -/
def keysL (f : D → Store → R D) : List D → Store → R (List D)
  | [], S => .ok [] S
  | d :: r, S => ((f d S).nox).bd fun k S => (keysL f r S).bd fun ks S => .ok (k :: ks) S
/-- the items in the keys' order, equal keys in their old turn -/
noncomputable def byKeys {α : Type} (b : Bool) (xs : List α) (kz : List PyData) : List α := ((xs.zip kz).mergeSort (W.dataLe b (·.2))).map (·.1)
open Classical in
noncomputable def srtEnd (ds ks : List D) (S : Store) : R W := match mapO (toPy S deepest) ks with
  | some kz => if W.AllAlike kz ∧ W.Sortable kz then .ok (.lis (byKeys false ds kz)) S else .bad
  | none => .bad
/-- a dict's keys -/
def keysD (S : Store) : W → Option (List D)
  | .val (.ref n) => match S[n]? with
    | some (.dk kvs) => some (kvs.map fun kv => D.ofKey kv.1)
    | _ => none
  | _ => none
noncomputable def srtW (f : D → Store → R D) (w : W) (S : Store) : R W := match w.seq S with
  | some (false, ds) => (keysL f ds S).bd fun ks S => srtEnd ds ks S
  | some (true, _) => .bad
  | none => match keysD S w with
    | some ds => (keysL f ds S).bd fun ks S => srtEnd ds ks S
    | none => .bad

section
variable (C : Nat → List D → Store → R D)
mutual
noncomputable def evK : Ex → Env → Store → R W
  | .c d, _, S => vv d S
  | .v i, ρ, S => match ρ[i]? with
    | some (some d) => vv d S
    | _ => .bad
  | .p1 o a, ρ, S => (evK a ρ S).bd fun x S => p1 o x S
  | .p2 o a b, ρ, S => (evK a ρ S).bd fun x S => (evK b ρ S).bd fun y S => p2 o x y S
  | .sl a lo hi, ρ, S => (evK a ρ S).bd fun x S => ((evWs lo ρ S).bd partI).bd fun l S => ((evWs hi ρ S).bd partI).bd fun h S => cutW x l h S
  | .isi ts a, ρ, S => (evK a ρ S).bd fun x S => isiW ts x S
  | .and_ a b, ρ, S => ((evK a ρ S).bd toB).bd fun c S => if c = true then evK b ρ S else vv (.bl false) S
  | .or_ a b, ρ, S => ((evK a ρ S).bd toB).bd fun c S => if c = true then vv (.bl true) S else evK b ρ S
  | .not_ a, ρ, S => ((evK a ρ S).bd toB).bd fun c S => vv (.bl (!c)) S
  | .ite c a b, ρ, S => ((evK c ρ S).bd toB).bd fun k S => if k = true then evK a ρ S else evK b ρ S
  | .ch o o' a b c, ρ, S => (evK a ρ S).bd fun x S => (evK b ρ S).bd fun y S => ((p2 o x y S).bd toB).bd fun k S =>
      if k = true then (evK c ρ S).bd fun z S => p2 o' y z S else vv (.bl false) S
  | .tup es, ρ, S => (evDs es ρ S).bd fun ds S => if ds.length ≤ sizeLine then vv (.tup ds) S else .bad
  | .disp es, ρ, S => (evDs es ρ S).bd fun ds S => if ds.length ≤ sizeLine then .ok (.lis ds) S else .bad
  | .dict kvs, ρ, S => (evDs kvs ρ S).bd fun ds S => match dispO ds with
    | some o => .ok (.val (.ref S.length)) (S ++ [o])
    | none => .bad
  | .comp t k is cs e own, ρ, S => (evWs is ρ S).bd fun ws S => match its k ws S with
    | some I => (compL I.live (fun d S => match bindTg t d (wipeD ρ own) with
        | some ρ' => ((evCs cs ρ' S).bd fun b S => if b = true then ((evK e ρ' S).bd toD).bd fun d S => .ok (some d) S else .ok none S).nox
        | none => .bad) I.items S []).bd fun ds S => .ok (.lis ds) S
    | none => .bad
  | .call f es, ρ, S => (evDs es ρ S).bd fun ds S => (C f ds S).bd fun d S => vv d S
  | .m0 k o a, ρ, S => (evK a ρ S).bd fun x S => if k.is S x = true then p1 o x S else .bad
  | .m1 k o a b, ρ, S => (evK a ρ S).bd fun x S => if k.is S x = true then (evK b ρ S).bd fun y S => p2 o x y S else .bad
  | .m2 k o a b c, ρ, S => (evK a ρ S).bd fun x S => if k.is S x = true then (evK b ρ S).bd fun y S => (evK c ρ S).bd fun z S => p3 o x y z S else .bad
  | .srt f rev a, ρ, S => (evK a ρ S).bd fun w S => if rev = true then .bad else srtW (fun d S => C f [d] S) w S
  | .repl a lo v w y z, ρ, S => (evK a ρ S).bd fun x S => ((evWs lo ρ S).bd partI).bd fun l S => (evK v ρ S).bd fun p S => (evK w ρ S).bd fun q S => replC x l p q y z S
  | .fst es, ρ, S => evJ es ρ S Str.empty
/-- texts one behind the other -/
noncomputable def evJ : List Ex → Env → Store → Str → R W
  | [], _, S, acc => vv (.str acc) S
  | e :: r, ρ, S, acc => (evK e ρ S).bd fun w S => match w with
    | .val (.str y) => if (acc ++ y).length ≤ sizeLine then evJ r ρ S (acc ++ y) else .bad
    | _ => .bad
/-- arguments: each gets a place at once -/
noncomputable def evDs : List Ex → Env → Store → R (List D)
  | [], _, S => .ok [] S
  | e :: r, ρ, S => ((evK e ρ S).bd toD).bd fun d S => (evDs r ρ S).bd fun ds S => .ok (d :: ds) S
noncomputable def evWs : List Ex → Env → Store → R (List W)
  | [], _, S => .ok [] S
  | e :: r, ρ, S => (evK e ρ S).bd fun d S => (evWs r ρ S).bd fun ds S => .ok (d :: ds) S
noncomputable def evCs : List Ex → Env → Store → R Bool
  | [], _, S => .ok true S
  | e :: r, ρ, S => ((evK e ρ S).bd toB).bd fun b S => if b = true then evCs r ρ S else .ok false S
end
noncomputable def evD (e : Ex) (ρ : Env) (S : Store) : R D := (evK C e ρ S).bd toD
noncomputable def evB (e : Ex) (ρ : Env) (S : Store) : R Bool := (evK C e ρ S).bd toB
end

/-! ### statements -/
inductive Fl where
  | nx | brk | cnt | rt (d : D)
inductive RS where
  | ok (f : Fl) (ρ : Env) (S : Store) | ex (c : Nat) (fs : List (Str × D)) (ρ : Env) (S : Store) | bad

inductive Stm where
  | set (t : Tg) (e : Ex)
  | setIx (o i e : Ex)
  | exp (e : Ex)
  | ret (e : Ex)
  | iff (c : Ex) (a b : List Stm)
  | for_ (t : Tg) (k : IK) (is : List Ex) (b : List Stm)
  | whl (c : Ex) (b : List Stm)
  | brk | cnt | pass
  | aug (i : Nat) (o : P2) (e : Ex)
  | par (i j : Nat) (a b : Ex)
  | rse (c : Nat)
  | thru (b e : List Stm)

def R.st {α : Type} (r : R α) (ρ : Env) (f : α → Store → RS) : RS := match r with
  | .ok a S => f a S | .ex c fs S => .ex c fs ρ S | .bad => .bad
def RS.nox (r : RS) : RS := match r with
  | .ex _ _ _ _ => .bad | r => r
/-- a, b = .. -/
def parS (i j : Nat) (ds : List D) (ρ : Env) (S : Store) : RS := match ds with
  | [d, e] => .ok .nx ((ρ.set i (some d)).set j (some e)) S
  | _ => .bad
/-- behind a statement -/
def RS.sq (r : RS) (f : Env → Store → RS) : RS := match r with
  | .ok .nx ρ S => f ρ S | r => r

/-- x op= y -/
def augV (o : P2) (x : D) (y : W) : Option D := match o, x, y with
  | .add, .int a, .val (.int b) => some (.int (a + b))
  | .sub, .int a, .val (.int b) => some (.int (a - b))
  | _, _, _ => none
/-- o[i] = d -/
def setItem (o i : W) (d : D) (S : Store) : Option Store := match o with
  | .val (.ref n) => match S[n]? with
    | some (.lst ds) => match i with
      | .val (.int k) => (ixN ds.length k).map fun j => S.set n (.lst (ds.set j d))
      | _ => none
    | some o => match i with
      | .val k => (putO o k d).map fun o => S.set n o
      | _ => none
    | none => none
  | _ => none

open Classical in
noncomputable def forL (live : List (Nat × List D)) (turn : D → Env → Store → RS) : List D → Env → Store → RS
  | [], ρ, S => if isLive live S then .ok .nx ρ S else .bad
  | d :: r, ρ, S => if isLive live S then match turn d ρ S with
      | .ok .nx ρ S => forL live turn r ρ S
      | .ok .cnt ρ S => forL live turn r ρ S
      | .ok .brk ρ S => .ok .nx ρ S
      | .ok (.rt d) ρ S => .ok (.rt d) ρ S
      | .ex c fs ρ S => .ex c fs ρ S
      | .bad => .bad
    else .bad

def whileF (c : Env → Store → R Bool) (b : Env → Store → RS) : Nat → Env → Store → Option RS
  | 0, _, _ => none
  | n + 1, ρ, S => match c ρ S with
    | .ok true S => match b ρ S with
      | .ok .nx ρ S => whileF c b n ρ S
      | .ok .cnt ρ S => whileF c b n ρ S
      | .ok .brk ρ S => some (.ok .nx ρ S)
      | .ok (.rt d) ρ S => some (.ok (.rt d) ρ S)
      | .ex c fs ρ S => some (.ex c fs ρ S)
      | .bad => some .bad
    | .ok false S => some (.ok .nx ρ S)
    | .ex c fs S => some (.ex c fs ρ S)
    | .bad => some .bad
open Classical in
noncomputable def whileR (c : Env → Store → R Bool) (b : Env → Store → RS) (ρ : Env) (S : Store) : RS :=
  if h : ∃ r n, whileF c b n ρ S = some r then Classical.choose h else .bad

section
variable (C : Nat → List D → Store → R D)
mutual
noncomputable def exS : Stm → Env → Store → RS
  | .set t e, ρ, S => (evD C e ρ S).st ρ fun d S => match bindTg t d ρ with
    | some ρ => .ok .nx ρ S
    | none => .bad
  | .setIx o i e, ρ, S => (evD C e ρ S).st ρ fun d S => (evK C o ρ S).st ρ fun x S => (evK C i ρ S).st ρ fun y S => match setItem x y d S with
    | some S => .ok .nx ρ S
    | none => .bad
  | .exp e, ρ, S => (evK C e ρ S).st ρ fun _ S => .ok .nx ρ S
  | .ret e, ρ, S => (evD C e ρ S).st ρ fun d S => .ok (.rt d) ρ S
  | .iff c a b, ρ, S => (evB C c ρ S).st ρ fun k S => if k = true then exSs a ρ S else exSs b ρ S
  | .for_ t k is b, ρ, S => (evWs C is ρ S).st ρ fun ws S => match its k ws S with
    | some I => forL I.live (fun d ρ S => match bindTg t d ρ with
      | some ρ => exSs b ρ S
      | none => .bad) I.items ρ S
    | none => .bad
  | .whl c b, ρ, S => whileR (evB C c) (exSs b) ρ S
  | .brk, ρ, S => .ok .brk ρ S
  | .cnt, ρ, S => .ok .cnt ρ S
  | .pass, ρ, S => .ok .nx ρ S
  | .aug i o e, ρ, S => match ρ[i]? with
    | some (some x) => (evK C e ρ S).st ρ fun y S => match augV o x y with
      | some d => .ok .nx (ρ.set i (some d)) S
      | none => .bad
    | _ => .bad
  | .par i j a b, ρ, S => (evDs C [a, b] ρ S).st ρ fun ds S => parS i j ds ρ S
  | .rse c, ρ, S => .ex c [] ρ S
  | .thru b e, ρ, S => (exSs b ρ S).nox.sq fun ρ S => exSs e ρ S
noncomputable def exSs : List Stm → Env → Store → RS
  | [], ρ, S => .ok .nx ρ S
  | s :: r, ρ, S => (exS s ρ S).sq fun ρ S => exSs r ρ S
end
end

/-! ### defs -/
structure Fn where
  np : Nat
  nl : Nat
  body : List Stm
mutual
def D.und (k : Nat) : D → Bool
  | .ref n => decide (n < k)
  | .tup ds => D.unds k ds
  | .ls ds => D.unds k ds
  | .kt ds => D.unds k ds
  | _ => true
def D.unds (k : Nat) : List D → Bool
  | [] => true
  | d :: r => D.und k d && D.unds k r
end
def O.und (k : Nat) : O → Bool
  | .lst ds => D.unds k ds
  | .dk kvs => D.unds k (kvs.map (·.2))
  | .dt kvs => D.unds k (kvs.map (·.2))
  | .ins _ fs => D.unds k (fs.map (·.2))
/-- what stood is as it was, or knows nothing new -/
def keeps (S S' : Store) : Prop := ∀ i o, i < S.length → S'[i]? = some o → S[i]? = some o ∨ o.und S.length = true
open Classical in
/-- a call's end: what nobody knows goes -/
noncomputable def pack (S : Store) (d : D) (S' : Store) : R D :=
  if keeps S S' then
    if d.und S.length = true then .ok d (S'.take S.length)
    else match d with
      | .ref m => match S'[m]? with
        | some o => if o.und S.length = true then .ok (.ref S.length) (S'.take S.length ++ [o]) else .ok d S'
        | none => .ok d S'
      | _ => .ok d S'
  else .ok d S'

noncomputable def run (tab : Nat → Option Fn) : Nat → Nat → List D → Store → R D
  | 0, _, _, _ => .bad
  | n + 1, f, ds, S => match tab f with
    | none => .bad
    | some F => if ds.length = F.np then
        match exSs (run tab n) F.body (ds.map some ++ List.replicate (F.nl - F.np) none) S with
        | .ok (.rt d) _ S' => pack S d S'
        | .ok .nx _ S' => pack S .non S'
        | .ok _ _ _ => .bad
        | .ex c fs _ S' => .ex c fs S'
        | .bad => .bad
      else .bad
end Mi

set_option autoImplicit false
/-! Mi, part B: how values and stores lie in the layer's heap. -/
namespace Mi
open PySem L2

/-- what is fixed through a law: the written part, the own classes' addresses, the own exceptions' classes -/
structure Gb where
  K : PySem.W.Frag
  cls : Nat → Option Addr
  exc : Nat → Option Value

def KT (K : PySem.W.Frag) (a : Addr) (xs : List V) : Prop := ∃ (o : Obj) (its : Array Value) (n : Nat), K.lookup a = some o ∧ o.cls = .type "tuple" ∧ o.data = .seq its n ∧ its.size ≤ sizeLine ∧ Vals xs its.toList
def KL (K : PySem.W.Frag) (a : Addr) (xs : List V) : Prop := ∃ (o : Obj) (its : Array Value) (n : Nat), K.lookup a = some o ∧ o.cls = .type "list" ∧ o.dict = none ∧ o.data = .seq its n ∧ its.size ≤ sizeLine ∧ Vals xs its.toList
def TupA (K : PySem.W.Frag) (H : Hp) (a : Addr) (xs : List V) : Prop := H a = some (.tup xs)
def LisA (K : PySem.W.Frag) (H : Hp) (a : Addr) (xs : List V) : Prop := (∃ o, H a = some (.frz o (.lst xs))) ∨ KL K a xs
theorem TupA.sq {K : PySem.W.Frag} {H : Hp} {a : Addr} {xs : List V} (h : TupA K H a xs) : SqT K H a xs := .inl (.inl h)
theorem KT.sq {K : PySem.W.Frag} {H : Hp} {a : Addr} {xs : List V} (h : KT K a xs) : SqT K H a xs := .inr h
theorem LisA.sq {K : PySem.W.Frag} {H : Hp} {a : Addr} {xs : List V} (h : LisA K H a xs) : SqL K H a xs := by
  rcases h with ⟨o, h⟩ | h
  · exact .inl (.inr ⟨o, h⟩)
  · exact .inr h

section
variable (G : Gb) (φ : List Addr) (H : Hp)
mutual
def Rp : D → V → Prop
  | .non, v => v = .non
  | .bl b, v => v = .bl b
  | .int i, v => v = .int i
  | .str x, v => v = .str x
  | .tup ds, v => ∃ a vs, v = .ref a ∧ TupA G.K H a vs ∧ Rps ds vs
  | .ls ds, v => ∃ a vs, v = .ref a ∧ LisA G.K H a vs ∧ Rps ds vs
  | .kt ds, v => ∃ a vs, v = .ref a ∧ KT G.K a vs ∧ Rps ds vs
  | .ref n, v => ∃ a, v = .ref a ∧ φ[n]? = some a
def Rps : List D → List V → Prop
  | [], vs => vs = []
  | d :: ds, vs => ∃ v r, vs = v :: r ∧ Rp d v ∧ Rps ds r
end
def RpW : W → V → Prop
  | .val d, v => Rp G φ H d v
  | .lis ds, v => ∃ a vs, v = .ref a ∧ H a = some (.lst vs) ∧ a ∉ φ ∧ Rps G φ H ds vs
def RpWs : List W → List V → Prop
  | [], vs => vs = []
  | w :: ws, vs => ∃ v r, vs = v :: r ∧ RpW G φ H w v ∧ RpWs ws r
def RpKV {κ : Type} : List (κ × D) → List (κ × V) → Prop
  | [], vs => vs = []
  | p :: ds, vs => ∃ v r, vs = (p.1, v) :: r ∧ Rp G φ H p.2 v ∧ RpKV ds r
def RpO : O → Addr → Prop
  | .lst ds, a => ∃ vs, H a = some (.lst vs) ∧ Rps G φ H ds vs
  | .dk kvs, a => ∃ vs, H a = some (.dK vs) ∧ RpKV G φ H kvs vs
  | .dt kvs, a => ∃ vs, H a = some (.dT vs) ∧ RpKV G φ H kvs vs
  | .ins c fs, a => ∃ C dx vs, G.cls c = some C ∧ H a = some (.ins C dx vs) ∧ RpKV G φ H fs vs
structure Rel (S : Store) : Prop where
  len : φ.length = S.length
  nd : φ.Nodup
  obj : ∀ (n : Nat) (a : Addr) (o : O), φ[n]? = some a → S[n]? = some o → RpO G φ H o a
def Sl (ρ : Env) (σ : St) : Prop := ρ.length = σ.length ∧ ∀ (i : Nat) (d : D), ρ[i]? = some (some d) → ∃ v, σ[i]? = some (some v) ∧ Rp G φ H d v
/-- an exception: its class, its own dict -/
def RpX (c : Nat) (fs : List (Str × D)) (cls : Value) (dx : Option Addr) : Prop :=
  G.exc c = some cls ∧ ((fs = [] ∧ dx = none) ∨ ∃ d vs, dx = some d ∧ H d = some (.xd vs) ∧ d ∉ φ ∧ RpKV G φ H fs vs)
end
structure Ext (φ : List Addr) (H : Hp) (φ' : List Addr) (H' : Hp) : Prop where
  pre : φ <+: φ'
  keep : ∀ a o, H a = some o → a ∉ φ → H' a = some o
  new : ∀ a, a ∈ φ' → a ∈ φ ∨ H a = none
theorem Ext.refl (φ : List Addr) (H : Hp) : Ext φ H φ H := ⟨List.prefix_refl _, fun _ _ h _ => h, fun _ h => .inl h⟩
theorem Ext.out {φ φ' : List Addr} {H H' : Hp} (e : Ext φ H φ' H') {a : Addr} {o : HO} (h : H a = some o) (n : a ∉ φ) : a ∉ φ' := fun m => by
  rcases e.new a m with q | q
  · exact n q
  · rw [h] at q; cases q
theorem Ext.trans {φ φ1 φ2 : List Addr} {H H1 H2 : Hp} (e : Ext φ H φ1 H1) (f : Ext φ1 H1 φ2 H2) : Ext φ H φ2 H2 := by
  refine ⟨e.pre.trans f.pre, fun a o h n => f.keep a o (e.keep a o h n) (e.out h n), fun a m => ?_⟩
  rcases f.new a m with q | q
  · exact e.new a q
  · by_cases hm : a ∈ φ
    · exact .inl hm
    · cases h : H a with
      | none => exact .inr rfl
      | some o => rw [e.keep a o h hm] at q; cases q
theorem Ext.get {φ φ' : List Addr} {H H' : Hp} (e : Ext φ H φ' H') {n : Nat} {a : Addr} (h : φ[n]? = some a) : φ'[n]? = some a := by
  obtain ⟨t, rfl⟩ := e.pre
  rw [List.getElem?_append_left (List.getElem?_eq_some_iff.mp h).1]
  exact h

section
variable {G : Gb} {φ φ' : List Addr} {H H' : Hp} {S : Store}
/-- what a place of the store is: a list, a dict, an instance -/
def isO : HO → Bool
  | .lst _ => true | .dK _ => true | .dT _ => true | .ins _ _ _ => true
  | _ => false
theorem Rel.at (R : Rel G φ H S) {a : Addr} (h : a ∈ φ) : ∃ o, H a = some o ∧ isO o = true := by
  obtain ⟨n, hn, e⟩ := List.getElem_of_mem h
  have hs : n < S.length := by rw [← R.len]; exact hn
  have q := R.obj n a S[n] (by rw [List.getElem?_eq_getElem hn, e]) (List.getElem?_eq_getElem hs)
  cases hO : S[n] with
  | lst ds => rw [hO] at q; obtain ⟨vs, q, _⟩ := q; exact ⟨_, q, rfl⟩
  | dk ds => rw [hO] at q; obtain ⟨vs, q, _⟩ := q; exact ⟨_, q, rfl⟩
  | dt ds => rw [hO] at q; obtain ⟨vs, q, _⟩ := q; exact ⟨_, q, rfl⟩
  | ins c ds => rw [hO] at q; obtain ⟨C, dx, vs, _, q, _⟩ := q; exact ⟨_, q, rfl⟩
theorem Rel.out (R : Rel G φ H S) {a : Addr} {o : HO} (h : H a = some o) (n : isO o = false) : a ∉ φ := fun m => by
  obtain ⟨u, h', i⟩ := R.at m
  rw [h] at h'; cases h'
  rw [n] at i; cases i
theorem Rel.unk (R : Rel G φ H S) {a : Addr} (h : H a = none) : a ∉ φ := fun m => by
  obtain ⟨u, h', _⟩ := R.at m
  rw [h] at h'; cases h'
/-- tuples and constant lists stay, places stay -/
structure Keep (φ : List Addr) (H : Hp) (φ' : List Addr) (H' : Hp) : Prop where
  get : ∀ (n : Nat) (a : Addr), φ[n]? = some a → φ'[n]? = some a
  tup : ∀ a xs, H a = some (.tup xs) → H' a = some (.tup xs)
  frz : ∀ a o u, H a = some (.frz o u) → H' a = some (.frz o u)
theorem Ext.toKeep (e : Ext φ H φ' H') (R : Rel G φ H S) : Keep φ H φ' H' :=
  ⟨fun _ _ h => e.get h, fun a xs h => e.keep a _ h (R.out h rfl), fun a o u h => e.keep a _ h (R.out h rfl)⟩
theorem Keep.refl : Keep φ H φ H := ⟨fun _ _ h => h, fun _ _ h => h, fun _ _ _ h => h⟩
theorem TupA.mono (k : Keep φ H φ' H') {a : Addr} {xs : List V} (h : TupA G.K H a xs) : TupA G.K H' a xs := k.tup _ _ h
theorem LisA.mono (k : Keep φ H φ' H') {a : Addr} {xs : List V} (h : LisA G.K H a xs) : LisA G.K H' a xs := by
  rcases h with ⟨o, h⟩ | h
  · exact .inl ⟨o, k.frz _ _ _ h⟩
  · exact .inr h
mutual
theorem Rp.mono (k : Keep φ H φ' H') : ∀ (d : D) (v : V), Rp G φ H d v → Rp G φ' H' d v
  | .non, _, h => by unfold Rp at h ⊢; exact h
  | .bl _, _, h => by unfold Rp at h ⊢; exact h
  | .int _, _, h => by unfold Rp at h ⊢; exact h
  | .str _, _, h => by unfold Rp at h ⊢; exact h
  | .tup ds, v, h => by
    unfold Rp at h ⊢
    obtain ⟨a, vs, e, t, r⟩ := h
    exact ⟨a, vs, e, t.mono k, Rps.mono k ds vs r⟩
  | .ls ds, v, h => by
    unfold Rp at h ⊢
    obtain ⟨a, vs, e, t, r⟩ := h
    exact ⟨a, vs, e, t.mono k, Rps.mono k ds vs r⟩
  | .kt ds, v, h => by
    unfold Rp at h ⊢
    obtain ⟨a, vs, e, t, r⟩ := h
    exact ⟨a, vs, e, t, Rps.mono k ds vs r⟩
  | .ref n, v, h => by
    unfold Rp at h ⊢
    obtain ⟨a, e, r⟩ := h
    exact ⟨a, e, k.get _ _ r⟩
theorem Rps.mono (k : Keep φ H φ' H') : ∀ (ds : List D) (vs : List V), Rps G φ H ds vs → Rps G φ' H' ds vs
  | [], _, h => by unfold Rps at h ⊢; exact h
  | d :: ds, _, h => by
    unfold Rps at h ⊢
    obtain ⟨v, r, e, h1, h2⟩ := h
    exact ⟨v, r, e, Rp.mono k d v h1, Rps.mono k ds r h2⟩
end
theorem RpKV.mono {κ : Type} (k : Keep φ H φ' H') : ∀ (ds : List (κ × D)) (vs : List (κ × V)), RpKV G φ H ds vs → RpKV G φ' H' ds vs
  | [], _, h => h
  | d :: ds, _, h => by
    obtain ⟨v, r, e, h1, h2⟩ := h
    exact ⟨v, r, e, Rp.mono k _ v h1, RpKV.mono k ds r h2⟩
theorem RpW.mono (e : Ext φ H φ' H') (R : Rel G φ H S) : ∀ {w : W} {v : V}, RpW G φ H w v → RpW G φ' H' w v
  | .val d, _, h => Rp.mono (e.toKeep R) _ _ h
  | .lis ds, _, h => by
    obtain ⟨a, vs, q, h1, h2, h3⟩ := h
    exact ⟨a, vs, q, e.keep _ _ h1 h2, e.out h1 h2, Rps.mono (e.toKeep R) _ _ h3⟩
theorem RpWs.mono (e : Ext φ H φ' H') (R : Rel G φ H S) : ∀ {w : List W} {v : List V}, RpWs G φ H w v → RpWs G φ' H' w v
  | [], _, h => h
  | w :: ws, _, h => by
    obtain ⟨v, r, q, h1, h2⟩ := h
    exact ⟨v, r, q, RpW.mono e R h1, RpWs.mono e R h2⟩
theorem Sl.mono {ρ : Env} {σ : St} (k : Keep φ H φ' H') (h : Sl G φ H ρ σ) : Sl G φ' H' ρ σ :=
  ⟨h.1, fun i d e => let ⟨v, h1, h2⟩ := h.2 i d e; ⟨v, h1, Rp.mono k _ _ h2⟩⟩
theorem Sl.set {ρ : Env} {σ : St} {d : D} {v : V} (h : Sl G φ H ρ σ) (i : Nat) (r : Rp G φ H d v) : Sl G φ H (ρ.set i (some d)) (σ.set i (some v)) := by
  refine ⟨by simpa using h.1, fun j e he => ?_⟩
  by_cases hj : i = j
  · subst hj
    by_cases hl : i < ρ.length
    · rw [List.getElem?_set_self hl] at he
      cases he
      exact ⟨v, List.getElem?_set_self (by rw [← h.1]; exact hl), r⟩
    · rw [List.getElem?_eq_none (by simpa using hl)] at he
      cases he
  · rw [List.getElem?_set_ne hj] at he ⊢
    exact h.2 j e he
theorem Sl.unset {ρ : Env} {σ : St} (h : Sl G φ H ρ σ) (i : Nat) : Sl G φ H (ρ.set i none) (σ.set i none) := by
  refine ⟨by simpa using h.1, fun j e he => ?_⟩
  by_cases hj : i = j
  · subst hj
    by_cases hl : i < ρ.length
    · rw [List.getElem?_set_self hl] at he
      cases he
    · rw [List.getElem?_eq_none (by simpa using hl)] at he
      cases he
  · rw [List.getElem?_set_ne hj] at he ⊢
    exact h.2 j e he

/-! ### the store changes -/
theorem RpO.mono (k : Keep φ H φ' H') {o : O} {a : Addr} (h : RpO G φ H o a) (ha : H' a = H a) : RpO G φ' H' o a := by
  cases o with
  | lst ds => obtain ⟨vs, h1, h2⟩ := h; exact ⟨vs, ha.trans h1, Rps.mono k _ _ h2⟩
  | dk ds => obtain ⟨vs, h1, h2⟩ := h; exact ⟨vs, ha.trans h1, RpKV.mono k _ _ h2⟩
  | dt ds => obtain ⟨vs, h1, h2⟩ := h; exact ⟨vs, ha.trans h1, RpKV.mono k _ _ h2⟩
  | ins c ds => obtain ⟨C, dx, vs, h0, h1, h2⟩ := h; exact ⟨C, dx, vs, h0, ha.trans h1, RpKV.mono k _ _ h2⟩
/-- a new object that no place knows -/
theorem Ext.fresh (R : Rel G φ H S) {p : Addr} (hp : H p = none) (o : HO) : Ext φ H φ (upd H p o) :=
  ⟨List.prefix_refl _, fun a u h _ => by rw [upd_ne (ne_of_none h hp)]; exact h, fun _ h => .inl h⟩
theorem Rel.fresh (R : Rel G φ H S) {p : Addr} (hp : H p = none) (o : HO) : Rel G φ (upd H p o) S := by
  refine ⟨R.len, R.nd, fun n a u h1 h2 => ?_⟩
  refine RpO.mono ((Ext.fresh R hp o).toKeep R) (R.obj n a u h1 h2) ?_
  obtain ⟨x, hx, _⟩ := R.at (List.mem_of_getElem? h1)
  exact upd_ne (ne_of_none hx hp)
/-- a place more -/
theorem Rel.more (R : Rel G φ H S) {p : Addr} {o : O} (n : p ∉ φ) (h : RpO G φ H o p) : Rel G (φ ++ [p]) H (S ++ [o]) := by
  have k : Keep φ H (φ ++ [p]) H := ⟨fun n a h => by rw [List.getElem?_append_left (List.getElem?_eq_some_iff.mp h).1]; exact h, fun _ _ h => h, fun _ _ _ h => h⟩
  refine ⟨by simp [R.len], ?_, fun m a u h1 h2 => ?_⟩
  · rw [List.nodup_append]
    refine ⟨R.nd, by simp, fun a ha b hb => ?_⟩
    simp at hb
    subst hb
    exact fun z => n (z ▸ ha)
  · by_cases hm : m < φ.length
    · rw [List.getElem?_append_left hm] at h1
      rw [List.getElem?_append_left (by rw [← R.len]; exact hm)] at h2
      exact RpO.mono k (R.obj m a u h1 h2) rfl
    · rw [List.getElem?_append_right (by omega)] at h1
      rw [List.getElem?_append_right (by rw [← R.len]; omega)] at h2
      rw [R.len] at h1
      cases e : m - S.length with
      | zero =>
        rw [e] at h1 h2
        simp at h1 h2
        subst h1; subst h2
        exact RpO.mono k h rfl
      | succ j =>
        rw [e] at h1
        simp at h1
/-- the object at a place is changed -/
theorem keep_write (R : Rel G φ H S) {n : Nat} {p : Addr} {u : HO} (hp : φ[n]? = some p) : Keep φ H φ (upd H p u) := by
  have hm : p ∈ φ := List.mem_of_getElem? hp
  refine ⟨fun _ _ h => h, fun a xs h => ?_, fun a o x h => ?_⟩
  · rw [upd_ne]
    · exact h
    · rintro rfl; exact R.out h rfl hm
  · rw [upd_ne]
    · exact h
    · rintro rfl; exact R.out h rfl hm
theorem Ext.write (R : Rel G φ H S) {n : Nat} {p : Addr} {u : HO} (hp : φ[n]? = some p) : Ext φ H φ (upd H p u) :=
  ⟨List.prefix_refl _, fun a o h hn => by
    rw [upd_ne]
    · exact h
    · rintro rfl; exact hn (List.mem_of_getElem? hp), fun _ h => .inl h⟩
theorem Rel.write (R : Rel G φ H S) {n : Nat} {p : Addr} {u : HO} {o : O} (hp : φ[n]? = some p) (h : RpO G φ (upd H p u) o p) : Rel G φ (upd H p u) (S.set n o) := by
  refine ⟨by rw [List.length_set]; exact R.len, R.nd, fun m a x h1 h2 => ?_⟩
  by_cases hm : n = m
  · subst hm
    rw [hp] at h1; cases h1
    by_cases hl : n < S.length
    · rw [List.getElem?_set_self hl] at h2
      cases h2
      exact h
    · rw [List.getElem?_eq_none (by simpa using hl)] at h2
      cases h2
  · rw [List.getElem?_set_ne hm] at h2
    have ne : a ≠ p := by
      rintro rfl
      have h1' := (List.getElem?_eq_some_iff.mp h1)
      have hp' := (List.getElem?_eq_some_iff.mp hp)
      obtain ⟨l1, e1⟩ := h1'
      obtain ⟨l2, e2⟩ := hp'
      exact hm ((List.getElem_inj R.nd).mp (e2.trans e1.symm))
    exact RpO.mono (keep_write R hp) (R.obj m a x h1 h2) (upd_ne ne)
end
end Mi

/-! Mi, part C: the bridge: what an end must be, and the rules for expressions. -/
namespace Mi
open PySem L2 PyProof.Rows

section
variable (G : Gb)
abbrev Rl (α β : Type) := Hp → List Addr → Hp → α → β → Prop
def RlW : Rl W V := fun H0 φ H w v => RpW G φ H w v ∧ ∀ (ds : List D) (a : Addr), w = W.lis ds → v = V.ref a → H0 a = none
def RlD : Rl D V := fun _ φ H d v => Rp G φ H d v
def RlDs : Rl (List D) (List V) := fun _ φ H d v => Rps G φ H d v
def RlB : Rl Bool Bool := fun _ _ _ a b => a = b
def RlWs : Rl (List W) (List V) := fun H0 φ H ws vs => RpWs G φ H ws vs ∧ ∀ (i : Nat) (ds : List D) (a : Addr), ws[i]? = some (W.lis ds) → vs[i]? = some (V.ref a) → H0 a = none
/-- what holds at every end that the small language tells -/
def Post {α β : Type} (L : Rl α β) (φ : List Addr) (H : Hp) (r : R α) (Wx : XK) (Q : β → Hp → Prop) : Prop := match r with
  | .ok a S' => ∀ b H' φ', Ext φ H φ' H' → Rel G φ' H' S' → L H φ' H' a b → Q b H'
  | .ex c fs S' => ∀ cls dx H' φ', Ext φ H φ' H' → Rel G φ' H' S' → RpX G φ' H' c fs cls dx → Wx cls dx H'
  | .bad => False
/-- the start may be later -/
def Mn {α β : Type} (L : Rl α β) : Prop := ∀ H0 H1 φ H a b, (∀ x, H1 x = none → H0 x = none) → L H1 φ H a b → L H0 φ H a b
end

section
variable {G : Gb} {φ φ1 : List Addr} {H H1 : Hp} {S S1 : Store} {Wx : XK}
theorem mnW : Mn (RlW G) := fun _ _ _ _ _ _ h r => ⟨r.1, fun ds a e1 e2 => h _ (r.2 ds a e1 e2)⟩
theorem mnD : Mn (RlD G) := fun _ _ _ _ _ _ _ r => r
theorem mnDs : Mn (RlDs G) := fun _ _ _ _ _ _ _ r => r
theorem mnB : Mn RlB := fun _ _ _ _ _ _ _ r => r
theorem mnWs : Mn (RlWs G) := fun _ _ _ _ _ _ h r => ⟨r.1, fun i ds a e1 e2 => h _ (r.2 i ds a e1 e2)⟩
variable {α β γ δ : Type} {L : Rl α β} {Lb : Rl γ δ}
theorem Post.mono {r : R α} {Q Q' : β → Hp → Prop} (h : Post G L φ H r Wx Q) (hQ : ∀ b H, Q b H → Q' b H) : Post G L φ H r Wx Q' := by
  cases r with
  | ok a S => exact fun b H' φ' e R l => hQ _ _ (h b H' φ' e R l)
  | ex c fs S => exact h
  | bad => exact h
theorem Post.bd {r : R α} {f : α → Store → R γ} {Q : δ → Hp → Prop} (h : Post G Lb φ H (r.bd f) Wx Q) :
    Post G L φ H r Wx (fun b H1 => ∃ φ1 a S1, r = .ok a S1 ∧ Ext φ H φ1 H1 ∧ Rel G φ1 H1 S1 ∧ L H φ1 H1 a b ∧ Post G Lb φ H (f a S1) Wx Q) := by
  cases r with
  | ok a S => exact fun b H' φ' e R l => ⟨φ', a, S, rfl, e, R, l, h⟩
  | ex c fs S => exact h
  | bad => exact h
theorem Ext.fr (e : Ext φ H φ1 H1) (R : Rel G φ1 H1 S1) : ∀ x, H1 x = none → H x = none := fun x h => by
  cases q : H x with
  | none => rfl
  | some o =>
    by_cases m : x ∈ φ
    · obtain ⟨u, hu, _⟩ := R.at (e.pre.subset m)
      rw [h] at hu; cases hu
    · rw [e.keep x o q m] at h; cases h
theorem Post.sh {r : R α} {Q : β → Hp → Prop} (h : Post G L φ H r Wx Q) (e : Ext φ H φ1 H1) (R : Rel G φ1 H1 S1) (m : Mn L) : Post G L φ1 H1 r Wx Q := by
  cases r with
  | ok a S => exact fun b H' φ' e' R' l => h b H' φ' (e.trans e') R' (m _ _ _ _ _ _ (e.fr R) l)
  | ex c fs S => exact fun cls dx H' φ' e' R' x => h cls dx H' φ' (e.trans e') R' x
  | bad => exact h
theorem Post.ok {a : α} {Q : β → Hp → Prop} {b : β} {H' : Hp} {φ' : List Addr} {S' : Store} (h : Post G L φ H (.ok a S') Wx Q) (e : Ext φ H φ' H') (R : Rel G φ' H' S') (l : L H φ' H' a b) : Q b H' := h b H' φ' e R l
end

abbrev AX (α : Type) := Env → Store → R α
section
variable (G : Gb) (Wx : WX)
/-- the state is told by the small language's -/
def tI {α β : Type} (L : Rl α β) (A : AX α) : L2.St → Hp → (β → Hp → Prop) → Prop := fun σ H Q => ∃ φ ρ S, Rel G φ H S ∧ Sl G φ H ρ σ ∧ Post G L φ H (A ρ S) (fun c d H' => Wx c d σ H') Q
abbrev tK (A : AX W) : TE := tI G Wx (RlW G) A
abbrev tD (A : AX D) : TE := tI G Wx (RlD G) A
abbrev tBo (A : AX Bool) : TT := tI G Wx RlB A
abbrev tDs (A : AX (List D)) : TA := tI G Wx (RlDs G) A
abbrev tWs (A : AX (List W)) : TA := tI G Wx (RlWs G) A
end

section
variable {X : Cx} {e : Expr} {t t' : TE}
theorem _root_.L2.PE.im (h : PE X e t) (hi : ∀ σ H Q, t' σ H Q → t σ H Q) : PE X e t' := ⟨fun pins s σ H Q I q => h.run pins s σ H Q I (hi _ _ _ q)⟩
theorem _root_.L2.PT.im {t t' : TT} (h : PT X e t) (hi : ∀ σ H Q, t' σ H Q → t σ H Q) : PT X e t' := ⟨fun pins s σ H Q I q => h.run pins s σ H Q I (hi _ _ _ q)⟩
theorem _root_.L2.PW.im {t t' : TT} (h : L2.PW X e t) (hi : ∀ σ H Q, t' σ H Q → t σ H Q) : L2.PW X e t' := ⟨fun wh pins s σ H Q I q => h.run wh pins s σ H Q I (hi _ _ _ q)⟩
theorem _root_.L2.PA.im {es : List Expr} {t t' : TA} (h : PA X es t) (hi : ∀ σ H Q, t' σ H Q → t σ H Q) : PA X es t' := ⟨fun pos pins s σ H Q I q => h.run pos pins s σ H Q I (hi _ _ _ q)⟩
end

section
variable {G : Gb} {Wx : WX} {X : Cx} {a b c e : Expr} {A B C : AX W} {pos : Pos} {α β γ δ : Type}
/-- one after the other: at the point behind the first -/
theorem tI.bd {L : Rl α β} {Lb : Rl γ δ} {A : AX α} {F : α → AX γ} {σ : L2.St} {H : Hp} {Q : δ → Hp → Prop} {Q' : β → Hp → Prop}
    (h : tI G Wx Lb (fun ρ S => (A ρ S).bd fun x S => F x ρ S) σ H Q)
    (k : ∀ φ ρ S b φ1 H1 x S1, Rel G φ H S → Sl G φ H ρ σ → Ext φ H φ1 H1 → Rel G φ1 H1 S1 → L H φ1 H1 x b → Post G Lb φ H (F x ρ S1) (fun c d H' => Wx c d σ H') Q → Q' b H1) : tI G Wx L A σ H Q' := by
  obtain ⟨φ, ρ, S, R, sl, h⟩ := h
  exact ⟨φ, ρ, S, R, sl, (Post.bd h).mono fun b H1 ⟨φ1, x, S1, _, e, R1, l, h1⟩ => k φ ρ S b φ1 H1 x S1 R sl e R1 l h1⟩
theorem tI.go {L : Rl α β} {A : AX α} {σ : L2.St} {H H1 : Hp} {Q : β → Hp → Prop} {φ φ1 : List Addr} {ρ : Env} {S S1 : Store} (R : Rel G φ H S) (sl : Sl G φ H ρ σ) (e : Ext φ H φ1 H1) (R1 : Rel G φ1 H1 S1) (m : Mn L)
    (h : Post G L φ H (A ρ S1) (fun c d H' => Wx c d σ H') Q) : tI G Wx L A σ H1 Q := ⟨φ1, ρ, S1, R1, sl.mono (e.toKeep R), h.sh e R1 m⟩

/-! ### values get a place; tests -/
theorem toD_post {w : W} {v : V} {φ φ1 : List Addr} {H H1 : Hp} {S1 : Store} {xk : XK} {Q : V → Hp → Prop} (e : Ext φ H φ1 H1) (R1 : Rel G φ1 H1 S1) (l : RlW G H φ1 H1 w v) (h : Post G (RlD G) φ H (toD w S1) xk Q) : Q v H1 := by
  cases w with
  | val d => exact h.ok e R1 l.1
  | lis ds =>
    obtain ⟨⟨p, vs, rfl, hp, n, r⟩, f⟩ := l
    have f := f ds p rfl rfl
    have R2 : Rel G (φ1 ++ [p]) H1 (S1 ++ [.lst ds]) := R1.more n ⟨vs, hp, r⟩
    refine h.ok (φ' := φ1 ++ [p]) ⟨e.pre.trans (List.prefix_append _ _), e.keep, fun x hx => ?_⟩ R2 ?_
    · rcases List.mem_append.mp hx with q | q
      · exact e.new x q
      · simp at q; subst q; exact .inr f
    · show Rp G _ _ (.ref S1.length) _
      unfold Rp
      exact ⟨p, rfl, by rw [← R1.len]; simp⟩
theorem k_D (h : PE X e (tK G Wx A)) : PE X e (tD G Wx fun ρ S => (A ρ S).bd toD) := h.im fun σ H Q q => tI.bd (F := fun w _ S => toD w S) q fun φ ρ S b φ1 H1 x S1 R sl e R1 l h => toD_post e R1 l h
theorem toB_post {w : W} {v : V} {φ φ1 : List Addr} {H H1 : Hp} {S1 : Store} {xk : XK} {Q : Bool → Hp → Prop} (e : Ext φ H φ1 H1) (R1 : Rel G φ1 H1 S1) (l : RlW G H φ1 H1 w v) (h : Post G RlB φ H (toB w S1) xk Q) : ∃ k, v = .bl k ∧ Q k H1 := by
  cases w with
  | lis ds => exact h.elim
  | val d =>
    cases d with
    | bl k => exact ⟨k, by have q := l.1; unfold RpW Rp at q; exact q, h.ok e R1 rfl⟩
    | _ => exact h.elim
theorem k_B (h : PE X e (tK G Wx A)) (he : ∀ whole, isTrue e X.env whole = (do let v ← whole; standAt e.pos; holding [v] (truthy v)) := by intro _; rfl) : PT X e (tBo G Wx fun ρ S => (A ρ S).bd toB) :=
  (pt_val h he).im fun σ H Q q => tI.bd (F := fun w _ S => toB w S) q fun φ ρ S b φ1 H1 x S1 R sl e R1 l h => toB_post e R1 l h
theorem k_Bcmp {r : R2} {op : CmpOp} {ta tb : TE} (ho : OpR X (compareOp op) r) (ha : PE X a ta) (hb : PE X b tb) (hm : behindInMarks op b = false) (hi : ∀ σ H Q, tK G Wx A σ H Q → tOp r ta tb σ H Q) : PT X (.Compare a [op] [b] pos) (tBo G Wx fun ρ S => (A ρ S).bd toB) :=
  (pt_cmpR ho ha hb hm).im fun σ H Q q => hi _ _ _ (tI.bd (F := fun w _ S => toB w S) q fun φ ρ S b φ1 H1 x S1 R sl e R1 l h => toB_post e R1 l h)

/-! ### constants, names -/
theorem rl_val {φ1 : List Addr} {H H1 : Hp} {d : D} {v : V} (h : Rp G φ1 H1 d v) : RlW G H φ1 H1 (.val d) v := ⟨h, fun _ _ e => nomatch e⟩
theorem k_const {d : D} {v : V} (h : PE X e (tC v)) (hd : ∀ φ H, Rp G φ H d v) : PE X e (tK G Wx fun _ S => vv d S) := h.im fun σ H Q ⟨φ, ρ, S, R, sl, q⟩ => q.ok (Ext.refl _ _) R (rl_val (hd _ _))
theorem k_var {i : Nat} {x : Str} (hN : X.N[i]? = some x) (hv : Vis X.env.scope x) (hd : (x == ("__debug__" : Str)) = false) (hcd : (x == ("__classdict__" : Str)) = false) :
    PE X (.Name x pos) (tK G Wx fun ρ S => match ρ[i]? with | some (some d) => vv d S | _ => .bad) := (pe_var hN hv hd hcd).im fun σ H Q ⟨φ, ρ, S, R, sl, q⟩ => by
  dsimp only at q
  cases h : ρ[i]? with
  | none => rw [h] at q; exact q.elim
  | some o =>
    cases o with
    | none => rw [h] at q; exact q.elim
    | some d =>
      rw [h] at q
      obtain ⟨v, h1, h2⟩ := sl.2 i d h
      exact ⟨v, h1, q.ok (Ext.refl _ _) R (rl_val h2)⟩

/-- the next part, from the place behind the one ahead -/
theorem tI.next {L : Rl α β} {Lb : Rl γ δ} {A : AX α} {F : α → Store → R γ} {σ : L2.St} {H H1 : Hp} {Q : δ → Hp → Prop} {Q' : β → Hp → Prop} {φ φ1 : List Addr} {ρ : Env} {S S1 : Store} (R : Rel G φ H S) (sl : Sl G φ H ρ σ) (e : Ext φ H φ1 H1) (R1 : Rel G φ1 H1 S1)
    (h : Post G Lb φ H ((A ρ S1).bd F) (fun c d H' => Wx c d σ H') Q)
    (k : ∀ b H2 φ2 x S2, Ext φ1 H1 φ2 H2 → Rel G φ2 H2 S2 → L H1 φ2 H2 x b → Post G Lb φ H (F x S2) (fun c d H' => Wx c d σ H') Q → Q' b H2) : tI G Wx L A σ H1 Q' := by
  refine ⟨φ1, ρ, S1, R1, sl.mono (e.toKeep R), ?_⟩
  cases q : A ρ S1 with
  | ok x S2 => exact fun b H2 φ2 e2 R2 l => k b H2 φ2 x S2 e2 R2 l (by rw [q] at h; exact h)
  | ex c fs S2 =>
    rw [q] at h
    exact fun cls dx H2 φ2 e2 R2 x => h cls dx H2 φ2 (e.trans e2) R2 x
  | bad =>
    rw [q] at h
    exact h
/-! ### operations by values -/
/-- what an operation of values is asked, at the place now -/
def rP2 (G : Gb) (o : W → W → Store → R W) : R2 := fun x y H Q => ∃ φ w1 w2 S xk, Rel G φ H S ∧ RpW G φ H w1 x ∧ RpW G φ H w2 y ∧ Post G (RlW G) φ H (o w1 w2 S) xk Q
def rP1 (G : Gb) (o : W → Store → R W) : V → Hp → VK → Prop := fun x H Q => ∃ φ w1 S xk, Rel G φ H S ∧ RpW G φ H w1 x ∧ Post G (RlW G) φ H (o w1 S) xk Q
theorem p2_im {o : W → W → Store → R W} {σ : L2.St} {H : Hp} {Q : VK} (q : tK G Wx (fun ρ S => (A ρ S).bd fun x S => (B ρ S).bd fun y S => o x y S) σ H Q) : tOp (rP2 G o) (tK G Wx A) (tK G Wx B) σ H Q := by
  refine tI.bd (F := fun x ρ S => (B ρ S).bd fun y S => o x y S) q fun φ ρ S v φ1 H1 x S1 R sl e R1 l h => ?_
  refine tI.next R sl e R1 h fun u H2 φ2 y S2 e2 R2 l2 h2 => ?_
  exact ⟨φ2, x, y, S2, _, R2, RpW.mono e2 R1 l.1, l2.1, h2.sh (e.trans e2) R2 mnW⟩
theorem p1_im {o : W → Store → R W} {σ : L2.St} {H : Hp} {Q : VK} (q : tK G Wx (fun ρ S => (A ρ S).bd fun x S => o x S) σ H Q) : tUn (rP1 G o) (tK G Wx A) σ H Q :=
  tI.bd (F := fun x _ S => o x S) q fun φ ρ S v φ1 H1 x S1 R sl e R1 l h => ⟨φ1, x, S1, _, R1, l.1, h.sh e R1 mnW⟩
theorem k_bin {o : W → W → Store → R W} {op : Operator} (ho : OpR X (binaryOp op) (rP2 G o)) (ha : PE X a (tK G Wx A)) (hb : PE X b (tK G Wx B)) : PE X (.BinOp a op b pos) (tK G Wx fun ρ S => (A ρ S).bd fun x S => (B ρ S).bd fun y S => o x y S) := (pe_op ho ha hb).im fun _ _ _ q => p2_im q
theorem k_cmp {o : W → W → Store → R W} {op : CmpOp} (ho : OpR X (compareOp op) (rP2 G o)) (ha : PE X a (tK G Wx A)) (hb : PE X b (tK G Wx B)) (hm : behindInMarks op b = false) : PE X (.Compare a [op] [b] pos) (tK G Wx fun ρ S => (A ρ S).bd fun x S => (B ρ S).bd fun y S => o x y S) := (pe_cmpR ho ha hb hm).im fun _ _ _ q => p2_im q
theorem k_cmpB {o : W → W → Store → R W} {op : CmpOp} (ho : OpR X (compareOp op) (rP2 G o)) (ha : PE X a (tK G Wx A)) (hb : PE X b (tK G Wx B)) (hm : behindInMarks op b = false) :
    PT X (.Compare a [op] [b] pos) (tBo G Wx fun ρ S => ((A ρ S).bd fun x S => (B ρ S).bd fun y S => o x y S).bd toB) := k_Bcmp ho ha hb hm fun _ _ _ q => p2_im q
theorem k_neg {o : W → Store → R W} {op : UnaryOp} (ho : UnR X (unaryOp op) (rP1 G o)) (ha : PE X a (tK G Wx A)) : PE X (.UnaryOp op a pos) (tK G Wx fun ρ S => (A ρ S).bd fun x S => o x S) := (pe_un ho ha).im fun _ _ _ q => p1_im q
theorem k_ix {o : W → W → Store → R W} (ho : IxR X (rP2 G o)) (ha : PE X a (tK G Wx A)) (hb : PE X b (tK G Wx B)) (hs : PlainIx b) : PE X (.Subscript a b pos) (tK G Wx fun ρ S => (A ρ S).bd fun x S => (B ρ S).bd fun y S => o x y S) := (pe_ix ho ha hb hs).im fun _ _ _ q => p2_im q

/-! ### tests -/
theorem bd_bd {r : R α} {f : α → Store → R β} {g : β → Store → R γ} : (r.bd f).bd g = r.bd fun a S => (f a S).bd g := by cases r <;> rfl
variable {TA TB : AX Bool}
theorem k_not (ha : PT X a (tBo G Wx TA)) : PT X (.UnaryOp .Not a pos) (tBo G Wx fun ρ S => (TA ρ S).bd fun k S => .ok (!k) S) := (pt_not ha).im fun σ H Q q =>
  tI.bd (F := fun k _ S => .ok (!k) S) q fun φ ρ S b φ1 H1 x S1 R sl e R1 l h => by
    have l' : x = b := l
    subst l'
    exact h.ok e R1 rfl
theorem k_and1 (ha : PT X a (tBo G Wx TA)) : L2.PW X (.BoolOp .And [a] pos) (tBo G Wx TA) := pw_and1 ha
theorem k_or1 (ha : PT X a (tBo G Wx TA)) : L2.PW X (.BoolOp .Or [a] pos) (tBo G Wx TA) := pw_or1 ha
variable {rest : List Expr}
theorem k_and (ha : PT X a (tBo G Wx TA)) (hb : L2.PW X (.BoolOp .And (b :: rest) pos) (tBo G Wx TB)) : L2.PW X (.BoolOp .And (a :: b :: rest) pos) (tBo G Wx fun ρ S => (TA ρ S).bd fun k S => if k = true then TB ρ S else .ok false S) :=
  (pw_and ha hb).im fun σ H Q q => tI.bd (F := fun k ρ S => if k = true then TB ρ S else .ok false S) q fun φ ρ S b φ1 H1 x S1 R sl e R1 l h => by
    have l' : x = b := l
    subst l'
    cases x with
    | true => exact (if_pos rfl).mpr (tI.go R sl e R1 mnB h)
    | false => exact (if_neg Bool.false_ne_true).mpr (h.ok e R1 rfl)
theorem k_or (ha : PT X a (tBo G Wx TA)) (hb : L2.PW X (.BoolOp .Or (b :: rest) pos) (tBo G Wx TB)) : L2.PW X (.BoolOp .Or (a :: b :: rest) pos) (tBo G Wx fun ρ S => (TA ρ S).bd fun k S => if k = true then .ok true S else TB ρ S) :=
  (pw_or ha hb).im fun σ H Q q => tI.bd (F := fun k ρ S => if k = true then .ok true S else TB ρ S) q fun φ ρ S b φ1 H1 x S1 R sl e R1 l h => by
    have l' : x = b := l
    subst l'
    cases x with
    | true => exact (if_pos rfl).mpr (h.ok e R1 rfl)
    | false => exact (if_neg Bool.false_ne_true).mpr (tI.go R sl e R1 mnB h)
/-- as values -/
theorem bl_of {φ φ1 : List Addr} {H H1 : Hp} {w : W} {v : V} {S1 : Store} {xk : XK} {F : Bool → Store → R γ} {Lb : Rl γ δ} {Q : δ → Hp → Prop} (l : RlW G H φ1 H1 w v) (h : Post G Lb φ H ((toB w S1).bd F) xk Q) : ∃ k, w = .val (.bl k) ∧ v = .bl k := by
  cases w with
  | lis ds => exact h.elim
  | val d =>
    cases d with
    | bl k => exact ⟨k, rfl, by have q := l.1; unfold RpW Rp at q; exact q⟩
    | _ => exact h.elim
theorem kv_not (ha : PE X a (tK G Wx A)) : PE X (.UnaryOp .Not a pos) (tK G Wx fun ρ S => ((A ρ S).bd toB).bd fun k S => vv (.bl (!k)) S) := (pe_not ha).im fun σ H Q q => by
  simp only [bd_bd] at q
  refine tI.bd (F := fun w _ S => (toB w S).bd fun k S => vv (.bl (!k)) S) q fun φ ρ S b φ1 H1 x S1 R sl e R1 l h => ?_
  obtain ⟨k, rfl, rfl⟩ := bl_of l h
  exact ⟨k, rfl, h.ok e R1 (rl_val (by unfold Rp; rfl))⟩
theorem kv_and (ha : PE X a (tK G Wx A)) (hb : PE X (.BoolOp .And (b :: rest) pos) (tK G Wx B)) : PE X (.BoolOp .And (a :: b :: rest) pos) (tK G Wx fun ρ S => ((A ρ S).bd toB).bd fun k S => if k = true then B ρ S else vv (.bl false) S) :=
  (pe_and ha hb).im fun σ H Q q => by
  simp only [bd_bd] at q
  refine tI.bd (F := fun w ρ S => (toB w S).bd fun k S => if k = true then B ρ S else vv (.bl false) S) q fun φ ρ S b φ1 H1 x S1 R sl e R1 l h => ?_
  obtain ⟨k, rfl, rfl⟩ := bl_of l h
  refine ⟨k, rfl, ?_⟩
  cases k with
  | true => exact (if_pos rfl).mpr (tI.go R sl e R1 mnW h)
  | false => exact (if_neg Bool.false_ne_true).mpr (h.ok e R1 (rl_val (by unfold Rp; rfl)))
theorem kv_or (ha : PE X a (tK G Wx A)) (hb : PE X (.BoolOp .Or (b :: rest) pos) (tK G Wx B)) : PE X (.BoolOp .Or (a :: b :: rest) pos) (tK G Wx fun ρ S => ((A ρ S).bd toB).bd fun k S => if k = true then vv (.bl true) S else B ρ S) :=
  (pe_or ha hb).im fun σ H Q q => by
  simp only [bd_bd] at q
  refine tI.bd (F := fun w ρ S => (toB w S).bd fun k S => if k = true then vv (.bl true) S else B ρ S) q fun φ ρ S b φ1 H1 x S1 R sl e R1 l h => ?_
  obtain ⟨k, rfl, rfl⟩ := bl_of l h
  refine ⟨k, rfl, ?_⟩
  cases k with
  | true => exact (if_pos rfl).mpr (h.ok e R1 (rl_val (by unfold Rp; rfl)))
  | false => exact (if_neg Bool.false_ne_true).mpr (tI.go R sl e R1 mnW h)
theorem k_ite (hc : PT X c (tBo G Wx TA)) (ha : PE X a (tK G Wx A)) (hb : PE X b (tK G Wx B)) : PE X (.IfExp c a b pos) (tK G Wx fun ρ S => (TA ρ S).bd fun k S => if k = true then A ρ S else B ρ S) :=
  (pe_ifExp hc ha hb).im fun σ H Q q => tI.bd (F := fun k ρ S => if k = true then A ρ S else B ρ S) q fun φ ρ S b φ1 H1 x S1 R sl e R1 l h => by
    have l' : x = b := l
    subst l'
    cases x with
    | true => exact (if_pos rfl).mpr (tI.go R sl e R1 mnW h)
    | false => exact (if_neg Bool.false_ne_true).mpr (tI.go R sl e R1 mnW h)
/-- a op b op' c -/
theorem ch_im {o o' : W → W → Store → R W} {σ : L2.St} {H : Hp} {Q : VK} (q : tK G Wx (fun ρ S => (A ρ S).bd fun x S => (B ρ S).bd fun y S => ((o x y S).bd toB).bd fun k S => if k = true then (C ρ S).bd fun z S => o' y z S else vv (.bl false) S) σ H Q) :
    tChain (rP2 G o) (rP2 G o') (tK G Wx A) (tK G Wx B) (tK G Wx C) σ H Q := by
  refine tI.bd (F := fun x ρ S => (B ρ S).bd fun y S => ((o x y S).bd toB).bd fun k S => if k = true then (C ρ S).bd fun z S => o' y z S else vv (.bl false) S) q fun φ ρ S v φ1 H1 x S1 R sl e R1 l h => ?_
  refine tI.next R sl e R1 h fun u H2 φ2 y S2 e2 R2 l2 h2 => ?_
  have h2 := h2.sh (e.trans e2) R2 mnW
  have e12 := e.trans e2
  simp only [bd_bd] at h2
  refine ⟨φ2, x, y, S2, _, R2, RpW.mono e2 R1 l.1, l2.1, (Post.bd h2).mono fun z H3 hz => ?_⟩
  obtain ⟨φ3, w, S3, _, e3, R3, l3, h3⟩ := hz
  obtain ⟨k, rfl, rfl⟩ := bl_of l3 h3
  refine ⟨k, rfl, ?_⟩
  have h3 : Post G (RlW G) φ2 H2 (if k = true then (C ρ S3).bd fun z S => o' y z S else vv (.bl false) S3) _ Q := h3
  cases k with
  | false => exact (if_neg Bool.false_ne_true).mpr (h3.ok e3 R3 (rl_val (by unfold Rp; rfl)))
  | true =>
    refine (if_pos rfl).mpr (tI.next R2 (sl.mono (e12.toKeep R)) e3 R3 h3 fun z' H4 φ4 z4 S4 e4 R4 l4 h4 => ?_)
    exact ⟨φ4, y, z4, S4, _, R4, RpW.mono (e3.trans e4) R2 l2.1, l4.1, h4.sh (e3.trans e4) R4 mnW⟩
theorem k_ch {o o' : W → W → Store → R W} {op op' : CmpOp} (ho : OpR X (compareOp op) (rP2 G o)) (ho' : OpR X (compareOp op') (rP2 G o')) (ha : PE X a (tK G Wx A)) (hb : PE X b (tK G Wx B)) (hc : PE X c (tK G Wx C)) (hm : lastMarks [op, op'] [b, c] = false) :
    PE X (.Compare a [op, op'] [b, c] pos) (tK G Wx fun ρ S => (A ρ S).bd fun x S => (B ρ S).bd fun y S => ((o x y S).bd toB).bd fun k S => if k = true then (C ρ S).bd fun z S => o' y z S else vv (.bl false) S) := (pe_chain ho ho' ha hb hc hm).im fun _ _ _ q => ch_im q
theorem k_chB {o o' : W → W → Store → R W} {op op' : CmpOp} (ho : OpR X (compareOp op) (rP2 G o)) (ho' : OpR X (compareOp op') (rP2 G o')) (ha : PE X a (tK G Wx A)) (hb : PE X b (tK G Wx B)) (hc : PE X c (tK G Wx C)) (hm : lastMarks [op, op'] [b, c] = false) :
    PT X (.Compare a [op, op'] [b, c] pos) (tBo G Wx fun ρ S => ((A ρ S).bd fun x S => (B ρ S).bd fun y S => ((o x y S).bd toB).bd fun k S => if k = true then (C ρ S).bd fun z S => o' y z S else vv (.bl false) S).bd toB) :=
  (pt_chain ho ho' ha hb hc hm).im fun σ H Q q => ch_im (tI.bd (F := fun w _ S => toB w S) q fun φ ρ S b φ1 H1 x S1 R sl e R1 l h => toB_post e R1 l h)

/-! ### arguments, tuples, lists -/
variable {es : List Expr} {As : AX (List D)} {AD : AX D}
theorem ka_nil : PA X [] (tDs G Wx fun _ S => .ok [] S) := pa_nil.im fun σ H Q ⟨φ, ρ, S, R, sl, q⟩ => q.ok (Ext.refl _ _) R (by show Rps G φ H [] []; unfold Rps; rfl)
theorem ka_cons (ha : PE X e (tD G Wx AD)) (hr : PA X es (tDs G Wx As)) (hs : starEach (e :: es) X.env = (false, eval e X.env) :: starEach es X.env) : PA X (e :: es) (tDs G Wx fun ρ S => (AD ρ S).bd fun d S => (As ρ S).bd fun ds S => .ok (d :: ds) S) :=
  (pa_cons ha hr hs).im fun σ H Q q => tI.bd (F := fun d ρ S => (As ρ S).bd fun ds S => .ok (d :: ds) S) q fun φ ρ S v φ1 H1 x S1 R sl e R1 l h => by
    refine tI.next R sl e R1 h fun us H2 φ2 ds S2 e2 R2 l2 h2 => ?_
    refine h2.ok (e.trans e2) R2 ?_
    show Rps G φ2 H2 (x :: ds) (v :: us)
    unfold Rps
    exact ⟨v, us, rfl, Rp.mono (e2.toKeep R1) _ _ l, l2⟩
theorem Rps.len {φ : List Addr} {H : Hp} : ∀ {ds : List D} {vs : List V}, Rps G φ H ds vs → ds.length = vs.length
  | [], _, h => by unfold Rps at h; subst h; rfl
  | d :: ds, _, h => by
    unfold Rps at h
    obtain ⟨v, r, rfl, _, h2⟩ := h
    rw [List.length_cons, List.length_cons, Rps.len h2]
theorem k_tup {x1} (h : PA X es (tDs G Wx As)) : PE X (.Tuple es x1 pos) (tK G Wx fun ρ S => (As ρ S).bd fun ds S => if ds.length ≤ sizeLine then vv (.tup ds) S else .bad) :=
  (pe_tup h).im fun σ H Q q => tI.bd (F := fun ds _ S => if ds.length ≤ sizeLine then vv (.tup ds) S else .bad) q fun φ ρ S vs φ1 H1 ds S1 R sl e R1 l h => by
    have l : Rps G φ1 H1 ds vs := l
    have hz := l.len
    by_cases c : ds.length ≤ sizeLine
    · rw [if_pos c] at h
      refine ⟨by rw [← hz]; exact c, fun p hp => ?_⟩
      have E := Ext.fresh R1 hp (.tup vs)
      refine h.ok (e.trans E) (R1.fresh hp _) (rl_val ?_)
      unfold Rp
      exact ⟨p, vs, rfl, upd_same, Rps.mono (E.toKeep R1) _ _ l⟩
    · rw [if_neg c] at h
      exact h.elim
theorem k_disp (h : PA X es (tDs G Wx As)) : PE X (.List es pos) (tK G Wx fun ρ S => (As ρ S).bd fun ds S => if ds.length ≤ sizeLine then .ok (.lis ds) S else .bad) :=
  (pe_lst h).im fun σ H Q q => tI.bd (F := fun ds _ S => if ds.length ≤ sizeLine then R.ok (W.lis ds) S else R.bad) q fun φ ρ S vs φ1 H1 ds S1 R sl e R1 l h => by
    have l : Rps G φ1 H1 ds vs := l
    have hz := l.len
    by_cases c : ds.length ≤ sizeLine
    · rw [if_pos c] at h
      refine ⟨by rw [← hz]; exact c, fun p hp => ?_⟩
      have E := Ext.fresh R1 hp (.lst vs)
      exact h.ok (e.trans E) (R1.fresh hp _) ⟨⟨p, vs, rfl, upd_same, R1.unk hp, Rps.mono (E.toKeep R1) _ _ l⟩, fun ds a e1 e2 => by cases e2; exact e.fr R1 _ hp⟩
    · rw [if_neg c] at h
      exact h.elim
end
end Mi

/-! Mi, part D: what is walked, targets, comprehensions. -/
namespace Mi
open PySem L2 PyProof.Rows RT RZ

section
variable (G : Gb)
/-- an iterator that gives these items while the lists stay -/
def ItOk (J : It) (φ0 : List Addr) (H0 : Hp) (I : Its) : Prop := ∀ (i : Nat) (φ : List Addr) (H : Hp) (S : Store), Ext φ0 H0 φ H → Rel G φ H S → isLive I.live S →
  (∀ d, I.items[i]? = some d → J.go i H ∧ ∀ x H3, J.yld i H x H3 → Ext φ H φ H3 ∧ Rel G φ H3 S ∧ Rp G φ H3 d x) ∧ (I.items.length ≤ i → J.stop i H)
def RlI : Rl Its It := fun _ φ H I J => ItOk G J φ H I
abbrev tIts (Wx : WX) (A : AX Its) : TI := tI G Wx (RlI G) A
end
noncomputable def itsA (k : IK) (ws : List W) (S : Store) : R Its := match its k ws S with
  | some I => .ok I S
  | none => .bad

section
variable {G : Gb} {Wx : WX} {X : Cx} {tg e e2 : Expr} {A B : AX W} {pos p : Pos}
theorem Rps.get {φ : List Addr} {H : Hp} : ∀ {ds : List D} {vs : List V} {i : Nat} {d : D}, Rps G φ H ds vs → ds[i]? = some d → ∃ v, vs[i]? = some v ∧ Rp G φ H d v
  | [], _, _, _, _, e => by simp at e
  | d :: ds, _, 0, _, h, e => by
    unfold Rps at h
    obtain ⟨v, r, rfl, h1, h2⟩ := h
    simp at e
    subst e
    exact ⟨v, rfl, h1⟩
  | d :: ds, _, i + 1, _, h, e => by
    unfold Rps at h
    obtain ⟨v, r, rfl, h1, h2⟩ := h
    simp at e
    obtain ⟨w, h3, h4⟩ := Rps.get h2 e
    exact ⟨w, by simpa using h3, h4⟩
/-- what a sequence's items are -/
theorem seq_rp {φ : List Addr} {H : Hp} {S : Store} {w : W} {v : V} {b : Bool} {ds : List D} (R : Rel G φ H S) (r : RpW G φ H w v) (h : w.seq S = some (b, ds)) :
    ∃ a vs, v = .ref a ∧ (if b = true then SqT G.K H a vs else SqL G.K H a vs) ∧ Rps G φ H ds vs := by
  cases w with
  | lis es =>
    have h : some (false, es) = some (b, ds) := h
    cases h
    obtain ⟨a, vs, e, h1, _, h2⟩ := r
    exact ⟨a, vs, e, (if_neg Bool.false_ne_true).mpr (SqL.of h1), h2⟩
  | val d =>
    cases d with
    | tup es =>
      have h : some (true, es) = some (b, ds) := h
      cases h
      unfold RpW Rp at r
      obtain ⟨a, vs, e, h1, h2⟩ := r
      exact ⟨a, vs, e, (if_pos rfl).mpr h1.sq, h2⟩
    | ls es =>
      have h : some (false, es) = some (b, ds) := h
      cases h
      unfold RpW Rp at r
      obtain ⟨a, vs, e, h1, h2⟩ := r
      exact ⟨a, vs, e, (if_neg Bool.false_ne_true).mpr h1.sq, h2⟩
    | kt es =>
      have h : some (true, es) = some (b, ds) := h
      cases h
      unfold RpW Rp at r
      obtain ⟨a, vs, e, h1, h2⟩ := r
      exact ⟨a, vs, e, (if_pos rfl).mpr h1.sq, h2⟩
    | ref n =>
      unfold RpW Rp at r
      obtain ⟨a, e, h1⟩ := r
      unfold W.seq at h
      cases hs : S[n]? with
      | none => simp only [hs] at h; cases h
      | some o =>
        cases o with
        | lst es =>
          simp only [hs] at h
          cases h
          obtain ⟨vs, h2, h3⟩ := R.obj n a _ h1 hs
          exact ⟨a, vs, e, (if_neg Bool.false_ne_true).mpr (SqL.of h2), h3⟩
        | _ => simp only [hs] at h; cases h
    | _ => cases h
/-- a sequence that is walked stays -/
theorem seq_stay {φ φ1 : List Addr} {H H1 : Hp} {S S1 : Store} {w : W} {v : V} {b : Bool} {ds : List D} (R : Rel G φ H S) (r : RpW G φ H w v) (h : w.seq S = some (b, ds)) (e : Ext φ H φ1 H1) (R1 : Rel G φ1 H1 S1) (l : isLive (live1 w ds) S1) :
    w.seq S1 = some (b, ds) := by
  cases w with
  | lis es => exact h
  | val d =>
    cases d with
    | ref n =>
      have q : S1[n]? = some (.lst ds) := l (n, ds) (by show (n, ds) ∈ [(n, ds)]; simp)
      unfold W.seq at h ⊢
      cases hs : S[n]? with
      | none => simp only [hs] at h; cases h
      | some o =>
        cases o with
        | lst es => simp only [hs] at h; cases h; simp only [q]
        | _ => simp only [hs] at h; cases h
    | _ => exact h
theorem sq_uniq {α : Type} {a b : α} {c : Prop} [Decidable c] {P Q : Prop} (h : if c then P else Q) (hc : c) : P := by rw [if_pos hc] at h; exact h
theorem ifF {P Q : Prop} (h : if (false : Bool) = true then P else Q) : Q := by rw [if_neg Bool.false_ne_true] at h; exact h
theorem ifT {P Q : Prop} (h : if (true : Bool) = true then P else Q) : P := by rw [if_pos rfl] at h; exact h
/-- over a list -/
theorem it_list {φ0 : List Addr} {H0 : Hp} {S0 : Store} {w : W} {a : Addr} {ds : List D} (R : Rel G φ0 H0 S0) (r : RpW G φ0 H0 w (.ref a)) (h : w.seq S0 = some (false, ds)) : ItOk G (Itl G.K a) φ0 H0 ⟨ds, live1 w ds⟩ := by
  intro i φ H S e R1 l
  have r1 := RpW.mono e R r
  obtain ⟨a', vs, ea, hq, hr⟩ := seq_rp R1 r1 (seq_stay R r h e R1 l)
  cases ea
  have hq := ifF hq
  refine ⟨fun d hd => ?_, fun hi => ⟨vs, hq, by rw [← hr.len]; exact hi⟩⟩
  obtain ⟨v, hv, rv⟩ := hr.get hd
  refine ⟨⟨vs, v, hq, hv⟩, fun x H3 y => ?_⟩
  obtain ⟨e3, y⟩ := y
  subst e3
  have q := y vs hq
  rw [hv] at q
  cases q
  exact ⟨Ext.refl _ _, R1, rv⟩
theorem it_tup {φ0 : List Addr} {H0 : Hp} {S0 : Store} {w : W} {a : Addr} {ds : List D} (R : Rel G φ0 H0 S0) (r : RpW G φ0 H0 w (.ref a)) (h : w.seq S0 = some (true, ds)) : ItOk G (Itt G.K a) φ0 H0 ⟨ds, live1 w ds⟩ := by
  intro i φ H S e R1 l
  have r1 := RpW.mono e R r
  obtain ⟨a', vs, ea, hq, hr⟩ := seq_rp R1 r1 (seq_stay R r h e R1 l)
  cases ea
  have hq := ifT hq
  refine ⟨fun d hd => ?_, fun hi => ⟨vs, hq, by rw [← hr.len]; exact hi⟩⟩
  obtain ⟨v, hv, rv⟩ := hr.get hd
  refine ⟨⟨vs, v, hq, hv⟩, fun x H3 y => ?_⟩
  obtain ⟨e3, y⟩ := y
  subst e3
  have q := y vs hq
  rw [hv] at q
  cases q
  exact ⟨Ext.refl _ _, R1, rv⟩
theorem it_str {φ0 : List Addr} {H0 : Hp} {z : Str} : ItOk G (L2.Its z) φ0 H0 ⟨z.cps.toList.map fun c => .str ⟨#[c]⟩, []⟩ := by
  intro i φ H S e R1 l
  refine ⟨fun d hd => ?_, fun hi => by show z.cps.size ≤ i; simpa using hi⟩
  simp only [List.getElem?_map, Option.map_eq_some_iff] at hd
  obtain ⟨c, hc, rfl⟩ := hd
  have hc' : z.cps[i]? = some c := by simpa using hc
  refine ⟨(Array.getElem?_eq_some_iff.mp hc').1, fun x H3 y => ?_⟩
  obtain ⟨e3, c', h1, rfl⟩ := y
  subst e3
  rw [hc'] at h1
  cases h1
  exact ⟨Ext.refl _ _, R1, by unfold Rp; rfl⟩
theorem intsD_get {n : Nat} {f : Nat → Int} {i : Nat} {d : D} (h : (intsD n f)[i]? = some d) : i < n ∧ d = .int (f i) := by
  unfold intsD at h
  rw [List.getElem?_map] at h
  by_cases c : i < n
  · rw [List.getElem?_range c] at h
    exact ⟨c, (Option.some.inj h).symm⟩
  · rw [List.getElem?_eq_none (by simpa using c)] at h
    cases h
theorem it_range {φ0 : List Addr} {H0 : Hp} {lo : Int} {n : Nat} {f : Nat → Int} (hf : ∀ i, f i = lo + i) : ItOk G (Itr lo n) φ0 H0 ⟨intsD n f, []⟩ := by
  intro i φ H S e R1 l
  refine ⟨fun d hd => ?_, fun hi => by show n ≤ i; simpa [intsD] using hi⟩
  obtain ⟨h1, rfl⟩ := intsD_get hd
  refine ⟨h1, fun x H3 y => ?_⟩
  obtain ⟨e3, rfl⟩ := y
  subst e3
  exact ⟨Ext.refl _ _, R1, by unfold Rp; rw [hf]⟩
theorem it_rangeC {φ0 : List Addr} {H0 : Hp} {lo c : Int} {n : Nat} : ItOk G (Itc lo c n) φ0 H0 ⟨intsD n fun i => lo + i * c, []⟩ := by
  intro i φ H S e R1 l
  refine ⟨fun d hd => ?_, fun hi => by show n ≤ i; simpa [intsD] using hi⟩
  obtain ⟨h1, rfl⟩ := intsD_get hd
  refine ⟨h1, fun x H3 y => ?_⟩
  obtain ⟨e3, rfl⟩ := y
  subst e3
  exact ⟨Ext.refl _ _, R1, by unfold Rp; rfl⟩

/-! ### the rules: what is known of a value before it is made tells the rule -/
/-- a part whose end is known -/
theorem tI.run {α β γ δ : Type} {L : Rl α β} {Lb : Rl γ δ} {A : AX α} {F : α → Store → Mi.R γ} {σ : L2.St} {H : Hp} {Q : δ → Hp → Prop} {P : Prop} (h : tI G Wx Lb (fun ρ S => (A ρ S).bd F) σ H Q)
    (k : ∀ x S1, (∀ Q' : β → Hp → Prop, (∀ b φ φ1 H1, Ext φ H φ1 H1 → Rel G φ1 H1 S1 → L H φ1 H1 x b → Post G Lb φ H (F x S1) (fun c d H' => Wx c d σ H') Q → Q' b H1) → tI G Wx L A σ H Q') → (∃ φ, Post G Lb φ H (F x S1) (fun c d H' => Wx c d σ H') Q) → P)
    (kx : (∀ Q' : β → Hp → Prop, tI G Wx L A σ H Q') → P) : P := by
  obtain ⟨φ, ρ, S, R, sl, h⟩ := h
  cases q : A ρ S with
  | ok x S1 =>
    simp only [q, Mi.R.bd] at h
    refine k x S1 (fun Q' hq => ⟨φ, ρ, S, R, sl, ?_⟩) ⟨φ, h⟩
    rw [q]
    exact fun b H1 φ1 e R1 l => hq b φ φ1 H1 e R1 l h
  | ex c fs S1 =>
    simp only [q, Mi.R.bd] at h
    refine kx fun Q' => ⟨φ, ρ, S, R, sl, ?_⟩
    rw [q]
    exact h
  | bad =>
    simp only [q, Mi.R.bd] at h
    exact h.elim
theorem seq_ref {S : Store} {w : W} {b : Bool} {ds : List D} (h : w.seq S = some (b, ds)) : (∀ z, w ≠ .val (.str z)) := by
  rintro z rfl
  cases h
theorem its_it {S : Store} {w : W} {b : Bool} {ds : List D} (h : w.seq S = some (b, ds)) : itsA .it [w] S = .ok ⟨ds, live1 w ds⟩ S := by
  unfold itsA
  simp only [its, h]
/-- for x in e -/
theorem ki_it (he : PE X e (tK G Wx A)) (hK : X.K = G.K) : PI X tg e (tIts G Wx fun ρ S => (A ρ S).bd fun w S => itsA .it [w] S) := by
  refine ⟨fun pins s σ H Rr I h => ?_⟩
  refine tI.run (L := RlW G) h (fun x S1 mk post => ?_) fun mk => (pi_list he).run pins s σ H Rr I (mk _)
  obtain ⟨φp, post⟩ := post
  cases hx : x.seq S1 with
  | some bd =>
    obtain ⟨b, ds⟩ := bd
    have hi := its_it hx
    cases b with
    | false =>
      refine (pi_list he).run pins s σ H Rr I (mk _ fun v φ φ1 H1 e R1 l hp => ?_)
      rw [hi] at hp
      obtain ⟨a, vs, ea, hq, hr⟩ := seq_rp R1 l.1 hx
      subst ea
      refine ⟨a, rfl, ⟨vs, by rw [hK]; exact ifF hq⟩, ?_⟩
      rw [hK]
      exact hp.ok e R1 (it_list R1 l.1 hx)
    | true =>
      refine (pi_tup he).run pins s σ H Rr I (mk _ fun v φ φ1 H1 e R1 l hp => ?_)
      rw [hi] at hp
      obtain ⟨a, vs, ea, hq, hr⟩ := seq_rp R1 l.1 hx
      subst ea
      refine ⟨a, rfl, ⟨vs, by rw [hK]; exact ifT hq⟩, ?_⟩
      rw [hK]
      exact hp.ok e R1 (it_tup R1 l.1 hx)
  | none =>
    by_cases hz : ∃ z, x = .val (.str z)
    · obtain ⟨z, rfl⟩ := hz
      refine (pi_str he).run pins s σ H Rr I (mk _ fun v φ φ1 H1 e R1 l hp => ?_)
      refine ⟨z, by have q := l.1; unfold RpW Rp at q; exact q, ?_⟩
      exact Post.ok (L := RlI G) (a := ⟨z.cps.toList.map fun c => .str ⟨#[c]⟩, []⟩) (S' := S1) hp e R1 it_str
    · exfalso
      have q : itsA .it [x] S1 = .bad := by
        unfold itsA
        simp only [its, hx]
        cases x with
        | lis ds => rfl
        | val d =>
          cases d with
          | str z => exact absurd ⟨z, rfl⟩ hz
          | _ => rfl
      rw [q] at post
      exact post
/-- the ends of the rules for calls of range, zip, reversed -/
theorem fits_of {n : Int} (h : fits62 n = true) : -(2 ^ 62) ≤ n ∧ n < 2 ^ 62 := of_decide_eq_true h
theorem rp_int {φ : List Addr} {H : Hp} {i : Int} {v : V} (h : RpW G φ H (.val (.int i)) v) : v = .int i := by unfold RpW Rp at h; exact h
theorem ki_rng1 (hg : Gl X "range") (hm : X.mg "range" = none) (he : PE X e (tK G Wx A)) (hs : starEach [e] X.env = [(false, eval e X.env)]) : PI X tg (.Call (.Name "range" p) [e] [] pos) (tIts G Wx fun ρ S => (A ρ S).bd fun w S => itsA .rng1 [w] S) := by
  refine ⟨fun pins s σ H Rr I h => ?_⟩
  have rule := pi_range1 (tg := tg) (p := p) (pos := pos) hg hm (pa_cons he pa_nil hs) hs
  refine rule.run pins s σ H Rr I ?_
  refine tI.bd (F := fun w _ S => itsA .rng1 [w] S) h fun φ ρ S v φ1 H1 x S1 R sl e R1 l hp => ?_
  cases x with
  | lis ds => exact hp.elim
  | val d =>
    cases d with
    | int n =>
      by_cases c : fits62 n = true
      · obtain ⟨f1, f2⟩ := fits_of c
        have q : itsA .rng1 [.val (.int n)] S1 = .ok ⟨intsD n.toNat fun i => (i : Int), []⟩ S1 := by
          unfold itsA
          simp only [its, if_pos c]
        rw [q] at hp
        have ev := rp_int l.1
        subst ev
        exact ⟨n, rfl, f1, f2, hp.ok e R1 (it_range fun i => by omega)⟩
      · exfalso
        have q : itsA .rng1 [.val (.int n)] S1 = .bad := by
          unfold itsA
          simp only [its, if_neg c]
        rw [q] at hp
        exact hp
    | _ => exact hp.elim
theorem ki_rng2 (hg : Gl X "range") (hm : X.mg "range" = none) (he : PE X e (tK G Wx A)) (he2 : PE X e2 (tK G Wx B)) (hs : starEach [e, e2] X.env = [(false, eval e X.env), (false, eval e2 X.env)]) (hs2 : starEach [e2] X.env = [(false, eval e2 X.env)]) :
    PI X tg (.Call (.Name "range" p) [e, e2] [] pos) (tIts G Wx fun ρ S => (A ρ S).bd fun w S => (B ρ S).bd fun w2 S => itsA .rng2 [w, w2] S) := by
  refine ⟨fun pins s σ H Rr I h => ?_⟩
  have rule := pi_range2 (tg := tg) (p := p) (pos := pos) hg hm (pa_cons he (pa_cons he2 pa_nil hs2) (by rw [hs, hs2])) hs hs2
  refine rule.run pins s σ H Rr I ?_
  refine tI.bd (F := fun w ρ S => (B ρ S).bd fun w2 S => itsA .rng2 [w, w2] S) h fun φ ρ S v φ1 H1 x S1 R sl e R1 l hp => ?_
  refine tI.next R sl e R1 hp fun u H2 φ2 y S2 e2 R2 l2 h2 => ?_
  have bad : itsA .rng2 [x, y] S2 = .bad → False := fun q => by rw [q] at h2; exact h2
  have l1 := RpW.mono e2 R1 l.1
  cases x with
  | lis ds => exact (bad rfl).elim
  | val d =>
    cases y with
    | lis ds => exact (bad (by cases d <;> rfl)).elim
    | val d2 =>
      cases d with
      | int n =>
        cases d2 with
        | int m =>
          by_cases c : (fits62 n && fits62 m) = true
          · obtain ⟨c1, c2⟩ := Bool.and_eq_true_iff.mp c
            obtain ⟨f1, f2⟩ := fits_of c1
            obtain ⟨g1, g2⟩ := fits_of c2
            have q : itsA .rng2 [.val (.int n), .val (.int m)] S2 = .ok ⟨intsD (m - n).toNat fun i => n + i, []⟩ S2 := by
              unfold itsA
              simp only [its, if_pos c]
            rw [q] at h2
            have ev := rp_int l1
            have eu := rp_int l2.1
            subst ev; subst eu
            exact ⟨n, m, rfl, ⟨f1, f2, g1, g2⟩, h2.ok (e.trans e2) R2 (it_range fun i => rfl)⟩
          · exact (bad (by unfold itsA; simp only [its, if_neg c])).elim
        | _ => exact (bad rfl).elim
      | _ => exact (bad (by cases d2 <;> rfl)).elim
theorem small_of {a b c : Int} (ha : fits62 a = true) (hb : fits62 b = true) (h0 : 0 < c) (h1 : c < 1073741824) : RgC a b c (steps a b c) := by
  obtain ⟨f1, f2⟩ := fits_of ha
  obtain ⟨g1, g2⟩ := fits_of hb
  have e : Builtin.Range.rangeSize a b c = (steps a b c : Nat) := by
    unfold Builtin.Range.rangeSize steps
    rw [if_pos (show c > 0 from h0)]
    by_cases q : a < b
    · rw [if_pos q, if_pos q]
      have : 0 ≤ (b - a - 1) / c := Int.ediv_nonneg (by omega) (by omega)
      omega
    · rw [if_neg q, if_neg q]; rfl
  refine ⟨by omega, by omega, ?_, e⟩
  unfold Builtin.Range.small
  rw [e]
  have hs : (steps a b c : Int) < 2 ^ 63 := by
    unfold steps
    by_cases q : a < b
    · rw [if_pos q]
      have h1 := Int.ediv_le_self c (show 0 ≤ b - a - 1 by omega)
      have h2 : 0 ≤ (b - a - 1) / c := Int.ediv_nonneg (by omega) (by omega)
      omega
    · rw [if_neg q]; decide
  simp only [Builtin.Range.rangeFitsLong, Bool.and_eq_true, Bool.or_eq_true, decide_eq_true_eq, beq_iff_eq, if_pos (show c > 0 from h0)]
  omega
theorem items_rev {ds : List D} {i : Nat} {d : D} (h : ds.reverse[i]? = some d) : i < ds.length ∧ ds[ds.length - 1 - i]? = some d := by
  have hi : i < ds.length := by simpa using (List.getElem?_eq_some_iff.mp h).1
  refine ⟨hi, ?_⟩
  rw [List.getElem?_reverse hi] at h
  exact h
theorem ki_rev (hg : Gl X "reversed") (hm : X.mg "reversed" = none) (he : PE X e (tK G Wx A)) (hK : X.K = G.K) (hs : starEach [e] X.env = (false, eval e X.env) :: starEach [] X.env) :
    PI X tg (.Call (.Name "reversed" p) [e] [] pos) (tIts G Wx fun ρ S => (A ρ S).bd fun w S => itsA .rev [w] S) := by
  refine ⟨fun pins s σ H Rr I h => ?_⟩
  refine (pi_revA (tg := tg) (p := p) (pos := pos) hg hm he hs).run pins s σ H Rr I ?_
  refine tI.bd (F := fun w _ S => itsA .rev [w] S) h fun φ ρ S v φ1 H1 x S1 R sl e R1 l hp => ?_
  cases hx : x.seq S1 with
  | none =>
    exfalso
    have q : itsA .rev [x] S1 = .bad := by
      unfold itsA
      simp only [its, hx]
    rw [q] at hp
    exact hp
  | some bd =>
    obtain ⟨b, ds⟩ := bd
    have q : itsA .rev [x] S1 = .ok ⟨ds.reverse, live1 x ds⟩ S1 := by
      unfold itsA
      simp only [its, hx]
    rw [q] at hp
    obtain ⟨a, vs, rfl, hq, hr⟩ := seq_rp R1 l.1 hx
    rw [hK]
    refine ⟨a, vs, rfl, ?_⟩
    cases b with
    | false =>
      refine .inl ⟨ifF hq, hp.ok e R1 ?_⟩
      intro i φ' H' S' e' R' l'
      obtain ⟨a', ws, ea, hq', hr'⟩ := seq_rp R' (RpW.mono e' R1 l.1) (seq_stay R1 l.1 hx e' R' l')
      cases ea
      have hq' := ifF hq'
      have hl : ws.length = vs.length := by rw [← hr'.len, ← hr.len]
      refine ⟨fun d hd => ?_, fun hi => by show vs.length ≤ i; rw [← hr.len]; simpa using hi⟩
      obtain ⟨hi, hd⟩ := items_rev hd
      obtain ⟨w, hw, rw'⟩ := hr'.get hd
      rw [hr.len] at hi hw
      refine ⟨⟨hi, ws, w, hq', hw⟩, fun x H3 y => ?_⟩
      obtain ⟨e3, y⟩ := y
      subst e3
      have q := y ws hq'
      rw [hw] at q
      cases q
      exact ⟨Ext.refl _ _, R', rw'⟩
    | true =>
      refine .inr ⟨ifT hq, hp.ok e R1 ?_⟩
      intro i φ' H' S' e' R' l'
      obtain ⟨a', ws, ea, hq', hr'⟩ := seq_rp R' (RpW.mono e' R1 l.1) (seq_stay R1 l.1 hx e' R' l')
      cases ea
      have hq' := ifT hq'
      have hl : ws.length = vs.length := by rw [← hr'.len, ← hr.len]
      refine ⟨fun d hd => ?_, fun hi => by show vs.length ≤ i; rw [← hr.len]; simpa using hi⟩
      obtain ⟨hi, hd⟩ := items_rev hd
      obtain ⟨w, hw, rw'⟩ := hr'.get hd
      rw [hr.len] at hi hw
      refine ⟨⟨hi, ws, w, hq', hw⟩, fun x H3 y => ?_⟩
      obtain ⟨e3, y⟩ := y
      subst e3
      have q := y ws hq'
      rw [hw] at q
      cases q
      exact ⟨Ext.refl _ _, R', rw'⟩
theorem ki_rng3 {e3 : Expr} {Cc : AX W} (hg : Gl X "range") (hm : X.mg "range" = none) (he : PE X e (tK G Wx A)) (he2 : PE X e2 (tK G Wx B)) (he3 : PE X e3 (tK G Wx Cc))
    (hs : starEach [e, e2, e3] X.env = (false, eval e X.env) :: starEach [e2, e3] X.env) (hs2 : starEach [e2, e3] X.env = (false, eval e2 X.env) :: starEach [e3] X.env) (hs3 : starEach [e3] X.env = (false, eval e3 X.env) :: starEach [] X.env)
    (hpl : (backTo pos (starEach [e2, e3] X.env)).any (·.1) = false) :
    PI X tg (.Call (.Name "range" p) [e, e2, e3] [] pos) (tIts G Wx fun ρ S => (A ρ S).bd fun w S => (B ρ S).bd fun w2 S => (Cc ρ S).bd fun w3 S => itsA .rng3 [w, w2, w3] S) := by
  refine ⟨fun pins s σ H Rr I h => ?_⟩
  have rule := pi_range3 (tg := tg) (p := p) (pos := pos) hg hm (pa_cons he (pa_cons he2 (pa_cons he3 pa_nil hs3) hs2) hs) hs hpl
  refine rule.run pins s σ H Rr I ?_
  refine tI.bd (F := fun w ρ S => (B ρ S).bd fun w2 S => (Cc ρ S).bd fun w3 S => itsA .rng3 [w, w2, w3] S) h fun φ ρ S v φ1 H1 x S1 R sl e R1 l hp => ?_
  refine tI.next R sl e R1 hp fun u H2 φ2 y S2 e2 R2 l2 h2 => ?_
  refine tI.next R sl (e.trans e2) R2 h2 fun t H3 φ3 z S3 e3 R3 l3 h3 => ?_
  have bad : itsA .rng3 [x, y, z] S3 = .bad → False := fun q => by rw [q] at h3; exact h3
  have l1 := RpW.mono (e2.trans e3) R1 l.1
  have l2' := RpW.mono e3 R2 l2.1
  by_cases hx : ∃ i j k, x = .val (.int i) ∧ y = .val (.int j) ∧ z = .val (.int k)
  · obtain ⟨i, j, k, rfl, rfl, rfl⟩ := hx
    by_cases c : (fits62 i && fits62 j && decide (0 < k ∧ k < 1073741824)) = true
    · obtain ⟨c12, c3⟩ := Bool.and_eq_true_iff.mp c
      obtain ⟨c1, c2⟩ := Bool.and_eq_true_iff.mp c12
      obtain ⟨k0, k1⟩ := of_decide_eq_true c3
      have q : itsA .rng3 [.val (.int i), .val (.int j), .val (.int k)] S3 = .ok ⟨intsD (steps i j k) fun n => i + n * k, []⟩ S3 := by
        unfold itsA
        simp only [its, if_pos c]
      rw [q] at h3
      have e1 := rp_int l1
      have e2' := rp_int l2'
      have e3' := rp_int l3.1
      subst e1; subst e2'; subst e3'
      exact ⟨i, j, k, steps i j k, rfl, small_of c1 c2 k0 k1, h3.ok ((e.trans e2).trans e3) R3 it_rangeC⟩
    · exact (bad (by unfold itsA; simp only [its, if_neg c])).elim
  · refine (bad ?_).elim
    unfold itsA
    have q : its .rng3 [x, y, z] S3 = none := by
      unfold its
      dsimp only
      split
      · rename_i i j k q
        obtain ⟨q1, q2⟩ := List.cons.inj q
        obtain ⟨q2, q3⟩ := List.cons.inj q2
        obtain ⟨q3, _⟩ := List.cons.inj q3
        exact absurd ⟨i, j, k, q1, q2, q3⟩ hx
      · rfl
    rw [q]
theorem live_app {l l' : List (Nat × List D)} {S : Store} (h : isLive (l ++ l') S) : isLive l S ∧ isLive l' S := ⟨fun p hp => h p (List.mem_append_left _ hp), fun p hp => h p (List.mem_append_right _ hp)⟩
theorem zip_get {ds es : List D} {i : Nat} {d : D} (h : ((ds.zip es).map fun p => D.tup [p.1, p.2])[i]? = some d) : ∃ x y, ds[i]? = some x ∧ es[i]? = some y ∧ d = .tup [x, y] := by
  rw [List.getElem?_map] at h
  cases q : (ds.zip es)[i]? with
  | none => rw [q] at h; cases h
  | some p =>
    rw [q] at h
    cases h
    obtain ⟨x, y⟩ := p
    rw [List.getElem?_zip_eq_some] at q
    exact ⟨x, y, q.1, q.2, rfl⟩
theorem rp_pair {φ : List Addr} {H : Hp} {S : Store} {x y : D} {v w : V} {T : Addr} (R : Rel G φ H S) (hT : H T = none) (h1 : Rp G φ H x v) (h2 : Rp G φ H y w) :
    Ext φ H φ (upd H T (.tup [v, w])) ∧ Rel G φ (upd H T (.tup [v, w])) S ∧ Rp G φ (upd H T (.tup [v, w])) (.tup [x, y]) (.ref T) := by
  have E := Ext.fresh R hT (.tup [v, w])
  refine ⟨E, R.fresh hT _, ?_⟩
  have k := E.toKeep R
  unfold Rp
  refine ⟨T, [v, w], rfl, upd_same, ?_⟩
  unfold Rps
  refine ⟨v, [w], rfl, Rp.mono k _ _ h1, ?_⟩
  unfold Rps
  refine ⟨w, [], rfl, Rp.mono k _ _ h2, ?_⟩
  unfold Rps
  rfl
theorem ki_zip {tpos : Pos} {elts : List Expr} {kk : Nat} (hg : Gl X "zip") (hm : X.mg "zip" = none) (he : PE X e (tK G Wx A)) (he2 : PE X e2 (tK G Wx B)) (hK : X.K = G.K) (hs : starEach [e, e2] X.env = (false, eval e X.env) :: starEach [e2] X.env)
    (hs2 : starEach [e2] X.env = (false, eval e2 X.env) :: starEach [] X.env) (hpl : (backTo pos (starEach [e2] X.env)).any (·.1) = false) :
    PI X (.Tuple elts kk tpos) (.Call (.Name "zip" p) [e, e2] [] pos) (tIts G Wx fun ρ S => (A ρ S).bd fun w S => (B ρ S).bd fun w2 S => itsA .zip [w, w2] S) := by
  refine ⟨fun pins s σ H Rr I h => ?_⟩
  refine (pi_zipA (p := p) (pos := pos) (tpos := tpos) (elts := elts) (kk := kk) hg hm (pa_cons he (pa_cons he2 pa_nil hs2) hs) hs hpl).run pins s σ H Rr I ?_
  refine tI.bd (F := fun w ρ S => (B ρ S).bd fun w2 S => itsA .zip [w, w2] S) h fun φ ρ S v φ1 H1 x S1 R sl e R1 l hp => ?_
  refine tI.next R sl e R1 hp fun u H2 φ2 y S2 e2 R2 l2 h2 => ?_
  have l1 := RpW.mono e2 R1 l.1
  have bad : itsA .zip [x, y] S2 = .bad → False := fun q => by rw [q] at h2; exact h2
  cases hx : x.seq S2 with
  | none => exact (bad (by unfold itsA; simp only [its, hx])).elim
  | some bd =>
    obtain ⟨b, ds⟩ := bd
    cases hy : y.seq S2 with
    | none => exact (bad (by unfold itsA; simp only [its, hx, hy])).elim
    | some bd' =>
      obtain ⟨b', es⟩ := bd'
      by_cases hb : b = b'
      · subst hb
        have q : itsA .zip [x, y] S2 = .ok ⟨(ds.zip es).map fun p => .tup [p.1, p.2], live1 x ds ++ live1 y es⟩ S2 := by
          unfold itsA
          simp only [its, hx, hy, if_pos]
        rw [q] at h2
        obtain ⟨a, vs, rfl, hq, hr⟩ := seq_rp R2 l1 hx
        obtain ⟨a', ws, rfl, hq', hr'⟩ := seq_rp R2 l2.1 hy
        rw [hK]
        refine ⟨a, a', vs, ws, rfl, ?_⟩
        cases b with
        | false =>
          refine .inl ⟨ifF hq, ifF hq', h2.ok (e.trans e2) R2 ?_⟩
          intro i φ' H' S' e' R' l'
          obtain ⟨lx, ly⟩ := live_app l'
          obtain ⟨c, vs', ec, hv, hrv⟩ := seq_rp R' (RpW.mono e' R2 l1) (seq_stay R2 l1 hx e' R' lx)
          cases ec
          obtain ⟨c, ws', ec, hw, hrw⟩ := seq_rp R' (RpW.mono e' R2 l2.1) (seq_stay R2 l2.1 hy e' R' ly)
          cases ec
          have hv := ifF hv
          have hw := ifF hw
          refine ⟨fun d hd => ?_, fun hi => ⟨vs', ws', hv, hw, ?_⟩⟩
          · obtain ⟨d1, d2, g1, g2, rfl⟩ := zip_get hd
            obtain ⟨v1, gv, rv⟩ := hrv.get g1
            obtain ⟨w1, gw, rw'⟩ := hrw.get g2
            refine ⟨⟨vs', ws', v1, w1, hv, hw, gv, gw⟩, fun x' H3 yd => ?_⟩
            obtain ⟨T, x1, y1, rfl, hT, rfl, f1, f2⟩ := yd
            have f1 := f1 vs' hv
            have f2 := f2 ws' hw
            rw [gv] at f1; cases f1
            rw [gw] at f2; cases f2
            exact rp_pair R' hT rv rw'
          · rw [← hrv.len, ← hrw.len]
            have hi : (((ds.zip es).map fun p => D.tup [p.1, p.2]).length) ≤ i := hi
            rw [List.length_map, List.length_zip] at hi
            omega
        | true =>
          refine .inr ⟨ifT hq, ifT hq', h2.ok (e.trans e2) R2 ?_⟩
          intro i φ' H' S' e' R' l'
          obtain ⟨lx, ly⟩ := live_app l'
          obtain ⟨c, vs', ec, hv, hrv⟩ := seq_rp R' (RpW.mono e' R2 l1) (seq_stay R2 l1 hx e' R' lx)
          cases ec
          obtain ⟨c, ws', ec, hw, hrw⟩ := seq_rp R' (RpW.mono e' R2 l2.1) (seq_stay R2 l2.1 hy e' R' ly)
          cases ec
          have hv := ifT hv
          have hw := ifT hw
          refine ⟨fun d hd => ?_, fun hi => ⟨vs', ws', hv, hw, ?_⟩⟩
          · obtain ⟨d1, d2, g1, g2, rfl⟩ := zip_get hd
            obtain ⟨v1, gv, rv⟩ := hrv.get g1
            obtain ⟨w1, gw, rw'⟩ := hrw.get g2
            refine ⟨⟨vs', ws', v1, w1, hv, hw, gv, gw⟩, fun x' H3 yd => ?_⟩
            obtain ⟨T, x1, y1, rfl, hT, rfl, f1, f2⟩ := yd
            have f1 := f1 vs' hv
            have f2 := f2 ws' hw
            rw [gv] at f1; cases f1
            rw [gw] at f2; cases f2
            exact rp_pair R' hT rv rw'
          · rw [← hrv.len, ← hrw.len]
            have hi : (((ds.zip es).map fun p => D.tup [p.1, p.2]).length) ≤ i := hi
            rw [List.length_map, List.length_zip] at hi
            omega
      · exact (bad (by unfold itsA; simp only [its, hx, hy, if_neg hb])).elim
theorem ki_enm {tpos : Pos} {elts : List Expr} {kk : Nat} (hg : Gl X "enumerate") (hm : X.mg "enumerate" = none) (he : PE X e (tK G Wx A)) (hK : X.K = G.K) (hs : starEach [e] X.env = [(false, eval e X.env)]) :
    PI X (.Tuple elts kk tpos) (.Call (.Name "enumerate" p) [e] [] pos) (tIts G Wx fun ρ S => (A ρ S).bd fun w S => itsA .enm [w] S) := by
  refine ⟨fun pins s σ H Rr I h => ?_⟩
  refine (pi_enum (p := p) (pos := pos) (tpos := tpos) (elts := elts) (kk := kk) hg hm (pa_cons he pa_nil hs) hs).run pins s σ H Rr I ?_
  refine tI.bd (F := fun w _ S => itsA .enm [w] S) h fun φ ρ S v φ1 H1 x S1 R sl e R1 l hp => ?_
  have bad : itsA .enm [x] S1 = .bad → False := fun q => by rw [q] at hp; exact hp
  cases hx : x.seq S1 with
  | none => exact (bad (by unfold itsA; simp only [its, hx])).elim
  | some bd =>
    obtain ⟨b, ds⟩ := bd
    cases b with
    | true => exact (bad (by unfold itsA; simp only [its, hx])).elim
    | false =>
      have q : itsA .enm [x] S1 = .ok ⟨ds.zipIdx.map fun q => .tup [.int q.2, q.1], live1 x ds⟩ S1 := by
        unfold itsA
        simp only [its, hx]
      rw [q] at hp
      obtain ⟨a, vs, rfl, hq, hr⟩ := seq_rp R1 l.1 hx
      rw [hK]
      refine ⟨a, vs, rfl, ifF hq, hp.ok e R1 ?_⟩
      intro i φ' H' S' e' R' l'
      obtain ⟨c, vs', ec, hv, hrv⟩ := seq_rp R' (RpW.mono e' R1 l.1) (seq_stay R1 l.1 hx e' R' l')
      cases ec
      have hv := ifF hv
      refine ⟨fun d hd => ?_, fun hi => ⟨vs', hv, ?_⟩⟩
      · have hd : (ds.zipIdx.map fun q => D.tup [.int q.2, q.1])[i]? = some d := hd
        rw [List.getElem?_map, List.getElem?_zipIdx] at hd
        cases g : ds[i]? with
        | none => rw [g] at hd; cases hd
        | some d1 =>
          rw [g] at hd
          cases hd
          obtain ⟨v1, gv, rv⟩ := hrv.get g
          refine ⟨⟨vs', v1, hv, gv⟩, fun x' H3 yd => ?_⟩
          obtain ⟨T, x1, rfl, hT, rfl, f1⟩ := yd
          have f1 := f1 vs' hv
          rw [gv] at f1; cases f1
          have := rp_pair (x := .int ((0 + i : Nat) : Int)) R' hT (by unfold Rp; rfl) rv
          simpa using this
      · have hi : (ds.zipIdx.map fun q => D.tup [.int q.2, q.1]).length ≤ i := hi
        rw [← hrv.len]
        simpa using hi
end
end Mi

/-! Mi, part E: targets, comprehensions, statements. -/
namespace Mi
open PySem L2 PyProof.Rows RT RZ

/-! ### targets -/
def gNames : List Nat → TGs
  | [] => gNil
  | i :: is => gCons (gName i) (gNames is)
def gTg (K : PySem.W.Frag) : Tg → TG
  | .nm i => gName i
  | .tp is => gTup K is.length (gNames is)
def Tg.slots : Tg → List Nat
  | .nm i => [i]
  | .tp is => is
theorem wipe_in {σ : L2.St} {i : Nat} : ∀ {vs : List Nat}, i ∈ vs → i < σ.length → (L2.wipe σ vs)[i]? = some none
  | [], h, _ => nomatch h
  | v :: vs, h, hl => by
    unfold L2.wipe
    by_cases e : v = i
    · subst e
      rw [List.getElem?_set_self (by rw [L2.wipe_length]; exact hl)]
    · rw [List.getElem?_set_ne e]
      rcases List.mem_cons.mp h with q | q
      · exact absurd q.symm e
      · exact wipe_in q hl
theorem wipe_eq {σ τ : L2.St} {vs : List Nat} (hl : σ.length = τ.length) (h : ∀ i, i ∉ vs → σ[i]? = τ[i]?) : L2.wipe σ vs = L2.wipe τ vs := by
  refine List.ext_getElem? fun i => ?_
  by_cases hi : i ∈ vs
  · by_cases hn : i < σ.length
    · rw [wipe_in hi hn, wipe_in hi (by rw [← hl]; exact hn)]
    · rw [List.getElem?_eq_none (by rw [L2.wipe_length]; omega), List.getElem?_eq_none (by rw [L2.wipe_length]; omega)]
  · rw [L2.wipe_out hi, L2.wipe_out hi]
    exact h i hi
section
variable {G : Gb} {φ : List Addr} {H : Hp} {S : Store} {ρ ρ' : Env} {σ : L2.St}
theorem Sl.wipe (h : Sl G φ H ρ σ) : ∀ vs : List Nat, Sl G φ H (wipeD ρ vs) (L2.wipe σ vs)
  | [] => h
  | v :: vs => (Sl.wipe h vs).unset v
/-- slots that may differ -/
def Near (is : List Nat) (σ τ : L2.St) : Prop := σ.length = τ.length ∧ ∀ i, i ∉ is → σ[i]? = τ[i]?
theorem Near.refl (is : List Nat) (σ : L2.St) : Near is σ σ := ⟨rfl, fun _ _ => rfl⟩
theorem Near.set {is : List Nat} {σ τ : L2.St} (h : Near is σ τ) {i : Nat} (hi : i ∈ is) (o : Option V) : Near is (σ.set i o) τ := ⟨by rw [List.length_set]; exact h.1, fun j hj => by
  have hne : i ≠ j := fun e => hj (by rw [← e]; exact hi)
  rw [List.getElem?_set_ne hne]
  exact h.2 j hj⟩
theorem names_im {τ : L2.St} {all : List Nat} {Q : L2.St → Hp → Prop} : ∀ {is : List Nat} {ds : List D} {vs : List V} {ρ ρ' : Env} {σ : L2.St}, bindTs is ds ρ = some ρ' → (∀ i ∈ is, i ∈ all) → Near all σ τ → Sl G φ H ρ σ → Rps G φ H ds vs →
    (∀ σ', Sl G φ H ρ' σ' → Near all σ' τ → Q σ' H) → gNames is vs σ H Q
  | [], [], vs, ρ, ρ', σ, h, _, n, sl, r, k => by
    unfold bindTs at h
    cases h
    unfold Rps at r
    exact ⟨r, k σ sl n⟩
  | [], d :: ds, vs, ρ, ρ', σ, h, _, n, sl, r, k => by
    unfold bindTs at h
    cases h
  | i :: is, [], vs, ρ, ρ', σ, h, _, n, sl, r, k => by
    unfold bindTs at h
    cases h
  | i :: is, d :: ds, vs, ρ, ρ', σ, h, m, n, sl, r, k => by
    unfold bindTs at h
    unfold Rps at r
    obtain ⟨v, rr, rfl, r1, r2⟩ := r
    exact ⟨v, rr, rfl, names_im h (fun j hj => m j (List.mem_cons_of_mem _ hj)) (n.set (m i List.mem_cons_self) _) (sl.set i r1) r2 k⟩
theorem bindTs_len : ∀ {is : List Nat} {ds : List D} {ρ ρ' : Env}, bindTs is ds ρ = some ρ' → is.length = ds.length
  | [], [], _, _, _ => rfl
  | [], _ :: _, _, _, h => by unfold bindTs at h; cases h
  | _ :: _, [], _, _, h => by unfold bindTs at h; cases h
  | i :: is, d :: ds, ρ, ρ', h => by
    unfold bindTs at h
    rw [List.length_cons, List.length_cons, bindTs_len h]
theorem tg_im {t : Tg} {d : D} {x : V} {Q : L2.St → Hp → Prop} (h : bindTg t d ρ = some ρ') (R : Rel G φ H S) (sl : Sl G φ H ρ σ) (r : Rp G φ H d x) (k : ∀ σ', Sl G φ H ρ' σ' → Near t.slots σ' σ → Q σ' H) : gTg G.K t x σ H Q := by
  cases t with
  | nm i =>
    cases h
    exact k _ (sl.set i r) ((Near.refl _ _).set (List.mem_singleton.mpr rfl) _)
  | tp is =>
    cases d with
    | tup ds =>
      have h : bindTs is ds ρ = some ρ' := h
      unfold Rp at r
      obtain ⟨a, vs, rfl, ha, hr⟩ := r
      exact ⟨a, vs, rfl, ha.sq, by rw [← hr.len, bindTs_len h], names_im h (fun _ m => m) (Near.refl _ _) sl hr k⟩
    | _ => cases h
end

/-! ### comprehensions -/
section
variable {G : Gb} {Wx : WX} {X : Cx}
def WxF : WX := fun _ _ _ _ => False
/-- a list of ours, known by no place, is changed -/
theorem own_keep {φ : List Addr} {H : Hp} {D : Addr} {vs : List V} {o : HO} (hD : H D = some (.lst vs)) : Keep φ H φ (upd H D o) := by
  refine ⟨fun _ _ h => h, fun a xs h => ?_, fun a o x h => ?_⟩
  · rw [upd_ne]
    · exact h
    · rintro rfl; rw [hD] at h; cases h
  · rw [upd_ne]
    · exact h
    · rintro rfl; rw [hD] at h; cases h
theorem own_rel {φ : List Addr} {H : Hp} {S : Store} {D : Addr} {vs : List V} {o : HO} (R : Rel G φ H S) (hD : H D = some (.lst vs)) (n : D ∉ φ) : Rel G φ (upd H D o) S :=
  ⟨R.len, R.nd, fun m a u h1 h2 => RpO.mono (own_keep hD) (R.obj m a u h1 h2) (upd_ne fun e => n (e ▸ List.mem_of_getElem? h1))⟩
theorem own_ext {φ φ1 : List Addr} {H H1 : Hp} {D : Addr} {o : HO} (e : Ext φ H φ1 H1) (hD : H D = none) : Ext φ H φ1 (upd H1 D o) :=
  ⟨e.pre, fun a u h n => by
    rw [upd_ne (ne_of_none h hD)]
    exact e.keep a u h n, e.new⟩
theorem Rps.snoc {φ : List Addr} {H : Hp} {d : D} {v : V} : ∀ {ds : List D} {vs : List V}, Rps G φ H ds vs → Rp G φ H d v → Rps G φ H (ds ++ [d]) (vs ++ [v])
  | [], _, h, r => by
    unfold Rps at h
    subst h
    show Rps G φ H [d] [v]
    unfold Rps
    refine ⟨v, [], rfl, r, ?_⟩
    unfold Rps
    rfl
  | e :: ds, _, h, r => by
    unfold Rps at h
    obtain ⟨w, t, rfl, h1, h2⟩ := h
    show Rps G φ H (e :: (ds ++ [d])) (w :: (t ++ [v]))
    unfold Rps
    exact ⟨w, t ++ [v], rfl, h1, Rps.snoc h2 r⟩

noncomputable def turnA (t : Tg) (own : List Nat) (TC : AX Bool) (AD : AX D) (ρ : Env) (d : D) (S : Store) : Mi.R (Option D) := match bindTg t d (wipeD ρ own) with
  | some ρ' => ((TC ρ' S).bd fun b S => if b = true then (AD ρ' S).bd fun d S => .ok (some d) S else .ok none S).nox
  | none => .bad
noncomputable def compA (t : Tg) (own : List Nat) (IA : AX Its) (TC : AX Bool) (AD : AX D) : AX W := fun ρ S => (IA ρ S).bd fun I S => (compL I.live (turnA t own TC AD ρ) I.items S []).bd fun ds S => .ok (.lis ds) S
theorem comp_im {t : Tg} {own : List Nat} {IA : AX Its} {TC : AX Bool} {AD : AX D} {σ : L2.St} {H : Hp} {Q : VK} (hown : ∀ i ∈ t.slots, i ∈ own) (h : tK G Wx (compA t own IA TC AD) σ H Q) :
    tLc (tIts G Wx IA) (gTg G.K t) (tBo G WxF TC) (tD G WxF AD) own σ H Q := by
  refine tI.bd (F := fun I ρ S => (compL I.live (turnA t own TC AD ρ) I.items S []).bd fun ds S => Mi.R.ok (W.lis ds) S) h fun φ ρ S J φ1 H1 I S1 R sl e R1 l h => ?_
  intro Da hDn
  have l : ItOk G J φ1 H1 I := l
  refine ⟨fun i m H' => m = I.items.length - i ∧ i ≤ I.items.length ∧ ∃ φ' S' acc vs, Ext φ1 H1 φ' H' ∧ Rel G φ' H' S' ∧ Sl G φ' H' ρ σ ∧ H' Da = some (.lst vs) ∧ Da ∉ φ' ∧ Rps G φ' H' acc vs ∧
    Post G (RlW G) φ H ((compL I.live (turnA t own TC AD ρ) (I.items.drop i) S' acc).bd fun ds S => .ok (.lis ds) S) (fun c d H' => Wx c d σ H') Q, ⟨I.items.length, by simp, Nat.zero_le _, ?_⟩, ?_⟩
  · have E := Ext.fresh R1 hDn (.lst [])
    refine ⟨φ1, S1, [], [], E, R1.fresh hDn _, (sl.mono (e.toKeep R)).mono (E.toKeep R1), upd_same, R1.unk hDn, by unfold Rps; rfl, ?_⟩
    simpa using h
  · rintro i m H' ⟨rfl, hi, φ', S', acc, vs, e', R', sl', hD, nD, ra, hp⟩
    by_cases hlt : i < I.items.length
    · have hdrop : I.items.drop i = I.items[i] :: I.items.drop (i + 1) := List.drop_eq_getElem_cons hlt
      rw [hdrop] at hp
      unfold compL at hp
      by_cases hL : isLive I.live S'
      · rw [if_pos hL] at hp
        obtain ⟨g1, _⟩ := l i φ' H' S' e' R' hL
        obtain ⟨go, gy⟩ := g1 _ (List.getElem?_eq_getElem hlt)
        refine .inr ⟨go, fun H'' => ∃ m', m' < I.items.length - i ∧ m' = I.items.length - (i + 1) ∧ i + 1 ≤ I.items.length ∧ ∃ φ' S' acc vs, Ext φ1 H1 φ' H'' ∧ Rel G φ' H'' S' ∧ Sl G φ' H'' ρ σ ∧ H'' Da = some (.lst vs) ∧ Da ∉ φ' ∧ Rps G φ' H'' acc vs ∧
          Post G (RlW G) φ H ((compL I.live (turnA t own TC AD ρ) (I.items.drop (i + 1)) S' acc).bd fun ds S => .ok (.lis ds) S) (fun c d H' => Wx c d σ H') Q, ?_, ?_⟩
        · rintro H'' ⟨m', hm, hw⟩
          exact ⟨m', hm, hw⟩
        · intro x H2 yd
          obtain ⟨e2, R2, r2⟩ := gy x H2 yd
          have hD2 : H2 Da = some (.lst vs) := e2.keep _ _ hD nD
          have ra2 := Rps.mono (e2.toKeep R') _ _ ra
          have sl2 := sl'.mono (e2.toKeep R')
          unfold turnA at hp
          cases hb : bindTg t I.items[i] (wipeD ρ own) with
          | none => simp only [hb] at hp; exact hp.elim
          | some ρ' =>
            simp only [hb] at hp
            refine tg_im hb R2 (sl2.wipe own) r2 fun σ2 slr nr => ⟨?_, ?_⟩
            · refine wipe_eq (by rw [nr.1, L2.wipe_length]) fun j hj => ?_
              rw [nr.2 j (fun q => hj (hown j q)), L2.wipe_out hj]
            · refine ⟨φ', ρ', S', R2, slr, ?_⟩
              cases hT : TC ρ' S' with
              | bad => rw [hT] at hp; exact hp.elim
              | ex c fs S2 => rw [hT] at hp; exact hp.elim
              | ok b S2 =>
                rw [hT] at hp
                intro b' H3 φ3 e3 R3 lb
                have lb : b = b' := lb
                subst lb
                have hD3 : H3 Da = some (.lst vs) := e3.keep _ _ hD2 nD
                have nD3 : Da ∉ φ3 := e3.out hD2 nD
                have ra3 := Rps.mono (e3.toKeep R2) _ _ ra2
                have sl3 := sl2.mono (e3.toKeep R2)
                cases b with
                | false =>
                  rw [if_neg Bool.false_ne_true]
                  refine ⟨I.items.length - (i + 1), by omega, rfl, hlt, φ3, S2, acc, vs, (e'.trans e2).trans e3, R3, sl3, hD3, nD3, ra3, ?_⟩
                  exact hp
                | true =>
                  rw [if_pos rfl]
                  have hp : Post G (RlW G) φ H (((((AD ρ' S2).bd fun d S => (.ok (some d) S : Mi.R (Option D))).nox).bd fun o S => match o with
                    | none => compL I.live (turnA t own TC AD ρ) (I.items.drop (i + 1)) S acc
                    | some e => if acc.length < sizeLine then compL I.live (turnA t own TC AD ρ) (I.items.drop (i + 1)) S (acc ++ [e]) else .bad).bd fun ds S => .ok (.lis ds) S) (fun c d H' => Wx c d σ H') Q := hp
                  refine ⟨φ3, ρ', S2, R3, slr.mono (e3.toKeep R2), ?_⟩
                  cases hA : AD ρ' S2 with
                  | bad => rw [hA] at hp; exact hp.elim
                  | ex c fs S3 => rw [hA] at hp; exact hp.elim
                  | ok d2 S3 =>
                    rw [hA] at hp
                    intro y H4 φ4 e4 R4 l4
                    have hp : Post G (RlW G) φ H ((if acc.length < sizeLine then compL I.live (turnA t own TC AD ρ) (I.items.drop (i + 1)) S3 (acc ++ [d2]) else .bad).bd fun ds S => .ok (.lis ds) S) (fun c d H' => Wx c d σ H') Q := hp
                    have hD4 : H4 Da = some (.lst vs) := e4.keep _ _ hD3 nD3
                    have nD4 : Da ∉ φ4 := e4.out hD3 nD3
                    have ra4 := Rps.mono (e4.toKeep R3) _ _ ra3
                    have sl4 := sl3.mono (e4.toKeep R3)
                    by_cases hz : acc.length < sizeLine
                    · rw [if_pos hz] at hp
                      have k := own_keep (φ := φ4) (o := .lst (vs ++ [y])) hD4
                      refine ⟨vs, hD4, by rw [← ra4.len]; exact hz, I.items.length - (i + 1), by omega, rfl, hlt, φ4, S3, acc ++ [d2], vs ++ [y], own_ext (((e'.trans e2).trans e3).trans e4) hDn, own_rel R4 hD4 nD4, sl4.mono k, upd_same, nD4, Rps.mono k _ _ (ra4.snoc l4), hp⟩
                    · rw [if_neg hz] at hp
                      exact hp.elim
      · rw [if_neg hL] at hp
        exact hp.elim
    · have hn : i = I.items.length := by omega
      subst hn
      rw [List.drop_length] at hp
      unfold compL at hp
      by_cases hL : isLive I.live S'
      · rw [if_pos hL] at hp
        obtain ⟨_, g2⟩ := l _ φ' H' S' e' R' hL
        refine .inl ⟨g2 (Nat.le_refl _), ?_⟩
        refine Post.ok (L := RlW G) (a := W.lis acc) (S' := S') hp (e.trans e') R' ⟨⟨Da, vs, rfl, hD, nD, ra⟩, fun ds a e1 e2 => ?_⟩
        cases e2
        exact e.fr R1 _ hDn
      · rw [if_neg hL] at hp
        exact hp.elim
theorem k_comp {elt tg iter : Expr} {ifs : List Expr} {scope : Scope} {own : List (Str × Nat)} {pos : Pos} {t : Tg} {IA : AX Its} {TC : AX Bool} {AD : AX D} (hc : X.calm = true) (hN : X.N.Nodup) (hi : PI X tg iter (tIts G Wx IA)) (ok : BlkOk X.N X.env.scope scope own)
    (hg : ∀ (s : Shared) (H : Hp) (C : Addr) (cl : List (Str × Addr)) (fp : List Addr), PG (X.blk s H scope (compEnvC scope cl C X.env) fp) tg (gTg G.K t)) (ht : ∀ (s : Shared) (H : Hp) (C : Addr) (cl : List (Str × Addr)) (fp : List Addr), PTs (X.blk s H scope (compEnvC scope cl C X.env) fp) ifs (tBo G WxF TC))
    (he : ∀ (s : Shared) (H : Hp) (C : Addr) (cl : List (Str × Addr)) (fp : List Addr), PE (X.blk s H scope (compEnvC scope cl C X.env) fp) elt (tD G WxF AD)) (hs : ∀ x, foldedSetIterable iter X.env x = pure x) (hown : ∀ i ∈ t.slots, i ∈ own.map (·.2)) :
    PE X (.ListComp elt [⟨tg, iter, ifs, 0⟩] scope pos) (tK G Wx (compA t (own.map (·.2)) IA TC AD)) := (pe_lc hc hN hi ok hg ht he hs).im fun _ _ _ q => comp_im hown q
theorem kt_nil {X : Cx} : PTs X [] (tBo G Wx fun _ S => .ok true S) := ⟨fun pins s σ H Q I h => pts_nil.run pins s σ H Q I (by
  obtain ⟨φ, ρ, S, R, sl, h⟩ := h
  exact Post.ok (L := RlB) h (Ext.refl _ _) R rfl)⟩
theorem kt_one {X : Cx} {c : Expr} {TA : AX Bool} (h : PT X c (tBo G Wx TA)) : PTs X [c] (tBo G Wx TA) := pts_one h
end

/-! ### statements -/
section
variable (G : Gb) (Wx : WX)
def PostS (φ : List Addr) (H : Hp) (r : RS) (D : Ends) : Prop := match r with
  | .ok .nx ρ S => ∀ σ' H' φ', Ext φ H φ' H' → Rel G φ' H' S → Sl G φ' H' ρ σ' → D.nx σ' H'
  | .ok .brk ρ S => ∀ σ' H' φ', Ext φ H φ' H' → Rel G φ' H' S → Sl G φ' H' ρ σ' → D.bk σ' H'
  | .ok .cnt ρ S => ∀ σ' H' φ', Ext φ H φ' H' → Rel G φ' H' S → Sl G φ' H' ρ σ' → D.ct σ' H'
  | .ok (.rt d) ρ S => ∀ v H' φ', Ext φ H φ' H' → Rel G φ' H' S → Rp G φ' H' d v → D.rt v H'
  | .ex c fs ρ S => ∀ cls dx σ' H' φ', Ext φ H φ' H' → Rel G φ' H' S → Sl G φ' H' ρ σ' → RpX G φ' H' c fs cls dx → Wx cls dx σ' H'
  | .bad => False
abbrev AS := Env → Store → RS
def tS (A : AS) : TS := fun D σ H => ∃ φ ρ S, Rel G φ H S ∧ Sl G φ H ρ σ ∧ PostS G Wx φ H (A ρ S) D
end
section
variable {G : Gb} {Wx : WX} {X : Cx} {α β : Type} {D : Ends} {σ : L2.St} {H : Hp}
theorem PostS.sh {φ φ1 : List Addr} {H1 : Hp} {S1 : Store} {r : RS} (h : PostS G Wx φ H r D) (e : Ext φ H φ1 H1) : PostS G Wx φ1 H1 r D := by
  cases r with
  | ok f ρ S =>
    cases f with
    | nx => exact fun σ' H' φ' e' => h σ' H' φ' (e.trans e')
    | brk => exact fun σ' H' φ' e' => h σ' H' φ' (e.trans e')
    | cnt => exact fun σ' H' φ' e' => h σ' H' φ' (e.trans e')
    | rt d => exact fun v H' φ' e' => h v H' φ' (e.trans e')
  | ex c fs ρ S => exact fun cls dx σ' H' φ' e' => h cls dx σ' H' φ' (e.trans e')
  | bad => exact h
/-- from a place behind the start on -/
theorem tS.next {L : Rl α β} {A : AX α} {F : α → Store → RS} {H1 : Hp} {Q' : β → Hp → Prop} {φ φ1 : List Addr} {ρ : Env} {S S1 : Store} (R : Rel G φ H S) (sl : Sl G φ H ρ σ) (e : Ext φ H φ1 H1) (R1 : Rel G φ1 H1 S1)
    (h : PostS G Wx φ H ((A ρ S1).st ρ F) D)
    (k : ∀ b H2 φ2 x S2, Ext φ1 H1 φ2 H2 → Rel G φ2 H2 S2 → L H1 φ2 H2 x b → PostS G Wx φ H (F x S2) D → Q' b H2) : tI G Wx L A σ H1 Q' := by
  refine ⟨φ1, ρ, S1, R1, sl.mono (e.toKeep R), ?_⟩
  cases q : A ρ S1 with
  | ok x S2 => exact fun b H2 φ2 e2 R2 l => k b H2 φ2 x S2 e2 R2 l (by rw [q] at h; exact h)
  | ex c fs S2 =>
    rw [q] at h
    exact fun cls dx H2 φ2 e2 R2 x => h cls dx σ H2 φ2 (e.trans e2) R2 (sl.mono ((e.trans e2).toKeep R)) x
  | bad =>
    rw [q] at h
    exact h
theorem tS.bd {L : Rl α β} {A : AX α} {F : α → Env → Store → RS} {Q' : β → Hp → Prop} (h : tS G Wx (fun ρ S => (A ρ S).st ρ fun x S => F x ρ S) D σ H)
    (k : ∀ φ ρ S b φ1 H1 x S1, Rel G φ H S → Sl G φ H ρ σ → Ext φ H φ1 H1 → Rel G φ1 H1 S1 → L H φ1 H1 x b → PostS G Wx φ H (F x ρ S1) D → Q' b H1) : tI G Wx L A σ H Q' := by
  obtain ⟨φ, ρ, S, R, sl, h⟩ := h
  exact tS.next R sl (Ext.refl _ _) R h fun b H1 φ1 x S1 e R1 l h1 => k φ ρ S b φ1 H1 x S1 R sl e R1 l h1
theorem tS.go {A : AS} {H1 : Hp} {φ φ1 : List Addr} {ρ : Env} {S1 : Store} {σ1 : L2.St} (e : Ext φ H φ1 H1) (R1 : Rel G φ1 H1 S1) (sl : Sl G φ1 H1 ρ σ1) (h : PostS G Wx φ H (A ρ S1) D) : tS G Wx A D σ1 H1 := ⟨φ1, ρ, S1, R1, sl, h.sh (S1 := S1) e⟩
theorem _root_.L2.PS.im {st : Stmt} {t t' : TS} (h : PS X st t) (hi : ∀ D σ H, t' D σ H → t D σ H) : PS X st t' := ⟨fun pins s σ H D I q => h.run pins s σ H D I (hi _ _ _ q)⟩
theorem _root_.L2.PSs.im {st : List Stmt} {t t' : TS} (h : PSs X st t) (hi : ∀ D σ H, t' D σ H → t D σ H) : PSs X st t' := ⟨fun pins s σ H D I q => h.run pins s σ H D I (hi _ _ _ q)⟩

variable {A : AX W} {AD : AX Mi.D} {TA : AX Bool} {A1 A2 : AS} {e : Expr} {pos : Pos}
noncomputable def setA (t : Tg) (AD : AX Mi.D) : AS := fun ρ S => (AD ρ S).st ρ fun d S => match bindTg t d ρ with
  | some ρ => .ok .nx ρ S
  | none => .bad
theorem set_post {t : Tg} {φ φ1 : List Addr} {H1 : Hp} {ρ : Env} {S1 : Store} {d : Mi.D} {v : V} (e : Ext φ H φ1 H1) (R1 : Rel G φ1 H1 S1) (sl : Sl G φ1 H1 ρ σ) (r : Rp G φ1 H1 d v)
    (h : PostS G Wx φ H (match bindTg t d ρ with | some ρ => .ok .nx ρ S1 | none => .bad) D) : gTg G.K t v σ H1 D.nx := by
  cases q : bindTg t d ρ with
  | none => rw [q] at h; exact h.elim
  | some ρ' =>
    rw [q] at h
    exact tg_im q R1 sl r fun σ' sl' _ => h σ' H1 φ1 e R1 sl'
theorem set_im {t : Tg} (h : tS G Wx (setA t AD) D σ H) : tAsg (tD G Wx AD) (gTg G.K t) D σ H :=
  tS.bd (F := fun d ρ S => match bindTg t d ρ with | some ρ => .ok .nx ρ S | none => .bad) h fun φ ρ S v φ1 H1 d S1 R sl e R1 l h1 => set_post e R1 (sl.mono (e.toKeep R)) l h1
theorem set_imK {t : Tg} (h : tS G Wx (setA t fun ρ S => (A ρ S).bd toD) D σ H) : tK G Wx A σ H fun x H1 => gTg G.K t x σ H1 D.nx := by
  obtain ⟨φ, ρ, S, R, sl, h⟩ := h
  unfold setA at h
  dsimp only at h
  refine ⟨φ, ρ, S, R, sl, ?_⟩
  cases q : A ρ S with
  | bad => rw [q] at h; exact h
  | ex c fs S1 =>
    rw [q] at h
    exact fun cls dx H2 φ2 e2 R2 x => h cls dx σ H2 φ2 e2 R2 (sl.mono (e2.toKeep R)) x
  | ok w S1 =>
    rw [q] at h
    intro v H1 φ1 e R1 l
    refine toD_post (xk := fun c d H' => Wx c d σ H') (Q := fun x H1 => gTg G.K t x σ H1 D.nx) e R1 l ?_
    have h : PostS G Wx φ H ((toD w S1).st ρ fun d S => match bindTg t d ρ with | some ρ => .ok .nx ρ S | none => .bad) D := h
    cases w with
    | val d => exact fun u H2 φ2 e2 R2 l2 => set_post e2 R2 (sl.mono (e2.toKeep R)) l2 h
    | lis ds => exact fun u H2 φ2 e2 R2 l2 => set_post e2 R2 (sl.mono (e2.toKeep R)) l2 h
/-- an expression alone -/
theorem exp_im (h : tS G Wx (fun ρ S => (A ρ S).st ρ fun _ S => .ok .nx ρ S) D σ H) : tDrop (tK G Wx A) D σ H :=
  tS.bd (F := fun _ ρ S => .ok .nx ρ S) h fun φ ρ S v φ1 H1 x S1 R sl e R1 l h1 => h1 σ H1 φ1 e R1 (sl.mono (e.toKeep R))
theorem ret_im (h : tS G Wx (fun ρ S => (AD ρ S).st ρ fun d S => .ok (.rt d) ρ S) D σ H) : tRet (tD G Wx AD) D σ H :=
  tS.bd (F := fun d ρ S => .ok (.rt d) ρ S) h fun φ ρ S v φ1 H1 x S1 R sl e R1 l h1 => h1 v H1 φ1 e R1 l
theorem iff_im (h : tS G Wx (fun ρ S => (TA ρ S).st ρ fun k S => if k = true then A1 ρ S else A2 ρ S) D σ H) : tIfS (tBo G Wx TA) (tS G Wx A1) (tS G Wx A2) D σ H :=
  tS.bd (F := fun k ρ S => if k = true then A1 ρ S else A2 ρ S) h fun φ ρ S b φ1 H1 x S1 R sl e R1 l h1 => by
    have l : x = b := l
    subst l
    cases x with
    | true => exact (if_pos rfl).mpr (tS.go e R1 (sl.mono (e.toKeep R)) h1)
    | false => exact (if_neg Bool.false_ne_true).mpr (tS.go e R1 (sl.mono (e.toKeep R)) h1)
theorem k_if {c : Expr} {a b : List Stmt} (hc : PT X c (tBo G Wx TA)) (ha : PSs X a (tS G Wx A1)) (hb : PSs X b (tS G Wx A2)) : PS X (.If c a b pos) (tS G Wx fun ρ S => (TA ρ S).st ρ fun k S => if k = true then A1 ρ S else A2 ρ S) := (ps_if hc ha hb).im fun _ _ _ => iff_im
theorem k_ret (h : PE X e (tD G Wx AD)) : PS X (.Return (some e) pos) (tS G Wx fun ρ S => (AD ρ S).st ρ fun d S => .ok (.rt d) ρ S) := (ps_ret h).im fun _ _ _ => ret_im
theorem k_exp (h : PE X e (tK G Wx A)) (hs : swapsWith e none pos.line X.env = pure false) : PS X (.Expr e pos) (tS G Wx fun ρ S => (A ρ S).st ρ fun _ S => .ok .nx ρ S) := (ps_expr h hs).im fun _ _ _ => exp_im
theorem k_nil : PSs X [] (tS G Wx fun ρ S => .ok .nx ρ S) := pss_nil.im fun D σ H ⟨φ, ρ, S, R, sl, h⟩ => h σ H φ (Ext.refl _ _) R sl
theorem k_pass : PS X (.Pass pos) (tS G Wx fun ρ S => .ok .nx ρ S) := ps_pass.im fun D σ H ⟨φ, ρ, S, R, sl, h⟩ => h σ H φ (Ext.refl _ _) R sl
theorem k_brk : PS X (.Break pos) (tS G Wx fun ρ S => .ok .brk ρ S) := ps_break.im fun D σ H ⟨φ, ρ, S, R, sl, h⟩ => h σ H φ (Ext.refl _ _) R sl
theorem k_cnt : PS X (.Continue pos) (tS G Wx fun ρ S => .ok .cnt ρ S) := ps_continue.im fun D σ H ⟨φ, ρ, S, R, sl, h⟩ => h σ H φ (Ext.refl _ _) R sl
theorem k_doc {x : Str} {j : Nat} {p2 : Pos} : PS X (.Expr (.Constant (.str x) j pos) p2) (tS G Wx fun ρ S => .ok .nx ρ S) := ps_doc.im fun D σ H ⟨φ, ρ, S, R, sl, h⟩ => h σ H φ (Ext.refl _ _) R sl
theorem seq_im (h : tS G Wx (fun ρ S => (A1 ρ S).sq fun ρ S => A2 ρ S) D σ H) : tSeq (tS G Wx A1) (tS G Wx A2) D σ H := by
  obtain ⟨φ, ρ, S, R, sl, h⟩ := h
  dsimp only at h
  refine ⟨φ, ρ, S, R, sl, ?_⟩
  cases q : A1 ρ S with
  | bad => rw [q] at h; exact h
  | ex c fs ρ S => rw [q] at h; exact h
  | ok f ρ1 S1 =>
    rw [q] at h
    cases f with
    | nx => exact fun σ' H' φ' e R' sl' => tS.go e R' sl' h
    | brk => exact h
    | cnt => exact h
    | rt d => exact h
theorem k_cons {st : Stmt} {rest : List Stmt} (h1 : PS X st (tS G Wx A1)) (h2 : PSs X rest (tS G Wx A2)) : PSs X (st :: rest) (tS G Wx fun ρ S => (A1 ρ S).sq fun ρ S => A2 ρ S) := (pss_cons h1 h2).im fun _ _ _ => seq_im

/-! ### for -/
noncomputable def bodyA (t : Tg) (A1 : AS) : Mi.D → AS := fun d ρ S => match bindTg t d ρ with
  | some ρ => A1 ρ S
  | none => .bad
theorem for_im {t : Tg} {IA : AX Its} (h : tS G Wx (fun ρ S => (IA ρ S).st ρ fun I S => forL I.live (bodyA t A1) I.items ρ S) D σ H) : tFor (tIts G Wx IA) (gTg G.K t) (tS G Wx A1) D σ H := by
  refine tS.bd (F := fun I ρ S => forL I.live (bodyA t A1) I.items ρ S) h fun φ ρ S J φ1 H1 I S1 R sl e R1 l h => ?_
  have l : ItOk G J φ1 H1 I := l
  refine ⟨fun i m σ' H' => m = I.items.length - i ∧ i ≤ I.items.length ∧ ∃ φ' ρ' S', Ext φ1 H1 φ' H' ∧ Rel G φ' H' S' ∧ Sl G φ' H' ρ' σ' ∧ PostS G Wx φ H (forL I.live (bodyA t A1) (I.items.drop i) ρ' S') D,
    ⟨I.items.length, by simp, Nat.zero_le _, φ1, ρ, S1, Ext.refl _ _, R1, sl.mono (e.toKeep R), by simpa using h⟩, ?_⟩
  rintro i m σ' H' ⟨rfl, hi, φ', ρ', S', e', R', sl', hp⟩
  by_cases hlt : i < I.items.length
  · rw [List.drop_eq_getElem_cons hlt] at hp
    unfold forL at hp
    by_cases hL : isLive I.live S'
    · rw [if_pos hL] at hp
      obtain ⟨g1, _⟩ := l i φ' H' S' e' R' hL
      obtain ⟨go, gy⟩ := g1 _ (List.getElem?_eq_getElem hlt)
      refine .inr ⟨go, fun σ'' H'' => ∃ m', m' < I.items.length - i ∧ m' = I.items.length - (i + 1) ∧ i + 1 ≤ I.items.length ∧ ∃ φ' ρ' S', Ext φ1 H1 φ' H'' ∧ Rel G φ' H'' S' ∧ Sl G φ' H'' ρ' σ'' ∧
        PostS G Wx φ H (forL I.live (bodyA t A1) (I.items.drop (i + 1)) ρ' S') D, fun σ'' H'' ⟨m', hm, hw⟩ => ⟨m', hm, hw⟩, fun x H2 yd => ?_⟩
      obtain ⟨e2, R2, r2⟩ := gy x H2 yd
      have sl2 := sl'.mono (e2.toKeep R')
      unfold bodyA at hp
      cases hb : bindTg t I.items[i] ρ' with
      | none => simp only [hb] at hp; exact hp.elim
      | some ρ2 =>
        simp only [hb] at hp
        refine tg_im hb R2 sl2 r2 fun σ2 slr _ => ⟨φ', ρ2, S', R2, slr, ?_⟩
        have e12 := e'.trans e2
        have e02 := (e.trans e12)
        cases hA : A1 ρ2 S' with
        | bad => rw [hA] at hp; exact hp
        | ex c fs ρ3 S3 =>
          rw [hA] at hp
          exact fun cls dx σ3 H3 φ3 e3 R3 sl3 x3 => hp cls dx σ3 H3 φ3 (e02.trans e3) R3 sl3 x3
        | ok f ρ3 S3 =>
          rw [hA] at hp
          cases f with
          | nx => exact fun σ3 H3 φ3 e3 R3 sl3 => ⟨I.items.length - (i + 1), by omega, rfl, hlt, φ3, ρ3, S3, e12.trans e3, R3, sl3, hp⟩
          | cnt => exact fun σ3 H3 φ3 e3 R3 sl3 => ⟨I.items.length - (i + 1), by omega, rfl, hlt, φ3, ρ3, S3, e12.trans e3, R3, sl3, hp⟩
          | brk => exact fun σ3 H3 φ3 e3 R3 sl3 => hp σ3 H3 φ3 (e02.trans e3) R3 sl3
          | rt d => exact fun v H3 φ3 e3 R3 l3 => hp v H3 φ3 (e02.trans e3) R3 l3
    · rw [if_neg hL] at hp
      exact hp.elim
  · have hn : i = I.items.length := by omega
    subst hn
    rw [List.drop_length] at hp
    unfold forL at hp
    by_cases hL : isLive I.live S'
    · rw [if_pos hL] at hp
      obtain ⟨_, g2⟩ := l _ φ' H' S' e' R' hL
      exact .inl ⟨g2 (Nat.le_refl _), hp σ' H' φ' (e.trans e') R' sl'⟩
    · rw [if_neg hL] at hp
      exact hp.elim
theorem k_for {tg iter : Expr} {body : List Stmt} {t : Tg} {IA : AX Its} (hp : PassesOwn (model X.prog X.w) X.A X.env X.xe) (hc : X.calm = true) (hi : PI X tg iter (tIts G Wx IA)) (hg : PG X tg (gTg G.K t)) (hb : PSs X body (tS G Wx A1)) (hs : ∀ x, foldedSetIterable iter X.env x = pure x) :
    PS X (.For tg iter body [] pos) (tS G Wx fun ρ S => (IA ρ S).st ρ fun I S => forL I.live (bodyA t A1) I.items ρ S) := (ps_for hp hc hi hg hb hs).im fun _ _ _ => for_im

/-! ### while -/
theorem whileF_mono {c : AX Bool} {b : AS} : ∀ {n : Nat} {ρ : Env} {S : Store} {r : RS} (k : Nat), whileF c b n ρ S = some r → whileF c b (n + k) ρ S = some r
  | 0, _, _, _, _, h => by unfold whileF at h; cases h
  | n + 1, ρ, S, r, k, h => by
    rw [Nat.add_right_comm]
    unfold whileF at h ⊢
    cases q : c ρ S with
    | bad => simp only [q] at h ⊢; exact h
    | ex c fs S => simp only [q] at h ⊢; exact h
    | ok t S1 =>
      simp only [q] at h ⊢
      cases t with
      | false => exact h
      | true =>
        dsimp only at h ⊢
        cases q2 : b ρ S1 with
        | bad => simp only [q2] at h ⊢; exact h
        | ex c fs ρ S => simp only [q2] at h ⊢; exact h
        | ok f ρ2 S2 =>
          simp only [q2] at h ⊢
          cases f with
          | nx => exact whileF_mono k h
          | cnt => exact whileF_mono k h
          | brk => exact h
          | rt d => exact h
theorem whileR_of {c : AX Bool} {b : AS} {n : Nat} {ρ : Env} {S : Store} {r : RS} (h : whileF c b n ρ S = some r) : whileR c b ρ S = r := by
  unfold whileR
  have ex : ∃ r n, whileF c b n ρ S = some r := ⟨r, n, h⟩
  rw [dif_pos ex]
  obtain ⟨m, hm⟩ := Classical.choose_spec ex
  have h1 := whileF_mono m h
  have h2 := whileF_mono n hm
  rw [Nat.add_comm m n] at h2
  rw [h1] at h2
  exact (Option.some.inj h2).symm
theorem whileR_fuel {c : AX Bool} {b : AS} {ρ : Env} {S : Store} (h : whileR c b ρ S ≠ .bad) : ∃ n, whileF c b n ρ S = some (whileR c b ρ S) := by
  by_cases ex : ∃ r n, whileF c b n ρ S = some r
  · obtain ⟨r, n, hn⟩ := ex
    exact ⟨n, by rw [whileR_of hn]; exact hn⟩
  · unfold whileR at h
    rw [dif_neg ex] at h
    exact absurd rfl h
theorem whl_im (h : tS G Wx (fun ρ S => whileR TA A1 ρ S) D σ H) : tWhile (tBo G Wx TA) (tS G Wx A1) D σ H := by
  obtain ⟨φ, ρ, S, R, sl, h⟩ := h
  dsimp only at h
  have nb : whileR TA A1 ρ S ≠ .bad := fun q => by rw [q] at h; exact h
  obtain ⟨n, hn⟩ := whileR_fuel nb
  refine ⟨fun m σ' H' => ∃ φ' ρ' S', Ext φ H φ' H' ∧ Rel G φ' H' S' ∧ Sl G φ' H' ρ' σ' ∧ whileF TA A1 m ρ' S' = some (whileR TA A1 ρ S), ⟨n, φ, ρ, S, Ext.refl _ _, R, sl, hn⟩, ?_⟩
  rintro m σ' H' ⟨φ', ρ', S', e', R', sl', hm⟩
  cases m with
  | zero => unfold whileF at hm; cases hm
  | succ m =>
    unfold whileF at hm
    refine ⟨φ', ρ', S', R', sl', ?_⟩
    cases q : TA ρ' S' with
    | bad =>
      rw [q] at hm
      exact absurd (Option.some.inj hm).symm nb
    | ex c fs S1 =>
      rw [q] at hm
      have hm := (Option.some.inj hm)
      rw [← hm] at h
      exact fun cls dx H2 φ2 e2 R2 x => h cls dx σ' H2 φ2 (e'.trans e2) R2 (sl'.mono (e2.toKeep R')) x
    | ok t S1 =>
      rw [q] at hm
      intro b H2 φ2 e2 R2 lb
      have lb : t = b := lb
      subst lb
      have sl2 := sl'.mono (e2.toKeep R')
      cases t with
      | false =>
        have hm := Option.some.inj hm
        rw [← hm] at h
        exact (if_neg Bool.false_ne_true).mpr (h σ' H2 φ2 (e'.trans e2) R2 sl2)
      | true =>
        refine (if_pos rfl).mpr ⟨fun σ'' H'' => ∃ φ' ρ' S', Ext φ H φ' H'' ∧ Rel G φ' H'' S' ∧ Sl G φ' H'' ρ' σ'' ∧ whileF TA A1 m ρ' S' = some (whileR TA A1 ρ S), fun σ'' H'' hw => ⟨m, Nat.lt_succ_self _, hw⟩, φ2, ρ', S1, R2, sl2, ?_⟩
        dsimp only at hm
        cases qb : A1 ρ' S1 with
        | bad =>
          rw [qb] at hm
          exact absurd (Option.some.inj hm).symm nb
        | ex c fs ρ3 S3 =>
          rw [qb] at hm
          have hm := Option.some.inj hm
          rw [← hm] at h
          exact fun cls dx σ3 H3 φ3 e3 R3 sl3 x => h cls dx σ3 H3 φ3 ((e'.trans e2).trans e3) R3 sl3 x
        | ok f ρ3 S3 =>
          rw [qb] at hm
          cases f with
          | nx => exact fun σ3 H3 φ3 e3 R3 sl3 => ⟨φ3, ρ3, S3, (e'.trans e2).trans e3, R3, sl3, hm⟩
          | cnt => exact fun σ3 H3 φ3 e3 R3 sl3 => ⟨φ3, ρ3, S3, (e'.trans e2).trans e3, R3, sl3, hm⟩
          | brk =>
            have hm := Option.some.inj hm
            rw [← hm] at h
            exact fun σ3 H3 φ3 e3 R3 sl3 => h σ3 H3 φ3 ((e'.trans e2).trans e3) R3 sl3
          | rt d =>
            have hm := Option.some.inj hm
            rw [← hm] at h
            exact fun v H3 φ3 e3 R3 l3 => h v H3 φ3 ((e'.trans e2).trans e3) R3 l3
theorem k_whl {c : Expr} {body : List Stmt} (hp : PassesOwn (model X.prog X.w) X.A X.env X.xe) (hc : PT X c (tBo G Wx TA)) (hb : PSs X body (tS G Wx A1)) : PS X (.While c body [] pos) (tS G Wx fun ρ S => whileR TA A1 ρ S) := (ps_while hp hc hb).im fun _ _ _ => whl_im

/-! ### name += e -/
theorem aug_im {i : Nat} {o : P2} {f : Int → Int → Int} (hf : ∀ x y d, augV o x y = some d → ∃ a b, x = .int a ∧ y = .val (.int b) ∧ d = .int (f a b)) (h : tS G Wx (fun ρ S => match ρ[i]? with
    | some (some x) => (A ρ S).st ρ fun y S => match augV o x y with
      | some d => .ok .nx (ρ.set i (some d)) S
      | none => .bad
    | _ => .bad) D σ H) : tAug i (tK G Wx A) (ipI f) D σ H := by
  obtain ⟨φ, ρ, S, R, sl, h⟩ := h
  dsimp only at h
  cases q : ρ[i]? with
  | none => simp only [q] at h; exact h.elim
  | some oo =>
    cases oo with
    | none => simp only [q] at h; exact h.elim
    | some x =>
      simp only [q] at h
      obtain ⟨v, hv, rv⟩ := sl.2 i x q
      refine ⟨v, hv, tS.next (L := RlW G) (F := fun y S => match augV o x y with
        | some d => .ok .nx (ρ.set i (some d)) S
        | none => .bad) R sl (Ext.refl _ _) R h fun u H1 φ1 y S1 e R1 l h1 => ?_⟩
      cases qq : augV o x y with
      | none => simp only [qq] at h1; exact h1.elim
      | some d =>
        simp only [qq] at h1
        obtain ⟨a, b, rfl, rfl, rfl⟩ := hf x y d qq
        unfold Rp at rv
        have ru := rp_int l.1
        exact ⟨a, b, rv, ru, h1 _ H1 φ1 e R1 ((sl.mono (e.toKeep R)).set i (by unfold Rp; rfl))⟩
theorem augAdd : ∀ x y d, augV .add x y = some d → ∃ a b, x = .int a ∧ y = .val (.int b) ∧ d = .int (a + b) := by
  intro x y d h
  unfold augV at h
  split at h
  · cases h; exact ⟨_, _, rfl, rfl, rfl⟩
  · exact absurd ‹P2.add = P2.sub› (by decide)
  · cases h
theorem augSub : ∀ x y d, augV .sub x y = some d → ∃ a b, x = .int a ∧ y = .val (.int b) ∧ d = .int (a - b) := by
  intro x y d h
  unfold augV at h
  split at h
  · exact absurd ‹P2.sub = P2.add› (by decide)
  · cases h; exact ⟨_, _, rfl, rfl, rfl⟩
  · cases h
end
end Mi

/-! Mi, part F: operations by values. -/
namespace Mi
open PySem L2 PyProof.Rows RT RZ

/-! ### data -/
section
variable {α β : Type} {f : α → Option β}
theorem mapO_cons {a : α} {r : List α} {l : List β} (h : mapO f (a :: r) = some l) : ∃ b bs, f a = some b ∧ mapO f r = some bs ∧ l = b :: bs := by
  unfold mapO at h
  cases q : f a with
  | none => simp only [q] at h; cases h
  | some b =>
    cases q2 : mapO f r with
    | none => simp only [q, q2] at h; cases h
    | some bs => simp only [q, q2] at h; cases h; exact ⟨b, bs, rfl, rfl, rfl⟩
theorem mapO_nil {l : List β} (h : mapO f [] = some l) : l = [] := by
  unfold mapO at h
  cases h; rfl
end
theorem toPy_ok {S : Store} : ∀ {n : Nat} {d : D} {y : PyData}, toPy S n d = some y → y.plain = true ∧ y.depth ≤ n
  | 0, _, _, h => by unfold toPy at h; cases h
  | n + 1, d, y, h => by
    have lst : ∀ (ds : List D) (ys : List PyData), mapO (toPy S n) ds = some ys → PyData.plainAll ys = true ∧ PyData.depthAll ys ≤ n := by
      intro ds
      induction ds with
      | nil => intro ys h; rw [mapO_nil h]; exact ⟨rfl, Nat.zero_le _⟩
      | cons d ds ih =>
        intro ys h
        obtain ⟨b, bs, h1, h2, rfl⟩ := mapO_cons h
        obtain ⟨i1, i2⟩ := toPy_ok h1
        obtain ⟨j1, j2⟩ := ih bs h2
        refine ⟨?_, ?_⟩
        · rw [PyData.plainAll, i1, j1]; rfl
        · rw [PyData.depthAll]; omega
    unfold toPy at h
    cases d with
    | non => cases h; exact ⟨rfl, by rw [PyData.depth]; omega⟩
    | bl b => cases h; exact ⟨rfl, by rw [PyData.depth]; omega⟩
    | int b => cases h; exact ⟨rfl, by rw [PyData.depth]; omega⟩
    | str b => cases h; exact ⟨rfl, by rw [PyData.depth]; omega⟩
    | tup ds =>
      obtain ⟨ys, h1, rfl⟩ := Option.map_eq_some_iff.mp h
      obtain ⟨h1, h2⟩ := lst ds ys h1
      exact ⟨by rw [PyData.plain]; exact h1, by rw [PyData.depth]; omega⟩
    | ls ds =>
      obtain ⟨ys, h1, rfl⟩ := Option.map_eq_some_iff.mp h
      obtain ⟨h1, h2⟩ := lst ds ys h1
      exact ⟨by rw [PyData.plain]; exact h1, by rw [PyData.depth]; omega⟩
    | kt ds =>
      obtain ⟨ys, h1, rfl⟩ := Option.map_eq_some_iff.mp h
      obtain ⟨h1, h2⟩ := lst ds ys h1
      exact ⟨by rw [PyData.plain]; exact h1, by rw [PyData.depth]; omega⟩
    | ref k =>
      dsimp only at h
      cases q : S[k]? with
      | none => simp only [q] at h; cases h
      | some o =>
        cases o with
        | lst ds =>
          simp only [q] at h
          obtain ⟨ys, h1, rfl⟩ := Option.map_eq_some_iff.mp h
          obtain ⟨h1, h2⟩ := lst ds ys h1
          exact ⟨by rw [PyData.plain]; exact h1, by rw [PyData.depth]; omega⟩
        | _ => simp only [q] at h; cases h
theorem mapPy_ok {S : Store} {n : Nat} : ∀ {ds : List D} {ys : List PyData}, mapO (toPy S n) ds = some ys → PyData.plainAll ys = true ∧ PyData.depthAll ys ≤ n
  | [], ys, h => by rw [mapO_nil h]; exact ⟨rfl, Nat.zero_le _⟩
  | d :: ds, ys, h => by
    obtain ⟨b, bs, h1, h2, rfl⟩ := mapO_cons h
    obtain ⟨i1, i2⟩ := toPy_ok h1
    obtain ⟨j1, j2⟩ := mapPy_ok h2
    refine ⟨?_, ?_⟩
    · rw [PyData.plainAll, i1, j1]; rfl
    · rw [PyData.depthAll]; omega
section
variable {G : Gb} {φ : List Addr} {H : Hp} {S : Store}
theorem toPy_dp (R : Rel G φ H S) : ∀ {n : Nat} {d : D} {v : V} {y : PyData}, Rp G φ H d v → toPy S n d = some y → Dp G.K H v y
  | 0, _, _, _, _, h => by unfold toPy at h; cases h
  | n + 1, d, v, y, r, h => by
    have lst : ∀ (ds : List D) (vs : List V) (ys : List PyData), Rps G φ H ds vs → mapO (toPy S n) ds = some ys → DpAll G.K H vs ys := by
      intro ds
      induction ds with
      | nil => intro vs ys r h; unfold Rps at r; subst r; rw [mapO_nil h]; exact .nil
      | cons d ds ih =>
        intro vs ys r h
        obtain ⟨b, bs, h1, h2, rfl⟩ := mapO_cons h
        unfold Rps at r
        obtain ⟨w, t, rfl, r1, r2⟩ := r
        exact .cons (toPy_dp R r1 h1) (ih t bs r2 h2)
    unfold toPy at h
    cases d with
    | non => cases h; unfold Rp at r; subst r; exact .non
    | bl b => cases h; unfold Rp at r; subst r; exact .bl b
    | int b => cases h; unfold Rp at r; subst r; exact .int b
    | str b => cases h; unfold Rp at r; subst r; exact .str b
    | tup ds =>
      obtain ⟨ys, h1, rfl⟩ := Option.map_eq_some_iff.mp h
      unfold Rp at r
      obtain ⟨a, vs, rfl, ha, hr⟩ := r
      exact .tup ha.sq (lst ds vs ys hr h1)
    | ls ds =>
      obtain ⟨ys, h1, rfl⟩ := Option.map_eq_some_iff.mp h
      unfold Rp at r
      obtain ⟨a, vs, rfl, ha, hr⟩ := r
      exact .lst ha.sq (lst ds vs ys hr h1)
    | kt ds =>
      obtain ⟨ys, h1, rfl⟩ := Option.map_eq_some_iff.mp h
      unfold Rp at r
      obtain ⟨a, vs, rfl, ha, hr⟩ := r
      exact .tup ha.sq (lst ds vs ys hr h1)
    | ref k =>
      dsimp only at h
      unfold Rp at r
      obtain ⟨a, rfl, ha⟩ := r
      cases q : S[k]? with
      | none => simp only [q] at h; cases h
      | some o =>
        cases o with
        | lst ds =>
          simp only [q] at h
          obtain ⟨ys, h1, rfl⟩ := Option.map_eq_some_iff.mp h
          obtain ⟨vs, h2, h3⟩ := R.obj k a _ ha q
          exact .lst (SqL.of h2) (lst ds vs ys h3 h1)
        | _ => simp only [q] at h; cases h
theorem mapPy_dp (R : Rel G φ H S) {n : Nat} : ∀ {ds : List D} {vs : List V} {ys : List PyData}, Rps G φ H ds vs → mapO (toPy S n) ds = some ys → DpAll G.K H vs ys
  | [], vs, ys, r, h => by unfold Rps at r; subst r; rw [mapO_nil h]; exact .nil
  | d :: ds, vs, ys, r, h => by
    obtain ⟨b, bs, h1, h2, rfl⟩ := mapO_cons h
    unfold Rps at r
    obtain ⟨w, t, rfl, r1, r2⟩ := r
    exact .cons (toPy_dp R r1 h1) (mapPy_dp R r2 h2)
theorem py_ok {w : W} {y : PyData} (h : w.py S = some y) : y.plain = true ∧ y.depth ≤ deepest + 1 := by
  cases w with
  | val d =>
    obtain ⟨h1, h2⟩ := toPy_ok (show toPy S deepest d = some y from h)
    exact ⟨h1, by omega⟩
  | lis ds =>
    obtain ⟨ys, h1, rfl⟩ := Option.map_eq_some_iff.mp (show (mapO (toPy S deepest) ds).map PyData.list = some y from h)
    obtain ⟨h1, h2⟩ := mapPy_ok h1
    exact ⟨by rw [PyData.plain]; exact h1, by rw [PyData.depth]; omega⟩
theorem py_dp (R : Rel G φ H S) {w : W} {v : V} {y : PyData} (r : RpW G φ H w v) (h : w.py S = some y) : Dp G.K H v y := by
  cases w with
  | val d => exact toPy_dp R (show Rp G φ H d v from r) (show toPy S deepest d = some y from h)
  | lis ds =>
    obtain ⟨ys, h1, rfl⟩ := Option.map_eq_some_iff.mp (show (mapO (toPy S deepest) ds).map PyData.list = some y from h)
    obtain ⟨a, vs, rfl, h2, _, h3⟩ := r
    exact .lst (SqL.of h2) (mapPy_dp R h3 h1)
end

section
variable {G : Gb} {X : Cx}
theorem vv_ok {φ : List Addr} {H : Hp} {S : Store} {d : D} {v : V} {xk : XK} {Q : VK} (R : Rel G φ H S) (h : Post G (RlW G) φ H (vv d S) xk Q) (r : Rp G φ H d v) : Q v H := Post.ok (L := RlW G) h (Ext.refl _ _) R (rl_val r)
theorem rp_bl {φ : List Addr} {H : Hp} {b : Bool} : Rp G φ H (.bl b) (.bl b) := by unfold Rp; rfl
theorem rp_in {φ : List Addr} {H : Hp} {b : Int} : Rp G φ H (.int b) (.int b) := by unfold Rp; rfl
theorem rp_st {φ : List Addr} {H : Hp} {b : Str} : Rp G φ H (.str b) (.str b) := by unfold Rp; rfl
theorem rp_no {φ : List Addr} {H : Hp} : Rp G φ H .non .non := by unfold Rp; rfl
theorem rp_str {φ : List Addr} {H : Hp} {i : Str} {v : V} (h : RpW G φ H (.val (.str i)) v) : v = .str i := by unfold RpW Rp at h; exact h

theorem o_eq (hK : X.K = G.K) (hu : X.A.units + 64 < cLine) : OpR X (compareOp .Eq) (rP2 G (p2 .eq)) := by
  intro pins s σ H x y v u Q I rx ry h
  obtain ⟨φ, w1, w2, S, xk, R, r1, r2, h⟩ := h
  unfold p2 at h
  dsimp only at h
  cases q1 : w1.py S with
  | none => simp only [q1] at h; exact h.elim
  | some a =>
    cases q2 : w2.py S with
    | none => simp only [q1, q2] at h; exact h.elim
    | some b =>
      simp only [q1, q2] at h
      obtain ⟨p1, d1⟩ := py_ok q1
      obtain ⟨p2, d2⟩ := py_ok q2
      obtain ⟨as, t1⟩ := Dp.reads I a x v (by rw [hK]; exact py_dp R r1 q1) rx
      obtain ⟨bs, t2⟩ := Dp.reads I b y u (by rw [hK]; exact py_dp R r2 q2) ry
      exact SeqAt.eq_plain t1 t2 p1 p2 (by have : deepest = 40 := rfl; omega) ⟨.bl _, H, I, rfl, vv_ok R h rp_bl⟩
theorem o_ne (hK : X.K = G.K) (hu : X.A.units + 64 < cLine) : OpR X (compareOp .NotEq) (rP2 G (p2 .ne)) := by
  intro pins s σ H x y v u Q I rx ry h
  obtain ⟨φ, w1, w2, S, xk, R, r1, r2, h⟩ := h
  unfold p2 at h
  dsimp only at h
  cases q1 : w1.py S with
  | none => simp only [q1] at h; exact h.elim
  | some a =>
    cases q2 : w2.py S with
    | none => simp only [q1, q2] at h; exact h.elim
    | some b =>
      simp only [q1, q2] at h
      obtain ⟨p1, d1⟩ := py_ok q1
      obtain ⟨p2, d2⟩ := py_ok q2
      obtain ⟨as, t1⟩ := Dp.reads I a x v (by rw [hK]; exact py_dp R r1 q1) rx
      obtain ⟨bs, t2⟩ := Dp.reads I b y u (by rw [hK]; exact py_dp R r2 q2) ry
      exact SeqAt.ne_plain t1 t2 p1 p2 (by have : deepest = 40 := rfl; omega) ⟨.bl _, H, I, rfl, vv_ok R h rp_bl⟩
theorem isNone_ne {a : PyData} (h : isNonePy a = false) : a ≠ .none := by rintro rfl; cases h
theorem o_lt (hK : X.K = G.K) (hu : X.A.units + 64 < cLine) : OpR X (compareOp .Lt) (rP2 G (p2 .lt)) := by
  intro pins s σ H x y v u Q I rx ry h
  obtain ⟨φ, w1, w2, S, xk, R, r1, r2, h⟩ := h
  unfold p2 at h
  dsimp only at h
  cases q1 : w1.py S with
  | none => simp only [q1] at h; exact h.elim
  | some a =>
    cases q2 : w2.py S with
    | none => simp only [q1, q2] at h; exact h.elim
    | some b =>
      simp only [q1, q2] at h
      obtain ⟨p1, d1⟩ := py_ok q1
      obtain ⟨as, t1⟩ := Dp.reads I a x v (by rw [hK]; exact py_dp R r1 q1) rx
      obtain ⟨bs, t2⟩ := Dp.reads I b y u (by rw [hK]; exact py_dp R r2 q2) ry
      unfold cmpD at h
      by_cases c : (W.alike a b && !isNonePy a) = true
      · rw [if_pos c] at h
        obtain ⟨c1, c2⟩ := Bool.and_eq_true_iff.mp c
        exact W.lt_data t1 t2 c1 (isNone_ne (by simpa using c2)) (by have : deepest = 40 := rfl; omega) ⟨.bl _, H, I, rfl, vv_ok R h rp_bl⟩
      · rw [if_neg c] at h; exact h.elim
theorem o_gt (hK : X.K = G.K) (hu : X.A.units + 64 < cLine) : OpR X (compareOp .Gt) (rP2 G (p2 .gt)) := by
  intro pins s σ H x y v u Q I rx ry h
  obtain ⟨φ, w1, w2, S, xk, R, r1, r2, h⟩ := h
  unfold p2 at h
  dsimp only at h
  cases q1 : w1.py S with
  | none => simp only [q1] at h; exact h.elim
  | some a =>
    cases q2 : w2.py S with
    | none => simp only [q1, q2] at h; exact h.elim
    | some b =>
      simp only [q1, q2] at h
      obtain ⟨p1, d1⟩ := py_ok q1
      obtain ⟨as, t1⟩ := Dp.reads I a x v (by rw [hK]; exact py_dp R r1 q1) rx
      obtain ⟨bs, t2⟩ := Dp.reads I b y u (by rw [hK]; exact py_dp R r2 q2) ry
      unfold cmpD at h
      by_cases c : (W.alike a b && !isNonePy a) = true
      · rw [if_pos c] at h
        obtain ⟨c1, c2⟩ := Bool.and_eq_true_iff.mp c
        exact W.gt_data t1 t2 c1 (isNone_ne (by simpa using c2)) (by have : deepest = 40 := rfl; omega) ⟨.bl _, H, I, rfl, vv_ok R h rp_bl⟩
      · rw [if_neg c] at h; exact h.elim
theorem o_le (hK : X.K = G.K) (hu : X.A.units + 64 < cLine) : OpR X (compareOp .LtE) (rP2 G (p2 .le)) := by
  intro pins s σ H x y v u Q I rx ry h
  obtain ⟨φ, w1, w2, S, xk, R, r1, r2, h⟩ := h
  unfold p2 at h
  dsimp only at h
  cases q1 : w1.py S with
  | none => simp only [q1] at h; exact h.elim
  | some a =>
    cases q2 : w2.py S with
    | none => simp only [q1, q2] at h; exact h.elim
    | some b =>
      simp only [q1, q2] at h
      obtain ⟨p1, d1⟩ := py_ok q1
      obtain ⟨as, t1⟩ := Dp.reads I a x v (by rw [hK]; exact py_dp R r1 q1) rx
      obtain ⟨bs, t2⟩ := Dp.reads I b y u (by rw [hK]; exact py_dp R r2 q2) ry
      unfold cmpD at h
      by_cases c : (W.alike a b && !isNonePy a) = true
      · rw [if_pos c] at h
        obtain ⟨c1, c2⟩ := Bool.and_eq_true_iff.mp c
        exact W.le_data t1 t2 c1 (isNone_ne (by simpa using c2)) (by have : deepest = 40 := rfl; omega) ⟨.bl _, H, I, rfl, vv_ok R h rp_bl⟩
      · rw [if_neg c] at h; exact h.elim
theorem o_ge (hK : X.K = G.K) (hu : X.A.units + 64 < cLine) : OpR X (compareOp .GtE) (rP2 G (p2 .ge)) := by
  intro pins s σ H x y v u Q I rx ry h
  obtain ⟨φ, w1, w2, S, xk, R, r1, r2, h⟩ := h
  unfold p2 at h
  dsimp only at h
  cases q1 : w1.py S with
  | none => simp only [q1] at h; exact h.elim
  | some a =>
    cases q2 : w2.py S with
    | none => simp only [q1, q2] at h; exact h.elim
    | some b =>
      simp only [q1, q2] at h
      obtain ⟨p1, d1⟩ := py_ok q1
      obtain ⟨as, t1⟩ := Dp.reads I a x v (by rw [hK]; exact py_dp R r1 q1) rx
      obtain ⟨bs, t2⟩ := Dp.reads I b y u (by rw [hK]; exact py_dp R r2 q2) ry
      unfold cmpD at h
      by_cases c : (W.alike a b && !isNonePy a) = true
      · rw [if_pos c] at h
        obtain ⟨c1, c2⟩ := Bool.and_eq_true_iff.mp c
        exact W.ge_data t1 t2 c1 (isNone_ne (by simpa using c2)) (by have : deepest = 40 := rfl; omega) ⟨.bl _, H, I, rfl, vv_ok R h rp_bl⟩
      · rw [if_neg c] at h; exact h.elim

/-! ### in -/
def OpRp (G : Gb) (φ : List Addr) (H : Hp) (o : Option D) (ov : Option V) : Prop := match o with
  | some d => ∃ w, ov = some w ∧ Rp G φ H d w
  | none => ov = none
theorem RpKV.look {κ : Type} [DecidableEq κ] {φ : List Addr} {H : Hp} {k : κ} : ∀ {kvs : List (κ × D)} {vs : List (κ × V)}, RpKV G φ H kvs vs → OpRp G φ H (lookD kvs k) (valV vs k)
  | [], vs, h => by
    have h : vs = [] := h
    subst h
    rfl
  | p :: r, vs, h => by
    obtain ⟨v, t, rfl, h1, h2⟩ := h
    by_cases c : p.1 = k
    · have e : lookD (p :: r) k = some p.2 := by simp [lookD, List.find?_cons, c]
      rw [e, valV_pos (p := (p.1, v)) c]
      exact ⟨v, rfl, h1⟩
    · have e : lookD (p :: r) k = lookD r k := by simp [lookD, List.find?_cons, c]
      rw [e, valV_neg (p := (p.1, v)) c]
      exact RpKV.look h2
theorem key_v {φ : List Addr} {H : Hp} {d : D} {k : Key} {v : V} (h : d.key = some k) (r : Rp G φ H d v) : v = kV k := by
  cases d with
  | int i => cases h; unfold Rp at r; exact r
  | str x => cases h; unfold Rp at r; exact r
  | _ => cases h
theorem keys_v {φ : List Addr} {H : Hp} : ∀ {ds : List D} {ks : List Key} {vs : List V}, mapO D.key ds = some ks → Rps G φ H ds vs → vs = ks.map kV
  | [], ks, vs, h, r => by unfold Rps at r; subst r; rw [mapO_nil h]; rfl
  | d :: ds, ks, vs, h, r => by
    obtain ⟨b, bs, h1, h2, rfl⟩ := mapO_cons h
    unfold Rps at r
    obtain ⟨v, t, rfl, r1, r2⟩ := r
    rw [List.map_cons, key_v h1 r1, keys_v h2 r2]
theorem keyT_v {φ : List Addr} {H : Hp} {d : D} {ks : List Key} {v : V} (h : d.keyT = some ks) (r : Rp G φ H d v) : ∃ b, v = .ref b ∧ H b = some (.tup (ks.map kV)) := by
  cases d with
  | tup ds =>
    unfold Rp at r
    obtain ⟨a, vs, rfl, ha, hr⟩ := r
    have e := keys_v (show mapO D.key ds = some ks from h) hr
    subst e
    exact ⟨a, rfl, ha⟩
  | _ => cases h
theorem look_dget {φ : List Addr} {H : Hp} {S : Store} {n : Nat} {k : D} {o : Option D} {a : Addr} {v : V} (R : Rel G φ H S) (ha : φ[n]? = some a) (r : Rp G φ H k v) (h : look S n k = some o) : ∃ ov, DGet H a v ov ∧ OpRp G φ H o ov := by
  unfold look at h
  cases q : S[n]? with
  | none => simp only [q] at h; cases h
  | some ob =>
    cases ob with
    | dk kvs =>
      simp only [q] at h
      obtain ⟨k', hk, rfl⟩ := Option.map_eq_some_iff.mp h
      obtain ⟨vs, h1, h2⟩ := R.obj n a _ ha q
      have e := key_v hk r
      subst e
      exact ⟨_, .inl ⟨vs, k', .inl h1, rfl, rfl⟩, RpKV.look h2⟩
    | dt kvs =>
      simp only [q] at h
      obtain ⟨k', hk, rfl⟩ := Option.map_eq_some_iff.mp h
      obtain ⟨vs, h1, h2⟩ := R.obj n a _ ha q
      obtain ⟨b, rfl, hb⟩ := keyT_v hk r
      exact ⟨_, .inr ⟨vs, k', b, .inl h1, rfl, hb, rfl⟩, RpKV.look h2⟩
    | _ => simp only [q] at h; cases h
theorem seq_or {H : Hp} {a : Addr} {vs : List V} {b : Bool} (h : if b = true then SqT G.K H a vs else SqL G.K H a vs) : SqL G.K H a vs ∨ SqT G.K H a vs := by
  cases b with
  | true => exact .inr (ifT h)
  | false => exact .inl (ifF h)
/-- what «in» comes to -/
theorem in_cases {φ : List Addr} {H : Hp} {S : Store} {w1 w2 : W} {x y : V} {b : Bool} (R : Rel G φ H S) (r1 : RpW G φ H w1 x) (r2 : RpW G φ H w2 y) (h : isIn w1 w2 S = some b) :
    (∃ t z, x = .str z ∧ y = .str t ∧ b = !(Builtin.Str.occurrences t z 0 t.length 1).isEmpty) ∨
    (∃ a vs ys p, y = .ref a ∧ (SqL G.K H a vs ∨ SqT G.K H a vs) ∧ DpAll G.K H vs ys ∧ Dp G.K H x p ∧ PyData.plainAll ys = true ∧ p.plain = true ∧ PyData.depthAll ys ≤ deepest ∧ b = ys.any fun y => PyData.eqv y p) ∨
    (∃ a o, y = .ref a ∧ DGet H a x o ∧ b = o.isSome) := by
  unfold isIn at h
  cases hq : w2.seq S with
  | some bd =>
    obtain ⟨bb, ds⟩ := bd
    have h : ((w1.py S).bind fun p => (mapO (toPy S deepest) ds).map fun ys => ys.any fun y => PyData.eqv y p) = some b := by
      cases w2 with
      | lis es => simp only [hq] at h; exact h
      | val d =>
        cases d with
        | str t => cases hq
        | _ => simp only [hq] at h; exact h
    obtain ⟨p, hp, h⟩ := Option.bind_eq_some_iff.mp h
    obtain ⟨ys, hy, rfl⟩ := Option.map_eq_some_iff.mp h
    obtain ⟨a, vs, rfl, hs, hr⟩ := seq_rp R r2 hq
    obtain ⟨m1, m2⟩ := mapPy_ok hy
    exact .inr (.inl ⟨a, vs, ys, p, rfl, seq_or hs, mapPy_dp R hr hy, py_dp R r1 hp, m1, (py_ok hp).1, m2, rfl⟩)
  | none =>
    cases w2 with
    | lis es => cases hq
    | val d =>
      cases d with
      | str t =>
        cases w1 with
        | lis es => cases h
        | val d1 =>
          cases d1 with
          | str z =>
            cases h
            exact .inl ⟨t, z, rp_str r1, rp_str r2, rfl⟩
          | _ => cases h
      | ref n =>
        simp only [hq] at h
        cases w1 with
        | lis es => cases h
        | val d1 =>
          obtain ⟨o, ho, rfl⟩ := Option.map_eq_some_iff.mp h
          unfold RpW Rp at r2
          obtain ⟨a, rfl, ha⟩ := r2
          obtain ⟨ov, hd, hm⟩ := look_dget R ha (show Rp G φ H d1 x from r1) ho
          refine .inr (.inr ⟨a, ov, rfl, hd, ?_⟩)
          cases o with
          | none => have hm : ov = none := hm; rw [hm]; rfl
          | some d => obtain ⟨w, rfl, _⟩ := hm; rfl
      | tup es => cases hq
      | kt es => cases hq
      | ls es => cases hq
      | _ => simp only [hq] at h; cases h
theorem o_in (hK : X.K = G.K) (hu : X.A.units + 64 < cLine) : OpR X (compareOp .In) (rP2 G (p2 .inn)) := by
  intro pins s σ H x y v u Q I rx ry h
  obtain ⟨φ, w1, w2, S, xk, R, r1, r2, h⟩ := h
  unfold p2 at h
  dsimp only at h
  cases hi : isIn w1 w2 S with
  | none => simp only [hi] at h; exact h.elim
  | some b =>
    simp only [hi] at h
    have q := vv_ok R h rp_bl
    rcases in_cases R r1 r2 hi with ⟨t, z, rfl, rfl, rfl⟩ | ⟨a, vs, ys, p, rfl, hs, hv, hp, m1, m2, m3, rfl⟩ | ⟨a, o, rfl, hd, rfl⟩
    · exact op_in_str pins s σ H _ _ v u Q I rx ry ⟨z, t, rfl, rfl, q⟩
    · obtain ⟨bs, t2⟩ := Dp.reads I p x v (by rw [hK]; exact hp) rx
      have hu' : X.A.units + 1 + min (PyData.depthAll ys) p.depth < cLine := by have : deepest = 40 := rfl; omega
      rcases hs with hs | hs
      · obtain ⟨as, t1⟩ := Dp.reads I (.list ys) (.ref a) u (by rw [hK]; exact .lst hs hv) ry
        exact SeqAt.in_list_data t1 t2 m1 m2 hu' ⟨.bl _, H, I, rfl, q⟩
      · obtain ⟨as, t1⟩ := Dp.reads I (.tuple ys) (.ref a) u (by rw [hK]; exact .tup hs hv) ry
        exact SeqAt.in_tuple_data t1 t2 m1 m2 hu' ⟨.bl _, H, I, rfl, q⟩
    · cases (show u = Value.ref a from ry)
      exact d_in (by omega) I hd rx fun s' I' => ⟨.bl _, H, I', rfl, q⟩
theorem o_nin (hK : X.K = G.K) (hu : X.A.units + 64 < cLine) : OpR X (compareOp .NotIn) (rP2 G (p2 .nin)) := by
  intro pins s σ H x y v u Q I rx ry h
  obtain ⟨φ, w1, w2, S, xk, R, r1, r2, h⟩ := h
  unfold p2 at h
  dsimp only at h
  cases hi : isIn w1 w2 S with
  | none => simp only [hi] at h; exact h.elim
  | some b =>
    simp only [hi] at h
    have q := vv_ok R h rp_bl
    rcases in_cases R r1 r2 hi with ⟨t, z, rfl, rfl, rfl⟩ | ⟨a, vs, ys, p, rfl, hs, hv, hp, m1, m2, m3, rfl⟩ | ⟨a, o, rfl, hd, rfl⟩
    · exact op_notin_str pins s σ H _ _ v u Q I rx ry ⟨z, t, rfl, rfl, q⟩
    · obtain ⟨bs, t2⟩ := Dp.reads I p x v (by rw [hK]; exact hp) rx
      have hu' : X.A.units + 1 + min (PyData.depthAll ys) p.depth < cLine := by have : deepest = 40 := rfl; omega
      rcases hs with hs | hs
      · obtain ⟨as, t1⟩ := Dp.reads I (.list ys) (.ref a) u (by rw [hK]; exact .lst hs hv) ry
        exact SeqAt.notIn_list_data t1 t2 m1 m2 hu' ⟨.bl _, H, I, rfl, q⟩
      · obtain ⟨as, t1⟩ := Dp.reads I (.tuple ys) (.ref a) u (by rw [hK]; exact .tup hs hv) ry
        exact SeqAt.notIn_tuple_data t1 t2 m1 m2 hu' ⟨.bl _, H, I, rfl, q⟩
    · cases (show u = Value.ref a from ry)
      exact d_notIn (by omega) I hd rx fun s' I' => ⟨.bl _, H, I', rfl, q⟩

/-! ### is None -/
theorem o_isN : OpR X (compareOp .Is) (fun x y H Q => y = .non ∧ rP1 G (p1 .isN) x H Q) := by
  intro pins s σ H x y v u Q I rx ry h
  obtain ⟨rfl, φ, w1, S, xk, R, r1, h⟩ := h
  refine op_isN pins s σ H x .non v u Q I rx ry ⟨rfl, ?_⟩
  have hx : vv (D.bl (decide (x = .non))) S = p1 .isN w1 S := by
    cases w1 with
    | lis ds =>
      obtain ⟨a, vs, rfl, _⟩ := r1
      rfl
    | val d =>
      cases d <;> unfold RpW Rp at r1 <;> first
        | (subst r1; rfl)
        | (obtain ⟨a, vs, rfl, _⟩ := r1; rfl)
        | (obtain ⟨a, rfl, _⟩ := r1; rfl)
  rw [← hx] at h
  exact vv_ok R h rp_bl
theorem o_notN : OpR X (compareOp .IsNot) (fun x y H Q => y = .non ∧ rP1 G (p1 .notN) x H Q) := by
  intro pins s σ H x y v u Q I rx ry h
  obtain ⟨rfl, φ, w1, S, xk, R, r1, h⟩ := h
  refine op_notN pins s σ H x .non v u Q I rx ry ⟨rfl, ?_⟩
  have hx : vv (D.bl (!decide (x = .non))) S = p1 .notN w1 S := by
    cases w1 with
    | lis ds =>
      obtain ⟨a, vs, rfl, _⟩ := r1
      rfl
    | val d =>
      cases d <;> unfold RpW Rp at r1 <;> first
        | (subst r1; rfl)
        | (obtain ⟨a, vs, rfl, _⟩ := r1; rfl)
        | (obtain ⟨a, rfl, _⟩ := r1; rfl)
  rw [← hx] at h
  exact vv_ok R h rp_bl
end
end Mi

/-! Mi, part G: arithmetic, subscripts, built-in calls and methods. -/
namespace Mi
open PySem L2 PyProof.Rows RT RZ

section
variable {G : Gb} {X : Cx}
theorem lis_new {φ : List Addr} {H : Hp} {S : Store} {ds : List D} {vs : List V} {p : Addr} {xk : XK} {Q : VK} (R : Rel G φ H S) (h : Post G (RlW G) φ H (.ok (.lis ds) S) xk Q) (r : Rps G φ H ds vs) (hp : H p = none) : Q (.ref p) (upd H p (.lst vs)) := by
  have E := Ext.fresh R hp (.lst vs)
  exact Post.ok (L := RlW G) h E (R.fresh hp _) ⟨⟨p, vs, rfl, upd_same, R.unk hp, Rps.mono (E.toKeep R) _ _ r⟩, fun ds a e1 e2 => by cases e2; exact hp⟩
theorem tup_new {φ : List Addr} {H : Hp} {S : Store} {ds : List D} {vs : List V} {p : Addr} {xk : XK} {Q : VK} (R : Rel G φ H S) (h : Post G (RlW G) φ H (vv (.tup ds) S) xk Q) (r : Rps G φ H ds vs) (hp : H p = none) : Q (.ref p) (upd H p (.tup vs)) := by
  have E := Ext.fresh R hp (.tup vs)
  refine Post.ok (L := RlW G) h E (R.fresh hp _) (rl_val ?_)
  unfold Rp
  exact ⟨p, vs, rfl, upd_same, Rps.mono (E.toKeep R) _ _ r⟩
theorem Rps.app {φ : List Addr} {H : Hp} : ∀ {ds es : List D} {vs ws : List V}, Rps G φ H ds vs → Rps G φ H es ws → Rps G φ H (ds ++ es) (vs ++ ws)
  | [], _, vs, _, h, r => by unfold Rps at h; subst h; exact r
  | d :: ds, es, _, ws, h, r => by
    unfold Rps at h
    obtain ⟨w, t, rfl, h1, h2⟩ := h
    show Rps G φ H (d :: (ds ++ es)) (w :: (t ++ ws))
    unfold Rps
    exact ⟨w, t ++ ws, rfl, h1, Rps.app h2 r⟩
theorem Rps.take {φ : List Addr} {H : Hp} : ∀ {ds : List D} {vs : List V} (n : Nat), Rps G φ H ds vs → Rps G φ H (ds.take n) (vs.take n)
  | _, _, 0, _ => by simp [Rps]
  | [], vs, n + 1, h => by unfold Rps at h; subst h; simp [Rps]
  | d :: ds, _, n + 1, h => by
    unfold Rps at h
    obtain ⟨w, t, rfl, h1, h2⟩ := h
    show Rps G φ H (d :: ds.take n) (w :: t.take n)
    unfold Rps
    exact ⟨w, _, rfl, h1, Rps.take n h2⟩
theorem Rps.drop {φ : List Addr} {H : Hp} : ∀ {ds : List D} {vs : List V} (n : Nat), Rps G φ H ds vs → Rps G φ H (ds.drop n) (vs.drop n)
  | _, _, 0, h => h
  | [], vs, n + 1, h => by unfold Rps at h; subst h; simp [Rps]
  | d :: ds, _, n + 1, h => by
    unfold Rps at h
    obtain ⟨w, t, rfl, h1, h2⟩ := h
    exact Rps.drop n h2
theorem Rps.set {φ : List Addr} {H : Hp} {d : D} {v : V} (r : Rp G φ H d v) : ∀ {ds : List D} {vs : List V} (n : Nat), Rps G φ H ds vs → Rps G φ H (ds.set n d) (vs.set n v)
  | [], vs, n, h => by unfold Rps at h; subst h; simp [Rps]
  | e :: ds, _, 0, h => by
    unfold Rps at h
    obtain ⟨w, t, rfl, h1, h2⟩ := h
    show Rps G φ H (d :: ds) (v :: t)
    unfold Rps
    exact ⟨v, t, rfl, r, h2⟩
  | e :: ds, _, n + 1, h => by
    unfold Rps at h
    obtain ⟨w, t, rfl, h1, h2⟩ := h
    show Rps G φ H (e :: ds.set n d) (w :: t.set n v)
    unfold Rps
    exact ⟨w, _, rfl, h1, Rps.set r n h2⟩
theorem Rps.dropLast {φ : List Addr} {H : Hp} {ds : List D} {vs : List V} (h : Rps G φ H ds vs) : Rps G φ H ds.dropLast vs.dropLast := by
  rw [List.dropLast_eq_take, List.dropLast_eq_take, h.len]
  exact h.take _

theorem Rps.rep {φ : List Addr} {H : Hp} {ds : List D} {vs : List V} (h : Rps G φ H ds vs) : ∀ n : Nat, Rps G φ H (List.replicate n ds).flatten (List.replicate n vs).flatten
  | 0 => by simp [Rps]
  | n + 1 => by
    rw [List.replicate_succ, List.replicate_succ, List.flatten_cons, List.flatten_cons]
    exact h.app (h.rep n)
theorem o_sub : OpR X (binaryOp .Sub) (rP2 G (p2 .sub)) := by
  intro pins s σ H x y v u Q I rx ry h
  obtain ⟨φ, w1, w2, S, xk, R, r1, r2, h⟩ := h
  unfold p2 at h
  dsimp only at h
  split at h
  · exact op_sub pins s σ H x y v u Q I rx ry ⟨_, _, rp_int r1, rp_int r2, vv_ok R h rp_in⟩
  · exact h.elim
theorem o_fdiv : OpR X (binaryOp .FloorDiv) (rP2 G (p2 .fdiv)) := by
  intro pins s σ H x y v u Q I rx ry h
  obtain ⟨φ, w1, w2, S, xk, R, r1, r2, h⟩ := h
  unfold p2 at h
  dsimp only at h
  split at h
  · rename_i i j
    by_cases c : divFits j = true
    · rw [if_pos c] at h
      have c := of_decide_eq_true c
      exact op_fdivW pins s σ H x y v u Q I rx ry ⟨_, _, rp_int r1, rp_int r2, c, vv_ok R h rp_in⟩
    · rw [if_neg c] at h; exact h.elim
  · exact h.elim
theorem o_mod : OpR X (binaryOp .Mod) (rP2 G (p2 .mod)) := by
  intro pins s σ H x y v u Q I rx ry h
  obtain ⟨φ, w1, w2, S, xk, R, r1, r2, h⟩ := h
  unfold p2 at h
  dsimp only at h
  split at h
  · rename_i i j
    by_cases c : 0 < j
    · rw [if_pos c] at h
      exact op_mod pins s σ H x y v u Q I rx ry ⟨_, _, rp_int r1, rp_int r2, c, vv_ok R h rp_in⟩
    · rw [if_neg c] at h; exact h.elim
  · exact h.elim
theorem o_pow : OpR X (binaryOp .Pow) (rP2 G (p2 .pow)) := by
  intro pins s σ H x y v u Q I rx ry h
  obtain ⟨φ, w1, w2, S, xk, R, r1, r2, h⟩ := h
  unfold p2 at h
  dsimp only at h
  split at h
  · rename_i i j
    by_cases c : 0 ≤ j ∧ j ≤ 1000000 ∧ i.natAbs < 2 ^ 64
    · rw [if_pos c] at h
      exact op_pow pins s σ H x y v u Q I rx ry ⟨_, _, rp_int r1, rp_int r2, c, vv_ok R h rp_in⟩
    · rw [if_neg c] at h; exact h.elim
  · exact h.elim
theorem lst_rp {φ : List Addr} {H : Hp} {S : Store} {w : W} {v : V} {ds : List D} {b : Bool} (R : Rel G φ H S) (r : RpW G φ H w v) (h : w.seq S = some (b, ds)) (hl : isLst S w = true) : ∃ a vs, v = .ref a ∧ H a = some (.lst vs) ∧ Rps G φ H ds vs := by
  cases w with
  | lis es =>
    have h : some (false, es) = some (b, ds) := h
    cases h
    obtain ⟨a, vs, e, h1, _, h2⟩ := r
    exact ⟨a, vs, e, h1, h2⟩
  | val d =>
    cases d with
    | ref n =>
      unfold RpW Rp at r
      obtain ⟨a, e, h1⟩ := r
      unfold W.seq at h
      cases hs : S[n]? with
      | none => simp only [hs] at h; cases h
      | some o =>
        cases o with
        | lst es =>
          simp only [hs] at h
          cases h
          obtain ⟨vs, h2, h3⟩ := R.obj n a _ h1 hs
          exact ⟨a, vs, e, h2, h3⟩
        | _ => simp only [hs] at h; cases h
    | _ => cases hl
theorem o_add (hK : X.K = G.K) : OpR X (binaryOp .Add) (rP2 G (p2 .add)) := by
  intro pins s σ H x y v u Q I rx ry h
  obtain ⟨φ, w1, w2, S, xk, R, r1, r2, h⟩ := h
  unfold p2 at h
  dsimp only at h
  split at h
  · exact op_add pins s σ H x y v u Q I rx ry ⟨_, _, rp_int r1, rp_int r2, vv_ok R h rp_in⟩
  · rename_i a b
    by_cases c : a.length + b.length ≤ sizeLine
    · rw [if_pos c] at h
      exact op_add_str pins s σ H x y v u Q I rx ry ⟨_, _, rp_str r1, rp_str r2, c, vv_ok R h rp_st⟩
    · rw [if_neg c] at h; exact h.elim
  · split at h
    · rename_i xs ys h1 h2
      by_cases c : (isLst S w1 && isLst S w2 && decide (xs.length + ys.length ≤ sizeLine)) = true
      · rw [if_pos c] at h
        obtain ⟨c12, c3⟩ := Bool.and_eq_true_iff.mp c
        obtain ⟨c1, c2⟩ := Bool.and_eq_true_iff.mp c12
        have c3 := of_decide_eq_true c3
        obtain ⟨a, vs, rfl, ha, hr⟩ := lst_rp R r1 h1 c1
        obtain ⟨b, ws, rfl, hb, hs⟩ := lst_rp R r2 h2 c2
        exact op_cat pins s σ H _ _ v u Q I rx ry ⟨a, b, vs, ws, rfl, rfl, ha, hb, by rw [← hr.len, ← hs.len]; exact c3, fun p hp => lis_new R h (hr.app hs) hp⟩
      · rw [if_neg c] at h; exact h.elim
    · rename_i xs ys h1 h2
      by_cases c : (!xs.isEmpty && !ys.isEmpty && decide (xs.length + ys.length ≤ sizeLine)) = true
      · rw [if_pos c] at h
        obtain ⟨c12, c3⟩ := Bool.and_eq_true_iff.mp c
        obtain ⟨c1, c2⟩ := Bool.and_eq_true_iff.mp c12
        have c3 := of_decide_eq_true c3
        obtain ⟨a, vs, rfl, ha, hr⟩ := seq_rp R r1 h1
        obtain ⟨b, ws, rfl, hb, hs⟩ := seq_rp R r2 h2
        have n1 : vs ≠ [] := by
          rintro rfl
          have := hr.len
          cases xs with
          | nil => simp at c1
          | cons _ _ => simp at this
        have n2 : ws ≠ [] := by
          rintro rfl
          have := hs.len
          cases ys with
          | nil => simp at c2
          | cons _ _ => simp at this
        exact op_catT pins s σ H _ _ v u Q I rx ry ⟨a, b, vs, ws, rfl, rfl, by rw [hK]; exact ifT ha, by rw [hK]; exact ifT hb, n1, by rw [← hr.len, ← hs.len]; exact c3, fun q => absurd q n2, fun _ p hp => tup_new R h (hr.app hs) hp⟩
      · rw [if_neg c] at h; exact h.elim
    · exact h.elim
theorem o_mul : OpR X (binaryOp .Mult) (rP2 G (p2 .mul)) := by
  intro pins s σ H x y v u Q I rx ry h
  obtain ⟨φ, w1, w2, S, xk, R, r1, r2, h⟩ := h
  unfold p2 at h
  dsimp only at h
  split at h
  · rename_i i j
    by_cases c : mulFits i j = true
    · rw [if_pos c] at h
      have c := of_decide_eq_true c
      exact op_mulW pins s σ H x y v u Q I rx ry ⟨_, _, rp_int r1, rp_int r2, (by show _ < 1000000; omega), vv_ok R h rp_in⟩
    · rw [if_neg c] at h; exact h.elim
  · rename_i j _
    split at h
    · rename_i ds h1
      by_cases c : (isLst S w1 && fits62 j && decide (ds.length * j.toNat ≤ sizeLine)) = true
      · rw [if_pos c] at h
        obtain ⟨c12, c3⟩ := Bool.and_eq_true_iff.mp c
        obtain ⟨c1, c2⟩ := Bool.and_eq_true_iff.mp c12
        have c3 := of_decide_eq_true c3
        unfold fits62 at c2
        have c2 := of_decide_eq_true c2
        obtain ⟨a, vs, rfl, ha, hr⟩ := lst_rp R r1 h1 c1
        have e2 := rp_int r2
        subst e2
        exact op_rep pins s σ H _ _ v u Q I rx ry ⟨a, j, vs, rfl, rfl, ha, by omega, by omega, by rw [← hr.len]; exact c3, fun p hp => lis_new R h (hr.rep j.toNat) hp⟩
      · rw [if_neg c] at h; exact h.elim
    · exact h.elim
  · exact h.elim
theorem o_neg : UnR X (unaryOp .USub) (rP1 G (p1 .neg)) := by
  intro pins s σ H x v Q I rx h
  obtain ⟨φ, w1, S, xk, R, r1, h⟩ := h
  unfold p1 at h
  dsimp only at h
  split at h
  · exact un_neg pins s σ H x v Q I rx ⟨_, rp_int r1, vv_ok R h rp_in⟩
  · exact h.elim

/-! ### subscripts -/
theorem atI_rp {φ : List Addr} {H : Hp} {ds : List D} {vs : List V} {i : Int} {d : D} (h : Rps G φ H ds vs) (e : atI ds i = some d) : ∃ v, atI vs i = some v ∧ Rp G φ H d v := by
  unfold atI at e ⊢
  rw [← h.len]
  obtain ⟨j, hj, hd⟩ := Option.bind_eq_some_iff.mp e
  obtain ⟨v, hv, r⟩ := h.get hd
  exact ⟨v, by rw [hj]; exact hv, r⟩
theorem o_ix (hK : X.K = G.K) (hu : X.A.units + 64 < cLine) : IxR X (rP2 G (p2 .ix)) := by
  intro value slice pins s σ H x y v u Q I rx ry h hsub
  obtain ⟨φ, w1, w2, S, xk, R, r1, r2, h⟩ := h
  unfold p2 at h
  dsimp only at h
  split at h
  · rename_i z
    split at h
    · rename_i i
      split at h
      · rename_i c hc
        by_cases q : z.length ≤ sizeLine
        · rw [if_pos q] at h
          exact ix_seq value slice pins s σ H x y v u Q I rx ry (.inr (.inr ⟨z, i, c, rp_str r1, rp_int r2, q, hc, vv_ok R h rp_st⟩)) hsub
        · rw [if_neg q] at h; exact h.elim
      · exact h.elim
    · exact h.elim
  · split at h
    · rename_i b ds hq
      split at h
      · rename_i i
        split at h
        · rename_i d hd
          obtain ⟨a, vs, rfl, hs, hr⟩ := seq_rp R r1 hq
          obtain ⟨w, hw, rw'⟩ := atI_rp hr hd
          have q := vv_ok R h rw'
          rcases seq_or hs with hs | hs
          · exact ix_seq value slice pins s σ H _ y v u Q I rx ry (.inl ⟨a, vs, i, w, rfl, rp_int r2, by rw [hK]; exact hs, hw, q⟩) hsub
          · exact ix_seq value slice pins s σ H _ y v u Q I rx ry (.inr (.inl ⟨a, vs, i, w, rfl, rp_int r2, by rw [hK]; exact hs, hw, q⟩)) hsub
        · exact h.elim
      · exact h.elim
    · rename_i hq
      cases w1 with
      | lis es => exact h.elim
      | val d1 =>
        cases d1 with
        | ref n =>
          cases w2 with
          | lis es => exact h.elim
          | val k =>
            dsimp only at h
            split at h
            · rename_i d hl
              unfold RpW Rp at r1
              obtain ⟨a, rfl, ha⟩ := r1
              obtain ⟨ov, hg, w, rfl, rw'⟩ := look_dget R ha (show Rp G φ H k y from r2) hl
              cases (show v = Value.ref a from rx)
              have q := vv_ok R h rw'
              exact tail_any (dict_typeIs I hg) PySem.F.slot_dict_getitem.lookup (d_getItem (by omega) I hg ry fun w' s3 I3 rw' => ⟨w, H, I3, rw', q⟩) hsub
            · exact h.elim
        | _ => exact h.elim

/-! ### slices -/
theorem cut_rp {φ : List Addr} {H : Hp} {ds : List D} {vs : List V} (h : Rps G φ H ds vs) (lo hi : Option Int) : Rps G φ H (cutD ds lo hi) (cutV vs lo hi) := by
  unfold cutD cutV
  rw [← h.len]
  exact (h.drop _).take _
theorem cut_all {vs : List V} {lo hi : Option Int} (h : HT.sIx vs.length 0 lo = 0 ∧ HT.sIx vs.length vs.length hi = vs.length) : cutV vs lo hi = vs := by
  unfold cutV
  rw [h.1, h.2]
  simp
def rSl (G : Gb) : V → Option Int → Option Int → Hp → VK → Prop := fun x lo hi H Q => ∃ φ w1 S xk, Rel G φ H S ∧ RpW G φ H w1 x ∧ Post G (RlW G) φ H (cutW w1 lo hi S) xk Q
theorem o_sl (hK : X.K = G.K) : SlR X (rSl G) := by
  intro pins s σ H x v vl vu lo hi sl Q I rx hs pl pu h
  obtain ⟨φ, w1, S, xk, R, r1, h⟩ := h
  unfold cutW at h
  split at h
  · rename_i z
    by_cases c : z.length ≤ sizeLine
    · rw [if_pos c] at h
      exact sl_str pins s σ H x v vl vu lo hi sl Q I rx hs pl pu ⟨z, rp_str r1, c, vv_ok R h rp_st⟩
    · rw [if_neg c] at h; exact h.elim
  · split at h
    · rename_i ds hq
      obtain ⟨a, vs, rfl, hs', hr⟩ := seq_rp R r1 hq
      have hs' := ifT hs'
      by_cases c : HT.sIx vs.length 0 lo = 0 ∧ HT.sIx vs.length vs.length hi = vs.length
      · by_cases cz : (cutD ds lo hi).length = ds.length
        · rw [if_pos cz] at h; exact h.elim
        · exfalso
          apply cz
          rw [(cut_rp hr lo hi).len, cut_all c, hr.len]
      · by_cases cz : (cutD ds lo hi).length = ds.length
        · rw [if_pos cz] at h; exact h.elim
        · rw [if_neg cz] at h
          exact sl_tup pins s σ H _ v vl vu lo hi sl Q I rx hs pl pu ⟨a, vs, rfl, by rw [hK]; exact hs', c, fun p hp => tup_new R h (cut_rp hr lo hi) hp⟩
    · rename_i ds hq
      obtain ⟨a, vs, rfl, hs', hr⟩ := seq_rp R r1 hq
      have hs' := ifF hs'
      exact sl_list pins s σ H _ v vl vu lo hi sl Q I rx hs pl pu ⟨a, vs, rfl, by rw [hK]; exact hs', fun p hp => lis_new R h (cut_rp hr lo hi) hp⟩
    · exact h.elim
/-- a part of a slice, perhaps none -/
def optA (G : Gb) (Wx : WX) (oA : Option (AX W)) : TO := match oA with
  | none => tNoPart
  | some A => tPart (tK G Wx A)
theorem po_im {e : Option Expr} {oA : Option (AX W)} {Wx : WX} (h : match e, oA with | none, none => True | some e, some A => PE X e (tK G Wx A) | _, _ => False) : PO X e (optA G Wx oA) := by
  cases e with
  | none =>
    cases oA with
    | none => exact po_none
    | some A => exact h.elim
  | some e =>
    cases oA with
    | none => exact h.elim
    | some A => exact po_some h

/-! ### isinstance -/
def Ty.name : Ty → String
  | .int => "int" | .str => "str" | .bool => "bool" | .tuple => "tuple" | .list => "list"
theorem kNon : ∀ ty : Ty, kitB "NoneType" ty.name = some false := by intro ty; cases ty <;> decide +kernel
theorem kBool : ∀ ty : Ty, kitB "bool" ty.name = some (match ty with | .int => true | .bool => true | _ => false) := by intro ty; cases ty <;> decide +kernel
theorem kInt : ∀ ty : Ty, kitB "int" ty.name = some (match ty with | .int => true | _ => false) := by intro ty; cases ty <;> decide +kernel
theorem kStr : ∀ ty : Ty, kitB "str" ty.name = some (match ty with | .str => true | _ => false) := by intro ty; cases ty <;> decide +kernel
theorem kTup : ∀ ty : Ty, kitB "tuple" ty.name = some (match ty with | .tuple => true | _ => false) := by intro ty; cases ty <;> decide +kernel
theorem kLis : ∀ ty : Ty, kitB "list" ty.name = some (match ty with | .list => true | _ => false) := by intro ty; cases ty <;> decide +kernel
theorem kDic : ∀ ty : Ty, kitB "dict" ty.name = some false := by intro ty; cases ty <;> decide +kernel
theorem ty_of {φ : List Addr} {H : Hp} {S : Store} {w : W} {x : V} (R : Rel G φ H S) (r : RpW G φ H w x) (hp : w.plain S = true) : ∃ t, TyX G.K H x (.type t) ∧ ∀ ty : Ty, kitB t ty.name = some (Ty.of S w ty) := by
  cases w with
  | lis ds =>
    obtain ⟨a, vs, rfl, h1, _, _⟩ := r
    exact ⟨"list", .base (.lst h1), fun ty => (kLis ty).trans (by cases ty <;> rfl)⟩
  | val d =>
    cases d with
    | non => unfold RpW Rp at r; subst r; exact ⟨_, .base .non, fun ty => (kNon ty).trans (by cases ty <;> rfl)⟩
    | bl b => unfold RpW Rp at r; subst r; exact ⟨_, .base (.bl b), fun ty => (kBool ty).trans (by cases ty <;> rfl)⟩
    | int b => unfold RpW Rp at r; subst r; exact ⟨_, .base (.int b), fun ty => (kInt ty).trans (by cases ty <;> rfl)⟩
    | str b => unfold RpW Rp at r; subst r; exact ⟨_, .base (.str b), fun ty => (kStr ty).trans (by cases ty <;> rfl)⟩
    | tup ds =>
      unfold RpW Rp at r
      obtain ⟨a, vs, rfl, ha, _⟩ := r
      exact ⟨_, .base (.tup ha), fun ty => (kTup ty).trans (by cases ty <;> rfl)⟩
    | kt ds =>
      unfold RpW Rp at r
      obtain ⟨a, vs, rfl, ⟨o, its, n, h1, h2, _⟩, _⟩ := r
      exact ⟨_, .kTuple h1 h2, fun ty => (kTup ty).trans (by cases ty <;> rfl)⟩
    | ls ds =>
      unfold RpW Rp at r
      obtain ⟨a, vs, rfl, ha, _⟩ := r
      rcases ha with ⟨o, ha⟩ | ⟨o, its, n, h1, h2, _⟩
      · exact ⟨_, .base (.frz ha), fun ty => (kLis ty).trans (by cases ty <;> rfl)⟩
      · exact ⟨_, .kList h1 h2, fun ty => (kLis ty).trans (by cases ty <;> rfl)⟩
    | ref n =>
      unfold RpW Rp at r
      obtain ⟨a, rfl, ha⟩ := r
      unfold W.plain at hp
      cases hs : S[n]? with
      | none => simp only [hs] at hp; cases hp
      | some o =>
        have hT : ∀ ty, Ty.of S (.val (.ref n)) ty = match ty, o with | .list, .lst _ => true | _, _ => false := by
          intro ty
          cases ty <;> simp only [Ty.of, hs] <;> cases o <;> rfl
        cases o with
        | lst ds =>
          obtain ⟨vs, h1, _⟩ := R.obj n a _ ha hs
          exact ⟨_, .base (.lst h1), fun ty => (kLis ty).trans (by rw [hT]; cases ty <;> rfl)⟩
        | dk ds =>
          obtain ⟨vs, h1, _⟩ := R.obj n a _ ha hs
          exact ⟨_, .base (.dK h1), fun ty => (kDic ty).trans (by rw [hT]; cases ty <;> rfl)⟩
        | dt ds =>
          obtain ⟨vs, h1, _⟩ := R.obj n a _ ha hs
          exact ⟨_, .base (.dT h1), fun ty => (kDic ty).trans (by rw [hT]; cases ty <;> rfl)⟩
        | ins c fs => simp only [hs] at hp; cases hp
theorem kit_any {K : PySem.W.Frag} {t : String} {f : Ty → Bool} (h : ∀ ty : Ty, kitB t ty.name = some (f ty)) : ∀ ts : List Ty, PySem.W.kitAny K (.type t) (ts.map fun ty => Value.type ty.name) = some (ts.any f)
  | [] => kitAny_nil
  | ty :: ts => by
    rw [List.map_cons, List.any_cons]
    refine kitAny_cons (kit_ty (h ty)) (fun hb => ?_) fun hb => ?_
    · rw [hb, Bool.false_or]; exact kit_any h ts
    · rw [hb]; rfl

/-! ### built-in calls of one argument -/
def rC1 (G : Gb) (o : P1) : List V → Hp → VK → Prop := fun vs H Q => ∃ v, vs = [v] ∧ rP1 G (p1 o) v H Q
theorem c_len (hK : X.K = G.K) : CallR X (.builtin "len") (rC1 G .len) := by
  intro pins s σ H xs us Q I r h
  obtain ⟨v, rfl, φ, w1, S, xk, R, r1, h⟩ := h
  unfold p1 at h
  dsimp only at h
  split at h
  · rename_i x
    by_cases c : x.length ≤ sizeLine
    · rw [if_pos c] at h
      have e := rp_str r1
      subst e
      exact call_len pins s σ H _ us Q I r ⟨_, x.length, rfl, ⟨c, rfl⟩, vv_ok R h rp_in⟩
    · rw [if_neg c] at h; exact h.elim
  · split at h
    · rename_i b ds hq
      obtain ⟨a, vs, rfl, hs, hr⟩ := seq_rp R r1 hq
      refine call_len_seq pins s σ H _ us Q I r ⟨a, vs, rfl, by rw [hK]; exact seq_or hs, ?_⟩
      rw [← hr.len]
      exact vv_ok R h rp_in
    · exact h.elim
theorem c_int : CallR X (.type "int") (rC1 G .int_) := by
  intro pins s σ H xs us Q I r h
  obtain ⟨v, rfl, φ, w1, S, xk, R, r1, h⟩ := h
  unfold p1 at h
  dsimp only at h
  split at h
  · have e := rp_int r1
    subst e
    exact call_int1 pins s σ H _ us Q I r (.inl ⟨_, rfl, vv_ok R h rp_in⟩)
  · rename_i b
    have e : v = .bl b := by unfold RpW Rp at r1; exact r1
    subst e
    exact call_int1 pins s σ H _ us Q I r (.inr ⟨_, rfl, vv_ok R h rp_in⟩)
  · rename_i z
    split at h
    · rename_i k hk
      by_cases c : z.length ≤ 640
      · rw [if_pos c] at h
        have e := rp_str r1
        subst e
        exact call_int_str pins s σ H _ us Q I r ⟨z, k, rfl, hk, c, vv_ok R h rp_in⟩
      · rw [if_neg c] at h; exact h.elim
    · exact h.elim
  · exact h.elim
theorem bls_v {φ : List Addr} {H : Hp} : ∀ {ds : List D} {bs : List Bool} {vs : List V}, blsOf ds = some bs → Rps G φ H ds vs → vs = bs.map V.bl
  | [], ys, vs, h, r => by unfold blsOf at h; cases h; unfold Rps at r; exact r
  | d :: ds, ys, vs, h, r => by
    unfold blsOf at h
    cases d with
    | bl x =>
      dsimp only at h
      obtain ⟨zs, hz, rfl⟩ := Option.map_eq_some_iff.mp h
      unfold Rps at r
      obtain ⟨v, t, rfl, r1, r2⟩ := r
      unfold Rp at r1
      rw [r1, bls_v hz r2]
      rfl
    | _ => cases h
theorem c_all (hK : X.K = G.K) (hc : X.calm = true) : CallR X (.builtin "all") (rC1 G .all_) := by
  intro pins s σ H xs us Q I r h
  obtain ⟨v, rfl, φ, w1, S, xk, R, r1, h⟩ := h
  unfold p1 at h
  dsimp only at h
  split at h
  · rename_i ds hq
    split at h
    · rename_i bs hb
      obtain ⟨a, vs, rfl, hs, hr⟩ := seq_rp R r1 hq
      have e := bls_v hb hr
      subst e
      exact cr_all hc pins s σ H _ us Q I r ⟨a, bs, rfl, by rw [hK]; exact hs, vv_ok R h rp_bl⟩
    · exact h.elim
  · exact h.elim
theorem ints_v {φ : List Addr} {H : Hp} : ∀ {ds : List D} {ys : List Int} {vs : List V}, intsOf ds = some ys → Rps G φ H ds vs → vs = ys.map V.int
  | [], ys, vs, h, r => by cases h; unfold Rps at r; subst r; rfl
  | d :: ds, ys, vs, h, r => by
    unfold intsOf at h
    cases d with
    | int x =>
      dsimp only at h
      obtain ⟨zs, hz, rfl⟩ := Option.map_eq_some_iff.mp h
      unfold Rps at r
      obtain ⟨v, t, rfl, r1, r2⟩ := r
      unfold Rp at r1
      rw [r1, ints_v hz r2]
      rfl
    | _ => cases h
theorem c_sum (hK : X.K = G.K) (hc : X.calm = true) : CallR X (.builtin "sum") (rC1 G .sum) := by
  intro pins s σ H xs us Q I r h
  obtain ⟨v, rfl, φ, w1, S, xk, R, r1, h⟩ := h
  unfold p1 at h
  dsimp only at h
  split at h
  · rename_i ds hq
    split at h
    · rename_i bs hb
      obtain ⟨a, vs, rfl, hs, hr⟩ := seq_rp R r1 hq
      have e := ints_v hb hr
      subst e
      exact cr_sum hc pins s σ H _ us Q I r ⟨a, bs, rfl, by rw [hK]; exact hs, vv_ok R h rp_in⟩
    · exact h.elim
  · exact h.elim
theorem c_abs : CallR X (.builtin "abs") (rC1 G .abs) := by
  intro pins s σ H xs us Q I r h
  obtain ⟨v, rfl, φ, w1, S, xk, R, r1, h⟩ := h
  unfold p1 at h
  dsimp only at h
  split at h
  · rename_i i
    have e := rp_int r1
    subst e
    exact call_abs pins s σ H _ us Q I r ⟨i, rfl, vv_ok R h rp_in⟩
  · exact h.elim
def rC2 (G : Gb) (o : P2) : List V → Hp → VK → Prop := fun vs H Q => ∃ u v, vs = [u, v] ∧ rP2 G (p2 o) u v H Q
theorem c_max (hc : X.calm = true) : CallR X (.builtin "max") (rC2 G .max_) := by
  intro pins s σ H xs us Q I r h
  obtain ⟨u, v, rfl, φ, w1, w2, S, xk, R, r1, r2, h⟩ := h
  unfold p2 at h
  dsimp only at h
  split at h
  · rename_i i j
    have e := rp_int r1
    subst e
    have e := rp_int r2
    subst e
    exact call_max2 hc pins s σ H _ us Q I r ⟨i, j, rfl, vv_ok R h rp_in⟩
  · exact h.elim
theorem c_min (hc : X.calm = true) : CallR X (.builtin "min") (rC2 G .min_) := by
  intro pins s σ H xs us Q I r h
  obtain ⟨u, v, rfl, φ, w1, w2, S, xk, R, r1, r2, h⟩ := h
  unfold p2 at h
  dsimp only at h
  split at h
  · rename_i i j
    have e := rp_int r1
    subst e
    have e := rp_int r2
    subst e
    exact call_min2 hc pins s σ H _ us Q I r ⟨i, j, rfl, vv_ok R h rp_in⟩
  · exact h.elim
theorem c_ord : CallR X (.builtin "ord") (rC1 G .ord) := by
  intro pins s σ H xs us Q I r h
  obtain ⟨v, rfl, φ, w1, S, xk, R, r1, h⟩ := h
  unfold p1 at h
  dsimp only at h
  split at h
  · rename_i x
    by_cases c : x.length = 1
    · rw [if_pos c] at h
      have e := rp_str r1
      subst e
      exact call_ord pins s σ H _ us Q I r ⟨x, rfl, c, vv_ok R h rp_in⟩
    · rw [if_neg c] at h; exact h.elim
  · exact h.elim
theorem c_str : CallR X (.type "str") (rC1 G .str_) := by
  intro pins s σ H xs us Q I r h
  obtain ⟨v, rfl, φ, w1, S, xk, R, r1, h⟩ := h
  unfold p1 at h
  dsimp only at h
  split at h
  · rename_i i
    by_cases c : i.natAbs.log2 < 1920
    · rw [if_pos c] at h
      have e := rp_int r1
      subst e
      exact call_str_int pins s σ H _ us Q I r ⟨i, rfl, c, vv_ok R h rp_st⟩
    · rw [if_neg c] at h; exact h.elim
  · exact h.elim
theorem c_tuple (hK : X.K = G.K) : CallR X (.type "tuple") (rC1 G .tuple_) := by
  intro pins s σ H xs us Q I r h
  obtain ⟨v, rfl, φ, w1, S, xk, R, r1, h⟩ := h
  unfold p1 at h
  dsimp only at h
  split at h
  · rename_i b ds hq
    obtain ⟨a, vs, rfl, hs, hr⟩ := seq_rp R r1 hq
    cases b with
    | false =>
      have h : Post G (RlW G) φ H (vv (.tup ds) S) xk Q := by
        cases w1 with
        | lis es => exact h
        | val d =>
          cases d with
          | kt es => cases hq
          | _ => exact h
      exact call_tuple_of pins s σ H _ us Q I r ⟨a, vs, rfl, .inl ⟨by rw [hK]; exact ifF hs, fun p hp => tup_new R h hr hp⟩⟩
    | true =>
      refine call_tuple_of pins s σ H _ us Q I r ⟨a, vs, rfl, .inr ⟨by rw [hK]; exact ifT hs, ?_⟩⟩
      cases w1 with
      | lis es => cases hq
      | val d =>
        cases d with
        | tup es => cases hq; exact Post.ok (L := RlW G) h (Ext.refl _ _) R ⟨r1, fun _ _ e => nomatch e⟩
        | kt es => exact h.elim
        | ref n =>
          unfold W.seq at hq
          dsimp only at hq
          split at hq <;> cases hq
        | _ => cases hq
  · exact h.elim
theorem c_list (hK : X.K = G.K) : CallR X (.type "list") (rC1 G .list_) := by
  intro pins s σ H xs us Q I r h
  obtain ⟨v, rfl, φ, w1, S, xk, R, r1, h⟩ := h
  unfold p1 at h
  dsimp only at h
  split at h
  · rename_i b ds hq
    obtain ⟨a, vs, rfl, hs, hr⟩ := seq_rp R r1 hq
    exact call_list_of pins s σ H _ us Q I r ⟨a, vs, rfl, by rw [hK]; exact seq_or hs, fun p hp => lis_new R h hr hp⟩
  · exact h.elim

/-! ### methods -/
theorem m_pop : MtR X "list.pop" (fun x xs H Q => xs = [] ∧ rP1 G (p1 .pop) x H Q) := by
  intro pins s σ H x xs v us Q I rx rs h
  obtain ⟨rfl, φ, w1, S, xk, R, r1, h⟩ := h
  unfold p1 at h
  dsimp only at h
  split at h
  · rename_i n
    split at h
    · rename_i ds hs
      split at h
      · rename_i d hd
        unfold RpW Rp at r1
        obtain ⟨a, rfl, ha⟩ := r1
        obtain ⟨vs, h1, h2⟩ := R.obj n a _ ha hs
        have hg : ds[ds.length - 1]? = some d := by rw [← List.getLast?_eq_getElem?]; exact hd
        obtain ⟨y, hy, ry⟩ := h2.get hg
        rw [h2.len] at hy
        have k := keep_write (u := .lst vs.dropLast) R ha
        refine mt_pop pins s σ H _ [] v us Q I rx rs ⟨a, vs, y, rfl, rfl, h1, hy, ?_⟩
        exact Post.ok (L := RlW G) h (Ext.write R ha) (R.write ha ⟨_, upd_same, Rps.mono k _ _ h2.dropLast⟩) (rl_val (Rp.mono k _ _ ry))
      · exact h.elim
    · exact h.elim
  · exact h.elim
/-- a method of one argument, at the start (φ0, H0) -/
def rM1 (G : Gb) (o : P2) : V → List V → Hp → VK → Prop := fun x xs H Q => ∃ y φ0 H0 φ w1 w2 S xk, xs = [y] ∧ Ext φ0 H0 φ H ∧ Rel G φ H S ∧ RpW G φ H w1 x ∧ RlW G H0 φ H w2 y ∧ Post G (RlW G) φ0 H0 (p2 o w1 w2 S) xk Q
theorem m_append : MtR X "list.append" (rM1 G .append) := by
  intro pins s σ H x xs v us Q I rx rs h
  obtain ⟨y, φ0, H0, φ, w1, w2, S, xk, rfl, E, R, r1, r2, h⟩ := h
  unfold p2 at h
  dsimp only at h
  -- the argument's place
  have key : ∃ d φ1 S1, toD w2 S = .ok d S1 ∧ Ext φ0 H0 φ1 H ∧ Rel G φ1 H S1 ∧ Rp G φ1 H d y ∧ (∀ (n : Nat) (a : Addr), φ[n]? = some a → φ1[n]? = some a) := by
    cases w2 with
    | val d => exact ⟨d, φ, S, rfl, E, R, r2.1, fun _ _ h => h⟩
    | lis ds =>
      obtain ⟨⟨p, vs, rfl, hp, n, r⟩, f⟩ := r2
      have f := f ds p rfl rfl
      refine ⟨_, φ ++ [p], S ++ [.lst ds], rfl, ⟨E.pre.trans (List.prefix_append _ _), E.keep, fun z hz => ?_⟩, R.more (o := .lst ds) n ⟨vs, hp, r⟩, ?_, fun m a hm => ?_⟩
      · rcases List.mem_append.mp hz with q | q
        · exact E.new z q
        · simp at q; subst q; exact .inr f
      · unfold Rp
        exact ⟨p, rfl, by rw [← R.len]; simp⟩
      · rw [List.getElem?_append_left (List.getElem?_eq_some_iff.mp hm).1]; exact hm
  obtain ⟨d, φ1, S1, ht, E1, R1, rd, hk⟩ := key
  rw [ht] at h
  simp only [Mi.R.bd] at h
  cases w1 with
  | lis ds => exact h.elim
  | val d1 =>
    cases d1 with
    | ref n =>
      unfold RpW Rp at r1
      obtain ⟨a, rfl, ha⟩ := r1
      have ha1 := hk _ _ ha
      have h : Post G (RlW G) φ0 H0 (match S1[n]? with
        | some (.lst ds) => if ds.length < sizeLine then vv .non (S1.set n (.lst (ds ++ [d]))) else .bad
        | _ => .bad) xk Q := h
      cases hs : S1[n]? with
      | none => rw [hs] at h; exact h.elim
      | some o =>
        cases o with
        | lst ds =>
          rw [hs] at h
          have h : Post G (RlW G) φ0 H0 (if ds.length < sizeLine then vv .non (S1.set n (.lst (ds ++ [d]))) else .bad) xk Q := h
          by_cases c : ds.length < sizeLine
          · rw [if_pos c] at h
            obtain ⟨vs, h1, h2⟩ := R1.obj n a _ ha1 hs
            have k := keep_write (u := .lst (vs ++ [y])) R1 ha1
            refine mt_append pins s σ H _ [y] v us Q I rx rs ⟨a, vs, y, rfl, rfl, h1, by rw [← h2.len]; exact c, ?_⟩
            exact Post.ok (L := RlW G) h (E1.trans (Ext.write R1 ha1)) (R1.write ha1 ⟨_, upd_same, Rps.mono k _ _ (h2.snoc rd)⟩) (rl_val rp_no)
          · rw [if_neg c] at h; exact h.elim
        | _ => rw [hs] at h; exact h.elim
    | _ => exact h.elim
theorem rl_sh {φ φ0 : List Addr} {H H0 : Hp} {S : Store} {r : Mi.R W} {xk : XK} {Q : VK} (h : Post G (RlW G) φ0 H0 r xk Q) (E : Ext φ0 H0 φ H) (R : Rel G φ H S) : Post G (RlW G) φ H r xk Q := h.sh E R mnW
theorem list_extend_tup (l : Addr) (items : Array Value) (n : Nat) (b : Addr) (items2 : Array Value) (n2 : Nat) (dd : Option Addr) (sl : Array (Option Value)) (hs0 : ¬(!items.isEmpty && Builtin.List.listTooLong (items.size + items2.size)) = true) (hs1 : items.size ≤ sizeLine) (hs2 : items.size + items2.size ≤ sizeLine + 1) :
    Meets (Builtin.«list.extend» ⟨[.ref l, .ref b], []⟩) (fun _ R s => s.heap.get? l = some { cls := .type "list", dict := none, data := .seq items n, slots := #[] } ∧ s.heap.get? b = some { cls := .type "tuple", dict := dd, data := .seq items2 n2, slots := sl } ∧ R (.ok (.ret Value.none)) { s with heap := s.heap.update l (Obj.mapSeq fun x => x ++ items2), toks := s.toks }) :=
  .of_wp fun prog w A R s h => by
    obtain ⟨hp, g, d, tk, os⟩ := s
    obtain ⟨hl, hb, h⟩ := h
    have f1 := AutoSeq1.idx_int
    have f2 := AutoSeq1.sub_tuple_tuple
    have f3 := AutoSeq1.sub_list_list
    have f4 := AutoSeq1.sub_tuple_list
    have f5 := AutoSeq1.sub_list_tuple
    have hz' : (items ++ items2).size ≤ sizeLine + 1 := by rw [Array.size_append]; exact hs2
    wp_walk using (wpAny_updateSeq hl rfl (hz := hs1) (_hz' := hz')), wpAny_loadPart' hl, wpAny_loadPart' hb
    exact ⟨_, rfl, h⟩
theorem mt_extendT : MtR X "list.extend" (fun x vs H Q => ∃ l b xs zs, x = .ref l ∧ vs = [.ref b] ∧ H l = some (.lst xs) ∧ SqT X.K H b zs ∧ xs.length + zs.length ≤ sizeLine ∧ Q .non (upd H l (.lst (xs ++ zs)))) := by
  intro pins s σ H x vs v us Q I rx rv h
  obtain ⟨l, b, xs, zs, rfl, rfl, hH, hB, hz, q⟩ := h
  cases rx
  obtain ⟨u, rfl, ru⟩ := rv.one
  cases ru
  obtain ⟨z, its, n, r, hl, e⟩ := I.lstM hH
  obtain ⟨its2, r2, ⟨⟨cls, dd, data, sl⟩, ho, hc, n2, hd⟩, hs⟩ := I.tuple hB
  simp only at hc hd
  subst hc hd
  have hl2 : zs.length = its2.length := r2.length
  have hsz : its.toArray.size + its2.toArray.size ≤ sizeLine := by rw [List.size_toArray, List.size_toArray]; omega
  have hlong : ¬ (!its.toArray.isEmpty && Builtin.List.listTooLong (its.toArray.size + its2.toArray.size)) = true := by
    rw [notLongL hsz, Bool.and_false]
    exact Bool.false_ne_true
  refine call_meets F.slot_list_extend ⟨_, e, rfl⟩ F.entry_list_extend (F.args_list_extend_2 _ _)
    (list_extend_tup l its.toArray n b its2.toArray n2 dd sl hlong (by rw [List.size_toArray]; omega) (by omega)) ⟨e, ho, ?_⟩
  refine ⟨.non, _, I.lset (its' := its ++ its2) hH e (by simp) (r.append r2) ?_, rfl, q⟩
  rw [List.length_append]
  omega
theorem m_extend (hK : X.K = G.K) : MtR X "list.extend" (rM1 G .extend) := by
  intro pins s σ H x xs v us Q I rx rs h
  obtain ⟨y, φ0, H0, φ, w1, w2, S, xk, rfl, E, R, r1, r2, h⟩ := h
  replace h := rl_sh h E R
  unfold p2 at h
  dsimp only at h
  split at h
  · rename_i n
    split at h
    · rename_i ds hs
      split at h
      · rename_i b es hq
        by_cases c : ((b || isLst S w2) && decide (ds.length + es.length ≤ sizeLine)) = true
        · rw [if_pos c] at h
          obtain ⟨c1, c2⟩ := Bool.and_eq_true_iff.mp c
          have c2 := of_decide_eq_true c2
          unfold RpW Rp at r1
          obtain ⟨a, rfl, ha⟩ := r1
          obtain ⟨vs, h1, h2⟩ := R.obj n a _ ha hs
          cases b with
          | true =>
            obtain ⟨b, ws, rfl, hb, hr⟩ := seq_rp R r2.1 hq
            have k := keep_write (u := .lst (vs ++ ws)) R ha
            refine mt_extendT pins s σ H _ [.ref b] v us Q I rx rs ⟨a, b, vs, ws, rfl, rfl, h1, by rw [hK]; exact ifT hb, by rw [← h2.len, ← hr.len]; exact c2, ?_⟩
            exact Post.ok (L := RlW G) h (Ext.write R ha) (R.write ha ⟨_, upd_same, Rps.mono k _ _ (h2.app hr)⟩) (rl_val rp_no)
          | false =>
          rw [Bool.false_or] at c1
          obtain ⟨b, ws, rfl, hb, hr⟩ := lst_rp R r2.1 hq c1
          have k := keep_write (u := .lst (vs ++ ws)) R ha
          refine mt_extend pins s σ H _ [.ref b] v us Q I rx rs ⟨a, b, vs, ws, rfl, rfl, h1, hb, by rw [← h2.len, ← hr.len]; exact c2, ?_⟩
          exact Post.ok (L := RlW G) h (Ext.write R ha) (R.write ha ⟨_, upd_same, Rps.mono k _ _ (h2.app hr)⟩) (rl_val rp_no)
        · rw [if_neg c] at h; exact h.elim
      · exact h.elim
    · exact h.elim
  · exact h.elim
theorem strs_v {φ : List Addr} {H : Hp} : ∀ {ds : List D} {ys : List Str} {vs : List V}, strsOf ds = some ys → Rps G φ H ds vs → vs = ys.map V.str
  | [], ys, vs, h, r => by unfold strsOf at h; cases h; unfold Rps at r; exact r
  | d :: ds, ys, vs, h, r => by
    unfold strsOf at h
    cases d with
    | str x =>
      dsimp only at h
      obtain ⟨zs, hz, rfl⟩ := Option.map_eq_some_iff.mp h
      unfold Rps at r
      obtain ⟨v, t, rfl, r1, r2⟩ := r
      unfold Rp at r1
      rw [r1, strs_v hz r2]
      rfl
    | _ => cases h
theorem m_join (hK : X.K = G.K) : MtR X "str.join" (rM1 G .join) := by
  intro pins s σ H x xs v us Q I rx rs h
  obtain ⟨y, φ0, H0, φ, w1, w2, S, xk, rfl, E, R, r1, r2, h⟩ := h
  replace h := rl_sh h E R
  unfold p2 at h
  dsimp only at h
  split at h
  · rename_i a
    split at h
    · rename_i b ds hq
      split at h
      · rename_i ys hys
        by_cases c : joinFits a ys = true
        · rw [if_pos c] at h
          obtain ⟨p, vs, rfl, hs, hr⟩ := seq_rp R r2.1 hq
          have e := strs_v hys hr
          subst e
          have e := rp_str r1
          subst e
          exact mt_join pins s σ H _ _ v us Q I rx rs ⟨a, p, ys, rfl, rfl, by rw [hK]; exact seq_or hs, of_decide_eq_true c, vv_ok R h rp_st⟩
        · rw [if_neg c] at h; exact h.elim
      · exact h.elim
    · exact h.elim
  · exact h.elim
theorem strs_rp {φ : List Addr} {H : Hp} : ∀ ys : List Str, Rps G φ H (ys.map D.str) (ys.map V.str)
  | [] => by show Rps G φ H [] []; unfold Rps; rfl
  | y :: ys => by
    rw [List.map_cons, List.map_cons]
    unfold Rps
    exact ⟨_, _, rfl, rp_st, strs_rp ys⟩
theorem m_split : MtR X "str.split" (rM1 G .split) := by
  intro pins s σ H x xs v us Q I rx rs h
  obtain ⟨y, φ0, H0, φ, w1, w2, S, xk, rfl, E, R, r1, r2, h⟩ := h
  replace h := rl_sh h E R
  unfold p2 at h
  dsimp only at h
  split at h
  · rename_i a b
    by_cases c : (b.length == 0) = false ∧ a.length + 2 ≤ sizeLine
    · rw [if_pos c] at h
      have e := rp_str r1
      subst e
      have e := rp_str r2.1
      subst e
      exact mt_split pins s σ H _ _ v us Q I rx rs ⟨a, b, rfl, rfl, c.1, c.2, fun p hp => lis_new R h (strs_rp _) hp⟩
    · rw [if_neg c] at h; exact h.elim
  · exact h.elim
end
end Mi

set_option maxHeartbeats 1000000
/-! Mi, part L: list(zip(a, b)) of two lists or two tuples. -/
namespace Mi.Z
open PySem PySem.Spec PyProof.Rows L2 PySem.W PySem.Calls

theorem zip_no_len : typeLookup (.type "zip") "__len__" = pure none := by rw [typeLookup_type, builtinLookup_eq_fast]; kernel_rfl
theorem zip_no_hint : typeLookup (.type "zip") "__length_hint__" = pure none := by rw [typeLookup_type, builtinLookup_eq_fast]; kernel_rfl

/-- how an iterator of a kind is turned -/
structure IterK (prog : Program) (w : World) (It : Heap → Addr → Addr → Nat → Prop) (Sq : Heap → Addr → Array Value → Prop) : Prop where
  keepI : ∀ {h h' : Heap} {it l : Addr} {k : Nat}, It h it l k → (∀ o, h.get? it = some o → h'.get? it = some o) → It h' it l k
  keepS : ∀ {h h' : Heap} {l : Addr} {xs : Array Value}, Sq h l xs → (∀ o, h.get? l = some o → h'.get? l = some o) → Sq h' l xs
  there : ∀ {h : Heap} {it l : Addr} {k : Nat}, It h it l k → it < h.objs.size
  item : ∀ {A : Around} {E : Value → Shared → Prop} {s : Shared} {it l : Addr} {i : Nat} {items : Array Value} {x : Value} {Q : Value → Shared → Prop}, It s.heap it l i → Sq s.heap l items → items[i]? = some x →
    (∀ h', It h' it l (i + 1) → Heap.SameBut it s.heap h' → Q x { s with heap := h' }) → wpAny (model prog w) A (Builtin.SmallTypes.nextOf (.ref it)) Q E s
  stop : ∀ {A : Around} {E : Value → Shared → Prop} {s : Shared} {it l : Addr} {i : Nat} {items : Array Value} {Q : Value → Shared → Prop}, A.handled = none → It s.heap it l i → Sq s.heap l items → items[i]? = none →
    (∀ h' e, Heap.ExtBut it s.heap h' → (∃ o, h'.get? e = some o ∧ o.cls = .type "StopIteration") → E (.ref e) { s with heap := h' }) → wpAny (model prog w) A (Builtin.SmallTypes.nextOf (.ref it)) Q E s
theorem iterL {prog : Program} {w : World} : IterK prog w Heap.IsListIter Heap.IsList where
  keepI := fun h k => h.at k
  keepS := fun h k => h.at k
  there := fun ⟨_, h, _⟩ => Heap.lt_size h
  item := fun h1 h2 h3 h4 => wpAny_nextOf_list_item h1 h2 h3 h4
  stop := fun h0 h1 h2 h3 h4 => wpAny_nextOf_list_end h0 h1 h2 h3 h4
theorem iterT {prog : Program} {w : World} : IterK prog w Heap.IsTupleIter Heap.IsTuple where
  keepI := fun h k => h.at k
  keepS := fun h k => h.at k
  there := fun ⟨_, h, _⟩ => Heap.lt_size h
  item := fun h1 h2 h3 h4 => RZ.nextOf_tuple_item h1 h2 h3 h4
  stop := fun h0 h1 h2 h3 h4 => RZ.nextOf_tuple_end h0 h1 h2 h3 h4

section
variable {prog : Program} {w : World} {A : Around} {E : Value → Shared → Prop} {s : Shared} {It : Heap → Addr → Addr → Nat → Prop} {Sq : Heap → Addr → Array Value → Prop}
theorem next_held (KK : IterK prog w It Sq) {z TI TO T i1 i2 l1 l2 : Addr} {f : Bool} {oT : Obj} {k1 k2 : Nat} {xs ys : Array Value} {x y : Value} {Q : Value → Shared → Prop} (D : ZipApart z TI TO i1 i2 l1 l2)
    (hz : IsZipHeld s.heap z TI TO T f) (hT : s.heap.get? T = some oT) (hTI : IsPair s.heap TI (.ref i1) (.ref i2))
    (h1 : It s.heap i1 l1 k1) (h2 : It s.heap i2 l2 k2) (hl1 : Sq s.heap l1 xs) (hl2 : Sq s.heap l2 ys) (hx : xs[k1]? = some x) (hy : ys[k2]? = some y)
    (hQ : ∀ h', IsZipHeld h' z TI TO T true → It h' i1 l1 (k1 + 1) → It h' i2 l2 (k2 + 1) → IsPair h' s.heap.objs.size x y → h'.objs.size = s.heap.objs.size + 1 →
      (∀ c o, c ≠ z → c ≠ i1 → c ≠ i2 → s.heap.get? c = some o → h'.get? c = some o) → Q (.ref s.heap.objs.size) { s with heap := h' }) :
    wpAny (model prog w) A (Builtin.«zip.__next__» ⟨[.ref z], []⟩) (fun fin s' => ∃ v, fin = .done (.ret v) ∧ Q v s') E s := by
  show wpAny _ _ (field (.ref z) 2 >>= _) _ _ _
  refine wpAny_bind (wpAny_field hz rfl (x := .bool false) rfl ?_)
  show wpAny _ _ (field (.ref z) 3 >>= _) _ _ _
  refine wpAny_bind (wpAny_field hz rfl (x := .ref TI) rfl ?_)
  refine wpAny_bind (wpAny_seqItems hTI rfl ?_)
  show wpAny _ _ (Builtin.SmallTypes.ownedTupleIsFree (.ref z) >>= _) _ _ _
  refine wpAny_bind (wpAny_tupleHeld_zip hz hT fun h₁ hz₁ hs₁ => ?_)
  simp only [Bool.false_eq_true, if_false]
  refine wpAny_bind ?_
  rw [← Array.forIn_toList]
  simp only [List.forIn_cons, List.forIn_nil]
  refine wpAny_bind (wpAny_bind (wpAny_holding ?_))
  show wpAny _ _ (Builtin.SmallTypes.nextOf (.ref i1) >>= _) _ _ _
  refine wpAny_bind (KK.item (s := { s with heap := h₁ }) (KK.keepI h1 fun o e => hs₁.extBut _ _ D.i1z e) (KK.keepS hl1 fun o e => hs₁.extBut _ _ D.l1z e) hx fun h₂ h1₂ hs₂ => wpAny_pure ?_)
  refine wpAny_pure ?_
  refine wpAny_bind (wpAny_bind (wpAny_holding ?_))
  show wpAny _ _ (Builtin.SmallTypes.nextOf (.ref i2) >>= _) _ _ _
  refine wpAny_bind (KK.item (s := { s with heap := h₂ }) (KK.keepI h2 fun o e => hs₂.extBut _ _ D.i12.symm (hs₁.extBut _ _ D.i2z e)) (KK.keepS hl2 fun o e => hs₂.extBut _ _ D.l2i1 (hs₁.extBut _ _ D.l2z e)) hy fun h₃ h2₃ hs₃ => wpAny_pure ?_)
  refine wpAny_pure (wpAny_pure ?_)
  show wpAny _ _ (newTuple [x, y] >>= _) _ _ _
  refine wpAny_bind (wpAny_newTuple ?_)
  have hsz : h₃.objs.size = s.heap.objs.size := by rw [hs₃.1, hs₂.1, hs₁.1]
  have hz₃ : IsZipHeld h₃ z TI TO T true := hs₃.extBut _ _ D.i2z.symm (hs₂.extBut _ _ D.i1z.symm hz₁)
  have hk : ∀ c o, c ≠ z → c ≠ i1 → c ≠ i2 → s.heap.get? c = some o → h₃.get? c = some o := fun c o c1 c2 c3 e => hs₃.extBut _ _ c3 (hs₂.extBut _ _ c2 (hs₁.extBut _ _ c1 e))
  have h1₃ : It h₃ i1 l1 (k1 + 1) := KK.keepI h1₂ fun o e => hs₃.extBut _ _ D.i12 e
  refine wpAny_pure ⟨_, rfl, ?_⟩
  show Q (.ref h₃.objs.size) _
  have hp : IsPair (h₃.push { cls := .type "tuple", data := .seq #[x, y] }) h₃.objs.size x y := Heap.get?_push_size _ rfl
  have hz4 : (h₃.push { cls := .type "tuple", data := .seq #[x, y] }).objs.size = h₃.objs.size + 1 := Heap.size_push ..
  rw [hsz] at hp hz4 ⊢
  exact hQ _ (Heap.get?_push_of_some _ hz₃) (KK.keepI h1₃ fun o e => Heap.get?_push_of_some _ e) (KK.keepI h2₃ fun o e => Heap.get?_push_of_some _ e) hp hz4 fun c o c1 c2 c3 e => Heap.get?_push_of_some _ (hk c o c1 c2 c3 e)
theorem stop_held (KK : IterK prog w It Sq) {z TI TO T i1 i2 l1 l2 : Addr} {f : Bool} {oT : Obj} {k1 k2 : Nat} {xs ys : Array Value} {Q : PySem.Fin → Shared → Prop} (hh : A.handled = none) (D : ZipApart z TI TO i1 i2 l1 l2)
    (hz : IsZipHeld s.heap z TI TO T f) (hT : s.heap.get? T = some oT) (hTI : IsPair s.heap TI (.ref i1) (.ref i2))
    (h1 : It s.heap i1 l1 k1) (h2 : It s.heap i2 l2 k2) (hl1 : Sq s.heap l1 xs) (hl2 : Sq s.heap l2 ys) (hend : xs[k1]? = none ∨ ys[k2]? = none)
    (hE : ∀ h' e, (∀ c o, c ≠ z → c ≠ i1 → c ≠ i2 → s.heap.get? c = some o → h'.get? c = some o) → (∃ o, h'.get? e = some o ∧ o.cls = .type "StopIteration") → E (.ref e) { s with heap := h' }) :
    wpAny (model prog w) A (Builtin.«zip.__next__» ⟨[.ref z], []⟩) Q E s := by
  show wpAny _ _ (field (.ref z) 2 >>= _) _ _ _
  refine wpAny_bind (wpAny_field hz rfl (x := .bool false) rfl ?_)
  show wpAny _ _ (field (.ref z) 3 >>= _) _ _ _
  refine wpAny_bind (wpAny_field hz rfl (x := .ref TI) rfl ?_)
  refine wpAny_bind (wpAny_seqItems hTI rfl ?_)
  show wpAny _ _ (Builtin.SmallTypes.ownedTupleIsFree (.ref z) >>= _) _ _ _
  refine wpAny_bind (wpAny_tupleHeld_zip hz hT fun h₁ hz₁ hs₁ => ?_)
  simp only [Bool.false_eq_true, if_false]
  refine wpAny_bind ?_
  rw [← Array.forIn_toList]
  simp only [List.forIn_cons, List.forIn_nil]
  refine wpAny_bind (wpAny_bind (wpAny_holding ?_))
  show wpAny _ _ (Builtin.SmallTypes.nextOf (.ref i1) >>= _) _ _ _
  cases hx : xs[k1]? with
  | none =>
    refine wpAny_bind (KK.stop (s := { s with heap := h₁ }) hh (KK.keepI h1 fun o e => hs₁.extBut _ _ D.i1z e) (KK.keepS hl1 fun o e => hs₁.extBut _ _ D.l1z e) hx fun h₂ e hs₂ he => ?_)
    exact hE h₂ e (fun c o c1 c2 _ x => hs₂ _ _ c2 (hs₁.extBut _ _ c1 x)) he
  | some x =>
    have hy : ys[k2]? = none := by rcases hend with h | h; rw [hx] at h; cases h; exact h
    refine wpAny_bind (KK.item (s := { s with heap := h₁ }) (KK.keepI h1 fun o e => hs₁.extBut _ _ D.i1z e) (KK.keepS hl1 fun o e => hs₁.extBut _ _ D.l1z e) hx fun h₂ h1₂ hs₂ => wpAny_pure ?_)
    refine wpAny_pure ?_
    refine wpAny_bind (wpAny_bind (wpAny_holding ?_))
    show wpAny _ _ (Builtin.SmallTypes.nextOf (.ref i2) >>= _) _ _ _
    refine wpAny_bind (KK.stop (s := { s with heap := h₂ }) hh (KK.keepI h2 fun o e => hs₂.extBut _ _ D.i12.symm (hs₁.extBut _ _ D.i2z e)) (KK.keepS hl2 fun o e => hs₂.extBut _ _ D.l2i1 (hs₁.extBut _ _ D.l2z e)) hy fun h₃ e hs₃ he => ?_)
    exact hE h₃ e (fun c o c1 c2 c3 x => hs₃ _ _ c3 (hs₂.extBut _ _ c2 (hs₁.extBut _ _ c1 x))) he
theorem pyNext_held (KK : IterK prog w It Sq) {z TI TO T i1 i2 l1 l2 : Addr} {f : Bool} {oT : Obj} {k1 k2 : Nat} {xs ys : Array Value} {x y : Value} {Q : Option Value → Shared → Prop} (D : ZipApart z TI TO i1 i2 l1 l2)
    (hz : IsZipHeld s.heap z TI TO T f) (hT : s.heap.get? T = some oT) (hTI : IsPair s.heap TI (.ref i1) (.ref i2))
    (h1 : It s.heap i1 l1 k1) (h2 : It s.heap i2 l2 k2) (hl1 : Sq s.heap l1 xs) (hl2 : Sq s.heap l2 ys) (hx : xs[k1]? = some x) (hy : ys[k2]? = some y)
    (hQ : ∀ h', IsZipHeld h' z TI TO T true → It h' i1 l1 (k1 + 1) → It h' i2 l2 (k2 + 1) → IsPair h' s.heap.objs.size x y → h'.objs.size = s.heap.objs.size + 1 →
      (∀ c o, c ≠ z → c ≠ i1 → c ≠ i2 → s.heap.get? c = some o → h'.get? c = some o) → Q (some (.ref s.heap.objs.size)) { s with heap := h' }) :
    wpAny (model prog w) A (pyNext (.ref z)) Q E s := by
  have hTy : s.TypeIs (.ref z) "zip" := ⟨_, hz, rfl⟩
  unfold pyNext
  exact wpAny_bind (wpAny_attempt (wpAny_callSpecial?_slot (name := Str.ofString "__next__") hTy PySem.F.slot_zip_next
    (wpAny_call_entry PySem.F.slot_zip_next hTy PySem.F.entry_zip_next
      (next_held KK D hz hT hTI h1 h2 hl1 hl2 hx hy fun h' a1 a3 a4 a5 a6 a7 => wpAny_pure (hQ h' a1 a3 a4 a5 a6 a7)) (PySem.F.args_zip_next_1 _))))
theorem pyStop_held (KK : IterK prog w It Sq) {z TI TO T i1 i2 l1 l2 : Addr} {f : Bool} {oT : Obj} {k1 k2 : Nat} {xs ys : Array Value} {Q : Option Value → Shared → Prop} (hh : A.handled = none) (D : ZipApart z TI TO i1 i2 l1 l2)
    (hz : IsZipHeld s.heap z TI TO T f) (hT : s.heap.get? T = some oT) (hTI : IsPair s.heap TI (.ref i1) (.ref i2))
    (h1 : It s.heap i1 l1 k1) (h2 : It s.heap i2 l2 k2) (hl1 : Sq s.heap l1 xs) (hl2 : Sq s.heap l2 ys) (hend : xs[k1]? = none ∨ ys[k2]? = none)
    (hQ : ∀ h', (∀ c o, c ≠ z → c ≠ i1 → c ≠ i2 → s.heap.get? c = some o → h'.get? c = some o) → Q none { s with heap := h' }) : wpAny (model prog w) A (pyNext (.ref z)) Q E s := by
  have hTy : s.TypeIs (.ref z) "zip" := ⟨_, hz, rfl⟩
  unfold pyNext
  refine wpAny_bind (wpAny_attempt (wpAny_callSpecial?_slot (name := Str.ofString "__next__") hTy PySem.F.slot_zip_next
    (wpAny_call_entry PySem.F.slot_zip_next hTy PySem.F.entry_zip_next (stop_held KK hh D hz hT hTI h1 h2 hl1 hl2 hend fun h' e hk he => ?_) (PySem.F.args_zip_next_1 _))))
  obtain ⟨o, ho, hc⟩ := he
  refine wpAny_bind (wpAny_isInstance (T := "StopIteration") (b := true) ⟨o, ho, hc⟩ isSubtype_stop ?_)
  exact wpAny_pure (hQ _ hk)
end

/-- a zip whose n items are new pairs, while at S a list is being filled -/
structure ZSrc (prog : Program) (w : World) (A : Around) (z S : Addr) (ch : List Addr) (n : Nat) (P : Nat → Value × Value) (St : Nat → Heap → Prop) : Prop where
  off : S ∉ ch
  low : ∀ b ∈ ch, b < S
  frame : ∀ i h h', St i h → (∀ b o, b ≠ S → h.get? b = some o → h'.get? b = some o) → St i h'
  type : ∀ i (s : Shared), St i s.heap → s.TypeIs (.ref z) "zip"
  self : ∀ i (s : Shared) (Q : Value → Shared → Prop) (E : Value → Shared → Prop), St i s.heap → Q (.ref z) s → wpAny (model prog w) A (pyIter (.ref z)) Q E s
  item : ∀ i (s : Shared) (Q : Option Value → Shared → Prop) (E : Value → Shared → Prop), i < n → St i s.heap → S < s.heap.objs.size →
    (∀ h', St (i + 1) h' → IsPair h' s.heap.objs.size (P i).1 (P i).2 → h'.objs.size = s.heap.objs.size + 1 → (∀ b o, b ∉ ch → s.heap.get? b = some o → h'.get? b = some o) → Q (some (.ref s.heap.objs.size)) { s with heap := h' }) → wpAny (model prog w) A (pyNext (.ref z)) Q E s
  done : ∀ (s : Shared) (Q : Option Value → Shared → Prop) (E : Value → Shared → Prop), St n s.heap →
    (∀ h', (∀ b o, b ∉ ch → s.heap.get? b = some o → h'.get? b = some o) → Q none { s with heap := h' }) → wpAny (model prog w) A (pyNext (.ref z)) Q E s
structure ZG (P : Nat → Value × Value) (lo : Addr) (h : Heap) (as : List Addr) : Prop where
  rise : as.Pairwise (· < ·)
  above : ∀ a ∈ as, lo < a
  pairs : ∀ (j : Nat) (a : Addr), as[j]? = some a → IsPair h a (P j).1 (P j).2
theorem ZG.there {P : Nat → Value × Value} {lo : Addr} {h : Heap} {as : List Addr} (g : ZG P lo h as) {a : Addr} (ha : a ∈ as) : a < h.objs.size := by
  obtain ⟨j, hj⟩ := List.mem_iff_getElem?.mp ha
  exact Heap.lt_size (g.pairs j a hj)
section
variable {prog : Program} {w : World} {A : Around} {s : Shared} {R : Result → Shared → Prop} {n : Nat} {P : Nat → Value × Value} {St : Nat → Heap → Prop} {z S : Addr} {ch : List Addr}
theorem z_loop (Z : ZSrc prog w A.in1 z S ch n P St) (hn : n ≤ sizeLine) (res : Value) {h₁ : Heap}
    (hR : ∀ h' tk acc c as, (∀ b o, b ≠ S → b ∉ ch → h₁.get? b = some o → h'.get? b = some o) → h'.get? S = some { cls := .type "list", dict := none, data := .seq acc c, slots := #[] } → as.length = n → ZG P S h' as →
      acc.toList = as.map Value.ref → R (.ok (.ret res)) { s with heap := h', toks := tk }) :
    ∀ (k i : Nat) (h : Heap) (tk c : Nat) (acc : Array Value) (as : List Addr), n - i = k → i ≤ n → St i h → (∀ b o, b ≠ S → b ∉ ch → h₁.get? b = some o → h.get? b = some o) →
      h.get? S = some { cls := .type "list", dict := none, data := .seq acc c, slots := #[] } → acc.toList = as.map Value.ref → as.length = i → ZG P S h as →
      codeAny (model prog w) A (.builtin "list.extend.loop" ⟨[.ref S, .ref z, res], []⟩) R { s with heap := h, toks := tk } := by
  intro k
  induction k with
  | zero =>
    intro i h tk c acc as hk hi hst hkeep hS hacc hal hG
    have hin : i = n := by omega
    subst hin
    refine codeAny_builtin PySem.F.entry_extend_loop ?_
    rw [Around.under_plainId PySem.F.plain_extend_loop _]
    show wpAny _ A.in1 (pyNext (.ref z) >>= _) _ _ _
    refine wpAny_bind (Z.done { s with heap := h, toks := tk } _ _ hst fun h' he => ?_)
    refine wpAny_pure (hR h' tk acc c as (fun b o h1 h2 e => he b o h2 (hkeep b o h1 h2 e)) (he S _ Z.off hS) hal ⟨hG.rise, hG.above, fun j a hj => ?_⟩ hacc)
    exact he a _ (fun hm => Nat.lt_asymm (hG.above a (List.mem_of_getElem? hj)) (Z.low a hm)) (hG.pairs j a hj)
  | succ k ih =>
    intro i h tk c acc as hk hi hst hkeep hS hacc hal hG
    have hlt : i < n := by omega
    have hsz : acc.size = i := by rw [← Array.length_toList, hacc, List.length_map, hal]
    have hSl : S < h.objs.size := Heap.lt_size hS
    refine codeAny_builtin PySem.F.entry_extend_loop ?_
    rw [Around.under_plainId PySem.F.plain_extend_loop _]
    show wpAny _ A.in1 (pyNext (.ref z) >>= _) _ _ _
    refine wpAny_bind (Z.item i { s with heap := h, toks := tk } _ _ hlt hst hSl fun h' hst' ht hz hkp => ?_)
    dsimp only at ht hz hkp ⊢
    have hS' := hkp S _ Z.off hS
    have up : ∀ b o, b ≠ S → h'.get? b = some o → (h'.update S (Obj.mapSeq (·.push (Value.ref h.objs.size)))).get? b = some o := fun b o hb e => (Heap.get?_update_other _ _ (Ne.symm hb)).trans e
    have nch : ∀ a, S < a → a ∉ ch := fun a ha hm => Nat.lt_asymm ha (Z.low a hm)
    show wpAny _ A.in1 (updateSeq S (·.push (Value.ref h.objs.size)) >>= _) _ _ _
    refine wpAny_bind ?_
    refine wpAny_updateSeq hS' rfl (wpAny_pure ⟨plainId_quiet PySem.F.plain_extend_loop _, ih (i + 1) _ tk _ (acc.push (Value.ref h.objs.size)) (as ++ [h.objs.size]) (by omega) hlt (Z.frame _ _ _ hst' up)
      (fun b o h1 h2 e => up b o h1 (hkp b o h2 (hkeep b o h1 h2 e))) (Heap.get?_update_self _ hS' rfl) (by rw [Array.toList_push, hacc, List.map_append]; rfl) (by rw [List.length_append, hal]; rfl) ⟨?_, ?_, ?_⟩⟩) (by rw [hsz]; omega) (by show (acc.push (Value.ref h.objs.size)).size ≤ sizeLine + 1; rw [Array.size_push, hsz]; omega)
    · refine List.pairwise_append.mpr ⟨hG.rise, List.pairwise_singleton _ _, fun a ha b hb => ?_⟩
      rw [List.mem_singleton.mp hb]
      exact hG.there ha
    · intro a ha
      rcases List.mem_append.mp ha with ha | ha
      · exact hG.above a ha
      · rw [List.mem_singleton.mp ha]; exact hSl
    · intro j b hj
      rcases Nat.lt_trichotomy j as.length with h1 | h1 | h1
      · rw [List.getElem?_append_left h1] at hj
        have hb := hG.above b (List.mem_of_getElem? hj)
        exact up b _ (Nat.ne_of_gt hb) (hkp b _ (nch b hb) (hG.pairs j b hj))
      · subst h1
        have hb : h.objs.size = b := by simpa using hj
        subst hb
        subst hal
        exact up _ _ (Nat.ne_of_gt hSl) ht
      · have hnone : (as ++ [h.objs.size])[j]? = none := List.getElem?_eq_none (by rw [List.length_append, List.length_singleton]; omega)
        rw [hnone] at hj; cases hj
theorem z_extend (Z : ZSrc prog w A.in1 z S ch n P St) (hn : n ≤ sizeLine) (res : Value) (c₀ : Nat) (st : St 0 s.heap) (hSz : S ≠ z) (hS : s.heap.get? S = some { cls := .type "list", data := .seq #[] c₀ })
    (hR : ∀ h' tk acc c as, (∀ b o, b ≠ S → b ∉ ch → s.heap.get? b = some o → h'.get? b = some o) → h'.get? S = some { cls := .type "list", dict := none, data := .seq acc c, slots := #[] } → as.length = n → ZG P S h' as →
      acc.toList = as.map Value.ref → R (.ok (.ret res)) { s with heap := h', toks := tk }) :
    wpAny (model prog w) A.in1 (Builtin.List.listExtendWith (.ref S) (.ref z) res)
      (fun fin s' => match fin with | .done f => R (.ok f) s' | .again c' => c'.quiet = true ∧ codeAny (model prog w) A c' R s') (fun e s' => R (.error e) s') s := by
  unfold Builtin.List.listExtendWith
  refine wpAny_bind (wpAny_typeOf (Z.type 0 s st) ?_)
  have h1 : Builtin.List.listSameRef (.ref S) (.ref z) = false := by simp [Builtin.List.listSameRef, hSz]
  have h2 : (Value.type "zip" == Value.type "list") = false := by decide
  have h3 : (Value.type "zip" == Value.type "tuple") = false := by decide
  simp only [h1, h2, h3, Bool.or_false, Bool.false_eq_true, if_false]
  refine wpAny_bind (Z.self 0 _ _ _ st ?_)
  refine wpAny_bind (wpAny_holding ?_)
  unfold Builtin.List.listLengthHint
  refine wpAny_bind (wpAny_specialOf (Z.type 0 s st) zip_no_len ?_)
  show wpAny _ A.in1 (specialOf (Value.ref z) (Str.ofString "__length_hint__") >>= _) _ _ _
  refine wpAny_bind (wpAny_specialOf (Z.type 0 s st) zip_no_hint ?_)
  refine wpAny_pure ?_
  show wpAny _ A.in1 (rule "list.extend.makes-room" >>= fun _ => Builtin.List.listTouch (.ref S) >>= fun _ =>
    again (.builtin "list.extend.loop" ⟨[.ref S, .ref z, res], []⟩)) _ _ _
  refine wpAny_bind (wpAny_rule ?_)
  refine wpAny_bind ?_
  show wpAny _ A.in1 (updateSeq S (·.push .none) >>= fun _ => updateSeq S (·.pop)) _ _ _
  refine wpAny_bind (wpAny_updateSeq hS rfl ?_)
  have hS₂ := Heap.get?_update_self (Obj.mapSeq (·.push Value.none)) hS rfl
  refine wpAny_updateSeq (hz := by seq_fits) hS₂ rfl ?_
  have hS₃ := Heap.get?_update_self (Obj.mapSeq (·.pop)) hS₂ rfl
  have oth : ∀ b o, b ≠ S → s.heap.get? b = some o → ((s.heap.update S (Obj.mapSeq (·.push Value.none))).update S (Obj.mapSeq (·.pop))).get? b = some o :=
    fun b o hb e => (Heap.get?_update_other _ _ (Ne.symm hb)).trans ((Heap.get?_update_other _ _ (Ne.symm hb)).trans e)
  refine wpAny_pure ⟨plainId_quiet PySem.F.plain_extend_loop _, z_loop (s := s) (h₁ := s.heap) Z hn res hR n 0 _ _ _ #[] [] (Nat.sub_zero _) (Nat.zero_le _) (Z.frame 0 _ _ st oth) (fun b o hb _ e => oth b o hb e) hS₃ rfl rfl
    ⟨List.Pairwise.nil, (fun _ ha => nomatch ha), (fun j a hj => by simp at hj)⟩⟩
theorem z_init (Z : ZSrc prog w A.in1 z S ch n P St) (hn : n ≤ sizeLine) (st : St 0 s.heap) (hSz : S ≠ z) (hS : s.heap.get? S = some { cls := .type "list", data := .seq #[] })
    (hR : ∀ h' tk acc c as, (∀ b o, b ≠ S → b ∉ ch → s.heap.get? b = some o → h'.get? b = some o) → h'.get? S = some { cls := .type "list", dict := none, data := .seq acc c, slots := #[] } → as.length = n → ZG P S h' as →
      acc.toList = as.map Value.ref → R (.ok (.ret .none)) { s with heap := h', toks := tk }) :
    wpAny (model prog w) A.in1 (Builtin.«list.__init__» ⟨[.ref S, .ref z], []⟩)
      (fun fin s' => match fin with | .done f => R (.ok f) s' | .again c' => c'.quiet = true ∧ codeAny (model prog w) A c' R s') (fun e s' => R (.error e) s') s := by
  show wpAny _ _ (do let old ← Builtin.List.listItems (.ref S); Builtin.List.listUpdate (.ref S) (fun _ => #[]); letGo old.toList.reverse; Builtin.List.listExtendWith (.ref S) (.ref z) .none) _ _ s
  refine wpAny_bind ?_
  unfold Builtin.List.listItems
  refine wpAny_bind (wpAny_seqItems hS rfl (wpAny_pure ?_))
  show wpAny _ _ (updateSeq S (fun _ => #[]) >>= fun _ => letGo (#[] : Array Value).toList.reverse >>= fun _ => Builtin.List.listExtendWith (.ref S) (.ref z) .none) _ _ s
  refine wpAny_bind (wpAny_updateSeq hS rfl ?_)
  have hS₂ := Heap.get?_update_self (Obj.mapSeq (fun _ => (#[] : Array Value))) hS rfl
  have oth : ∀ b o, b ≠ S → s.heap.get? b = some o → (s.heap.update S (Obj.mapSeq (fun _ => (#[] : Array Value)))).get? b = some o :=
    fun b o hb e => (Heap.get?_update_other _ _ (Ne.symm hb)).trans e
  refine wpAny_bind (wpAny_letGo ?_)
  refine z_extend (s := { s with heap := s.heap.update S (Obj.mapSeq (fun _ => (#[] : Array Value))) }) Z hn .none _ (Z.frame 0 _ _ st oth) hSz hS₂ fun h' tk acc c as hk hS' hl hG hacc => ?_
  exact hR h' tk acc c as (fun b o hb hc e => hk b o hb hc (oth b o hb e)) hS' hl hG hacc
end
section
variable {prog : Program} {w : World} {A : Around} {E : Value → Shared → Prop} {s : Shared} {n : Nat} {P : Nat → Value × Value} {St : Nat → Heap → Prop} {z : Addr} {ch : List Addr}
theorem z_call {Q : Value → Shared → Prop} (Z : ∀ A : Around, A.handled = none → ZSrc prog w A z s.heap.objs.size ch n P St) (hh : A.handled = none) (hn : n ≤ sizeLine) (hz : z < s.heap.objs.size) (st : St 0 (s.heap.push { cls := .type "list", data := .seq #[] }))
    (hQ : ∀ h' tk acc c as, (∀ b o, b ∉ ch → s.heap.get? b = some o → h'.get? b = some o) → h'.get? s.heap.objs.size = some { cls := .type "list", dict := none, data := .seq acc c, slots := #[] } → as.length = n → ZG P s.heap.objs.size h' as →
      acc.toList = as.map Value.ref → Q (.ref s.heap.objs.size) { s with heap := h', toks := tk }) :
    wpAny (model prog w) A (call (.type "list") [.ref z]) Q E s := by
  refine callType_codes (Q₁ := fun obj s₁ => obj = .ref s.heap.objs.size ∧ s₁ = { s with heap := s.heap.push { cls := .type "list", data := .seq #[] } }) PySem.F.called_list (PySem.F.typeCall_list_1 _) PySem.F.entry_list_init
    (code_list_new _ ⟨rfl, rfl⟩) fun obj s₁ h₁ => ?_
  obtain ⟨rfl, rfl⟩ := h₁
  have hS : (s.heap.push { cls := .type "list", data := .seq #[] }).get? s.heap.objs.size = some { cls := .type "list", data := .seq #[] } := Heap.get?_push_size _ rfl
  refine ⟨⟨_, hS, rfl⟩, PySem.F.args_list_init_2 _ _, z_init (A := A.in1) (s := { s with heap := s.heap.push { cls := .type "list", data := .seq #[] } }) (Z A.in1.in1 hh) hn st (Nat.ne_of_gt hz) hS fun h' tk acc c as hk hS' hl hG hacc => ?_⟩
  exact ⟨rfl, hQ h' tk acc c as (fun b o hb e => hk b o (Nat.ne_of_lt (Heap.lt_size e)) hb (Heap.get?_push_of_some _ e)) hS' hl hG hacc⟩
end
end Mi.Z

/-! Mi, part M: list(zip(a, b)) for the small language. -/
namespace Mi.Z
open PySem PySem.Spec PyProof.Rows L2 PySem.W PySem.Calls
structure IterZ (prog : Program) (w : World) (It : Heap → Addr → Addr → Nat → Prop) (Sq : Heap → Addr → Array Value → Prop) : Prop extends IterK prog w It Sq where
  zitem : ∀ {A : Around} {E : Value → Shared → Prop} {s : Shared} {z TI TO i1 i2 l1 l2 : Addr} {k1 k2 : Nat} {xs ys : Array Value} {x y a b : Value} {Q : Option Value → Shared → Prop}, ZipApart z TI TO i1 i2 l1 l2 →
    IsZip s.heap z TI TO .none → IsPair s.heap TI (.ref i1) (.ref i2) → IsPair s.heap TO a b → It s.heap i1 l1 k1 → It s.heap i2 l2 k2 → Sq s.heap l1 xs → Sq s.heap l2 ys → xs[k1]? = some x → ys[k2]? = some y →
    (∀ h', IsZip h' z TI TO (rawInt s.heap.objs.size) → IsPair h' TO x y → It h' i1 l1 (k1 + 1) → It h' i2 l2 (k2 + 1) → IsPair h' s.heap.objs.size x y → h'.objs.size = s.heap.objs.size + 1 →
      (∀ c o, c ≠ z → c ≠ TO → c ≠ i1 → c ≠ i2 → s.heap.get? c = some o → h'.get? c = some o) → Q (some (.ref s.heap.objs.size)) { s with heap := h' }) → wpAny (model prog w) A (pyNext (.ref z)) Q E s
  zstop : ∀ {A : Around} {E : Value → Shared → Prop} {s : Shared} {z TI TO i1 i2 l1 l2 : Addr} {k1 k2 : Nat} {xs ys : Array Value} {a b : Value} {Q : Option Value → Shared → Prop}, A.handled = none → ZipApart z TI TO i1 i2 l1 l2 →
    IsZip s.heap z TI TO .none → IsPair s.heap TI (.ref i1) (.ref i2) → IsPair s.heap TO a b → It s.heap i1 l1 k1 → It s.heap i2 l2 k2 → Sq s.heap l1 xs → Sq s.heap l2 ys → (xs[k1]? = none ∨ ys[k2]? = none) →
    (∀ h', (∀ c o, c ≠ z → c ≠ TO → c ≠ i1 → c ≠ i2 → s.heap.get? c = some o → h'.get? c = some o) → Q none { s with heap := h' }) → wpAny (model prog w) A (pyNext (.ref z)) Q E s
theorem izL {prog : Program} {w : World} : IterZ prog w Heap.IsListIter Heap.IsList :=
  { iterL with zitem := fun D a b c d e f g h i j => wpAny_pyNext_zip_item D a b c d e f g h i j, zstop := fun hh D a b c d e f g h i => wpAny_pyNext_zip_end hh D a b c d e f g h i }
theorem izT {prog : Program} {w : World} : IterZ prog w Heap.IsTupleIter Heap.IsTuple :=
  { iterT with zitem := fun D a b c d e f g h i j => RZ.pyNext_zipT_item D a b c d e f g h i j, zstop := fun hh D a b c d e f g h i => RZ.pyNext_zipT_end hh D a b c d e f g h i }
section
variable {prog : Program} {w : World} {It : Heap → Addr → Addr → Nat → Prop} {Sq : Heap → Addr → Array Value → Prop}
def ZSt (It : Heap → Addr → Addr → Nat → Prop) (Sq : Heap → Addr → Array Value → Prop) (z TI TO i1 i2 l1 l2 S : Addr) (xs ys : Array Value) (i : Nat) (h : Heap) : Prop :=
  IsPair h TI (.ref i1) (.ref i2) ∧ It h i1 l1 i ∧ It h i2 l2 i ∧ Sq h l1 xs ∧ Sq h l2 ys ∧ ((IsZip h z TI TO .none ∧ ∃ a b, IsPair h TO a b) ∨ ∃ T f oT, IsZipHeld h z TI TO T f ∧ h.get? T = some oT ∧ T ≠ z ∧ T ≠ i1 ∧ T ≠ i2 ∧ T ≠ S)
theorem zsrc (KK : IterZ prog w It Sq) {z TI TO i1 i2 l1 l2 S : Addr} (D : ZipApart z TI TO i1 i2 l1 l2) {xs ys : Array Value} (hz : z < S) (hTI : TI < S) (hTO : TO < S) (h1 : i1 < S) (h2 : i2 < S) (hl1 : l1 < S) (hl2 : l2 < S) (A : Around) (hA : A.handled = none) :
    ZSrc prog w A z S [z, TO, i1, i2] (min xs.size ys.size) (fun i => (xs.getD i .none, ys.getD i .none)) (ZSt It Sq z TI TO i1 i2 l1 l2 S xs ys) where
  off := by
    intro hm
    simp only [List.mem_cons, List.not_mem_nil, or_false] at hm
    rcases hm with e | e | e | e
    · exact Nat.ne_of_gt hz e
    · exact Nat.ne_of_gt hTO e
    · exact Nat.ne_of_gt h1 e
    · exact Nat.ne_of_gt h2 e
  low := fun b hm => by
    simp only [List.mem_cons, List.not_mem_nil, or_false] at hm
    rcases hm with rfl | rfl | rfl | rfl <;> assumption
  frame := fun i h h' st hk => by
    obtain ⟨a1, a2, a3, a4, a5, hz'⟩ := st
    refine ⟨hk _ _ (Nat.ne_of_lt hTI) a1, KK.keepI a2 fun o e => hk _ _ (Nat.ne_of_lt h1) e, KK.keepI a3 fun o e => hk _ _ (Nat.ne_of_lt h2) e, KK.keepS a4 fun o e => hk _ _ (Nat.ne_of_lt hl1) e, KK.keepS a5 fun o e => hk _ _ (Nat.ne_of_lt hl2) e, ?_⟩
    rcases hz' with ⟨b1, a, b, b2⟩ | ⟨T, f, oT, b1, b2, r1, r2, r3, r4⟩
    · exact .inl ⟨hk _ _ (Nat.ne_of_lt hz) b1, a, b, hk _ _ (Nat.ne_of_lt hTO) b2⟩
    · exact .inr ⟨T, f, oT, hk _ _ (Nat.ne_of_lt hz) b1, hk _ _ r4 b2, r1, r2, r3, r4⟩
  type := fun i s st => by
    obtain ⟨_, _, _, _, _, ⟨b1, _⟩ | ⟨T, f, oT, b1, _⟩⟩ := st
    · exact ⟨_, b1, rfl⟩
    · exact ⟨_, b1, rfl⟩
  self := fun i s Q E st h => by
    obtain ⟨_, _, _, _, _, ⟨b1, _⟩ | ⟨T, f, oT, b1, _⟩⟩ := st
    · exact wpAny_pyIter_zip b1 h
    · have hT : s.TypeIs (.ref z) "zip" := ⟨_, b1, rfl⟩
      refine wpAny_pyIter_slot hT PySem.F.slot_zip_iter (wpAny_call_entry PySem.F.slot_zip_iter hT PySem.F.entry_zip_iter ?_ (PySem.F.args_zip_iter_1 _))
      show wpAny _ _ (ret (.ref z)) _ _ s
      exact wpAny_pure ⟨_, rfl, "zip", _, hT, PySem.F.slot_zip_next.lookup, h⟩
  item := fun i s Q E hi st hS hQ => by
    obtain ⟨a1, a2, a3, a4, a5, hz'⟩ := st
    have hix : i < xs.size := Nat.lt_of_lt_of_le hi (Nat.min_le_left ..)
    have hiy : i < ys.size := Nat.lt_of_lt_of_le hi (Nat.min_le_right ..)
    have ex : xs[i]? = some (xs.getD i .none) := by rw [Array.getElem?_eq_getElem hix]; simp [Array.getD, hix]
    have ey : ys[i]? = some (ys.getD i .none) := by rw [Array.getElem?_eq_getElem hiy]; simp [Array.getD, hiy]
    have nm : ∀ c, c ∉ [z, TO, i1, i2] → c ≠ z ∧ c ≠ TO ∧ c ≠ i1 ∧ c ≠ i2 := fun c hc => by simpa using hc
    rcases hz' with ⟨b1, a, b, b2⟩ | ⟨T, f, oT, b1, b2, r1, r2, r3, r4⟩
    · refine KK.zitem D b1 a1 b2 a2 a3 a4 a5 ex ey fun h' c1 c2 c3 c4 c5 c6 hk => ?_
      refine hQ h' ⟨hk _ _ D.TIz D.TITO D.TIi1 D.TIi2 a1, c3, c4, KK.keepS a4 fun o e => hk _ _ D.l1z D.l1TO D.l1i1 D.l1i2 e, KK.keepS a5 fun o e => hk _ _ D.l2z D.l2TO D.l2i1 D.l2i2 e, .inr ⟨s.heap.objs.size, false, _, c1, c5, Nat.ne_of_gt (Nat.lt_trans hz hS), Nat.ne_of_gt (Nat.lt_trans h1 hS), Nat.ne_of_gt (Nat.lt_trans h2 hS), Nat.ne_of_gt hS⟩⟩ c5 c6 fun c o hc e => ?_
      obtain ⟨n1, n2, n3, n4⟩ := nm c hc
      exact hk c o n1 n2 n3 n4 e
    · refine pyNext_held KK.toIterK D b1 b2 a1 a2 a3 a4 a5 ex ey fun h' c1 c3 c4 c5 c6 hk => ?_
      refine hQ h' ⟨hk _ _ D.TIz D.TIi1 D.TIi2 a1, c3, c4, KK.keepS a4 fun o e => hk _ _ D.l1z D.l1i1 D.l1i2 e, KK.keepS a5 fun o e => hk _ _ D.l2z D.l2i1 D.l2i2 e, .inr ⟨T, true, oT, c1, hk _ _ r1 r2 r3 b2, r1, r2, r3, r4⟩⟩ c5 c6 fun c o hc e => ?_
      obtain ⟨n1, n2, n3, n4⟩ := nm c hc
      exact hk c o n1 n3 n4 e
  done := fun s Q E st hQ => by
    obtain ⟨a1, a2, a3, a4, a5, hz'⟩ := st
    have hend : xs[min xs.size ys.size]? = none ∨ ys[min xs.size ys.size]? = none := by
      rcases Nat.le_total xs.size ys.size with h | h
      · exact .inl (Array.getElem?_eq_none (by rw [Nat.min_eq_left h]; exact Nat.le_refl _))
      · exact .inr (Array.getElem?_eq_none (by rw [Nat.min_eq_right h]; exact Nat.le_refl _))
    have nm : ∀ c, c ∉ [z, TO, i1, i2] → c ≠ z ∧ c ≠ TO ∧ c ≠ i1 ∧ c ≠ i2 := fun c hc => by simpa using hc
    rcases hz' with ⟨b1, a, b, b2⟩ | ⟨T, f, oT, b1, b2, r1, r2, r3, r4⟩
    · exact KK.zstop hA D b1 a1 b2 a2 a3 a4 a5 hend fun h' hk => hQ h' fun c o hc e => by
        obtain ⟨n1, n2, n3, n4⟩ := nm c hc
        exact hk c o n1 n2 n3 n4 e
    · exact pyStop_held KK.toIterK hA D b1 b2 a1 a2 a3 a4 a5 hend fun h' hk => hQ h' fun c o hc e => by
        obtain ⟨n1, n2, n3, n4⟩ := nm c hc
        exact hk c o n1 n3 n4 e
end

/-! ### tracked -/
def putP : Hp → List Addr → List (V × V) → Hp
  | H, a :: as, p :: r => putP (upd H a (.tup [p.1, p.2])) as r
  | H, _, _ => H
theorem putP_off {b : Addr} : ∀ (as : List Addr) (ps : List (V × V)) (H : Hp), b ∉ as → putP H as ps b = H b
  | [], _, _, _ => rfl
  | _ :: _, [], _, _ => rfl
  | a :: as, p :: ps, H, h => by
    show putP (upd H a (.tup [p.1, p.2])) as ps b = H b
    rw [putP_off as ps _ (fun z => h (List.mem_cons_of_mem _ z)), upd_ne (fun z => h (by rw [z]; exact List.mem_cons_self))]
theorem putP_at : ∀ (as : List Addr) (ps : List (V × V)) (H : Hp), as.Nodup → ∀ (j : Nat) (a : Addr) (p : V × V), as[j]? = some a → ps[j]? = some p → putP H as ps a = some (.tup [p.1, p.2])
  | [], _, _, _, j, a, p, h, _ => by simp at h
  | _ :: _, [], _, _, j, a, p, _, h => by simp at h
  | a :: as, q :: ps, H, hn, 0, b, p, h1, h2 => by
    cases h1; cases h2
    show putP (upd H a (.tup [q.1, q.2])) as ps a = _
    rw [putP_off as ps _ (List.nodup_cons.mp hn).1, upd_same]
  | a :: as, q :: ps, H, hn, j + 1, b, p, h1, h2 => putP_at as ps _ (List.nodup_cons.mp hn).2 j b p h1 h2
section
variable {X : Cx}
theorem pairs_laid {pins : List (Addr × Obj)} {σ : L2.St} {H : Hp} {s : Shared} {h' : Heap} {tk : Nat} {P : Nat → Value × Value} {ps : List (V × V)} {acc : Array Value} {c : Nat} {as : List Addr} {S : Addr} (I : Inv X pins σ H s) (hz : ps.length ≤ sizeLine)
    (hk : ∀ b o, s.heap.get? b = some o → h'.get? b = some o) (hSs : s.heap.objs.size ≤ S) (hS : h'.get? S = some { cls := .type "list", dict := none, data := .seq acc c, slots := #[] }) (hl : as.length = ps.length) (hG : ZG P S h' as) (hacc : acc.toList = as.map Value.ref)
    (rel : ∀ (j : Nat) (p : V × V), ps[j]? = some p → RelV p.1 (P j).1 ∧ RelV p.2 (P j).2) :
    ∃ H' : Hp, (∀ b o, H b = some o → H' b = some o) ∧ H S = none ∧ (∀ t ∈ as, H t = none) ∧ S ∉ as ∧ H' S = some (.lst (as.map V.ref)) ∧ (∀ (j : Nat) (a : Addr) (p : V × V), as[j]? = some a → ps[j]? = some p → H' a = some (.tup [p.1, p.2])) ∧ Inv X pins σ H' { s with heap := h', toks := tk } := by
  have hSn : S ∉ as := fun z => Nat.lt_irrefl _ (hG.above _ z)
  have nd : as.Nodup := List.Pairwise.imp (fun {a b} (h : a < b) => Nat.ne_of_lt h) hG.rise
  have new : ∀ t ∈ as, H t = none := fun t ht => I.hok.fresh (Nat.le_trans hSs (Nat.le_of_lt (hG.above t ht)))
  have newS : H S = none := I.hok.fresh hSs
  have atP := putP_at as ps (upd H S (.lst (as.map V.ref))) nd
  have off : ∀ b, b ∉ as → b ≠ S → putP (upd H S (.lst (as.map V.ref))) as ps b = H b := fun b h1 h2 => by rw [putP_off as ps _ h1, upd_ne h2]
  have low : ∀ b o, s.heap.get? b = some o → b ∉ as ∧ b ≠ S := fun b o e => by
    have hb := Heap.lt_size e
    exact ⟨fun z => Nat.lt_irrefl _ (Nat.lt_trans (Nat.lt_of_lt_of_le hb hSs) (hG.above b z)), Nat.ne_of_lt (Nat.lt_of_lt_of_le hb hSs)⟩
  have kp : ∀ b u, H b = some u → (putP (upd H S (.lst (as.map V.ref))) as ps) b = some u := fun b u e => by
    rw [off b (fun z => by rw [new b z] at e; cases e) (fun z => by rw [z, newS] at e; cases e)]
    exact e
  have eS : putP (upd H S (.lst (as.map V.ref))) as ps S = some (.lst (as.map V.ref)) := by rw [putP_off as ps _ hSn, upd_same]
  refine ⟨putP (upd H S (.lst (as.map V.ref))) as ps, kp, newS, new, hSn, eS, atP, ?_⟩
  refine I.call' (ch := []) rfl ⟨fun b o q _ _ _ => hk b o q, fun b o q _ _ _ => ⟨o.slots, hk b o q⟩, fun b o q n _ => ?_, fun b o q _ => ⟨o, hk b o q⟩, fun b xs q => kp b _ q, fun b o u q => kp b _ q, fun b ps q => ⟨#[], by rw [kp b _ q]; simp⟩⟩ (fun b u q => ?_) I.bare fun b z => by simp at z
  · obtain ⟨z1, z2⟩ := low b o q
    rw [off b z1 z2]
    exact n
  · by_cases hb : b ∈ as
    · obtain ⟨j, e1⟩ := List.mem_iff_getElem?.mp hb
      have hj : j < ps.length := by rw [← hl]; exact (List.getElem?_eq_some_iff.mp e1).1
      have e2 : ps[j]? = some ps[j] := List.getElem?_eq_getElem hj
      rw [atP j b _ e1 e2] at q
      cases q
      obtain ⟨r1, r2⟩ := rel j _ e2
      exact ⟨by show 2 ≤ sizeLine; decide, [(P j).1, (P j).2], .cons r1 (.cons r2 .nil), ⟨_, hG.pairs j b e1, rfl, _, rfl⟩⟩
    · by_cases hb2 : b = S
      · rw [hb2] at q ⊢
        rw [eS] at q
        cases q
        refine ⟨by rw [List.length_map]; omega, acc.toList, c, by rw [hacc]; exact LiI.vals_refs as, ?_⟩
        rw [Array.toArray_toList]
        exact hS
      · rw [off b hb hb2] at q
        exact (I.hok b u q).stay (fun d v _ y => hk d v y) (fun d y => kp d _ y) fun d xs y => kp d _ y
/-- list(zip(a, b)) -/
def tLZ (K : PySem.W.Frag) (ta : TA) : TE := fun σ H Q => ta σ H fun vs H1 => ∃ a b xs ys, vs = [.ref a, .ref b] ∧ ((SqL K H1 a xs ∧ SqL K H1 b ys) ∨ (SqT K H1 a xs ∧ SqT K H1 b ys)) ∧
  ∀ (H' : Hp) (p : Addr) (ts : List Addr), (∀ b o, H1 b = some o → H' b = some o) → H1 p = none → (∀ t ∈ ts, H1 t = none) → p ∉ ts → H' p = some (.lst (ts.map V.ref)) → ts.length = (xs.zip ys).length →
    (∀ (j : Nat) (t : Addr) (q : V × V), ts[j]? = some t → (xs.zip ys)[j]? = some q → H' t = some (.tup [q.1, q.2])) → Q (.ref p) H'

theorem zip_rel {xs ys : List V} {us ws : List Value} (r1 : Vals xs us) (r2 : Vals ys ws) (j : Nat) (p : V × V) (h : (xs.zip ys)[j]? = some p) : RelV p.1 (us.toArray.getD j .none) ∧ RelV p.2 (ws.toArray.getD j .none) := by
  rw [List.getElem?_zip_eq_some] at h
  obtain ⟨h1, h2⟩ := h
  obtain ⟨u, e1, q1⟩ := r1.get h1
  obtain ⟨v, e2, q2⟩ := r2.get h2
  have f : ∀ {l : List Value} {u : Value}, l[j]? = some u → l.toArray.getD j .none = u := fun {l u} e => by
    obtain ⟨hj, e'⟩ := List.getElem?_eq_some_iff.mp e
    simp [Array.getD, hj, e']
  rw [f e1, f e2]
  exact ⟨q1, q2⟩
theorem pe_listZip {e e2 : Expr} {ta : TA} {p p2 cpos pos : Pos} (hc : X.calm = true) (hg : L2.Gl X "list") (hm : X.mg "list" = none) (hg2 : L2.Gl X "zip") (hm2 : X.mg "zip" = none) (ha : PA X [e, e2] ta)
    (hs2 : starEach [e, e2] X.env = (false, eval e X.env) :: starEach [e2] X.env) (hpl : (backTo cpos (starEach [e2] X.env)).any (·.1) = false) :
    PE X (.Call (.Name "list" p) [.Call (.Name "zip" p2) [e, e2] [] cpos] [] pos) (tLZ X.K ta) := by
  refine ⟨fun pins s σ H Q I hq => ?_⟩
  refine wpAny_Call_Name_kw (ld_blt I hg hm boot_list ?_)
  refine PyProof.Rows.callWith_type1 ?_ rfl rfl
  show wpAny _ _ (spliced ((false, eval (.Call (.Name "zip" p2) [e, e2] [] cpos) X.env) :: backTo pos (starEach [] X.env))) _ _ s
  refine Calls.spliced_cons ?_
  refine Call_ (ld_blt I hg2 hm2 PyProof.Rows.boot_zip (PyProof.Rows.callWith_type1 (thn (ha.run cpos pins s σ H _ I hq) fun us s1 ⟨vs, H1, I1, r1, q1⟩ => ?_) hs2 hpl))
  obtain ⟨a, b, xs, ys, ex, hsq, q⟩ := q1
  subst ex
  cases r1 with
  | cons r rr =>
    cases rr with
    | cons r' rr =>
      cases rr
      cases r
      cases r'
      -- behind the zip, whatever its items' kind
      have go : ∀ (It : Heap → Addr → Addr → Nat → Prop) (Sq : Heap → Addr → Array Value → Prop) (KK : IterZ X.prog X.w It Sq) (its its2 : List Value) (h' : Heap), Vals xs its → Vals ys its2 → xs.length ≤ sizeLine → a < s1.heap.objs.size → b < s1.heap.objs.size →
          Sq s1.heap a its.toArray → Sq s1.heap b its2.toArray → IsZip h' (s1.heap.objs.size + 4) (s1.heap.objs.size + 2) (s1.heap.objs.size + 3) .none → IsPair h' (s1.heap.objs.size + 2) (.ref s1.heap.objs.size) (.ref (s1.heap.objs.size + 1)) →
          IsPair h' (s1.heap.objs.size + 3) .none .none → It h' s1.heap.objs.size a 0 → It h' (s1.heap.objs.size + 1) b 0 → h'.objs.size = s1.heap.objs.size + 5 → (∀ c o, s1.heap.get? c = some o → h'.get? c = some o) →
          wpAny (model X.prog X.w) X.A (call (.type "list") [.ref (s1.heap.objs.size + 4)]) (EP X pins σ Q) X.xe { s1 with heap := h' } := by
        intro It Sq KK its its2 h' rv rv2 hzl hal hbl hq1 hq2 hz hTI hTO h1 h2 hsz hk
        have lt : ∀ k, k < 5 → s1.heap.objs.size + k < h'.objs.size := fun k hk => by rw [hsz]; exact Nat.add_lt_add_left hk _
        have lt0 : s1.heap.objs.size < h'.objs.size := lt 0 (by decide)
        have D := PySem.W.ktu_apart s1.heap.objs.size a b hal hbl
        refine z_call (s := { s1 with heap := h' }) (n := min its.toArray.size its2.toArray.size) (fun A hA => zsrc KK D (S := h'.objs.size) (xs := its.toArray) (ys := its2.toArray) (lt 4 (by decide)) (lt 2 (by decide)) (lt 3 (by decide)) lt0 (lt 1 (by decide)) (Nat.lt_trans hal lt0) (Nat.lt_trans hbl lt0) A hA)
          (I1.ok.hd hc) ?_ (lt 4 (by decide)) ⟨Heap.get?_push_of_some _ hTI, KK.keepI h1 fun o e => Heap.get?_push_of_some _ e, KK.keepI h2 fun o e => Heap.get?_push_of_some _ e, KK.keepS hq1 fun o e => Heap.get?_push_of_some _ (hk _ o e), KK.keepS hq2 fun o e => Heap.get?_push_of_some _ (hk _ o e), .inl ⟨Heap.get?_push_of_some _ hz, _, _, Heap.get?_push_of_some _ hTO⟩⟩ ?_
        · have l1 := rv.length
          have : its.toArray.size ≤ sizeLine := by rw [List.size_toArray, ← l1]; exact hzl
          exact Nat.le_trans (Nat.min_le_left _ _) this
        · intro h2' tk acc c as hk2 hS hl hG hacc
          have keep : ∀ b o, s1.heap.get? b = some o → h2'.get? b = some o := fun c o e => by
            have hcl : c < s1.heap.objs.size := Heap.lt_size e
            refine hk2 c o (fun hm => ?_) (hk c o e)
            simp only [List.mem_cons, List.not_mem_nil, or_false] at hm
            rcases hm with z | z | z | z
            · rw [z] at hcl; exact Nat.not_lt.mpr (Nat.le_add_right _ _) hcl
            · rw [z] at hcl; exact Nat.not_lt.mpr (Nat.le_add_right _ _) hcl
            · rw [z] at hcl; exact Nat.lt_irrefl _ hcl
            · rw [z] at hcl; exact Nat.not_lt.mpr (Nat.le_add_right _ _) hcl
          have hzip : (xs.zip ys).length = min its.toArray.size its2.toArray.size := by rw [List.length_zip, rv.length, rv2.length, List.size_toArray, List.size_toArray]
          obtain ⟨H', k1, k2, k3, k4, k5, k6, J⟩ := pairs_laid (X := X) (tk := tk) (ps := xs.zip ys) I1 (by rw [List.length_zip]; exact Nat.le_trans (Nat.min_le_left _ _) hzl) keep (Nat.le_of_lt lt0) hS (by rw [hl, hzip]) hG hacc (zip_rel rv rv2)
          exact ⟨.ref _, H', J, rfl, q H' _ as k1 k2 k3 k4 k5 (by rw [hl, hzip]) k6⟩
      rcases hsq with ⟨hqx, hqy⟩ | ⟨hqx, hqy⟩
      · obtain ⟨its, rv, p1, hz1⟩ := I1.list hqx
        obtain ⟨its2, rv2, p2, _⟩ := I1.list hqy
        exact call_zip_2 p1.isList p2.isList fun h' hz hTI hTO h1 h2 hsz hk => Calls.spliced_nil (go _ _ izL its its2 h' rv rv2 hz1 p1.lt p2.lt p1.isList p2.isList hz hTI hTO h1 h2 hsz hk)
      · obtain ⟨its, rv, p1, hz1⟩ := I1.tuple hqx
        obtain ⟨its2, rv2, p2, _⟩ := I1.tuple hqy
        obtain ⟨o1, ho1, _⟩ := id p1
        obtain ⟨o2, ho2, _⟩ := id p2
        exact RZ.call_zipT (show s1.heap.IsTuple a its.toArray from p1) (show s1.heap.IsTuple b its2.toArray from p2) fun h' hz hTI hTO h1 h2 hsz hk => Calls.spliced_nil (go _ _ izT its its2 h' rv rv2 hz1 (Heap.lt_size ho1) (Heap.lt_size ho2) p1 p2 hz hTI hTO h1 h2 hsz hk)
end
end Mi.Z

/-! Mi, part S: sorted(xs, key=f), f a def of the text, its keys any plain data (lists too). -/
namespace Mi.So
open PySem PySem.Spec PyProof.Rows L2 PySem.W PySem.Calls

theorem each_of {R : Value → PyData → Prop} {X : Cx} {pins : List (Addr × Obj)} {σ : L2.St} {H : Hp} {s : Shared} (I : Inv X pins σ H s) : ∀ {ys : List V} {us : List Value} {kz : List PyData}, Vals ys us → DpAll X.K H ys kz → EachIs (fun v k => ∃ as, Reads s.heap v k as) us kz
  | _, _, _, .nil, d => by cases d; exact .nil
  | _, _, _, .cons r rs, d => by
    cases d with
    | cons d1 d2 => exact .cons (Dp.reads I _ _ _ d1 r) (each_of (R := R) I rs d2)
theorem vals_each {xs : List V} {us : List Value} {kz : List PyData} (r : Vals xs us) (hl : xs.length = kz.length) : EachIs (fun (v : Value) (b : V × PyData) => RelV b.1 v) us (xs.zip kz) := by
  induction r generalizing kz with
  | nil => exact .nil
  | cons h t ih =>
    cases kz with
    | nil => cases hl
    | cons k kz => exact .cons h (ih (Nat.succ.inj hl))
theorem each_vals : ∀ {us : List Value} {bs : List (V × PyData)}, EachIs (fun (v : Value) (b : V × PyData) => RelV b.1 v) us bs → Vals (bs.map (·.1)) us
  | _, _, .nil => .nil
  | _, _, .cons h t => .cons h (each_vals t)
theorem map_snd_zip {α β : Type} : ∀ {xs : List α} {ys : List β}, xs.length = ys.length → (xs.zip ys).map (·.2) = ys
  | [], [], _ => rfl
  | [], _ :: _, h => by cases h
  | _ :: _, [], h => by cases h
  | _ :: xs, _ :: ys, h => by
    rw [List.zip_cons_cons, List.map_cons, map_snd_zip (Nat.succ.inj h)]
theorem vals_snoc {xs : List V} {us : List Value} {x : V} {u : Value} (h : Vals xs us) (r : RelV x u) : Vals (xs ++ [x]) (us ++ [u]) := by
  induction h with
  | nil => exact .cons r .nil
  | cons h t ih => exact .cons h ih

section
variable {X : Cx} {pins : List (Addr × Obj)} {σ : L2.St} {H : Hp} {s : Shared} {l f : Addr} {xs : List V} {Q : VK}
theorem sort_core (I : Inv X pins σ H s) {its : List Value} (rv : Vals xs its) (hz : xs.length ≤ sizeLine) {hp0 : Heap} {a : Addr} {tk0 : Nat} (ho : hp0.get? a = some (seqObj "list" its.toArray 0)) (hage : s.heap.objs.size ≤ a) (hold : ∀ b o, s.heap.get? b = some o → hp0.get? b = some o) (hu : X.A.units + 64 < cLine) (J : Nat → List V → Hp → Prop) (h0 : J 0 [] H)
    (turn : ∀ (pins : List (Addr × Obj)) (i : Nat) (x : V) (u : Value) (ys : List V) (H : Hp) (s : Shared), Inv X pins σ H s → xs[i]? = some x → RelV x u → J i ys H →
      wpAny (model X.prog X.w) X.A.in1.in1 (call (.ref f) [u]) (fun v s' => ∃ y H', Inv X pins σ H' s' ∧ RelV y v ∧ J (i + 1) (ys ++ [y]) H') (fun _ _ => False) s)
    (hend : ∀ ys H', J xs.length ys H' → ∃ kz, DpAll X.K H' ys kz ∧ kz.length = xs.length ∧ AllAlike kz ∧ Sortable kz ∧ (∀ d ∈ kz, d.depth ≤ 40) ∧ ∀ p, H' p = none → Q (.ref p) (upd H' p (.lst (byKeys false xs kz)))) {E' : Value → Shared → Prop} :
    wpAny (model X.prog X.w) X.A.in1.in1 (Builtin.«list.sort» ⟨[.ref a], [(Str.ofString "key", .ref f)]⟩) (fun fl s' => fl = .done (.ret .none) ∧ EP X pins σ Q (.ref a) s') E' { s with heap := hp0, toks := tk0 } := by
  have hlen := rv.length
  rw [ksk_t1]
  obtain ⟨e1, ho1⟩ : ∃ e1, (hp0.update a (Obj.mapSeq fun _ => (#[] : Array Value))).get? a = some (seqObj "list" #[] e1) := ⟨_, get?_update_seq ho fun _ => #[]⟩
  have hal : a < hp0.objs.size := Heap.lt_size ho
  unfold ksk_tree
  refine wpAny_bind (listItems_at ho rfl ?_)
  refine wpAny_bind (listUpdate_at ho rfl ?_ (by rw [List.size_toArray, ← hlen]; exact hz) (Nat.zero_le _))
  refine wpAny_bind (seqEpoch_at ho1 rfl ?_)
  refine wpAny_bind (wpAny_newTuple ?_ (by show its.length ≤ _; rw [← hlen]; exact hz))
  refine wpAny_bind (wpAny_newList ?_ (Nat.zero_le _))
  refine wpAny_holding ?_
  have hkS : (((hp0.update a (Obj.mapSeq fun _ => (#[] : Array Value))).push (seqObj "tuple" its.toArray 0)).objs.size) = hp0.objs.size + 1 := by rw [size_push', Heap.size_update]
  show wpAny _ _ (ksk_rest a (.ref f) false its.toArray e1 (.ref (((hp0.update a (Obj.mapSeq fun _ => (#[] : Array Value))).push (seqObj "tuple" its.toArray 0)).objs.size))) _ _ { s with toks := tk0, heap := ((hp0.update a (Obj.mapSeq fun _ => (#[] : Array Value))).push (seqObj "tuple" its.toArray 0)).push (seqObj "list" #[] 0) }
  have ga : (((hp0.update a (Obj.mapSeq fun _ => (#[] : Array Value))).push (seqObj "tuple" its.toArray 0)).push (seqObj "list" #[] 0)).get? a = some (seqObj "list" #[] e1) := Heap.get?_push_of_some _ (Heap.get?_push_of_some _ ho1)
  have gk : (((hp0.update a (Obj.mapSeq fun _ => (#[] : Array Value))).push (seqObj "tuple" its.toArray 0)).push (seqObj "list" #[] 0)).get? (((hp0.update a (Obj.mapSeq fun _ => (#[] : Array Value))).push (seqObj "tuple" its.toArray 0)).objs.size) = some (seqObj "list" #[] 0) := Heap.get?_push_size _ rfl
  have old : ∀ b o, s.heap.get? b = some o → (((hp0.update a (Obj.mapSeq fun _ => (#[] : Array Value))).push (seqObj "tuple" its.toArray 0)).push (seqObj "list" #[] 0)).get? b = some o := fun b o e =>
    Heap.get?_push_of_some _ (Heap.get?_push_of_some _ (((Heap.SameBut.update hp0 a (Obj.mapSeq fun _ => (#[] : Array Value))).2 b (Nat.ne_of_lt (Nat.lt_of_lt_of_le (Heap.lt_size e) hage))).trans (hold b o e)))
  rw [hkS] at gk ⊢
  generalize hk0 : hp0.objs.size + 1 = kS at gk ⊢
  generalize (((hp0.update a (Obj.mapSeq fun _ => (#[] : Array Value))).push (seqObj "tuple" its.toArray 0)).push (seqObj "list" #[] 0)) = hp at ga gk old ⊢
  have hka : kS ≠ a := by rw [← hk0]; exact Nat.ne_of_gt (Nat.lt_succ_of_lt hal)
  have hkge : s.heap.objs.size ≤ kS := Nat.le_trans hage (by rw [← hk0]; exact Nat.le_of_lt (Nat.lt_succ_of_lt hal))
  have I1 : Inv X pins σ H { s with heap := hp, toks := tk0 } := I.kept (t' := tk0) old
  have fp : ∀ {H' : Hp} {b : Addr}, (b = a ∨ b = kS) → H' b = none → FpOk X pins H' b := fun {H' b} hb hn => I.fpOk (by rcases hb with e | e <;> rw [e] <;> assumption) hn
  unfold ksk_rest
  refine wpAny_bind (wpAny_rule ?_)
  first
    | rw [List.forIn_toArray]
    | (rw [← Array.forIn_toList]; simp only [List.toList_toArray])
    | rw [← Array.forIn_toList]
  refine wpAny_bind (ksk_fold (fun i s' => ∃ H' ys kA e, Inv X pins σ H' s' ∧ H' a = none ∧ H' kS = none ∧ s'.heap.get? a = some (seqObj "list" #[] e1) ∧ s'.heap.get? kS = some (seqObj "list" kA e) ∧ Vals ys kA.toList ∧ ys.length = i ∧ J i ys H') its 0 _
    ⟨H, [], #[], 0, I1, I.hok.fresh hage, I.hok.fresh hkge, ga, gk, .nil, rfl, h0⟩ ?step ?done)
  case step =>
    rintro j x s' hx ⟨H', ys, kA, e, I', na, nk, ga', gk', rv', hl', hJ⟩
    simp only [Nat.zero_add] at hl' hJ ⊢
    have hj : j < its.length := (List.getElem?_eq_some_iff.mp hx).1
    obtain ⟨y0, hy0⟩ : ∃ y, xs[j]? = some y := ⟨_, List.getElem?_eq_getElem (by rw [hlen]; exact hj)⟩
    obtain ⟨u0, hu0, ru0⟩ := rv.get hy0
    rw [hx] at hu0
    cases hu0
    have hsz : kA.size = j := by rw [← Array.length_toList, ← rv'.length, hl']
    have hszL : kA.size ≤ sizeLine := by rw [hsz]; rw [hlen] at hz; exact Nat.le_trans (Nat.le_of_lt hj) hz
    have I'p := I'.pinned (fp := [a, kS]) (fun b hb => by
      rcases List.mem_cons.mp hb with rfl | hb
      · exact fp (.inl rfl) na
      · rw [List.mem_singleton.mp hb]; exact fp (.inr rfl) nk) (fun b hb => by
      rcases List.mem_cons.mp hb with rfl | hb
      · exact ⟨_, ga', fun v q => nomatch q⟩
      · rw [List.mem_singleton.mp hb]; exact ⟨_, gk', fun v q => nomatch q⟩)
    refine wpAny_bind (wpAny_attempt (wpAny_mono (turn _ j y0 x ys H' s' I'p hy0 ru0 hJ) (fun v s2 he => ?_) fun _ _ hF => hF.elim))
    obtain ⟨y, H2, I2, ry, hJ2⟩ := he
    have pa := I2.pin (a, seqObj "list" #[] e1) (List.mem_append_right _ (List.mem_append_right _ (mem_pinsAt (List.mem_cons_self) ga')))
    have pk := I2.pin (kS, seqObj "list" kA e) (List.mem_append_right _ (List.mem_append_right _ (mem_pinsAt (List.mem_cons_of_mem _ List.mem_cons_self) gk')))
    have na2 : H2 a = none := pa.2.1
    have nk2 : H2 kS = none := pk.2.1
    have ga2 : s2.heap.get? a = some (seqObj "list" #[] e1) := pa.1
    have gk2 : s2.heap.get? kS = some (seqObj "list" kA e) := pk.1
    have I3 := I2.unpinned
    try dsimp only
    have s1 := Heap.SameBut.update s2.heap kS (Obj.mapSeq (·.push v))
    obtain ⟨c2, hc2⟩ : ∃ c2, (s2.heap.update kS (Obj.mapSeq (·.push v))).get? kS = some (seqObj "list" (kA.push v) c2) := ⟨_, get?_update_seq gk2 (·.push v)⟩
    refine wpAny_bind (listUpdate_at gk2 rfl ?_ hszL (Nat.le_trans (Nat.le_of_eq (Array.size_push ..)) (Nat.succ_le_succ hszL)))
    refine wpAny_pure ⟨rfl, H2, ys ++ [y], kA.push v, c2, I3.turnedL (t' := s2.toks) (ch := [kS]) (fun b o hb e => (s1.2 b (fun z => hb (by simp [z]))).trans e) (fun b hb => by rw [List.mem_singleton.mp hb]; exact fp (.inr rfl) nk2), na2, nk2, (s1.2 a hka.symm).trans ga2, hc2, ?_, by rw [List.length_append, hl']; rfl, hJ2⟩
    have e3 : (kA.push v).toList = kA.toList ++ [v] := by simp
    rw [e3]
    exact vals_snoc rv' ry
  case done =>
    rintro s' ⟨H', ys, kA, e, I', na, nk, ga', gk', rv', hl', hJ⟩
    rw [Nat.zero_add, ← hlen] at hJ hl'
    obtain ⟨kz, hdp, hkl, hal2, hsk, hdep, hQ⟩ := hend ys H' hJ
    have hk' := each_of (R := fun _ _ => True) I' rv' hdp
    have hsz : kA.size = its.length := by rw [← Array.length_toList, ← rv'.length, hl', hlen]
    obtain ⟨G, hG1, hG2⟩ := L2.restrict s'.heap (fun b => b != kS)
    have up : ∀ b o, b ≠ kS → s'.heap.get? b = some o → G.get? b = some o := fun b o hb e => by rw [hG1 b (by simpa using hb)]; exact e
    refine wpAny_bind (listItems_at gk' rfl ?_)
    refine keyH_end (κ := dataKind s'.heap kz) (h₁ := G) (fun b o hb e => ?_) (hG2 kS (by simp)) gk' ga' hka (SortsAt.data (s := s') hk' hal2 hsk fun d hd => ?_) hsz (by rw [← hlen]; exact hz) fun h' tk c kp2 ha2 => ?_
    · by_cases hbk : b = kS
      · rw [hbk, hG2 kS (by simp)] at e; cases e
      · rw [← hG1 b (by simpa using hbk)]; exact e
    · have := hdep d hd
      show X.A.units + 1 + 1 + d.depth < cLine
      omega
    · have KO : KeyedOut false kz its (sortVals (dataKind s'.heap kz) false kA.toList its) := ⟨s'.heap, kA.toList, hal2, rfl, hk'⟩
      have hR := vals_each (kz := kz) rv hkl.symm
      have EO := keyedOut_each (bs := xs.zip kz) (fun b : V × PyData => b.2) (by rw [map_snd_zip hkl.symm]; exact KO) hR
      have VO := each_vals EO
      have ho2 : (byKeys false xs kz).length ≤ sizeLine := by
        unfold byKeys
        rw [List.length_map, List.length_mergeSort, List.length_zip]
        exact Nat.le_trans (Nat.min_le_left _ _) hz
      have I2 : Inv X pins σ H' { s' with heap := h', toks := tk } := I'.turnedL (t' := tk) (ch := [a, kS]) (fun b o hb e => kp2 b o (fun z => hb (by simp [z])) (up b o (fun z => hb (by simp [z])) e)) (fun b hb => by
        rcases List.mem_cons.mp hb with rfl | hb
        · exact fp (.inl rfl) na
        · rw [List.mem_singleton.mp hb]; exact fp (.inr rfl) nk)
      have I3 : Inv X pins σ (upd H' a (.lst (byKeys false xs kz))) { s' with heap := h', toks := tk } := L2.Inv.take (s := { s' with heap := h', toks := tk }) (h' := h') (t' := tk) I2 (fun b o _ e => e) (fp (.inl rfl) na) ⟨ho2, _, c, VO, ha2⟩
      exact ⟨rfl, .ref a, _, I3, rfl, hQ a na⟩
theorem sorted_def (I : Inv X pins σ H s) (hs : SqL X.K H l xs) (hu : X.A.units + 64 < cLine) (J : Nat → List V → Hp → Prop) (h0 : J 0 [] H)
    (turn : ∀ (pins : List (Addr × Obj)) (i : Nat) (x : V) (u : Value) (ys : List V) (H : Hp) (s : Shared), Inv X pins σ H s → xs[i]? = some x → RelV x u → J i ys H →
      wpAny (model X.prog X.w) X.A.in1.in1 (call (.ref f) [u]) (fun v s' => ∃ y H', Inv X pins σ H' s' ∧ RelV y v ∧ J (i + 1) (ys ++ [y]) H') (fun _ _ => False) s)
    (hend : ∀ ys H', J xs.length ys H' → ∃ kz, DpAll X.K H' ys kz ∧ kz.length = xs.length ∧ AllAlike kz ∧ Sortable kz ∧ (∀ d ∈ kz, d.depth ≤ 40) ∧ ∀ p, H' p = none → Q (.ref p) (upd H' p (.lst (byKeys false xs kz)))) :
    wpAny (model X.prog X.w) X.A (call (.builtin "sorted") [.ref l] [(Str.ofString "key", .ref f)]) (EP X pins σ Q) X.xe s := by
  obtain ⟨its, rv, pl, hz⟩ := I.list hs
  have hlen := rv.length
  exact sorted_of_sort pl.isList (by rw [← hlen]; exact hz) (ksk_s1 _ _) (fun _ => ksk_l1 _ _) fun E' => sort_core (tk0 := s.toks) I rv hz (copyHeap_at s.heap its) (Nat.le_succ _) (fun b o e => copyHeap_old e) hu J h0 turn hend
theorem sorted_defD (I : Inv X pins σ H s) (hcalm : X.calm = true) {kvs : List (Key × V)} (hd : Rd H l (.dK kvs)) (hxs : xs = kvs.map fun kv => kV kv.1) (hu : X.A.units + 64 < cLine) (J : Nat → List V → Hp → Prop) (h0 : J 0 [] H)
    (turn : ∀ (pins : List (Addr × Obj)) (i : Nat) (x : V) (u : Value) (ys : List V) (H : Hp) (s : Shared), Inv X pins σ H s → xs[i]? = some x → RelV x u → J i ys H →
      wpAny (model X.prog X.w) X.A.in1.in1 (call (.ref f) [u]) (fun v s' => ∃ y H', Inv X pins σ H' s' ∧ RelV y v ∧ J (i + 1) (ys ++ [y]) H') (fun _ _ => False) s)
    (hend : ∀ ys H', J xs.length ys H' → ∃ kz, DpAll X.K H' ys kz ∧ kz.length = xs.length ∧ AllAlike kz ∧ Sortable kz ∧ (∀ d ∈ kz, d.depth ≤ 40) ∧ ∀ p, H' p = none → Q (.ref p) (upd H' p (.lst (byKeys false xs kz)))) :
    wpAny (model X.prog X.w) X.A (call (.builtin "sorted") [.ref l] [(Str.ofString "key", .ref f)]) (EP X pins σ Q) X.xe s := by
  obtain ⟨z, lo, vs, rel, dd⟩ := dk_rd I.hok hd
  obtain ⟨ep, hat⟩ := dd.dictAt
  have ek : (kvs.map fun kv => kV kv.1) = vs.map fun p => kV p.1 := by
    have e := congrArg (List.map kV) rel.keys
    rw [List.map_map, List.map_map] at e
    exact e
  have hvz : vs.length ≤ sizeLine := by rw [← rel.length]; exact z
  have hxz : xs.length ≤ sizeLine := by rw [hxs, List.length_map]; exact z
  refine call_function_entry_kw kind_sorted plain_sorted entry_sorted (ksk_s1 _ _) ?_
  unfold Builtin.«sorted»
  refine wpAny_bind (m := checkCount "sorted" 1 1 _) (wpAny_pure ?_)
  refine wpAny_bind (PySem.W.kdu_collect (A := X.A.in1) (PySem.W.kdl_dict (knd := mixKind X.prog X.w) (kvs := vs) (ep := ep) lo) (I.ok.hd hcalm) hat hvz fun h' tk acc hk hacc => ?_)
  have hv : Vals (vs.map fun p => kV p.1) acc.toList := keys_at (by rw [Array.length_toList]; exact hacc.1) fun j v e => hacc.2 j v (by rw [← Array.getElem?_toList]; exact e)
  have hv : Vals xs acc.toList := by rw [hxs, ek]; exact hv
  have hal : acc.toList.length ≤ sizeLine := by rw [← hv.length]; exact hxz
  refine wpAny_bind (wpAny_newList ?_ hal)
  have hoL : (h'.push (seqObj "list" acc.toList.toArray 0)).get? h'.objs.size = some (seqObj "list" acc.toList.toArray 0) := Heap.get?_push_size _ rfl
  show wpAny _ _ _ _ _ { s with heap := h'.push (seqObj "list" acc.toList.toArray 0), toks := tk }
  have I1 : Inv X pins σ H { s with heap := h', toks := tk } := I.kept hk
  refine wpAny_bind (wpAny_holding (wpAny_call_entry_kw PyProof.Rows.slot_list_sort ⟨_, hoL, rfl⟩ PyProof.Rows.entry_list_sort ?body (ksk_l1 _ _)))
  case body =>
    refine wpAny_mono (sort_core (s := { s with heap := h', toks := tk }) (tk0 := tk) I1 hv hxz hoL (Nat.le_refl _) (fun b o e => Heap.get?_push_of_some _ e) hu J h0 turn hend) (fun fl s' hf => ?_) fun _ _ e => e
    obtain ⟨rfl, hq⟩ := hf
    exact ⟨_, rfl, wpAny_pure ⟨_, rfl, hq⟩⟩
end
end Mi.So

/-! Mi, part N: dict(a list of pairs), dict displays. -/
namespace Mi
open PySem L2 PyProof.Rows RT RZ

def mergeT (kvs more : List (List Key × V)) : List (List Key × V) := more.foldl (fun acc kv => putK acc kv.1 kv.2) kvs
theorem length_mergeT : ∀ (more kvs : List (List Key × V)), (mergeT kvs more).length ≤ kvs.length + more.length
  | [], kvs => by show kvs.length ≤ kvs.length + 0; omega
  | p :: r, kvs => by
    have h1 := length_mergeT r (putK kvs p.1 p.2)
    have h2 := length_putK kvs p.1 p.2
    show (mergeT (putK kvs p.1 p.2) r).length ≤ _
    rw [List.length_cons]; omega
theorem kt_merge {H : Hp} : ∀ {more : List (List Key × V)} {rs : List (List Key × Addr × Value)} {kvs : List (List Key × V)} {xs : List (List Key × Addr × Value)}, L2.KT H more rs → L2.KT H kvs xs → L2.KT H (mergeT kvs more) (PySem.storedAllH xs rs) := by
  intro more rs kvs xs r
  unfold L2.KT at r
  induction r generalizing kvs xs with
  | nil => intro q; exact q
  | @cons p q ps qs h t ih =>
    intro r0
    obtain ⟨h1, h2, h3⟩ := h
    have e : L2.KT H (putK kvs p.1 p.2) (storedH xs q.1 q.2.1 q.2.2) := by
      have := r0.put p.1 h2 h3
      rw [← h1]; exact this
    exact ih e
section
variable {X : Cx}
theorem pairsT_of {pins : List (Addr × Obj)} {σ : L2.St} {H : Hp} {s : Shared} (I : Inv X pins σ H s) : ∀ {ps : List Addr} {kvs : List (List Key × V)}, Paired (fun (p : Addr) (kv : List Key × V) => ∃ b, SqT X.K H p [V.ref b, kv.2] ∧ H b = some (.tup (kv.1.map kV))) ps kvs →
    ∃ rs : List (List Key × Addr × Value), L2.KT H kvs rs ∧ rs.length = ps.length ∧ ∀ (j : Nat) (q : List Key × Addr × Value), rs[j]? = some q → ∃ (b : Addr), ps[j]? = some b ∧ IsTup s.heap b #[Value.ref q.2.1, q.2.2] ∧ H q.2.1 = some (.tup (q.1.map kV))
  | _, _, .nil => ⟨[], .nil, rfl, fun j q e => by simp at e⟩
  | _, _, .cons (a := p) (b := kv) h t => by
    obtain ⟨rs, r, hl, hp⟩ := pairsT_of I t
    obtain ⟨b, h, hb⟩ := h
    obtain ⟨its, rv, ht, _⟩ := I.tuple h
    obtain ⟨u, y, ei, ru, ry⟩ := vals2 rv
    subst ei
    have eu : u = Value.ref b := ru
    subst eu
    refine ⟨(kv.1, b, y) :: rs, .cons ⟨rfl, hb, ry⟩ r, by rw [List.length_cons, List.length_cons, hl], fun j q e => ?_⟩
    cases j with
    | zero =>
      have e' : (kv.1, b, y) = q := Option.some.inj e
      subst e'
      exact ⟨p, rfl, ht, hb⟩
    | succ j =>
      obtain ⟨b', e1, e2, e3⟩ := hp j q (by simpa using e)
      exact ⟨b', by simpa using e1, e2, e3⟩
/-- dict(xs) of a list of pairs (tuple key, value) -/
theorem call_dictT (hcalm : X.calm = true) (hu : X.A.units + 64 < cLine) : CallR X (.type "dict") (fun xs H Q => ∃ (a : Addr) (ps : List Addr) (kvs : List (List Key × V)), xs = [.ref a] ∧ SqL X.K H a (ps.map V.ref) ∧
    Paired (fun (p : Addr) (kv : List Key × V) => ∃ b, SqT X.K H p [V.ref b, kv.2] ∧ H b = some (.tup (kv.1.map kV))) ps kvs ∧ ∀ p, H p = none → Q (.ref p) (upd H p (.dT (mergeT [] kvs)))) := by
  intro pins s σ H xs us Q I r q
  obtain ⟨a, ps, kvs, ex, hq, hp, q⟩ := q
  subst ex
  obtain ⟨u, eu, rx⟩ := vals1 r
  subst eu
  cases rx
  obtain ⟨its, rv, pl, hz⟩ := I.list hq
  have ei := refs_at rv
  subst ei
  rw [List.length_map] at hz
  obtain ⟨rs, rel, hl, hpr⟩ := pairsT_of I hp
  obtain ⟨o, n, ho, hc, hd, hdat⟩ := pl
  have hPI : PySem.PairItems s.heap (ps.map Value.ref).toArray (fun j => ps.getD j 0) (rs.map fun q => (Value.ref q.2.1, q.2.2)) := by
    refine ⟨by simp [hl], fun j k v hj => ?_⟩
    rw [List.getElem?_map] at hj
    obtain ⟨q, hq, e⟩ := Option.map_eq_some_iff.mp hj
    cases e
    obtain ⟨b, e1, e2, e3⟩ := hpr j q hq
    have eb : ps.getD j 0 = b := by rw [List.getD_eq_getElem?_getD, e1]; rfl
    dsimp only
    rw [eb]
    exact ⟨by simp [e1], .inl e2⟩
  have key : ∀ (h' : Heap) (x : List Key × Addr × Value), x ∈ rs → (∀ b o, s.heap.get? b = some o → h'.get? b = some o) → (tupleKind (mixKind X.prog X.w)).is h' x.1 x.2.1 := fun h' x hx hk => by
    obtain ⟨j, hj⟩ := List.mem_iff_getElem?.mp hx
    obtain ⟨b, _, _, e3⟩ := hpr j x hj
    obtain ⟨o, its, n, h1, h2, h3, h4⟩ := key_of I.hok e3
    exact ⟨o, its, n, hk _ _ h1, h2, h3, h4⟩
  refine PySem.call_dict_pairsH (knd := tupleKind (mixKind X.prog X.w)) (ps := rs) (PySem.PairArg.list a _ _ _) (I.ok.hd hcalm) (by show X.A.units + 1 + 1 < cLine; omega) ⟨⟨o, n, ho, hc, hd, hdat⟩, hPI⟩ ⟨by simp, fun i k v hr => ?_⟩ (fun h' hk x hx => ?_) (by rw [List.length_map, hl]; exact hz) fun h' tk hd' k => ?_
  · have hr : (rs.map fun q => (Value.ref q.2.1, q.2.2))[i]? = some (k, v) := hr
    rw [List.getElem?_map] at hr
    obtain ⟨q, hq, e⟩ := Option.map_eq_some_iff.mp hr
    cases e
    exact ⟨q.1, q.2.1, hq, rfl⟩
  · exact key h' x hx fun b o e => hk b o (Nat.ne_of_lt (Heap.lt_size e)) (by simp) e
  · have hm : (s.heap.objs.size == sysModules) = false := beq_eq_false_iff_ne.mpr (Nat.ne_of_gt I.big)
    have hlen : (mergeT [] kvs).length ≤ sizeLine := by
      refine Nat.le_trans (length_mergeT kvs []) ?_
      have l2 : kvs.length = rs.length := Paired.length rel
      rw [List.length_nil, Nat.zero_add, l2, hl]
      exact hz
    have hn := I.hok.fresh (Nat.le_refl s.heap.objs.size)
    have rel2 : L2.KT (upd H s.heap.objs.size (.dT (mergeT [] kvs))) (mergeT [] kvs) (PySem.storedAllH [] rs) := (kt_merge rel .nil).keeps fun b ys e => by
      rw [upd_ne (fun z => by rw [z, hn] at e; cases e)]
      exact e
    obtain ⟨o', es, ep, d1, d2, d3, d4, d5, d6⟩ := hd'
    exact ⟨.ref s.heap.objs.size, upd H s.heap.objs.size (.dT (mergeT [] kvs)), I.laid (t' := tk) (fun b o e => k b o (by simp) e) (Nat.le_refl _) (show ObjOk X.prog X.w _ _ _ (.dT (mergeT [] kvs)) from ⟨hlen, hm, PySem.storedAllH [] rs, rel2, o', es, ep, d1, d2, d3, d4, d6⟩), rfl, q _ hn⟩
end

/-! ### dict(xs) for the small language -/
section
variable {G : Gb} {X : Cx}
theorem RpKV.put {κ : Type} [DecidableEq κ] {φ : List Addr} {H : Hp} {k : κ} {d : Mi.D} {v : V} (r : Rp G φ H d v) : ∀ {kvs : List (κ × Mi.D)} {vs : List (κ × V)}, RpKV G φ H kvs vs → RpKV G φ H (putD kvs k d) (putK vs k v) := by
  have any : ∀ {kvs : List (κ × Mi.D)} {vs : List (κ × V)}, RpKV G φ H kvs vs → (kvs.any fun kv => decide (kv.1 = k)) = vs.any fun kv => decide (kv.1 = k) := by
    intro kvs
    induction kvs with
    | nil => intro vs h; have h : vs = [] := h; subst h; rfl
    | cons p rr ih =>
      intro vs h
      obtain ⟨w, t, rfl, h1, h2⟩ := h
      rw [List.any_cons, List.any_cons, ih h2]
  intro kvs vs h
  unfold putD putK
  rw [any h]
  by_cases c : (vs.any fun kv => decide (kv.1 = k)) = true
  · rw [if_pos c, if_pos c]
    clear c
    induction kvs generalizing vs with
    | nil => have h : vs = [] := h; subst h; rfl
    | cons p rr ih =>
      obtain ⟨w, t, rfl, h1, h2⟩ := h
      show RpKV G φ H ((if p.1 = k then (p.1, d) else p) :: _) ((if p.1 = k then (p.1, v) else (p.1, w)) :: _)
      by_cases e : p.1 = k
      · rw [if_pos e, if_pos e]
        exact ⟨v, _, rfl, r, ih h2⟩
      · rw [if_neg e, if_neg e]
        exact ⟨w, _, rfl, h1, ih h2⟩
  · rw [if_neg c, if_neg c]
    clear c
    induction kvs generalizing vs with
    | nil => have h : vs = [] := h; subst h; exact ⟨v, [], rfl, r, rfl⟩
    | cons p rr ih =>
      obtain ⟨w, t, rfl, h1, h2⟩ := h
      exact ⟨w, t ++ [(k, v)], rfl, h1, ih h2⟩
theorem RpKV.length {κ : Type} {φ : List Addr} {H : Hp} : ∀ {kvs : List (κ × Mi.D)} {vs : List (κ × V)}, RpKV G φ H kvs vs → kvs.length = vs.length
  | [], _, h => by have h : _ = [] := h; subst h; rfl
  | p :: r, _, h => by
    obtain ⟨w, t, rfl, h1, h2⟩ := h
    rw [List.length_cons, List.length_cons, h2.length]

theorem putD_all {κ : Type} [DecidableEq κ] {φ : List Addr} {H : Hp} : ∀ {more kvs : List (κ × Mi.D)} {vm vs : List (κ × V)}, RpKV G φ H more vm → RpKV G φ H kvs vs → RpKV G φ H (more.foldl (fun acc kv => putD acc kv.1 kv.2) kvs) (vm.foldl (fun acc kv => putK acc kv.1 kv.2) vs)
  | [], _, _, _, h, h2 => by have h : _ = [] := h; subst h; exact h2
  | p :: r, _, _, _, h, h2 => by
    obtain ⟨w, t, rfl, h3, h4⟩ := h
    exact putD_all (more := r) (vm := t) h4 (h2.put h3)
theorem pairK_rp (hK : X.K = G.K) {φ : List Addr} {H : Hp} : ∀ {ds : List Mi.D} {kvs : List (Key × Mi.D)} {vs : List V}, mapO pairK ds = some kvs → Rps G φ H ds vs → ∃ (ps : List Addr) (vk : List (Key × V)), vs = ps.map V.ref ∧ Paired (fun (p : Addr) (kv : Key × V) => SqT X.K H p [kV kv.1, kv.2]) ps vk ∧ RpKV G φ H kvs vk
  | [], _, _, h, r => by
    rw [mapO_nil h]
    unfold Rps at r
    exact ⟨[], [], r, .nil, rfl⟩
  | d :: ds, _, _, h, r => by
    obtain ⟨b, bs, h1, h2, rfl⟩ := mapO_cons h
    unfold Rps at r
    obtain ⟨v, t, rfl, r1, r2⟩ := r
    obtain ⟨ps, vk, rfl, q1, q2⟩ := pairK_rp hK h2 r2
    unfold pairK at h1
    split at h1
    · rename_i kd vd
      obtain ⟨k, hk, rfl⟩ := Option.map_eq_some_iff.mp h1
      unfold Rp at r1
      obtain ⟨a, us, rfl, ha, hr⟩ := r1
      unfold Rps at hr
      obtain ⟨x, r', rfl, hx, hr⟩ := hr
      unfold Rps at hr
      obtain ⟨y, r'', rfl, hy, hr⟩ := hr
      unfold Rps at hr
      subst hr
      have e := key_v hk hx
      subst e
      exact ⟨a :: ps, (k, y) :: vk, rfl, .cons (by rw [hK]; exact ha.sq) q1, y, vk, rfl, hy, q2⟩
    · cases h1
theorem pairT_rp (hK : X.K = G.K) {φ : List Addr} {H : Hp} : ∀ {ds : List Mi.D} {kvs : List (List Key × Mi.D)} {vs : List V}, mapO pairT ds = some kvs → Rps G φ H ds vs →
    ∃ (ps : List Addr) (vk : List (List Key × V)), vs = ps.map V.ref ∧ Paired (fun (p : Addr) (kv : List Key × V) => ∃ b, SqT X.K H p [V.ref b, kv.2] ∧ H b = some (.tup (kv.1.map kV))) ps vk ∧ RpKV G φ H kvs vk
  | [], _, _, h, r => by
    rw [mapO_nil h]
    unfold Rps at r
    exact ⟨[], [], r, .nil, rfl⟩
  | d :: ds, _, _, h, r => by
    obtain ⟨b, bs, h1, h2, rfl⟩ := mapO_cons h
    unfold Rps at r
    obtain ⟨v, t, rfl, r1, r2⟩ := r
    obtain ⟨ps, vk, rfl, q1, q2⟩ := pairT_rp hK h2 r2
    unfold pairT at h1
    split at h1
    · rename_i kd vd
      obtain ⟨k, hk, rfl⟩ := Option.map_eq_some_iff.mp h1
      unfold Rp at r1
      obtain ⟨a, us, rfl, ha, hr⟩ := r1
      unfold Rps at hr
      obtain ⟨x, r', rfl, hx, hr⟩ := hr
      unfold Rps at hr
      obtain ⟨y, r'', rfl, hy, hr⟩ := hr
      unfold Rps at hr
      subst hr
      obtain ⟨b, rfl, hb⟩ := keyT_v hk hx
      exact ⟨a :: ps, (k, y) :: vk, rfl, .cons ⟨b, by rw [hK]; exact ha.sq, hb⟩ q1, y, vk, rfl, hy, q2⟩
    · cases h1
theorem dictOf_cases {ds : List Mi.D} {o : O} (h : dictOf ds = some o) : (∃ kvs, mapO pairK ds = some kvs ∧ o = .dk (kvs.foldl (fun acc kv => putD acc kv.1 kv.2) [])) ∨ ∃ kvs, mapO pairT ds = some kvs ∧ o = .dt (kvs.foldl (fun acc kv => putD acc kv.1 kv.2) []) := by
  unfold dictOf at h
  split at h
  · cases h; exact .inl ⟨[], rfl, rfl⟩
  · rename_i k v r
    cases hk : k.key with
    | some k' =>
      simp only [hk] at h
      obtain ⟨rs, hr, rfl⟩ := Option.map_eq_some_iff.mp h
      refine .inl ⟨(k', v) :: rs, ?_, rfl⟩
      have e : pairK (.tup [k, v]) = some (k', v) := by unfold pairK; simp only [hk]; rfl
      unfold mapO
      simp only [e, hr]
    | none =>
      simp only [hk] at h
      cases hkt : k.keyT with
      | some k' =>
        simp only [hkt] at h
        obtain ⟨rs, hr, rfl⟩ := Option.map_eq_some_iff.mp h
        refine .inr ⟨(k', v) :: rs, ?_, rfl⟩
        have e : pairT (.tup [k, v]) = some (k', v) := by unfold pairT; simp only [hkt]; rfl
        unfold mapO
        simp only [e, hr]
      | none => simp only [hkt] at h; cases h
  · cases h
/-- a new object gets the next place -/
theorem place_new {φ : List Addr} {H : Hp} {S : Store} {p : Addr} {u : HO} {o : O} {xk : XK} {Q : VK} (R : Rel G φ H S) (hp : H p = none) (ho : RpO G φ (upd H p u) o p) (h : Post G (RlW G) φ H (.ok (.val (.ref S.length)) (S ++ [o])) xk Q) : Q (.ref p) (upd H p u) := by
  have E := Ext.fresh R hp u
  have R1 := R.fresh hp u
  have n : p ∉ φ := R.unk hp
  refine Post.ok (L := RlW G) (φ' := φ ++ [p]) h ⟨List.prefix_append _ _, E.keep, fun x hx => ?_⟩ (R1.more n ho) (rl_val ?_)
  · rcases List.mem_append.mp hx with q | q
    · exact .inl q
    · simp at q; subst q; exact .inr hp
  · unfold Rp
    exact ⟨p, rfl, by rw [← R.len]; simp⟩
theorem c_dict (hK : X.K = G.K) (hc : X.calm = true) (hu : X.A.units + 64 < cLine) : CallR X (.type "dict") (rC1 G .dict_) := by
  intro pins s σ H xs us Q I r h
  obtain ⟨v, rfl, φ, w1, S, xk, R, r1, h⟩ := h
  unfold p1 at h
  dsimp only at h
  split at h
  · rename_i ds hq
    split at h
    · rename_i o ho
      obtain ⟨a, vs, rfl, hs, hr⟩ := seq_rp R r1 hq
      have hs : SqL X.K H a vs := by rw [hK]; exact ifF hs
      have kp : ∀ {p : Addr} {u : HO}, H p = none → Keep φ H φ (upd H p u) := fun {p u} hp => (Ext.fresh R hp u).toKeep R
      rcases dictOf_cases ho with ⟨kvs, h1, rfl⟩ | ⟨kvs, h1, rfl⟩
      · obtain ⟨ps, vk, rfl, q1, q2⟩ := pairK_rp (X := X) hK h1 hr
        refine call_dictP hc pins s σ H _ us Q I r ⟨a, ps, vk, rfl, hs, q1, fun p hp => ?_⟩
        exact place_new R hp (show RpO G φ _ (.dk _) p from ⟨_, upd_same, RpKV.mono (kp hp) _ _ (putD_all (kvs := []) (vs := []) q2 rfl)⟩) h
      · obtain ⟨ps, vk, rfl, q1, q2⟩ := pairT_rp (X := X) hK h1 hr
        refine call_dictT hc hu pins s σ H _ us Q I r ⟨a, ps, vk, rfl, hs, q1, fun p hp => ?_⟩
        exact place_new R hp (show RpO G φ _ (.dt _) p from ⟨_, upd_same, RpKV.mono (kp hp) _ _ (putD_all (kvs := []) (vs := []) q2 rfl)⟩) h
    · exact h.elim
  · exact h.elim

/-! ### list(zip(a, b)) -/
theorem zip_rps {φ : List Addr} {H : Hp} : ∀ {ds es : List Mi.D} {xs ys : List V} {ts : List Addr}, Rps G φ H ds xs → Rps G φ H es ys → ts.length = (xs.zip ys).length →
    (∀ (j : Nat) (t : Addr) (q : V × V), ts[j]? = some t → (xs.zip ys)[j]? = some q → H t = some (.tup [q.1, q.2])) → Rps G φ H ((ds.zip es).map fun p => Mi.D.tup [p.1, p.2]) (ts.map V.ref)
  | [], _, _, _, ts, r, _, hl, _ => by
    unfold Rps at r
    subst r
    have e : ts = [] := List.length_eq_zero_iff.mp (by simpa using hl)
    subst e
    show Rps G φ H [] []
    unfold Rps; rfl
  | d :: ds, [], _, _, ts, _, r, hl, _ => by
    unfold Rps at r
    subst r
    have e : ts = [] := List.length_eq_zero_iff.mp (by simpa using hl)
    subst e
    show Rps G φ H [] []
    unfold Rps; rfl
  | d :: ds, e :: es, _, _, ts, r, r2, hl, hk => by
    unfold Rps at r r2
    obtain ⟨x, xs, rfl, h1, h2⟩ := r
    obtain ⟨y, ys, rfl, h3, h4⟩ := r2
    cases ts with
    | nil => simp at hl
    | cons t ts =>
      have ht := hk 0 t (x, y) rfl rfl
      have ih := zip_rps h2 h4 (ts := ts) (by simpa using hl) fun j t q e1 e2 => hk (j + 1) t q (by simpa using e1) (by simpa using e2)
      rw [List.zip_cons_cons, List.map_cons, List.map_cons]
      unfold Rps
      refine ⟨.ref t, _, rfl, ?_, ih⟩
      unfold Rp
      refine ⟨t, [x, y], rfl, ht, ?_⟩
      unfold Rps
      refine ⟨x, [y], rfl, h1, ?_⟩
      unfold Rps
      refine ⟨y, [], rfl, h3, ?_⟩
      unfold Rps
      rfl
theorem k_lzip {Wx : WX} {e e2 : Expr} {A B : AX W} {p p2 cpos pos : Pos} (hK : X.K = G.K) (hc : X.calm = true) (hg : L2.Gl X "list") (hm : X.mg "list" = none) (hg2 : L2.Gl X "zip") (hm2 : X.mg "zip" = none) (ha : PE X e (tK G Wx A)) (hb : PE X e2 (tK G Wx B))
    (hs : starEach [e, e2] X.env = (false, eval e X.env) :: starEach [e2] X.env) (hs2 : starEach [e2] X.env = (false, eval e2 X.env) :: starEach [] X.env) (hpl : (backTo cpos (starEach [e2] X.env)).any (·.1) = false) :
    PE X (.Call (.Name "list" p) [.Call (.Name "zip" p2) [e, e2] [] cpos] [] pos) (tK G Wx fun ρ S => (A ρ S).bd fun x S => (B ρ S).bd fun y S => Mi.p2 .lzip x y S) := by
  refine (Z.pe_listZip hc hg hm hg2 hm2 (pa_cons ha (pa_cons hb pa_nil hs2) hs) hs hpl).im fun σ H Q q => ?_
  refine tI.bd (F := fun x ρ S => (B ρ S).bd fun y S => Mi.p2 .lzip x y S) q fun φ ρ S v φ1 H1 x S1 R sl e1 R1 l h => ?_
  refine tI.next R sl e1 R1 h fun u H2 φ2 y S2 e2 R2 l2 h2 => ?_
  have h2 : Post G (RlW G) φ H (lzipW x y S2) (fun c d H' => Wx c d σ H') Q := h2
  unfold lzipW at h2
  cases hx : x.seq S2 with
  | none => simp only [hx] at h2; exact h2.elim
  | some bx =>
    cases hy : y.seq S2 with
    | none => simp only [hx, hy] at h2; exact h2.elim
    | some bz =>
      simp only [hx, hy] at h2
      by_cases hbb : bx.1 = bz.1
      · rw [if_pos hbb] at h2
        obtain ⟨bx, ds⟩ := bx
        obtain ⟨bz, es⟩ := bz
        obtain ⟨a, xs, rfl, hsa, hra⟩ := seq_rp R2 (RpW.mono e2 R1 l.1) hx
        obtain ⟨b, ys, rfl, hsb, hrb⟩ := seq_rp R2 l2.1 hy
        have e12 := e1.trans e2
        refine ⟨a, b, xs, ys, rfl, ?_, fun H' p ts k1 k2 k3 k4 k5 k6 k7 => ?_⟩
        · have hbb : bx = bz := hbb
          subst hbb
          cases bx with
          | true => exact .inr ⟨by rw [hK]; exact ifT hsa, by rw [hK]; exact ifT hsb⟩
          | false => exact .inl ⟨by rw [hK]; exact ifF hsa, by rw [hK]; exact ifF hsb⟩
        · have E3 : Ext φ2 H2 φ2 H' := ⟨List.prefix_refl _, fun a o h _ => k1 a o h, fun _ h => .inl h⟩
          have kp : Keep φ2 H2 φ2 H' := E3.toKeep R2
          have R3 : Rel G φ2 H' S2 := ⟨R2.len, R2.nd, fun n a o h1 h2 => by
            obtain ⟨u, hu, _⟩ := R2.at (List.mem_of_getElem? h1)
            exact RpO.mono kp (R2.obj n a o h1 h2) (by rw [hu, k1 a u hu])⟩
          refine Post.ok (L := RlW G) (a := W.lis _) h2 (e12.trans E3) R3 ⟨⟨p, _, rfl, k5, R2.unk k2, zip_rps (Rps.mono kp _ _ hra) (Rps.mono kp _ _ hrb) k6 k7⟩, fun ds' a' e1' e2' => ?_⟩
          cases e2'
          exact e12.fr R2 _ k2
      · rw [if_neg hbb] at h2; exact h2.elim

/-! ### {k: v, ..} -/
def flatV : List (V × V) → List V
  | [] => []
  | p :: r => p.1 :: p.2 :: flatV r
theorem unpair_rp {φ : List Addr} {H : Hp} : ∀ {ds : List Mi.D} {kvs : List (Key × Mi.D)} {ps : List (V × V)}, unpair ds = some kvs → Rps G φ H ds (flatV ps) → ∃ vk : List (Key × V), ps = vk.map (fun kv => (kV kv.1, kv.2)) ∧ RpKV G φ H kvs vk
  | [], kvs, ps, h, r => by
    cases h
    unfold Rps at r
    cases ps with
    | nil => exact ⟨[], rfl, rfl⟩
    | cons p ps => cases r
  | [d], kvs, ps, h, r => by cases h
  | k :: v :: ds, kvs, ps, h, r => by
    unfold unpair at h
    cases hk : k.key with
    | none => simp only [hk] at h; cases h
    | some k' =>
      simp only [hk] at h
      obtain ⟨rest, hr, rfl⟩ := Option.map_eq_some_iff.mp h
      unfold Rps at r
      obtain ⟨x, t, e, r1, r⟩ := r
      unfold Rps at r
      obtain ⟨y, t', rfl, r2, r⟩ := r
      cases ps with
      | nil => cases e
      | cons p ps =>
        cases e
        have e1 := key_v hk r1
        obtain ⟨vk, rfl, q⟩ := unpair_rp hr r
        refine ⟨(k', p.2) :: vk, ?_, p.2, vk, rfl, r2, q⟩
        rw [List.map_cons, ← e1]
theorem unk_upd {φ : List Addr} {H : Hp} {S : Store} {p : Addr} {kvs : List (Key × V)} {u : HO} (R : Rel G φ H S) (hp : H p = some (.dK kvs)) (n : p ∉ φ) : Keep φ H φ (upd H p u) ∧ Rel G φ (upd H p u) S := by
  have kp : Keep φ H φ (upd H p u) := by
    refine ⟨fun _ _ h => h, fun a xs h => ?_, fun a o x h => ?_⟩
    · rw [upd_ne]
      · exact h
      · rintro rfl; rw [hp] at h; cases h
    · rw [upd_ne]
      · exact h
      · rintro rfl; rw [hp] at h; cases h
  exact ⟨kp, R.len, R.nd, fun m a o h1 h2 => RpO.mono kp (R.obj m a o h1 h2) (upd_ne fun e => n (e ▸ List.mem_of_getElem? h1))⟩
theorem k_dsp {Wx : WX} {keys : List (Option Expr)} {values : List Expr} {trs : List (TE × TE)} {pos : Pos} {As : AX (List Mi.D)} (h : PPs X pos keys values trs) (hall : keys.all (·.isSome) = true) (hl : keys.length = values.length) (h0 : keys ≠ []) (h15 : keys.length ≤ 15)
    (hi : ∀ σ H Q, tDs G Wx As σ H (fun vs H' => ∀ ps, flatV ps = vs → Q ps H') → tPairs trs σ H Q) :
    PE X (.Dict keys values pos) (tK G Wx fun ρ S => (As ρ S).bd fun ds S => match dispO ds with
      | some o => .ok (.val (.ref S.length)) (S ++ [o])
      | none => .bad) := by
  refine (pe_disp h hall hl h0 h15).im fun σ H Q q p hp => hi _ _ _ ?_
  obtain ⟨φ, ρ, S, R, sl, q⟩ := q
  refine tI.next (L := RlDs G) (F := fun ds S => match dispO ds with
      | some o => Mi.R.ok (W.val (.ref S.length)) (S ++ [o])
      | none => .bad) R sl (Ext.fresh R hp _) (R.fresh hp _) q fun vs H2 φ2 ds S2 e2 R2 l2 h2 ps hps => ?_
  subst hps
  have l2 : Rps G φ2 H2 ds (flatV ps) := l2
  have hp2 : H2 p = some (.dK []) := e2.keep p _ upd_same (R.unk hp)
  have np : p ∉ φ2 := e2.out (upd_same (H := H) (a := p) (o := .dK [])) (R.unk hp)
  refine ⟨hp2, ?_⟩
  unfold dispO at h2
  cases hu : unpair ds with
  | none => simp only [hu] at h2; exact h2.elim
  | some kvs =>
    simp only [hu] at h2
    by_cases c : kvs.length ≤ 15
    · rw [if_pos c] at h2
      obtain ⟨vk, rfl, q2⟩ := unpair_rp hu l2
      refine ⟨vk, rfl, by rw [← q2.length]; exact c, ?_⟩
      obtain ⟨kp, R3⟩ := unk_upd (u := .dK (mergeK [] vk)) R2 hp2 np
      have E := (Ext.fresh R hp (.dK [])).trans e2
      refine Post.ok (L := RlW G) (φ' := φ2 ++ [p]) h2 ⟨E.pre.trans (List.prefix_append _ _), fun a o ha hn => ?_, fun x hx => ?_⟩ (R3.more np (show RpO G φ2 _ (.dk _) p from ⟨_, upd_same, RpKV.mono kp _ _ (putD_all (kvs := []) (vs := []) q2 rfl)⟩)) (rl_val ?_)
      · rw [upd_ne (fun z => by rw [z, hp] at ha; cases ha)]
        exact E.keep a o ha hn
      · rcases List.mem_append.mp hx with z | z
        · exact E.new x z
        · simp at z; subst z; exact .inr hp
      · unfold Rp
        exact ⟨p, rfl, by rw [← R2.len]; simp⟩
    · rw [if_neg c] at h2; exact h2.elim
theorem k_dsp0 {Wx : WX} {pos : Pos} : PE X (.Dict [] [] pos) (tK G Wx fun ρ S => .ok (.val (.ref S.length)) (S ++ [.dk []])) :=
  (pe_dnewK (pos := pos)).im fun σ H Q ⟨φ, ρ, S, R, sl, q⟩ p hp => place_new R hp (show RpO G φ _ (.dk []) p from ⟨[], upd_same, rfl⟩) q
end

/-! ### sorted(xs, key=f) -/
abbrev Calls := Nat → List Mi.D → Store → Mi.R Mi.D
def spI (G : Gb) (C : Calls) (i : Nat) : Sp := fun vs H Q E => ∃ φ S ds, Rel G φ H S ∧ Rps G φ H ds vs ∧ Post G (RlD G) φ H (C i ds S) E Q
section
variable {G : Gb} {X : Cx} {C : Calls} {lev : Nat}
theorem Rps.drop1 {φ : List Addr} {H : Hp} {ds : List Mi.D} {vs : List V} (r : Rps G φ H ds vs) {i : Nat} {x : V} (h : vs[i]? = some x) : ∃ d, ds.drop i = d :: ds.drop (i + 1) ∧ Rp G φ H d x := by
  have hi : i < ds.length := by rw [r.len]; exact (List.getElem?_eq_some_iff.mp h).1
  obtain ⟨v, h1, h2⟩ := r.get (List.getElem?_eq_getElem hi)
  rw [h] at h1
  cases h1
  exact ⟨ds[i], List.drop_eq_getElem_cons hi, h2⟩
theorem rps_snoc {φ : List Addr} {H : Hp} {d : Mi.D} {v : V} {ds : List Mi.D} {vs : List V} (h : Rps G φ H ds vs) (r : Rp G φ H d v) : Rps G φ H (ds ++ [d]) (vs ++ [v]) := h.snoc r
theorem rps_by {φ : List Addr} {H : Hp} {ds : List Mi.D} {vs : List V} {kz : List PyData} (r : Rps G φ H ds vs) (hl : kz.length = ds.length) : Rps G φ H (byKeys false ds kz) (byKeys false vs kz) := by
  -- the pairs, sorted alike
  have h1 : ds.zip kz = (((ds.zip vs).zip kz).map fun q => (q.1.1, q.2)) := by
    have := r.len
    clear r
    induction ds generalizing vs kz with
    | nil => rfl
    | cons d ds ih =>
      cases vs with
      | nil => cases this
      | cons v vs =>
        cases kz with
        | nil => rfl
        | cons k kz => rw [List.zip_cons_cons, List.zip_cons_cons, List.zip_cons_cons, List.map_cons, ih (by simpa using hl) (by simpa using this)]
  have h2 : vs.zip kz = (((ds.zip vs).zip kz).map fun q => (q.1.2, q.2)) := by
    have := r.len
    clear r h1
    induction ds generalizing vs kz with
    | nil =>
      cases vs with
      | nil => rfl
      | cons v vs => cases this
    | cons d ds ih =>
      cases vs with
      | nil => cases this
      | cons v vs =>
        cases kz with
        | nil => rfl
        | cons k kz => rw [List.zip_cons_cons, List.zip_cons_cons, List.zip_cons_cons, List.map_cons, ih (by simpa using hl) (by simpa using this)]
  unfold byKeys
  rw [h1, h2]
  rw [← List.map_mergeSort (f := fun q : (Mi.D × V) × PyData => (q.1.1, q.2)) (r := fun a b => PySem.W.dataLe false (fun q : (Mi.D × V) × PyData => q.2) a b) (fun _ _ _ _ => rfl), ← List.map_mergeSort (f := fun q : (Mi.D × V) × PyData => (q.1.2, q.2)) (r := fun a b => PySem.W.dataLe false (fun q : (Mi.D × V) × PyData => q.2) a b) (fun _ _ _ _ => rfl)]
  rw [List.map_map, List.map_map]
  have all : ∀ q ∈ ((ds.zip vs).zip kz).mergeSort (fun a b => PySem.W.dataLe false (fun q : (Mi.D × V) × PyData => q.2) a b), Rp G φ H q.1.1 q.1.2 := fun q hq => by
    have hq := (List.mergeSort_perm _ _).mem_iff.mp hq
    have hq := (List.of_mem_zip hq).1
    obtain ⟨j, hj⟩ := List.mem_iff_getElem?.mp hq
    rw [List.getElem?_zip_eq_some] at hj
    obtain ⟨v, e1, e2⟩ := r.get hj.1
    rw [hj.2] at e1
    cases e1
    exact e2
  generalize ((ds.zip vs).zip kz).mergeSort (fun a b => PySem.W.dataLe false (fun q : (Mi.D × V) × PyData => q.2) a b) = l at all
  induction l with
  | nil => show Rps G φ H [] []; unfold Rps; rfl
  | cons q l ih =>
    rw [List.map_cons, List.map_cons]
    unfold Rps
    exact ⟨_, _, rfl, all q List.mem_cons_self, ih fun q hq => all q (List.mem_cons_of_mem _ hq)⟩
theorem srt_body {j : Nat} {f : Addr} {fd : FuncData} {ps : List Str} (hK : X.K = G.K) (hr : Room (lev + 2) X.A) (hb : Binds X.K fd ps []) (F : FnOk X.prog X.w X.K X.mg X.base (L2.CX X.prog X.w) lev f fd ps (spI G C j))
    {σ : L2.St} {H : Hp} {Q : VK} {φ : List Addr} {S : Store} {xk : XK} {ds : List Mi.D} {vs : List V} {goal : Prop} (R : Rel G φ H S) (hr0 : Rps G φ H ds vs)
    (h : Post G (RlW G) φ H ((keysL (fun d S => C j [d] S) ds S).bd fun ks S => srtEnd ds ks S) xk Q)
    (go : ∀ J : Nat → List V → Hp → Prop, J 0 [] H →
      (∀ (pins : List (Addr × Obj)) (i : Nat) (x : V) (u : Value) (ys : List V) (H : Hp) (s : Shared), Inv X pins σ H s → vs[i]? = some x → RelV x u → J i ys H →
        wpAny (model X.prog X.w) X.A.in1.in1 (call (.ref f) [u]) (fun v s' => ∃ y H', Inv X pins σ H' s' ∧ RelV y v ∧ J (i + 1) (ys ++ [y]) H') (fun _ _ => False) s) →
      (∀ ys H', J vs.length ys H' → ∃ kz, DpAll X.K H' ys kz ∧ kz.length = vs.length ∧ PySem.W.AllAlike kz ∧ PySem.W.Sortable kz ∧ (∀ d ∈ kz, d.depth ≤ 40) ∧ ∀ p, H' p = none → Q (.ref p) (upd H' p (.lst (byKeys false vs kz)))) → goal) : goal := by
  refine go (fun i ys H' => ∃ φ' S' ks, Ext φ H φ' H' ∧ Rel G φ' H' S' ∧ Rps G φ' H' ks ys ∧ ks.length = i ∧ Post G (RlW G) φ H ((keysL (fun d S => C j [d] S) (ds.drop i) S').bd fun ks2 S => srtEnd ds (ks ++ ks2) S) xk Q) ⟨φ, S, [], Ext.refl _ _, R, by unfold Rps; rfl, rfl, by simpa using h⟩ ?_ ?_
  · rintro pins' i x u ys H1 s1 I1 hx ru ⟨φ1, S1, ks, E1, R1, rk, hkl, hp⟩
    obtain ⟨d, hd, rd⟩ := hr0.drop1 hx
    rw [hd] at hp
    unfold keysL at hp
    rw [bd_bd] at hp
    have rd1 := Rp.mono (E1.toKeep R) _ _ rd
    have hA : Room lev X.A.in1.in1 := (hr.in1).in1
    have hsp : spI G C j [x] H1 (fun y H2 => ∃ φ' S' ks', Ext φ H φ' H2 ∧ Rel G φ' H2 S' ∧ Rps G φ' H2 ks' (ys ++ [y]) ∧ ks'.length = i + 1 ∧ Post G (RlW G) φ H ((keysL (fun d S => C j [d] S) (ds.drop (i + 1)) S').bd fun ks2 S => srtEnd ds (ks' ++ ks2) S) xk Q) (fun _ _ _ => False) := by
      refine ⟨φ1, S1, [d], R1, by unfold Rps; refine ⟨x, [], rfl, rd1, ?_⟩; unfold Rps; rfl, ?_⟩
      cases hC : C j [d] S1 with
      | bad => rw [hC] at hp; exact hp.elim
      | ex c fs S2 => rw [hC] at hp; exact hp.elim
      | ok k S2 =>
        rw [hC] at hp
        intro y H2 φ2 E2 R2 l2
        refine ⟨φ2, S2, ks ++ [k], E1.trans E2, R2, Rps.snoc (Rps.mono (E2.toKeep R1) _ _ rk) l2, by rw [List.length_append, hkl]; rfl, ?_⟩
        have hp : Post G (RlW G) φ H ((((keysL (fun d S => C j [d] S) (ds.drop (i + 1)) S2).bd fun ks S => .ok (k :: ks) S)).bd fun ks2 S => srtEnd ds (ks ++ ks2) S) xk Q := hp
        rw [bd_bd] at hp
        have e : (fun (ks2 : List Mi.D) (S : Store) => srtEnd ds (ks ++ [k] ++ ks2) S) = fun ks2 S => srtEnd ds (ks ++ (k :: ks2)) S := by
          funext ks2 S
          rw [List.append_assoc]
          rfl
        rw [e]
        exact hp
    have hps : 1 = ps.length := F.len _ _ _ _ hsp
    refine wpAny_call (codeAny_mono (F.run X.A.in1.in1 X.stack s1 H1 ⟨[u], []⟩ [u] [x] _ (fun _ _ _ => False) hA I1.env0.in1.in1 (by
      have q := hb s1 [u] I1.kIn (by rw [← hps]; rfl)
      simpa using q) (.cons ru .nil) hsp) fun r2 s2 hq2 => ?_)
    cases r2 with
      | error e =>
        have hq2 : L2.CX X.prog X.w X.stack H1 s1 (fun _ _ _ => False) e s2 := hq2
        obtain ⟨_, _, _, _, _, _, _, _, _, _, _, _, hF⟩ := hq2
        exact hF.elim
      | ok fl =>
        cases fl with
        | ret u2 =>
          obtain ⟨y, H2, I2, ry, q⟩ := I1.after (show CE X.stack X.prog X.w H1 s1 _ u2 s2 from hq2)
          exact ⟨y, H2, I2, ry, q⟩
        | _ => exact hq2.elim
  · rintro ys H1 ⟨φ1, S1, ks, E1, R1, rk, hkl, hp⟩
    rw [← hr0.len, List.drop_length] at hp
    unfold keysL at hp
    have hp : Post G (RlW G) φ H (srtEnd ds (ks ++ []) S1) xk Q := hp
    rw [List.append_nil] at hp
    unfold srtEnd at hp
    cases hm : mapO (toPy S1 deepest) ks with
    | none => rw [hm] at hp; exact hp.elim
    | some kz =>
      rw [hm] at hp
      dsimp only at hp
      by_cases hok : PySem.W.AllAlike kz ∧ PySem.W.Sortable kz
      · rw [if_pos hok] at hp
        have hml : ∀ {l : List Mi.D} {k : List PyData}, mapO (toPy S1 deepest) l = some k → k.length = l.length := by
          intro l
          induction l with
          | nil => intro k h; rw [mapO_nil h]; rfl
          | cons d l ih =>
            intro k h
            obtain ⟨b, bs, _, h2, rfl⟩ := mapO_cons h
            rw [List.length_cons, List.length_cons, ih h2]
        have hlen : kz.length = ds.length := by rw [hml hm, hkl, hr0.len]
        have hdep : ∀ {l : List PyData}, ∀ d ∈ l, d.depth ≤ PyData.depthAll l := by
          intro l
          induction l with
          | nil => intro d hd; cases hd
          | cons x l ih =>
            intro d hd
            have e : PyData.depthAll (x :: l) = max x.depth (PyData.depthAll l) := by simp [PyData.depthAll]
            rw [e]
            rcases List.mem_cons.mp hd with rfl | hd
            · exact Nat.le_max_left _ _
            · exact Nat.le_trans (ih d hd) (Nat.le_max_right _ _)
        refine ⟨kz, by rw [hK]; exact mapPy_dp R1 rk hm, by rw [hlen, hr0.len], hok.1, hok.2, fun d hd => Nat.le_trans (hdep d hd) (mapPy_ok hm).2, fun p hpn => ?_⟩
        have hr1 := Rps.mono (E1.toKeep R) _ _ hr0
        have E2 := Ext.fresh R1 hpn (.lst (byKeys false vs kz))
        refine Post.ok (L := RlW G) hp (E1.trans E2) (R1.fresh hpn _) ⟨⟨p, _, rfl, upd_same, R1.unk hpn, Rps.mono (E2.toKeep R1) _ _ (rps_by hr1 hlen)⟩, fun ds' a' e1 e2 => ?_⟩
        cases e2
        exact E1.fr R1 _ hpn
      · rw [if_neg hok] at hp; exact hp.elim

theorem ofKey_rps {φ : List Addr} {H : Hp} : ∀ {kvs : List (Key × Mi.D)} {vs : List (Key × V)}, RpKV G φ H kvs vs → Rps G φ H (kvs.map fun kv => D.ofKey kv.1) (vs.map fun kv => kV kv.1)
  | [], vs, h => by
    have h : vs = [] := h
    subst h
    show Rps G φ H [] []
    unfold Rps; rfl
  | p :: ds, vs, h => by
    obtain ⟨v, r, rfl, _, h2⟩ := h
    rw [List.map_cons, List.map_cons]
    unfold Rps
    refine ⟨_, _, rfl, ?_, ofKey_rps h2⟩
    obtain ⟨k, d⟩ := p
    cases k with
    | inl i => show Rp G φ H (.int i) (.int i); unfold Rp; rfl
    | inr x => show Rp G φ H (.str x) (.str x); unfold Rp; rfl
theorem cr_srt {j : Nat} {f : Addr} {fd : FuncData} {ps : List Str} (hK : X.K = G.K) (hcalm : X.calm = true) (hu : X.A.units + 64 < cLine) (hr : Room (lev + 2) X.A) (hb : Binds X.K fd ps []) (F : FnOk X.prog X.w X.K X.mg X.base (L2.CX X.prog X.w) lev f fd ps (spI G C j)) :
    CallRK X (.builtin "sorted") [Str.ofString "key"] (fun vs zs H Q => zs = [.ref f] ∧ ∃ v φ w S xk, vs = [v] ∧ Rel G φ H S ∧ RpW G φ H w v ∧ Post G (RlW G) φ H (srtW (fun d S => C j [d] S) w S) xk Q) := by
  intro pins s σ H xs zs us ws Q I r rz h
  obtain ⟨rfl, v, φ, w, S, xk, rfl, R, r1, h⟩ := h
  obtain ⟨w1, rfl, e1⟩ := vals1 rz
  have e1 : w1 = Value.ref f := e1
  subst e1
  unfold srtW at h
  split at h
  · rename_i ds hq
    obtain ⟨a, vs, rfl, hs, hr0⟩ := seq_rp R r1 hq
    have hs : SqL X.K H a vs := by rw [hK]; exact ifF hs
    obtain rfl := Vals.ref1 r
    show wpAny _ _ (call (.builtin "sorted") [.ref a] [(Str.ofString "key", .ref f)]) _ _ s
    exact srt_body (σ := σ) hK hr hb F R hr0 h fun J h0 turn hend => So.sorted_def I hs hu J h0 turn hend
  · exact h.elim
  · split at h
    · rename_i ds hk
      unfold keysD at hk
      split at hk
      · rename_i n _
        split at hk
        · rename_i kvs hn
          cases hk
          unfold RpW Rp at r1
          obtain ⟨a, rfl, ha⟩ := r1
          obtain ⟨vs, h1, h2⟩ := R.obj n a _ ha hn
          obtain rfl := Vals.ref1 r
          show wpAny _ _ (call (.builtin "sorted") [.ref a] [(Str.ofString "key", .ref f)]) _ _ s
          exact srt_body (σ := σ) hK hr hb F R (ofKey_rps h2) h fun J h0 turn hend => So.sorted_defD I hcalm (kvs := vs) (.inl h1) rfl hu J h0 turn hend
        · cases hk
      · cases hk
    · exact h.elim
end
end Mi

/-! Mi, part H: from the text to the small language; it tells the truth: expressions. -/
namespace Mi
open PySem L2 PyProof.Rows RT RZ

/-! ### the translation -/
inductive Gl where
  | fn (i : Nat) | cst (d : D) | exc (c : Nat)
structure Ct where
  N : List Str
  gl : List (Str × Gl)
  sc : Scope
def Ct.vis (c : Ct) (x : Str) : Bool := match c.sc.names.lookup x with
  | some .local => true | some .cell => true | some .free => true | _ => false
def Ct.glb (c : Ct) (x : Str) : Bool := decide (c.sc.names.lookup x = some .globalImplicit)
def Ct.loc (c : Ct) (x : Str) : Bool := match c.sc.names.lookup x with
  | some .local => true | some .cell => true | _ => false
def ixOf (N : List Str) (x : Str) : Option Nat := match N with
  | [] => none
  | y :: r => if y = x then some 0 else (ixOf r x).map (· + 1)
def bad : List Str := ["__debug__", "__classdict__", "__name__"]
def okName (x : Str) : Bool := !(bad.contains x)
def binOf : Operator → Option P2
  | .Add => some .add | .Sub => some .sub | .Mult => some .mul | .FloorDiv => some .fdiv | .Mod => some .mod | .Pow => some .pow | _ => none
def cmpOf : CmpOp → Option P2
  | .Eq => some .eq | .NotEq => some .ne | .Lt => some .lt | .LtE => some .le | .Gt => some .gt | .GtE => some .ge | .In => some .inn | .NotIn => some .nin | _ => none
def isSet : Expr → Bool
  | .Set _ _ _ => true | _ => false
def isStar : Expr → Bool
  | .Starred _ _ => true | _ => false
def isSlice : Expr → Bool
  | .Slice _ _ _ _ => true | _ => false
def baseOk : Expr → Bool
  | .Call (.Name _ _) [] [] _ => false | _ => true
/-- built-in names that a text may call -/
def b1Of (x : Str) : Option P1 := if x = ("len" : Str) then some .len else if x = ("int" : Str) then some .int_ else if x = ("ord" : Str) then some .ord else if x = ("str" : Str) then some .str_ else if x = ("tuple" : Str) then some .tuple_ else if x = ("list" : Str) then some .list_ else if x = ("dict" : Str) then some .dict_ else if x = ("all" : Str) then some .all_ else if x = ("sum" : Str) then some .sum else if x = ("abs" : Str) then some .abs else none
def b2Of (x : Str) : Option P2 := if x = ("max" : Str) then some .max_ else if x = ("min" : Str) then some .min_ else none
def tyOf (x : Str) : Option Ty := if x = ("int" : Str) then some .int else if x = ("str" : Str) then some .str else if x = ("bool" : Str) then some .bool else if x = ("tuple" : Str) then some .tuple else if x = ("list" : Str) then some .list else none
def m0Of (x : Str) : Option (MK × P1) := if x = ("pop" : Str) then some (.list, .pop) else none
def m1Of (x : Str) : Option (MK × P2) := if x = ("append" : Str) then some (.list, .append) else if x = ("extend" : Str) then some (.list, .extend) else if x = ("join" : Str) then some (.str, .join) else if x = ("split" : Str) then some (.str, .split) else none
def Ct.blt (c : Ct) (x : Str) : Bool := c.glb x && (c.gl.lookup x).isNone
def ty1 (c : Ct) (e : Expr) : Option Ty := match e with
  | Expr.Name x _ => if c.blt x = true then tyOf x else none
  | _ => none
def tyE (c : Ct) : Expr → Option (List Ty)
  | .Name x p => (ty1 c (.Name x p)).map fun t => [t]
  | .Tuple es _ _ => if es.length ≤ 100 then mapO (ty1 c) es else none
  | _ => none
def tgE (c : Ct) : Expr → Option Tg
  | .Name x _ => if c.loc x = true then (ixOf c.N x).map .nm else none
  | .Tuple es _ _ => (mapO (fun e => match e with | Expr.Name x _ => if c.loc x = true then ixOf c.N x else none | _ => none) es).map .tp
  | _ => none
def andE : List Ex → Option Ex
  | [] => none
  | [a] => some a
  | a :: b :: r => (andE (b :: r)).map (.and_ a)
def orE : List Ex → Option Ex
  | [] => none
  | [a] => some a
  | a :: b :: r => (orE (b :: r)).map (.or_ a)
def ownE (N : List Str) (sc : Scope) : List (Str × Nat) := sc.names.filterMap fun y => match y.2 with
  | .local => (ixOf N y.1).map fun i => (y.1, i)
  | .cell => (ixOf N y.1).map fun i => (y.1, i)
  | _ => none
def optE (f : Expr → Option Ex) : Option Expr → Option (List Ex)
  | none => some []
  | some e => (f e).map fun e => [e]

/-- the iterators that give tuples want a target of several names -/
def tupT (k : IK) (tg : Expr) : Bool := match k, tg with
  | .zip, .Tuple _ _ _ => true
  | .enm, .Tuple _ _ _ => true
  | .zip, _ => false
  | .enm, _ => false
  | _, _ => true
/-- one step of it: rec is for the parts -/
def iStep (rec : Ct → Expr → Option Ex) (c : Ct) : Expr → Option (IK × List Ex)
  | .Call (.Name x p) es kw pos => if (c.blt x && kw.isEmpty) = true then
      if x = ("range" : Str) then match es with
        | [a] => if isStar a = true then none else (rec c a).map fun a => (.rng1, [a])
        | [a, b] => if (isStar a || isStar b) = true then none else match rec c a, rec c b with
          | some a, some b => some (.rng2, [a, b])
          | _, _ => none
        | [a, b, d] => if (isStar a || isStar b || isStar d) = true then none else match rec c a, rec c b, rec c d with
          | some a, some b, some d => some (.rng3, [a, b, d])
          | _, _, _ => none
        | _ => none
      else if x = ("zip" : Str) then match es with
        | [a, b] => if (isStar a || isStar b) = true then none else match rec c a, rec c b with
          | some a, some b => some (.zip, [a, b])
          | _, _ => none
        | _ => none
      else if x = ("enumerate" : Str) then match es with
        | [a] => if isStar a = true then none else (rec c a).map fun a => (.enm, [a])
        | _ => none
      else if x = ("reversed" : Str) then match es with
        | [a] => if isStar a = true then none else (rec c a).map fun a => (.rev, [a])
        | _ => none
      else (rec c (.Call (.Name x p) es kw pos)).map fun a => (.it, [a])
    else (rec c (.Call (.Name x p) es kw pos)).map fun a => (.it, [a])
  | e => if isSet e = true then none else (rec c e).map fun a => (.it, [a])
def cmpStep (rec : Ct → Expr → Option Ex) (c : Ct) (a : Expr) : List CmpOp → List Expr → Option Ex
  | [op], [b] => if isSet b = true then none else match op, b with
    | .Is, .Constant .none _ _ => (rec c a).map (.p1 .isN)
    | .IsNot, .Constant .none _ _ => (rec c a).map (.p1 .notN)
    | op, b => match cmpOf op, rec c a, rec c b with
      | some o, some a, some b => some (.p2 o a b)
      | _, _, _ => none
  | [op, op'], [b, d] => if isSet d = true then none else match cmpOf op, cmpOf op', rec c a, rec c b, rec c d with
    | some o, some o', some a, some b, some d => some (.ch o o' a b d)
    | _, _, _, _, _ => none
  | _, _ => none
/-- zip(u, v) in list(..) -/
def zipArg (x : Str) (a : Expr) : Option (Expr × Expr) := match a with
  | .Call (.Name y _) [u, v] [] _ => if x = ("list" : Str) then (if y = ("zip" : Str) then some (u, v) else none) else none
  | _ => none
/-- sorted(a, key=f) -/
def srtStep (rec : Ct → Expr → Option Ex) (c : Ct) (x : Str) (es : List Expr) (k y : Str) : Option Ex := match es with
  | [a] => if (c.blt x && decide (x = ("sorted" : Str)) && decide (k = ("key" : Str)) && !isStar a && c.glb y && okName y) = true then match c.gl.lookup y, rec c a with
      | some (.fn i), some a => some (.srt i false a)
      | _, _ => none
    else none
  | _ => none
/-- a display's keys and values, in turn -/
def flatE : List (Option Expr) → List Expr → Option (List Expr)
  | [], [] => some []
  | some k :: ks, v :: vs => (flatE ks vs).map fun r => k :: v :: r
  | _, _ => none
def callStep (rec : Ct → Expr → Option Ex) (c : Ct) (x : Str) (es : List Expr) : Option Ex :=
  if (okName x && !es.any isStar) = false then none else if c.glb x = false then none else match c.gl.lookup x with
    | some (.fn i) => (mapO (rec c) es).map (.call i)
    | some _ => none
    | none => match es with
      | [a] => match zipArg x a with
        | some (u, v) => if (c.blt "zip" && !isStar u && !isStar v) = true then match rec c u, rec c v with
            | some u, some v => some (.p2 .lzip u v)
            | _, _ => none
          else none
        | none => match b1Of x, rec c a with
          | some o, some a => some (.p1 o a)
          | _, _ => none
      | [a, t] => if x = ("isinstance" : Str) then match rec c a, tyE c t with
          | some a, some ts => some (.isi ts a)
          | _, _ => none
        else match b2Of x, rec c a, rec c t with
          | some o, some a, some b => some (.p2 o a b)
          | _, _, _ => none
      | _ => none
/-- u[lo:v + w].replace(y, z) -/
def replStep (rec : Ct → Expr → Option Ex) (c : Ct) (o : Expr) (m : Str) (a b : Expr) : Option Ex := match o, a, b with
  | .Subscript u (.Slice lo (some (.BinOp v .Add w _)) none _) _, .Constant (.str y) _ _, .Constant (.str z) _ _ => if (decide (m = ("replace" : Str)) && !(y == z)) = true then match rec c u, optE (rec c) lo, rec c v, rec c w with
      | some u, some lo, some v, some w => some (.repl u lo v w y z)
      | _, _, _, _ => none
    else none
  | _, _, _ => none
def methStep (rec : Ct → Expr → Option Ex) (c : Ct) (o : Expr) (m : Str) (es : List Expr) : Option Ex :=
  if (baseOk o && !es.any isStar) = false then none else match es with
    | [] => match m0Of m, rec c o with
      | some (k, p), some o => some (.m0 k p o)
      | _, _ => none
    | [a] => match m1Of m, rec c o, rec c a with
      | some (k, p), some o, some a => some (.m1 k p o a)
      | _, _, _ => none
    | [a, b] => if m = ("get" : Str) then match rec c o, rec c a, rec c b with
        | some o, some a, some b => some (.m2 .dict .get2 o a b)
        | _, _, _ => none
      else replStep rec c o m a b
    | _ => none
/-- a part of an f-string -/
def fmtStep (rec : Ct → Expr → Option Ex) (c : Ct) : Expr → Option Ex
  | .FormattedValue e (-1) none _ => (rec c e).map (.p1 .fmt)
  | .Constant (.str x) _ _ => some (.c (.str x))
  | _ => none
def compStep (rec : Ct → Expr → Option Ex) (c : Ct) (elt tg iter : Expr) (ifs : List Expr) (sc : Scope) : Option Ex :=
  if (blkC c.N c.sc sc (ownE c.N sc) && !isSet iter) = true then match tgE ⟨c.N, c.gl, sc⟩ tg, iStep rec c iter, rec ⟨c.N, c.gl, sc⟩ elt with
    | some t, some (k, is), some e => if (tupT k tg && t.slots.all fun i => decide (i ∈ (ownE c.N sc).map (·.2))) = true then match ifs with
      | [] => some (.comp t k is [] e ((ownE c.N sc).map (·.2)))
      | [f] => (rec ⟨c.N, c.gl, sc⟩ f).map fun f => .comp t k is [f] e ((ownE c.N sc).map (·.2))
      | _ => none
      else none
    | _, _, _ => none
  else none
def eStep (rec : Ct → Expr → Option Ex) (c : Ct) : Expr → Option Ex
  | .Name x _ => if okName x = false then none else if c.vis x = true then (ixOf c.N x).map .v else if c.glb x = true then match c.gl.lookup x with
      | some (.cst d) => some (.c d)
      | _ => none
    else none
  | .Constant k _ _ => match k with
    | .none => some (.c .non)
    | .bool b => some (.c (.bl b))
    | .int i => some (.c (.int i))
    | .str x => some (.c (.str x))
    | _ => none
  | .BinOp a op b _ => match binOf op, rec c a, rec c b with
    | some o, some a, some b => some (.p2 o a b)
    | _, _, _ => none
  | .UnaryOp op a _ => match op with
    | .Not => (rec c a).map .not_
    | .USub => (rec c a).map (.p1 .neg)
    | _ => none
  | .BoolOp op es _ => match op with
    | .And => (mapO (rec c) es).bind andE
    | .Or => (mapO (rec c) es).bind orE
  | .IfExp t a b _ => match rec c t, rec c a, rec c b with
    | some t, some a, some b => some (.ite t a b)
    | _, _, _ => none
  | .Compare a ops es _ => cmpStep rec c a ops es
  | .Call f es kw pos => match kw with
    | [] => match f with
      | .Name x _ => callStep rec c x es
      | .Attribute o m apos => if (apos.endLine == pos.line) = false then none else methStep rec c o m es
      | _ => none
    | [⟨some k, .Name y _, _⟩] => match f with
      | .Name x _ => srtStep rec c x es k y
      | _ => none
    | _ => none
  | .Dict keys values _ => match flatE keys values with
    | some es => if keys.length ≤ 15 then (mapO (rec c) es).map .dict else none
    | none => none
  | .Subscript a b _ => match b with
    | .Slice lo hi none _ => match rec c a, optE (rec c) lo, optE (rec c) hi with
      | some a, some lo, some hi => some (.sl a lo hi)
      | _, _, _ => none
    | .Slice _ _ (some _) _ => none
    | b => match rec c a, rec c b with
      | some a, some b => some (.p2 .ix a b)
      | _, _ => none
  | .Tuple es _ _ => if es.any isStar = true then none else (mapO (rec c) es).map .tup
  | .List es _ => if es.any isStar = true then none else (mapO (rec c) es).map .disp
  | .ListComp elt gs sc _ => match gs with
    | [⟨tg, iter, ifs, 0⟩] => compStep rec c elt tg iter ifs sc
    | _ => none
  | .JoinedStr es _ => match es with
    | v1 :: v2 :: r => (mapO (fmtStep rec c) (v1 :: v2 :: r)).map .fst
    | _ => none
  | _ => none
def cE : Nat → Ct → Expr → Option Ex
  | 0 => fun _ _ => none
  | n + 1 => eStep (cE n)
def cI (n : Nat) : Ct → Expr → Option (IK × List Ex) := iStep (cE n)

/-! ### it tells the truth -/
structure FnAt (G : Gb) (C : Calls) (lev : Nat) (X : Cx) (x : Str) (i : Nat) : Prop where
  ex : ∃ (f : Addr) (fd : FuncData) (ps : List Str), X.mg x = some (.ref f) ∧ PySem.W.keepIn X.K (.ref f) = true ∧ Binds X.K fd ps [] ∧ FnOk X.prog X.w X.K X.mg X.base (L2.CX X.prog X.w) lev f fd ps (spI G C i)
def bltNames : List Str := ["len", "int", "ord", "str", "tuple", "list", "isinstance", "bool", "range", "zip", "enumerate", "reversed", "dict", "sorted", "sum", "all", "any", "max", "min", "abs", "set"]
/-- an own exception's class without own __init__ -/
structure ExcAt (G : Gb) (X : Cx) (x : Str) (k : Nat) : Prop where
  ex : ∃ (C : Addr) (bmB : List Value) (B newId initId : String), PySem.ExcBaseFacts B newId initId bmB ∧ PySem.W.excIn X.K C bmB newId = true ∧ X.mg x = some (.ref C) ∧ PySem.W.keepIn X.K (.ref C) = true ∧ PySem.W.subIn X.K (.ref C) (.type "BaseException") = some true ∧ PySem.W.typeIn X.K (.ref C) = some (.type "type") ∧ G.exc k = some (.ref C)
structure Good (G : Gb) (C : Calls) (Wx : WX) (lev : Nat) (X : Cx) (c : Ct) : Prop where
  hK : X.K = G.K
  hN : X.N = c.N
  nd : c.N.Nodup
  vis : ∀ x, c.vis x = true → Vis X.env.scope x
  glb : ∀ x, c.glb x = true → L2.Gl X x
  loc : ∀ x, c.loc x = true → Loc X.env.scope x ∧ (X.fn x = true ∨ X.env.scope.names.lookup x = some .local)
  cf : ∀ y, (c.sc.names.lookup y = some .cell ∨ c.sc.names.lookup y = some .free) → (X.env.scope.names.lookup y = some .cell ∨ X.env.scope.names.lookup y = some .free)
  calm : X.calm = true
  hu : X.A.units + 64 < cLine
  room : Room (lev + 2) X.A
  fns : ∀ x i, c.gl.lookup x = some (.fn i) → FnAt G C lev X x i
  cst : ∀ x d, c.gl.lookup x = some (.cst d) → ∃ v u, X.mg x = some u ∧ L2.RelV v u ∧ ∀ φ H, Rp G φ H d v
  blt : ∀ x ∈ bltNames, c.gl.lookup x = none → X.mg x = none
  exc : ∀ x k, c.gl.lookup x = some (.exc k) → ExcAt G X x k
  pas : ∀ σ, PassesAt (L2.CX X.prog X.w) X σ (fun cl d H => Wx cl d σ H)
section
variable {G : Gb} {C : Calls} {Wx : WX} {lev : Nat} {X : Cx} {c : Ct} {n : Nat}
theorem ixOf_get : ∀ {N : List Str} {x : Str} {i : Nat}, ixOf N x = some i → N[i]? = some x
  | [], _, _, h => by cases h
  | y :: r, x, i, h => by
    unfold ixOf at h
    by_cases e : y = x
    · rw [if_pos e] at h
      cases h
      rw [e]; rfl
    · rw [if_neg e] at h
      obtain ⟨j, hj, rfl⟩ := Option.map_eq_some_iff.mp h
      simpa using ixOf_get hj
theorem okName_of {x : Str} (h : okName x = true) : (x == ("__debug__" : Str)) = false ∧ (x == ("__classdict__" : Str)) = false ∧ x ≠ ("__name__" : Str) := by
  unfold okName bad at h
  simp only [List.contains_cons, List.contains_nil, Bool.or_false, Bool.not_or, Bool.and_eq_true, Bool.not_eq_true'] at h
  obtain ⟨h1, h2, h3⟩ := h
  exact ⟨h1, h2, by simpa using h3⟩
theorem star_cons {e : Expr} {es : List Expr} {env : PySem.Env} (h : isStar e = false) : starEach (e :: es) env = (false, eval e env) :: starEach es env := by
  cases e <;> first | rfl | cases h
theorem star_any {es : List Expr} {env : PySem.Env} {pos : Pos} (h : es.any isStar = false) : (backTo pos (starEach es env)).any (·.1) = false := by
  have q : ∀ es : List Expr, es.any isStar = false → (starEach es env).any (·.1) = false := by
    intro es
    induction es with
    | nil => intro _; rfl
    | cons e es ih =>
      intro h
      rw [List.any_cons, Bool.or_eq_false_iff] at h
      rw [star_cons h.1, List.any_cons, ih h.2]
      rfl
  have z := q es h
  have e : ∀ l : List (Bool × Sem Value), (backTo pos l).any (·.1) = l.any (·.1) := by
    intro l
    unfold backTo
    rw [List.any_map]
    rfl
  rw [e]
  exact z
theorem behind_ok {op : CmpOp} {b : Expr} (h : isSet b = false) : behindInMarks op b = false := by
  cases b <;> first | rfl | cases h
theorem last_ok {op op' : CmpOp} {b d : Expr} (h : isSet d = false) : lastMarks [op, op'] [b, d] = false := by
  show lastMarks [op'] [d] = false
  show behindInMarks op' d = false
  exact behind_ok h
theorem base_ok {o : Expr} {m : Str} {env : PySem.Env} (h : baseOk o = true) : attributeBase o m env (eval o env) = eval o env := by
  cases o with
  | Call f es ks p =>
    cases f with
    | Name x q =>
      cases es with
      | nil =>
        cases ks with
        | nil => cases h
        | cons _ _ => rfl
      | cons _ _ => rfl
    | _ => rfl
  | _ => rfl
theorem plainIx_ok {b : Expr} (h : isSlice b = false) : PlainIx b := by
  intro o i
  cases b <;> first | rfl | cases h
theorem fold_ok {e : Expr} {env : PySem.Env} (h : isSet e = false) : ∀ x, foldedSetIterable e env x = pure x := by
  intro x
  cases e <;> first | rfl | cases h
/-- a comprehension's block -/
theorem lookup_relabel {env : PySem.Env} {x : Str} : ∀ {names : List (Str × NameKind)},
    (names.map fun (n, k) => if (k == NameKind.free && env.scope.kind == .function && env.kindOf n == some .cell) then (n, NameKind.cell) else (n, k)).lookup x = (names.lookup x).map fun k => if (k == NameKind.free && env.scope.kind == .function && env.kindOf x == some .cell) = true then NameKind.cell else k
  | [] => rfl
  | (n, k) :: r => by
    have ih := @lookup_relabel env x r
    show List.lookup x ((if (k == NameKind.free && env.scope.kind == .function && env.kindOf n == some .cell) = true then (n, NameKind.cell) else (n, k)) :: _) = _
    cases hx : x == n with
    | true =>
      have e : x = n := by simpa using hx
      subst e
      by_cases hc : (k == NameKind.free && env.scope.kind == .function && env.kindOf x == some .cell) = true
      · rw [if_pos hc]
        simp only [List.lookup_cons, beq_self_eq_true, Option.map_some, if_pos hc]
      · rw [if_neg hc]
        simp only [List.lookup_cons, beq_self_eq_true, Option.map_some, if_neg hc]
    | false =>
      by_cases hc : (k == NameKind.free && env.scope.kind == .function && env.kindOf n == some .cell) = true
      · rw [if_pos hc]; simp only [List.lookup_cons, hx]; exact ih
      · rw [if_neg hc]; simp only [List.lookup_cons, hx]; exact ih
theorem Good.blk (g : Good G C Wx lev X c) (sc : Scope) (s : Shared) (H : Hp) (Ca : Addr) (cl : List (Str × Addr)) (fp : List Addr) : Good G C WxF lev (X.blk s H sc (compEnvC sc cl Ca X.env) fp) ⟨c.N, c.gl, sc⟩ := by
  have key : ∀ x, (compEnvC sc cl Ca X.env).scope.names.lookup x = (sc.names.lookup x).map fun k => if (k == NameKind.free && X.env.scope.kind == .function && X.env.kindOf x == some .cell) = true then NameKind.cell else k := fun x => lookup_relabel
  refine ⟨g.hK, g.hN, g.nd, fun x h => ?_, fun x h => ?_, fun x h => ?_, fun x h => ?_, g.calm, g.hu, g.room, fun x i h => ⟨(g.fns x i h).ex⟩, g.cst, g.blt, fun x k h => ⟨(g.exc x k h).ex⟩, fun σ pins H s e s' I cx => ?_⟩
  · unfold Ct.vis at h
    show Vis (compEnvC sc cl Ca X.env).scope x
    unfold Vis
    rw [key]
    have h : (match sc.names.lookup x with | some .local => true | some .cell => true | some .free => true | _ => false) = true := h
    cases q : sc.names.lookup x with
    | none => rw [q] at h; cases h
    | some k =>
      rw [q] at h
      cases k with
      | «local» => exact .inl rfl
      | cell => exact .inr (.inl rfl)
      | free =>
        show some (if _ then NameKind.cell else NameKind.free) = _ ∨ some (if _ then NameKind.cell else NameKind.free) = _ ∨ some (if _ then NameKind.cell else NameKind.free) = _
        split
        · exact .inr (.inl rfl)
        · exact .inr (.inr rfl)
      | _ => cases h
  · have h : sc.names.lookup x = some .globalImplicit := of_decide_eq_true h
    show (compEnvC sc cl Ca X.env).scope.names.lookup x = some .globalImplicit
    rw [key, h]
    rfl
  · unfold Ct.loc at h
    show L2.Loc (compEnvC sc cl Ca X.env).scope x ∧ ((sc.names.lookup x == some .cell) = true ∨ (compEnvC sc cl Ca X.env).scope.names.lookup x = some .local)
    unfold L2.Loc
    rw [key]
    have h : (match sc.names.lookup x with | some .local => true | some .cell => true | _ => false) = true := h
    cases q : sc.names.lookup x with
    | none => rw [q] at h; cases h
    | some k =>
      rw [q] at h
      cases k with
      | «local» => exact ⟨.inl rfl, .inr rfl⟩
      | cell => exact ⟨.inr rfl, .inl rfl⟩
      | _ => cases h
  · show (compEnvC sc cl Ca X.env).scope.names.lookup x = some .cell ∨ (compEnvC sc cl Ca X.env).scope.names.lookup x = some .free
    rw [key]
    have h : sc.names.lookup x = some .cell ∨ sc.names.lookup x = some .free := h
    rcases h with h | h
    · rw [h]; exact .inl rfl
    · rw [h]
      show some (if _ then NameKind.cell else NameKind.free) = _ ∨ some (if _ then NameKind.cell else NameKind.free) = _
      split
      · exact .inl rfl
      · exact .inr rfl
  · obtain ⟨a, B, H', cls, d, rfl, fl, hok, ub, na, os, ag, hE⟩ := cx
    exact hE.elim
/-- a call of a def -/
theorem call_im {i : Nat} {As : AX (List D)} {σ : L2.St} {H : Hp} {Q : VK} (h : tK G Wx (fun ρ S => (As ρ S).bd fun ds S => (C i ds S).bd fun d S => vv d S) σ H Q) :
    tDs G Wx As σ H fun vs H1 => spI G C i vs H1 Q (fun cl d H' => Wx cl d σ H') :=
  tI.bd (F := fun ds _ S => (C i ds S).bd fun d S => vv d S) h fun φ ρ S vs φ1 H1 ds S1 R sl e R1 l h => by
    refine ⟨φ1, S1, ds, R1, l, ?_⟩
    refine (Post.bd (L := RlD G) (h.sh e R1 mnW)).mono fun v H2 ⟨φ2, d, S2, _, e2, R2, l2, h2⟩ => ?_
    exact Post.ok (L := RlW G) h2 e2 R2 (rl_val l2)
theorem run_at {i : Nat} {σ : L2.St} {pins : List (Addr × Obj)} {H : Hp} {s : Shared} {Q : VK} {us : List Value} {vs : List V} (g : Good G C Wx lev X c) {f : Addr} {fd : FuncData} {ps : List Str} (hb : Binds X.K fd ps [])
    (F : FnOk X.prog X.w X.K X.mg X.base (L2.CX X.prog X.w) lev f fd ps (spI G C i)) (I : L2.Inv X pins σ H s) (r : Vals vs us) (h : spI G C i vs H Q (fun cl d H' => Wx cl d σ H')) : wpAny (model X.prog X.w) X.A (call (.ref f) us) (EP X pins σ Q) X.xe s :=
  run_fnS (E := fun σ cl d H' => Wx cl d σ H') F (g.room.mono (by omega)) hb (g.pas σ) I r h
theorem k_call {x : Str} {i : Nat} {es : List Expr} {p pos : Pos} {As : AX (List D)} (g : Good G C Wx lev X c) (hx : c.glb x = true) (hi : c.gl.lookup x = some (.fn i)) (hn : okName x = true) (hs : es.any isStar = false) (ha : PA X es (tDs G Wx As)) (h0 : es = [] → As = fun _ S => .ok [] S) :
    PE X (.Call (.Name x p) es [] pos) (tK G Wx fun ρ S => (As ρ S).bd fun ds S => (C i ds S).bd fun d S => vv d S) := by
  obtain ⟨f, fd, ps, hm, hk, hb, F⟩ := (g.fns x i hi).ex
  obtain ⟨n1, n2, n3⟩ := okName_of hn
  cases es with
  | nil =>
    refine ⟨fun pins s σ H Q I h => ?_⟩
    refine wpAny_Call_Name_kw (ld_glob I (g.glb x hx) hm ?_ n1)
    refine PySem.W.callWith_K0 I.kIn hk ?_
    obtain ⟨φ, ρ, S, R, sl, h⟩ := h
    refine run_at (us := []) (vs := []) g hb F I .nil ⟨φ, S, [], R, by unfold Rps; rfl, ?_⟩
    rw [h0 rfl] at h
    have h : Post G (RlW G) φ H ((C i [] S).bd fun d S => vv d S) (fun c d H' => Wx c d σ H') Q := h
    refine (Post.bd (L := RlD G) h).mono fun v H2 ⟨φ2, d, S2, _, e2, R2, l2, h2⟩ => ?_
    exact Post.ok (L := RlW G) h2 e2 R2 (rl_val l2)
  | cons e es =>
    rw [List.any_cons, Bool.or_eq_false_iff] at hs
    refine ⟨fun pins s σ H Q I h => ?_⟩
    refine wpAny_Call_Name_kw (ld_glob I (g.glb x hx) hm ?_ n1)
    refine PySem.W.callWith_K (h₀ := X.base) I.ok.mod.kin hk (thn (ha.run pos pins s σ H _ I (call_im h)) fun us s1 ⟨vs, H1, I1, r, q⟩ => ⟨I1.kIn, ?_⟩) (star_cons hs.1) (star_any hs.2)
    exact run_at g hb F I1 r q
/-! ### built-in calls, methods -/
theorem k_b1 {x : Str} {o : P1} {a : Expr} {id : Value} {p pos : Pos} {A : AX W} (g : Good G C Wx lev X c) (hx : c.blt x = true) (hb : x ∈ bltNames) (hn : okName x = true) (hs : isStar a = false) (ha : PE X a (tK G Wx A))
    (hc : (∃ i, id = .builtin i ∧ bootBuiltins x = some (.builtin i) ∧ CallR X (.builtin i) (rC1 G o)) ∨ (∃ i, id = .type i ∧ bootBuiltins x = some (.type i) ∧ CallR X (.type i) (rC1 G o))) :
    PE X (.Call (.Name x p) [a] [] pos) (tK G Wx fun ρ S => (A ρ S).bd fun x S => p1 o x S) := by
  obtain ⟨n1, n2, n3⟩ := okName_of hn
  unfold Ct.blt at hx
  obtain ⟨h1, h2⟩ := Bool.and_eq_true_iff.mp hx
  have hm := g.blt x hb (by simpa using h2)
  have him : ∀ σ H Q, tK G Wx (fun ρ S => (A ρ S).bd fun x S => p1 o x S) σ H Q → tCB (rC1 G o) (tCons (tK G Wx A) tNil) σ H Q := fun σ H Q q =>
    tI.bd (F := fun x _ S => p1 o x S) q fun φ ρ S v φ1 H1 x S1 R sl e R1 l h => ⟨v, rfl, φ1, x, S1, _, R1, l.1, h.sh e R1 mnW⟩
  rcases hc with ⟨i, rfl, hv, hc⟩ | ⟨i, rfl, hv, hc⟩
  · exact (pe_callB hc (g.glb x h1) hm hv (pa_cons ha pa_nil (star_cons hs)) n3 n1 (star_cons hs) rfl).im him
  · exact (pe_callTy hc (g.glb x h1) hm hv (pa_cons ha pa_nil (star_cons hs)) n3 n1 (star_cons hs) rfl).im him
theorem b1_hc {x : Str} {o : P1} (g : Good G C Wx lev X c) (h : b1Of x = some o) : x ∈ bltNames ∧ okName x = true ∧ ∃ id, ((∃ i, id = Value.builtin i ∧ bootBuiltins x = some (.builtin i) ∧ CallR X (.builtin i) (rC1 G o)) ∨ (∃ i, id = Value.type i ∧ bootBuiltins x = some (.type i) ∧ CallR X (.type i) (rC1 G o))) := by
  unfold b1Of at h
  split at h
  · rename_i e; subst e; cases h
    exact ⟨by decide +kernel, by decide +kernel, _, .inl ⟨"len", rfl, PySem.boot_len, c_len g.hK⟩⟩
  split at h
  · rename_i e; subst e; cases h
    exact ⟨by decide +kernel, by decide +kernel, _, .inr ⟨"int", rfl, boot_int, c_int⟩⟩
  split at h
  · rename_i e; subst e; cases h
    exact ⟨by decide +kernel, by decide +kernel, _, .inl ⟨"ord", rfl, boot_ord, c_ord⟩⟩
  split at h
  · rename_i e; subst e; cases h
    exact ⟨by decide +kernel, by decide +kernel, _, .inr ⟨"str", rfl, boot_str, c_str⟩⟩
  split at h
  · rename_i e; subst e; cases h
    exact ⟨by decide +kernel, by decide +kernel, _, .inr ⟨"tuple", rfl, boot_tuple, c_tuple g.hK⟩⟩
  split at h
  · rename_i e; subst e; cases h
    exact ⟨by decide +kernel, by decide +kernel, _, .inr ⟨"list", rfl, boot_list, c_list g.hK⟩⟩
  split at h
  · rename_i e; subst e; cases h
    exact ⟨by decide +kernel, by decide +kernel, _, .inr ⟨"dict", rfl, PyProof.Rows.boot_dict, c_dict g.hK g.calm g.hu⟩⟩
  split at h
  · rename_i e; subst e; cases h
    exact ⟨by decide +kernel, by decide +kernel, _, .inl ⟨"all", rfl, PyProof.Rows.boot_all, c_all g.hK g.calm⟩⟩
  split at h
  · rename_i e; subst e; cases h
    exact ⟨by decide +kernel, by decide +kernel, _, .inl ⟨"sum", rfl, PyProof.Rows.boot_sum, c_sum g.hK g.calm⟩⟩
  split at h
  · rename_i e; subst e; cases h
    exact ⟨by decide +kernel, by decide +kernel, _, .inl ⟨"abs", rfl, PyProof.Rows.boot_abs, c_abs⟩⟩
  · cases h
theorem k_b2 {x : Str} {o : P2} {a b : Expr} {i : String} {p pos : Pos} {A B : AX W} (g : Good G C Wx lev X c) (hx : c.blt x = true) (hb : x ∈ bltNames) (hn : okName x = true) (hs : isStar a = false) (hs2 : isStar b = false) (ha : PE X a (tK G Wx A)) (hb2 : PE X b (tK G Wx B))
    (hv : bootBuiltins x = some (.builtin i)) (hc : CallR X (.builtin i) (rC2 G o)) :
    PE X (.Call (.Name x p) [a, b] [] pos) (tK G Wx fun ρ S => (A ρ S).bd fun x S => (B ρ S).bd fun y S => p2 o x y S) := by
  obtain ⟨n1, n2, n3⟩ := okName_of hn
  unfold Ct.blt at hx
  obtain ⟨h1, h2⟩ := Bool.and_eq_true_iff.mp hx
  have hm := g.blt x hb (by simpa using h2)
  refine (pe_callB hc (g.glb x h1) hm hv (pa_cons ha (pa_cons hb2 pa_nil (star_cons hs2)) (star_cons hs)) n3 n1 (star_cons hs) (star_any (by simp [hs2]))).im fun σ H Q q => ?_
  refine tI.bd (F := fun x ρ S => (B ρ S).bd fun y S => p2 o x y S) q fun φ ρ S v φ1 H1 x S1 R sl e R1 l h => ?_
  refine tI.next R sl e R1 h fun u H2 φ2 y S2 e2 R2 l2 h2 => ?_
  exact ⟨v, u, rfl, φ2, x, y, S2, _, R2, RpW.mono e2 R1 l.1, l2.1, h2.sh (e.trans e2) R2 mnW⟩
theorem b2_hc {x : Str} {o : P2} (g : Good G C Wx lev X c) (h : b2Of x = some o) : x ∈ bltNames ∧ okName x = true ∧ ∃ i, bootBuiltins x = some (.builtin i) ∧ CallR X (.builtin i) (rC2 G o) := by
  unfold b2Of at h
  split at h
  · rename_i e; subst e; cases h
    exact ⟨by decide +kernel, by decide +kernel, "max", PyProof.Rows.boot_max, c_max g.calm⟩
  split at h
  · rename_i e; subst e; cases h
    exact ⟨by decide +kernel, by decide +kernel, "min", PyProof.Rows.boot_min, c_min g.calm⟩
  · cases h
theorem ty_boot {x : Str} {t : Ty} (h : tyOf x = some t) : x ∈ bltNames ∧ okName x = true ∧ bootBuiltins x = some (.type t.name) := by
  unfold tyOf at h
  split at h
  · rename_i e; subst e; cases h; exact ⟨by decide +kernel, by decide +kernel, boot_int⟩
  split at h
  · rename_i e; subst e; cases h; exact ⟨by decide +kernel, by decide +kernel, boot_str⟩
  split at h
  · rename_i e; subst e; cases h; exact ⟨by decide +kernel, by decide +kernel, boot_bool⟩
  split at h
  · rename_i e; subst e; cases h; exact ⟨by decide +kernel, by decide +kernel, boot_tuple⟩
  split at h
  · rename_i e; subst e; cases h; exact ⟨by decide +kernel, by decide +kernel, boot_list⟩
  · cases h
theorem blt_of {x : Str} (g : Good G C Wx lev X c) (hx : c.blt x = true) (hb : x ∈ bltNames) : c.glb x = true ∧ X.mg x = none := by
  unfold Ct.blt at hx
  obtain ⟨h1, h2⟩ := Bool.and_eq_true_iff.mp hx
  exact ⟨h1, g.blt x hb (by simpa using h2)⟩
theorem k_ty {x : Str} {t : Ty} {pos : Pos} (g : Good G C Wx lev X c) (hx : c.blt x = true) (h : tyOf x = some t) : PE X (.Name x pos) (tC (.ty t.name)) := by
  obtain ⟨b1, b2, b3⟩ := ty_boot h
  obtain ⟨h1, h2⟩ := blt_of g hx b1
  obtain ⟨n1, n2, n3⟩ := okName_of b2
  exact pe_bltn (g.glb x h1) h2 b3 rfl n3 n1
theorem isi_post {φ : List Addr} {H : Hp} {S : Store} {w : W} {x : V} {ts : List Ty} {xk : XK} {Q : VK} (R : Rel G φ H S) (r : RpW G φ H w x) (h : Post G (RlW G) φ H (isiW ts w S) xk Q) :
    ∃ t b, TyX G.K H x (.type t) ∧ PySem.W.kitAny G.K (.type t) (ts.map fun ty => Value.type ty.name) = some b ∧ Q (.bl b) H := by
  unfold isiW at h
  by_cases hp : w.plain S = true
  · rw [if_pos hp] at h
    obtain ⟨t, h1, h2⟩ := ty_of R r hp
    exact ⟨t, _, h1, kit_any h2 ts, vv_ok R h rp_bl⟩
  · rw [if_neg hp] at h; exact h.elim
theorem k_isi1 {x : Str} {t : Ty} {a : Expr} {p p2 pos : Pos} {A : AX W} (g : Good G C Wx lev X c) (hi : c.blt "isinstance" = true) (hx : c.blt x = true) (h : tyOf x = some t) (hs : isStar a = false) (ha : PE X a (tK G Wx A)) :
    PE X (.Call (.Name "isinstance" p) [a, .Name x p2] [] pos) (tK G Wx fun ρ S => (A ρ S).bd fun w S => isiW [t] w S) := by
  obtain ⟨h1, hm⟩ := blt_of g hi (by decide +kernel)
  refine (pe_callB call_isi (g.glb _ h1) hm boot_isinstance (pa_cons ha (pa_cons (k_ty (pos := p2) g hx h) pa_nil rfl) (star_cons hs)) (by decide) (by decide) (star_cons hs) rfl).im fun σ H Q q => ?_
  refine tI.bd (F := fun w _ S => isiW [t] w S) q fun φ ρ S v φ1 H1 w S1 R sl e R1 l hq => ?_
  obtain ⟨ty, b, t1, t2, q1⟩ := isi_post R1 l.1 (hq.sh e R1 mnW)
  refine ⟨v, .ty t.name, .type ty, .type t.name, b, rfl, .ty _, by rw [g.hK]; exact t1, ?_, q1⟩
  have z : PySem.W.kitAny G.K (.type ty) [.type t.name] = some b := t2
  unfold PySem.W.kitAny at z
  rw [g.hK]
  cases k : PySem.W.kitOne G.K (.type ty) (.type t.name) with
  | none => rw [k] at z; cases z
  | some kb =>
    rw [k] at z
    cases kb with
    | true => cases z; rfl
    | false => exact z
theorem tys_pa {es : List Expr} {ts : List Ty} (g : Good G C Wx lev X c) (h : mapO (ty1 c) es = some ts) :
    ∃ t, PA X es t ∧ (∀ σ H (Q : List V → Hp → Prop), Q (ts.map fun ty => V.ty ty.name) H → t σ H Q) := by
  induction es generalizing ts with
  | nil => rw [mapO_nil h]; exact ⟨_, pa_nil, fun σ H Q q => q⟩
  | cons e es ih =>
    obtain ⟨b, bs, h1, h2, rfl⟩ := mapO_cons h
    cases e with
    | Name x p =>
      unfold ty1 at h1
      dsimp only at h1
      by_cases hx : c.blt x = true
      · rw [if_pos hx] at h1
        obtain ⟨t, pt, ht⟩ := ih h2
        exact ⟨_, pa_cons (k_ty (pos := p) g hx h1) pt rfl, fun σ H Q q => ht σ H _ q⟩
      · rw [if_neg hx] at h1; cases h1
    | _ => cases h1
theorem k_isiT {es : List Expr} {ts : List Ty} {k : Nat} {a : Expr} {p p2 pos : Pos} {A : AX W} (g : Good G C Wx lev X c) (hi : c.blt "isinstance" = true) (h : mapO (ty1 c) es = some ts) (hl : ts.length ≤ 100)
    (hs : isStar a = false) (ha : PE X a (tK G Wx A)) : PE X (.Call (.Name "isinstance" p) [a, .Tuple es k p2] [] pos) (tK G Wx fun ρ S => (A ρ S).bd fun w S => isiW ts w S) := by
  obtain ⟨h1, hm⟩ := blt_of g hi (by decide +kernel)
  obtain ⟨t, pt, ht⟩ := tys_pa g h
  refine (pe_callB call_isiT (g.glb _ h1) hm boot_isinstance (pa_cons ha (pa_cons (pe_tup (pos := p2) (x1 := k) pt) pa_nil rfl) (star_cons hs)) (by decide) (by decide) (star_cons hs) rfl).im fun σ H Q q => ?_
  refine tI.bd (F := fun w _ S => isiW ts w S) q fun φ ρ S v φ1 H1 w S1 R sl e R1 l hq => ?_
  refine ht σ H1 _ ⟨?_, fun tp htp => ?_⟩
  · rw [List.length_map]
    exact Nat.le_trans hl (by decide)
  · have E := Ext.fresh R1 htp (.tup (ts.map fun ty => V.ty ty.name))
    obtain ⟨ty, b, t1, t2, q1⟩ := isi_post (R1.fresh htp (.tup (ts.map fun ty => V.ty ty.name))) (RpW.mono E R1 l.1) (hq.sh (e.trans E) (R1.fresh htp _) mnW)
    refine ⟨v, tp, ts.map fun ty => V.ty ty.name, .type ty, ts.map fun ty => Value.type ty.name, b, rfl, upd_same, ?_, by rw [g.hK]; exact t1, by rw [g.hK]; exact t2, q1⟩
    clear t1 t2 ht h hq q E q1 hl
    induction ts with
    | nil => exact .nil
    | cons t ts ih => exact .cons (.ty _) ih
theorem k_m0 {o : Expr} {m : Str} {id : String} {k : MK} {pr : P1} {A : AX W} {apos pos : Pos} (T : String) (pa : PlainAttrs T) (slot : Slot T m id) (hty : typeOf (.builtin id) = pure (.type "method_descriptor")) (hm : MtR X id (fun x xs H Q => xs = [] ∧ rP1 G (p1 pr) x H Q))
    (hT : ∀ φ H S w x, Rel G φ H S → RpW G φ H w x → k.is S w = true → tyV X.K T x H) (ho : PE X o (tK G Wx A)) (hb : baseOk o = true) (hl : (apos.endLine == pos.line) = true) :
    PE X (.Call (.Attribute o m apos) [] [] pos) (tK G Wx fun ρ S => (A ρ S).bd fun x S => if k.is S x = true then p1 pr x S else .bad) :=
  (pe_bm0 pa slot hty hm ho (base_ok hb) hl).im fun σ H Q q => tI.bd (F := fun x _ S => if k.is S x = true then p1 pr x S else .bad) q fun φ ρ S v φ1 H1 x S1 R sl e R1 l h => by
    by_cases c : k.is S1 x = true
    · rw [if_pos c] at h
      exact ⟨hT φ1 H1 S1 x v R1 l.1 c, rfl, φ1, x, S1, _, R1, l.1, h.sh e R1 mnW⟩
    · rw [if_neg c] at h; exact h.elim
theorem k_m1 {o a : Expr} {m : Str} {id : String} {k : MK} {pr : P2} {A B : AX W} {apos pos : Pos} (T : String) (pa : PlainAttrs T) (slot : Slot T m id) (hty : typeOf (.builtin id) = pure (.type "method_descriptor")) (hm : MtR X id (rM1 G pr))
    (hT : ∀ φ H S w x, Rel G φ H S → RpW G φ H w x → k.is S w = true → tyV X.K T x H) (ho : PE X o (tK G Wx A)) (ha : PE X a (tK G Wx B)) (hs : isStar a = false) (hb : baseOk o = true) (hl : (apos.endLine == pos.line) = true) :
    PE X (.Call (.Attribute o m apos) [a] [] pos) (tK G Wx fun ρ S => (A ρ S).bd fun x S => if k.is S x = true then (B ρ S).bd fun y S => p2 pr x y S else .bad) := by
  have hfew : ((backTo pos (starEach [a] X.env)).all (fun x => !x.1) && (backToKw pos (keywordEach [] X.env)).all (fun x => x.1.isSome) && decide ([a].length + ([] : List Keyword).length + (if ([] : List Keyword).isEmpty then 0 else 1) < 30)) = true := by
    rw [star_cons hs]; rfl
  refine (pe_bm pa slot hty hm ho (pa_cons ha pa_nil (star_cons hs)) (base_ok hb) hfew hl (star_cons hs) rfl).im fun σ H Q q => ?_
  refine tI.bd (F := fun x ρ S => if k.is S x = true then (B ρ S).bd fun y S => p2 pr x y S else .bad) q fun φ ρ S v φ1 H1 x S1 R sl e R1 l h => ?_
  by_cases c : k.is S1 x = true
  · rw [if_pos c] at h
    refine ⟨hT φ1 H1 S1 x v R1 l.1 c, ?_⟩
    refine tI.next R sl e R1 h fun u H2 φ2 y S2 e2 R2 l2 h2 => ?_
    exact ⟨u, φ, H, φ2, x, y, S2, _, rfl, e.trans e2, R2, RpW.mono e2 R1 l.1, mnW _ _ _ _ _ _ (e.fr R1) l2, h2⟩
  · rw [if_neg c] at h; exact h.elim
theorem k_srt {x k y : Str} {i : Nat} {a : Expr} {p pf kpos pos : Pos} {A : AX W} (g : Good G C Wx lev X c) (hx : c.blt "sorted" = true) (hy : c.glb y = true) (hi : c.gl.lookup y = some (.fn i)) (hn : okName y = true) (hs : isStar a = false) (ha : PE X a (tK G Wx A)) :
    PE X (.Call (.Name "sorted" p) [a] [⟨some "key", .Name y pf, kpos⟩] pos) (tK G Wx fun ρ S => (A ρ S).bd fun w S => srtW (fun d S => C i [d] S) w S) := by
  obtain ⟨h1, hm⟩ := blt_of g hx (by decide +kernel)
  obtain ⟨f, fd, ps, hmf, hk, hb, F⟩ := (g.fns y i hi).ex
  obtain ⟨n1, n2, n3⟩ := okName_of hn
  have hf : PE X (.Name y pf) (tC (.ref f)) := pe_glob (g.glb y hy) hmf rfl n1
  refine (pe_callBK (cr_srt g.hK g.calm g.hu g.room hb F) (g.glb _ h1) hm PyProof.Rows.boot_sorted (pa_cons ha pa_nil (star_cons hs)) (pk_cons hf pk_nil) (by decide) (by decide) (by rw [star_cons hs]; rfl) (by rw [star_cons hs]; rfl)).im fun σ H Q q => ?_
  refine tI.bd (F := fun w _ S => srtW (fun d S => C i [d] S) w S) q fun φ ρ S v φ1 H1 w S1 R sl e R1 l h => ?_
  exact ⟨rfl, v, φ1, w, S1, _, rfl, R1, l.1, h.sh e R1 mnW⟩
theorem is_list (hK : X.K = G.K) {φ : List Addr} {H : Hp} {S : Store} {w : W} {x : V} (R : Rel G φ H S) (r : RpW G φ H w x) (h : MK.list.is S w = true) : tyV X.K "list" x H := by
  have q : ∃ ds, w.seq S = some (false, ds) := by
    cases w with
    | lis ds => exact ⟨ds, rfl⟩
    | val d =>
      cases d with
      | ls ds => exact ⟨ds, rfl⟩
      | ref n =>
        unfold MK.is at h
        dsimp only at h
        split at h
        · rename_i ds hs
          exact ⟨ds, by unfold W.seq; simp only [hs]⟩
        · cases h
      | _ => cases h
  obtain ⟨ds, hq⟩ := q
  obtain ⟨a, vs, rfl, hs, hr⟩ := seq_rp R r hq
  exact .inl ⟨rfl, vs, by rw [hK]; exact ifF hs⟩
theorem is_str {φ : List Addr} {H : Hp} {S : Store} {w : W} {x : V} (r : RpW G φ H w x) (h : MK.str.is S w = true) : tyV X.K "str" x H := by
  cases w with
  | lis ds => cases h
  | val d =>
    cases d with
    | str z => have e := rp_str r; subst e; rfl
    | _ => cases h
end
end Mi

/-! Mi, part I: the translation of expressions tells the truth. -/
namespace Mi
open PySem L2 PyProof.Rows RT RZ

section
variable {C : Calls}
theorem ev_c {d : D} : evK C (.c d) = fun _ S => vv d S := by funext ρ S; rw [evK]
theorem ev_v {i : Nat} : evK C (.v i) = fun ρ S => match ρ[i]? with | some (some d) => vv d S | _ => .bad := by funext ρ S; rw [evK]; try rfl
theorem ev_p1 {o : P1} {a : Ex} : evK C (.p1 o a) = fun ρ S => (evK C a ρ S).bd fun x S => p1 o x S := by funext ρ S; rw [evK]
theorem ev_p2 {o : P2} {a b : Ex} : evK C (.p2 o a b) = fun ρ S => (evK C a ρ S).bd fun x S => (evK C b ρ S).bd fun y S => p2 o x y S := by funext ρ S; rw [evK]
theorem ev_isi {ts : List Ty} {a : Ex} : evK C (.isi ts a) = fun ρ S => (evK C a ρ S).bd fun x S => isiW ts x S := by funext ρ S; rw [evK]
theorem ev_and {a b : Ex} : evK C (.and_ a b) = fun ρ S => ((evK C a ρ S).bd toB).bd fun c S => if c = true then evK C b ρ S else vv (.bl false) S := by funext ρ S; rw [evK]
theorem ev_or {a b : Ex} : evK C (.or_ a b) = fun ρ S => ((evK C a ρ S).bd toB).bd fun c S => if c = true then vv (.bl true) S else evK C b ρ S := by funext ρ S; rw [evK]
theorem ev_not {a : Ex} : evK C (.not_ a) = fun ρ S => ((evK C a ρ S).bd toB).bd fun c S => vv (.bl (!c)) S := by funext ρ S; rw [evK]
theorem ev_ite {c a b : Ex} : evK C (.ite c a b) = fun ρ S => (evB C c ρ S).bd fun k S => if k = true then evK C a ρ S else evK C b ρ S := by funext ρ S; rw [evK]; try rfl
theorem ev_ch {o o' : P2} {a b c : Ex} : evK C (.ch o o' a b c) = fun ρ S => (evK C a ρ S).bd fun x S => (evK C b ρ S).bd fun y S => ((p2 o x y S).bd toB).bd fun k S =>
      if k = true then (evK C c ρ S).bd fun z S => p2 o' y z S else vv (.bl false) S := by funext ρ S; rw [evK]
theorem ev_tup {es : List Ex} : evK C (.tup es) = fun ρ S => (evDs C es ρ S).bd fun ds S => if ds.length ≤ sizeLine then vv (.tup ds) S else .bad := by funext ρ S; rw [evK]
theorem ev_disp {es : List Ex} : evK C (.disp es) = fun ρ S => (evDs C es ρ S).bd fun ds S => if ds.length ≤ sizeLine then .ok (.lis ds) S else .bad := by funext ρ S; rw [evK]
theorem ev_sl {a : Ex} {lo hi : List Ex} : evK C (.sl a lo hi) = fun ρ S => (evK C a ρ S).bd fun x S => ((evWs C lo ρ S).bd partI).bd fun l S => ((evWs C hi ρ S).bd partI).bd fun h S => cutW x l h S := by funext ρ S; rw [evK]
theorem ev_dict {es : List Ex} : evK C (.dict es) = fun ρ S => (evDs C es ρ S).bd fun ds S => match dispO ds with
    | some o => .ok (.val (.ref S.length)) (S ++ [o])
    | none => .bad := by funext ρ S; rw [evK]; try rfl
theorem ev_srt {f : Nat} {a : Ex} : evK C (.srt f false a) = fun ρ S => (evK C a ρ S).bd fun w S => srtW (fun d S => C f [d] S) w S := by funext ρ S; rw [evK]; try rfl
theorem ev_call {f : Nat} {es : List Ex} : evK C (.call f es) = fun ρ S => (evDs C es ρ S).bd fun ds S => (C f ds S).bd fun d S => vv d S := by funext ρ S; rw [evK]
theorem ev_m0 {k : MK} {o : P1} {a : Ex} : evK C (.m0 k o a) = fun ρ S => (evK C a ρ S).bd fun x S => if k.is S x = true then p1 o x S else .bad := by funext ρ S; rw [evK]
theorem ev_m1 {k : MK} {o : P2} {a b : Ex} : evK C (.m1 k o a b) = fun ρ S => (evK C a ρ S).bd fun x S => if k.is S x = true then (evK C b ρ S).bd fun y S => p2 o x y S else .bad := by funext ρ S; rw [evK]
theorem ev_repl {a v w : Ex} {lo : List Ex} {y z : Str} : evK C (.repl a lo v w y z) = fun ρ S => (evK C a ρ S).bd fun x S => ((evWs C lo ρ S).bd partI).bd fun l S => (evK C v ρ S).bd fun p S => (evK C w ρ S).bd fun q S => replC x l p q y z S := by funext ρ S; rw [evK]
theorem ev_fst {es : List Ex} : evK C (.fst es) = fun ρ S => evJ C es ρ S Str.empty := by funext ρ S; rw [evK]
theorem ev_j0 {acc : Str} : (fun ρ S => evJ C [] ρ S acc) = fun _ S => vv (.str acc) S := by funext ρ S; rw [evJ]
theorem ev_j {e : Ex} {r : List Ex} {acc : Str} : (fun ρ S => evJ C (e :: r) ρ S acc) = fun ρ S => (evK C e ρ S).bd fun w S => match w with
    | .val (.str y) => if (acc ++ y).length ≤ sizeLine then evJ C r ρ S (acc ++ y) else .bad
    | _ => .bad := by funext ρ S; rw [evJ]; try rfl
noncomputable def itA (C : Calls) (k : IK) (is : List Ex) : AX Its := fun ρ S => (evWs C is ρ S).bd fun ws S => itsA k ws S
theorem ev_comp {t : Tg} {k : IK} {is cs : List Ex} {e : Ex} {own : List Nat} : evK C (.comp t k is cs e own) = compA t own (itA C k is) (evCs C cs) (evD C e) := by
  funext ρ S
  rw [evK]
  unfold compA itA
  rw [bd_bd]
  congr 1
  funext ws S
  unfold itsA
  cases its k ws S with
  | none => rfl
  | some I => rfl
theorem ev_ds0 : evDs C [] = fun _ S => .ok [] S := by funext ρ S; rw [evDs]
theorem ev_ds {e : Ex} {r : List Ex} : evDs C (e :: r) = fun ρ S => (evD C e ρ S).bd fun d S => (evDs C r ρ S).bd fun ds S => .ok (d :: ds) S := by funext ρ S; rw [evDs]; try rfl
theorem ev_ws0 : evWs C [] = fun _ S => .ok [] S := by funext ρ S; rw [evWs]
theorem ev_ws {e : Ex} {r : List Ex} : evWs C (e :: r) = fun ρ S => (evK C e ρ S).bd fun d S => (evWs C r ρ S).bd fun ds S => .ok (d :: ds) S := by funext ρ S; rw [evWs]
theorem ev_cs0 : evCs C [] = fun _ S => .ok true S := by funext ρ S; rw [evCs]
theorem ev_cs1 {e : Ex} : evCs C [e] = evB C e := by
  funext ρ S
  rw [evCs]
  unfold evB
  cases h : (evK C e ρ S).bd toB with
  | ok b S' => cases b <;> (simp only [R.bd]; try rw [evCs]; try rfl)
  | ex c fs S => rfl
  | bad => rfl
end

section
variable {G : Gb} {C : Calls} {lev : Nat}
/-- what is known of the parts -/
def SE (G : Gb) (C : Calls) (lev : Nat) (rec : Ct → Expr → Option Ex) : Prop := ∀ {Wx : WX} {X : Cx} {c : Ct} {e : Expr} {x : Ex}, Good G C Wx lev X c → rec c e = some x → PE X e (tK G Wx (evK C x)) ∧ PT X e (tBo G Wx (evB C x))
variable {rec : Ct → Expr → Option Ex} {Wx : WX} {X : Cx} {c : Ct} {x : Ex} {pos : Pos}
theorem both {e : Expr} (h : PE X e (tK G Wx (evK C x))) (he : ∀ whole, isTrue e X.env whole = (do let v ← whole; standAt e.pos; holding [v] (truthy v)) := by intro _; rfl) : PE X e (tK G Wx (evK C x)) ∧ PT X e (tBo G Wx (evB C x)) := ⟨h, k_B h he⟩

theorem s_name {n : Str} (g : Good G C Wx lev X c) (h : eStep rec c (.Name n pos) = some x) : PE X (.Name n pos) (tK G Wx (evK C x)) ∧ PT X (.Name n pos) (tBo G Wx (evB C x)) := by
  dsimp only [eStep] at h
  by_cases hn : okName n = false
  · rw [if_pos hn] at h; cases h
  rw [if_neg hn] at h
  obtain ⟨n1, n2, n3⟩ := okName_of (by simpa using hn)
  by_cases hv : c.vis n = true
  · rw [if_pos hv] at h
    obtain ⟨i, hi, rfl⟩ := Option.map_eq_some_iff.mp h
    refine both ?_
    rw [ev_v]
    exact k_var (by rw [g.hN]; exact ixOf_get hi) (g.vis n hv) n1 n2
  · rw [if_neg hv] at h
    by_cases hg : c.glb n = true
    · rw [if_pos hg] at h
      cases hq : c.gl.lookup n with
      | none => simp only [hq] at h; cases h
      | some gg =>
        simp only [hq] at h
        cases gg with
        | fn i => cases h
        | exc k => cases h
        | cst d =>
          cases h
          obtain ⟨v, u, h1, h2, h3⟩ := g.cst n d hq
          refine both ?_
          rw [ev_c]
          exact k_const (pe_glob (g.glb n hg) h1 h2 n1) h3
    · rw [if_neg hg] at h; cases h
theorem s_const {k : Const} {kd : Nat} (h : eStep rec c (.Constant k kd pos) = some x) : PE X (.Constant k kd pos) (tK G Wx (evK C x)) ∧ PT X (.Constant k kd pos) (tBo G Wx (evB C x)) := by
  dsimp only [eStep] at h
  cases k <;> cases h <;> refine both ?_ <;> rw [ev_c]
  · exact k_const pe_non fun _ _ => by unfold Rp; rfl
  · exact k_const pe_bl fun _ _ => by unfold Rp; rfl
  · exact k_const pe_int fun _ _ => by unfold Rp; rfl
  · exact k_const pe_str fun _ _ => by unfold Rp; rfl

theorem s_un {op : UnaryOp} {a : Expr} (ih : SE G C lev rec) (g : Good G C Wx lev X c) (h : eStep rec c (.UnaryOp op a pos) = some x) : PE X (.UnaryOp op a pos) (tK G Wx (evK C x)) ∧ PT X (.UnaryOp op a pos) (tBo G Wx (evB C x)) := by
  dsimp only [eStep] at h
  cases op with
  | Not =>
    obtain ⟨y, hy, rfl⟩ := Option.map_eq_some_iff.mp h
    obtain ⟨i1, i2⟩ := ih g hy
    refine ⟨by rw [ev_not]; exact kv_not i1, ?_⟩
    have e : evB C (.not_ y) = fun ρ S => (evB C y ρ S).bd fun k S => .ok (!k) S := by
      funext ρ S
      unfold evB
      rw [ev_not, bd_bd]
      rfl
    rw [e]
    exact k_not i2
  | USub =>
    obtain ⟨y, hy, rfl⟩ := Option.map_eq_some_iff.mp h
    refine both ?_
    rw [ev_p1]
    exact k_neg o_neg (ih g hy).1
  | _ => cases h
theorem o_bin {op : Operator} {o : P2} (g : Good G C Wx lev X c) (h : binOf op = some o) : OpR X (binaryOp op) (rP2 G (p2 o)) := by
  cases op <;> cases h
  · exact o_add g.hK
  · exact o_sub
  · exact o_mul
  · exact o_mod
  · exact o_pow
  · exact o_fdiv
theorem o_cmp {op : CmpOp} {o : P2} (g : Good G C Wx lev X c) (h : cmpOf op = some o) : OpR X (compareOp op) (rP2 G (p2 o)) := by
  cases op <;> cases h
  · exact o_eq g.hK g.hu
  · exact o_ne g.hK g.hu
  · exact o_lt g.hK g.hu
  · exact o_le g.hK g.hu
  · exact o_gt g.hK g.hu
  · exact o_ge g.hK g.hu
  · exact o_in g.hK g.hu
  · exact o_nin g.hK g.hu
theorem s_bin {op : Operator} {a b : Expr} (ih : SE G C lev rec) (g : Good G C Wx lev X c) (h : eStep rec c (.BinOp a op b pos) = some x) : PE X (.BinOp a op b pos) (tK G Wx (evK C x)) ∧ PT X (.BinOp a op b pos) (tBo G Wx (evB C x)) := by
  dsimp only [eStep] at h
  split at h
  · rename_i o xa xb ho ha hb
    cases h
    refine both ?_
    rw [ev_p2]
    exact k_bin (o_bin g ho) (ih g ha).1 (ih g hb).1
  · cases h
theorem s_ite {t a b : Expr} (ih : SE G C lev rec) (g : Good G C Wx lev X c) (h : eStep rec c (.IfExp t a b pos) = some x) : PE X (.IfExp t a b pos) (tK G Wx (evK C x)) ∧ PT X (.IfExp t a b pos) (tBo G Wx (evB C x)) := by
  dsimp only [eStep] at h
  split at h
  · rename_i o xa xb ho ha hb
    cases h
    refine ⟨by rw [ev_ite]; exact k_ite (ih g ho).2 (ih g ha).1 (ih g hb).1, ?_⟩
    have e : evB C (.ite o xa xb) = fun ρ S => (evB C o ρ S).bd fun k S => if k = true then evB C xa ρ S else evB C xb ρ S := by
      funext ρ S
      rw [evB, ev_ite, bd_bd]
      congr 1
      funext k S
      cases k <;> rfl
    rw [e]
    refine ⟨fun pins s σ H Q I h => isTrue_IfExp (thn ((ih g ho).2.run pins s σ H (fun b H1 => if b = true then tBo G Wx (evB C xa) σ H1 Q else tBo G Wx (evB C xb) σ H1 Q) I ?_) ?_)⟩
    · refine tI.bd (F := fun k ρ S => if k = true then evB C xa ρ S else evB C xb ρ S) h fun φ ρ S b φ1 H1 x S1 R sl e R1 l h => ?_
      have l' : x = b := l
      subst l'
      cases x with
      | true => exact (if_pos rfl).mpr (tI.go R sl e R1 mnB h)
      | false => exact (if_neg Bool.false_ne_true).mpr (tI.go R sl e R1 mnB h)
    · rintro b s1 ⟨H1, I1, q⟩
      cases b with
      | true => exact (ih g ha).2.run pins s1 σ H1 Q I1 q
      | false => exact (ih g hb).2.run pins s1 σ H1 Q I1 q
  · cases h
theorem s_and {es : List Expr} {xs : List Ex} (ih : SE G C lev rec) (g : Good G C Wx lev X c) (h1 : mapO (rec c) es = some xs) (h : andE xs = some x) : PE X (.BoolOp .And es pos) (tK G Wx (evK C x)) ∧ L2.PW X (.BoolOp .And es pos) (tBo G Wx (evB C x)) := by
  induction es generalizing xs x with
  | nil => rw [mapO_nil h1] at h; cases h
  | cons e es ihe =>
    obtain ⟨y, ys, hy, hys, rfl⟩ := mapO_cons h1
    obtain ⟨i1, i2⟩ := ih g hy
    cases es with
    | nil =>
      rw [mapO_nil hys] at h
      cases h
      exact ⟨pe_one i1, k_and1 i2⟩
    | cons e2 es =>
      obtain ⟨z, zs, hz, hzs, rfl⟩ := mapO_cons hys
      obtain ⟨w, hw, rfl⟩ := Option.map_eq_some_iff.mp h
      obtain ⟨j1, j2⟩ := ihe hys hw
      refine ⟨by rw [ev_and]; exact kv_and i1 j1, ?_⟩
      have e : evB C (.and_ y w) = fun ρ S => (evB C y ρ S).bd fun k S => if k = true then evB C w ρ S else .ok false S := by
        funext ρ S
        rw [evB, ev_and, bd_bd]
        congr 1
        funext k S
        cases k <;> rfl
      rw [e]
      exact k_and i2 j2
theorem s_or {es : List Expr} {xs : List Ex} (ih : SE G C lev rec) (g : Good G C Wx lev X c) (h1 : mapO (rec c) es = some xs) (h : orE xs = some x) : PE X (.BoolOp .Or es pos) (tK G Wx (evK C x)) ∧ L2.PW X (.BoolOp .Or es pos) (tBo G Wx (evB C x)) := by
  induction es generalizing xs x with
  | nil => rw [mapO_nil h1] at h; cases h
  | cons e es ihe =>
    obtain ⟨y, ys, hy, hys, rfl⟩ := mapO_cons h1
    obtain ⟨i1, i2⟩ := ih g hy
    cases es with
    | nil =>
      rw [mapO_nil hys] at h
      cases h
      exact ⟨pe_one i1, k_or1 i2⟩
    | cons e2 es =>
      obtain ⟨z, zs, hz, hzs, rfl⟩ := mapO_cons hys
      obtain ⟨w, hw, rfl⟩ := Option.map_eq_some_iff.mp h
      obtain ⟨j1, j2⟩ := ihe hys hw
      refine ⟨by rw [ev_or]; exact kv_or i1 j1, ?_⟩
      have e : evB C (.or_ y w) = fun ρ S => (evB C y ρ S).bd fun k S => if k = true then .ok true S else evB C w ρ S := by
        funext ρ S
        rw [evB, ev_or, bd_bd]
        congr 1
        funext k S
        cases k <;> rfl
      rw [e]
      exact k_or i2 j2
theorem s_bool {op : BoolOp} {es : List Expr} (ih : SE G C lev rec) (g : Good G C Wx lev X c) (h : eStep rec c (.BoolOp op es pos) = some x) : PE X (.BoolOp op es pos) (tK G Wx (evK C x)) ∧ PT X (.BoolOp op es pos) (tBo G Wx (evB C x)) := by
  dsimp only [eStep] at h
  cases op with
  | And =>
    obtain ⟨xs, h1, h2⟩ := Option.bind_eq_some_iff.mp h
    obtain ⟨i1, i2⟩ := s_and (pos := pos) ih g h1 h2
    exact ⟨i1, i2.pt⟩
  | Or =>
    obtain ⟨xs, h1, h2⟩ := Option.bind_eq_some_iff.mp h
    obtain ⟨i1, i2⟩ := s_or (pos := pos) ih g h1 h2
    exact ⟨i1, i2.pt⟩
theorem s_args {es : List Expr} {xs : List Ex} (ih : SE G C lev rec) (g : Good G C Wx lev X c) (hs : es.any isStar = false) (h : mapO (rec c) es = some xs) : PA X es (tDs G Wx (evDs C xs)) := by
  induction es generalizing xs with
  | nil => rw [mapO_nil h, ev_ds0]; exact ka_nil
  | cons e es ihe =>
    obtain ⟨y, ys, hy, hys, rfl⟩ := mapO_cons h
    rw [List.any_cons, Bool.or_eq_false_iff] at hs
    rw [ev_ds]
    exact ka_cons (k_D (ih g hy).1) (ihe hs.2 hys) (star_cons hs.1)
theorem s_tup {es : List Expr} {k : Nat} (ih : SE G C lev rec) (g : Good G C Wx lev X c) (h : eStep rec c (.Tuple es k pos) = some x) : PE X (.Tuple es k pos) (tK G Wx (evK C x)) ∧ PT X (.Tuple es k pos) (tBo G Wx (evB C x)) := by
  dsimp only [eStep] at h
  by_cases hs : es.any isStar = true
  · rw [if_pos hs] at h; cases h
  rw [if_neg hs] at h
  obtain ⟨xs, hx, rfl⟩ := Option.map_eq_some_iff.mp h
  refine both ?_
  rw [ev_tup]
  exact k_tup (s_args ih g (by simpa using hs) hx)
theorem s_list {es : List Expr} (ih : SE G C lev rec) (g : Good G C Wx lev X c) (h : eStep rec c (.List es pos) = some x) : PE X (.List es pos) (tK G Wx (evK C x)) ∧ PT X (.List es pos) (tBo G Wx (evB C x)) := by
  dsimp only [eStep] at h
  by_cases hs : es.any isStar = true
  · rw [if_pos hs] at h; cases h
  rw [if_neg hs] at h
  obtain ⟨xs, hx, rfl⟩ := Option.map_eq_some_iff.mp h
  refine both ?_
  rw [ev_disp]
  exact k_disp (s_args ih g (by simpa using hs) hx)

theorem s_cmp {a : Expr} {ops : List CmpOp} {es : List Expr} (ih : SE G C lev rec) (g : Good G C Wx lev X c) (h : cmpStep rec c a ops es = some x) : PE X (.Compare a ops es pos) (tK G Wx (evK C x)) ∧ PT X (.Compare a ops es pos) (tBo G Wx (evB C x)) := by
  unfold cmpStep at h
  split at h
  · rename_i op b
    by_cases hs : isSet b = true
    · rw [if_pos hs] at h; cases h
    rw [if_neg hs] at h
    have hm : ∀ op, behindInMarks op b = false := fun op => behind_ok (by simpa using hs)
    split at h
    · obtain ⟨y, hy, rfl⟩ := Option.map_eq_some_iff.mp h
      have i1 := (ih g hy).1
      have im : ∀ σ H Q, tK G Wx (evK C (.p1 .isN y)) σ H Q → tOp (fun u v H Q => v = .non ∧ rP1 G (p1 .isN) u H Q) (tK G Wx (evK C y)) (tC .non) σ H Q := fun σ H Q q => by
        rw [ev_p1] at q
        exact tI.bd (F := fun x _ S => p1 .isN x S) q fun φ ρ S v φ1 H1 x S1 R sl e R1 l h => ⟨rfl, φ1, x, S1, _, R1, l.1, h.sh e R1 mnW⟩
      exact ⟨(pe_cmpR o_isN i1 pe_non (hm _)).im im, k_Bcmp o_isN i1 pe_non (hm _) im⟩
    · obtain ⟨y, hy, rfl⟩ := Option.map_eq_some_iff.mp h
      have i1 := (ih g hy).1
      have im : ∀ σ H Q, tK G Wx (evK C (.p1 .notN y)) σ H Q → tOp (fun u v H Q => v = .non ∧ rP1 G (p1 .notN) u H Q) (tK G Wx (evK C y)) (tC .non) σ H Q := fun σ H Q q => by
        rw [ev_p1] at q
        exact tI.bd (F := fun x _ S => p1 .notN x S) q fun φ ρ S v φ1 H1 x S1 R sl e R1 l h => ⟨rfl, φ1, x, S1, _, R1, l.1, h.sh e R1 mnW⟩
      exact ⟨(pe_cmpR o_notN i1 pe_non (hm _)).im im, k_Bcmp o_notN i1 pe_non (hm _) im⟩
    · split at h
      · rename_i o xa xb ho ha hb
        cases h
        refine ⟨by rw [ev_p2]; exact k_cmp (o_cmp g ho) (ih g ha).1 (ih g hb).1 (hm _), ?_⟩
        have e : evB C (.p2 o xa xb) = fun ρ S => ((evK C xa ρ S).bd fun x S => (evK C xb ρ S).bd fun y S => p2 o x y S).bd toB := by
          funext ρ S
          rw [evB, ev_p2]
        rw [e]
        exact k_cmpB (o_cmp g ho) (ih g ha).1 (ih g hb).1 (hm _)
      · cases h
  · rename_i op op' b d
    by_cases hs : isSet d = true
    · rw [if_pos hs] at h; cases h
    rw [if_neg hs] at h
    split at h
    · rename_i o o' xa xb xd ho ho' ha hb hd
      cases h
      have hm : lastMarks [op, op'] [b, d] = false := last_ok (by simpa using hs)
      refine ⟨by rw [ev_ch]; exact k_ch (o_cmp g ho) (o_cmp g ho') (ih g ha).1 (ih g hb).1 (ih g hd).1 hm, ?_⟩
      have e : evB C (.ch o o' xa xb xd) = fun ρ S => (evK C (.ch o o' xa xb xd) ρ S).bd toB := rfl
      rw [e, ev_ch]
      exact k_chB (o_cmp g ho) (o_cmp g ho') (ih g ha).1 (ih g hb).1 (ih g hd).1 hm
    · cases h
  · cases h
theorem ty1_of {e : Expr} {t : Ty} (h : ty1 c e = some t) : ∃ n p, e = .Name n p ∧ c.blt n = true ∧ tyOf n = some t := by
  unfold ty1 at h
  split at h
  · rename_i n p
    by_cases hb : c.blt n = true
    · rw [if_pos hb] at h; exact ⟨n, p, rfl, hb, h⟩
    · rw [if_neg hb] at h; cases h
  · cases h
theorem s_call {n : Str} {es : List Expr} {p : Pos} (ih : SE G C lev rec) (g : Good G C Wx lev X c) (h : callStep rec c n es = some x) : PE X (.Call (.Name n p) es [] pos) (tK G Wx (evK C x)) := by
  unfold callStep at h
  by_cases hk : (okName n && !es.any isStar) = false
  · rw [if_pos hk] at h; cases h
  rw [if_neg hk] at h
  simp only [Bool.not_eq_false, Bool.and_eq_true, Bool.not_eq_true'] at hk
  obtain ⟨hn, hs⟩ := hk
  by_cases hg : c.glb n = false
  · rw [if_pos hg] at h; cases h
  rw [if_neg hg] at h
  have hg : c.glb n = true := by simpa using hg
  split at h
  · rename_i i hi
    obtain ⟨xs, hx, rfl⟩ := Option.map_eq_some_iff.mp h
    rw [ev_call]
    refine k_call g hg hi hn hs (s_args ih g hs hx) fun e0 => ?_
    subst e0
    rw [mapO_nil hx, ev_ds0]
  · cases h
  · rename_i hi
    have hb : c.blt n = true := by
      unfold Ct.blt
      rw [hg, hi]; rfl
    split at h
    · rename_i a
      split at h
      · rename_i u v hz
        unfold zipArg at hz
        split at hz
        · rename_i y yp u' v' cpos
          by_cases e1 : n = ("list" : Str)
          · rw [if_pos e1] at hz
            by_cases e2 : y = ("zip" : Str)
            · rw [if_pos e2] at hz
              cases hz
              subst e1
              subst e2
              by_cases hk2 : (c.blt "zip" && !isStar u && !isStar v) = true
              · rw [if_pos hk2] at h
                simp only [Bool.and_eq_true, Bool.not_eq_true'] at hk2
                obtain ⟨⟨z1, z2⟩, z3⟩ := hk2
                split at h
                · rename_i xu xv hu hv
                  cases h
                  obtain ⟨l1, l2⟩ := blt_of g hb (by decide +kernel)
                  obtain ⟨m1, m2⟩ := blt_of g z1 (by decide +kernel)
                  rw [ev_p2]
                  exact k_lzip g.hK g.calm (g.glb _ l1) l2 (g.glb _ m1) m2 (ih g hu).1 (ih g hv).1 (star_cons z2) (star_cons z3) (star_any (by simp [z3]))
                · cases h
              · rw [if_neg hk2] at h; cases h
            · rw [if_neg e2] at hz; cases hz
          · rw [if_neg e1] at hz; cases hz
        · cases hz
      · split at h
        · rename_i o xa ho ha
          cases h
          obtain ⟨b1, b2, id, b3⟩ := b1_hc g ho
          rw [ev_p1]
          exact k_b1 g hb b1 b2 (by simpa using hs) (ih g ha).1 b3
        · cases h
    · rename_i a t
      by_cases hx : n = ("isinstance" : Str)
      · rw [if_pos hx] at h
        subst hx
        have hsa : isStar a = false := by
          rw [List.any_cons, Bool.or_eq_false_iff] at hs
          exact hs.1
        split at h
        · rename_i xa ts ha ht
          cases h
          rw [ev_isi]
          unfold tyE at ht
          split at ht
          · rename_i n2 p2
            obtain ⟨t, h1, rfl⟩ := Option.map_eq_some_iff.mp ht
            obtain ⟨n3, p3, e, q1, q2⟩ := ty1_of h1
            cases e
            exact k_isi1 g hb q1 q2 hsa (ih g ha).1
          · rename_i es2 k2 p2
            by_cases hl : es2.length ≤ 100
            · rw [if_pos hl] at ht
              refine k_isiT g hb ht ?_ hsa (ih g ha).1
              have : ∀ {es : List Expr} {ts : List Ty}, mapO (ty1 c) es = some ts → ts.length = es.length := by
                intro es
                induction es with
                | nil => intro ts h; rw [mapO_nil h]; rfl
                | cons e es ih =>
                  intro ts h
                  obtain ⟨b, bs, _, h2, rfl⟩ := mapO_cons h
                  rw [List.length_cons, List.length_cons, ih h2]
              rw [this ht]
              exact hl
            · rw [if_neg hl] at ht; cases ht
          · cases ht
        · cases h
      · rw [if_neg hx] at h
        rw [List.any_cons, List.any_cons, List.any_nil, Bool.or_false, Bool.or_eq_false_iff] at hs
        split at h
        · rename_i o xa xb ho ha hb2
          cases h
          obtain ⟨b1, b2, i, b3, b4⟩ := b2_hc g ho
          rw [ev_p2]
          exact k_b2 g hb b1 b2 hs.1 hs.2 (ih g ha).1 (ih g hb2).1 b3 b4
        · cases h
    · cases h
theorem s_part (ih : SE G C lev rec) (g : Good G C Wx lev X c) : ∀ {o : Option Expr} {l : List Ex}, optE (rec c) o = some l → ∃ t, PO X o t ∧ ∀ {σ : L2.St} {H : Hp} {Q : Option Int → Hp → Prop}, tI G Wx (fun H φ1 H1 (w : Option Int) (v : Option Int) => w = v) (fun ρ S => (evWs C l ρ S).bd partI) σ H Q → t σ H Q := by
  intro o l h
  cases o with
  | none =>
    cases h
    refine ⟨_, po_none, fun {σ H Q} q => ?_⟩
    obtain ⟨φ, ρ, S, R, sl, q⟩ := q
    dsimp only at q
    rw [ev_ws0] at q
    exact q none H φ (Ext.refl _ _) R rfl
  | some e =>
    obtain ⟨y, hy, rfl⟩ := Option.map_eq_some_iff.mp h
    refine ⟨_, po_some (ih g hy).1, fun {σ H Q} q => ?_⟩
    have e : (fun ρ S => (evWs C [y] ρ S).bd partI) = fun ρ S => (evK C y ρ S).bd fun w S => partI [w] S := by
      funext ρ S
      rw [ev_ws, bd_bd, ev_ws0]
      rfl
    rw [e] at q
    refine tI.bd (F := fun w _ S => partI [w] S) q fun φ ρ S v φ1 H1 w S1 R sl e R1 l h => ?_
    cases w with
    | lis ds => exact h.elim
    | val d =>
      cases d with
      | int i =>
        have e2 := rp_int l.1
        exact ⟨i, e2, h (some i) H1 φ1 e R1 rfl⟩
      | _ => exact h.elim
/-! ### u[lo:v + w].replace(y, z) -/
theorem peo_slice {r : V → Option Int → Option Int → Hp → VK → Prop} {e v w : Expr} {lo : Option Expr} {te tv tw : TE} {tl : TO} {p2 p3 : Pos} (hr : SlR X r) (he : PE X e te) (hl : PO X lo tl) (hv : PE X v tv) (hw : PE X w tw)
    {pins : List (Addr × Obj)} {s : Shared} {σ : L2.St} {H : Hp} {Q : VK} (I : L2.Inv X pins σ H s)
    (h : te σ H fun x H1 => tl σ H1 fun l H2 => tv σ H2 fun y H3 => tw σ H3 fun z H4 => ∃ i j, y = .int i ∧ z = .int j ∧ r x l (some (i + j)) H4 Q) :
    wpAny (model X.prog X.w) X.A (eval (.Subscript e (.Slice lo (some (.BinOp v .Add w p3)) none p2) pos) X.env) (fun v s' => 1 ≤ s'.toks ∧ EP X pins σ Q v s') X.xe s := by
  refine Subscript_ (thn (he.run pins s σ H _ I h) fun vx s1 ⟨x, H1, I1, r1, q1⟩ => ?_)
  refine wpAny_Slice (thn (hl.run pins s1 σ H1 _ I1 q1) fun vl s2 ⟨l, H2, I2, pl, q2⟩ => ?_)
  rw [evalPart_some]
  refine wpAny_BinOp (thn (hv.run pins s2 σ H2 _ I2 q2) fun vy s3 ⟨y, H3, I3, r3, q3⟩ => thn (hw.run pins s3 σ H3 _ I3 q3) fun vz s4 ⟨z, H4, I4, r4, q4⟩ => ?_)
  obtain ⟨i, j, rfl, rfl, q5⟩ := q4
  obtain ⟨t3, rfl⟩ := r3
  obtain ⟨t4, rfl⟩ := r4
  refine PySem.P.add_int ?_
  rw [evalPart_none]
  refine wpAny_pure ?_
  have I5 : L2.Inv X pins σ H4 { s4 with toks := s4.toks + 1 } := I4.tok _
  have I6 : L2.Inv X pins σ H4 { s4 with toks := s4.toks + 1, heap := s4.heap.push { cls := .type "slice", data := .fields #[vl, .int (i + j) s4.toks, .none] } } := I5.kept (t' := s4.toks + 1) fun b ob q => Heap.get?_push_of_some _ q
  obtain ⟨T, id, hT, ht, hg⟩ := hr pins { s4 with toks := s4.toks + 1, heap := s4.heap.push { cls := .type "slice", data := .fields #[vl, .int (i + j) s4.toks, .none] } } σ H4 x vx vl (.int (i + j) s4.toks) l (some (i + j)) s4.heap.objs.size Q I6 r1 (Heap.IsSliceOf.new ..) pl (.int (i + j) s4.toks) q5
  show wpAny (model X.prog X.w) X.A (subscriptTail e (.Slice lo (some (.BinOp v .Add w p3)) none p2) vx (.ref s4.heap.objs.size)) _ X.xe { s4 with toks := s4.toks + 1, heap := s4.heap.push { cls := .type "slice", data := .fields #[vl, .int (i + j) s4.toks, .none] } }
  exact wpAny_mono (PySem.wpAny_toks_of (n := 1) (by show 1 ≤ s4.toks + 1; omega) (tail_any (ops := [.ref s4.heap.objs.size, vx]) ht hT hg (by with_unfolding_all rfl))) (fun _ _ q => q) fun _ _ q => q.2
theorem s_repl {o a b : Expr} {m : Str} {apos : Pos} (ih : SE G C lev rec) (g : Good G C Wx lev X c) (hl : (apos.endLine == pos.line) = true) (h : replStep rec c o m a b = some x) : PE X (.Call (.Attribute o m apos) [a, b] [] pos) (tK G Wx (evK C x)) := by
  unfold replStep at h
  split at h
  · rename_i u lo v w p3 p2 p1 y j0 c0 z j1 c1
    by_cases hk : (decide (m = ("replace" : Str)) && !(y == z)) = true
    · rw [if_pos hk] at h
      simp only [Bool.and_eq_true, decide_eq_true_eq, Bool.not_eq_true'] at hk
      obtain ⟨hm, hyz⟩ := hk
      subst hm
      split at h
      · rename_i xu xlo xv xw hu hlo hv hw
        cases h
        obtain ⟨tl, pl, il⟩ := s_part ih g hlo
        refine ⟨fun pins s σ H Q I q => ?_⟩
        rw [ev_repl] at q
        have q2 : tK G Wx (evK C xu) σ H fun v H1 => tl σ H1 fun l H2 => tK G Wx (evK C xv) σ H2 fun y3 H3 => tK G Wx (evK C xw) σ H3 fun z4 H4 => ∃ i j, y3 = .int i ∧ z4 = .int j ∧ rSl G v l (some (i + j)) H4 fun r H5 => ∃ r', r = .str r' ∧ r'.length + (r'.length + 1) * z.length ≤ 16777216 ∧ Q (.str (Txt.replace r' y z)) H5 := by
          refine tI.bd (F := fun x ρ S => ((evWs C xlo ρ S).bd partI).bd fun l S => (evK C xv ρ S).bd fun p S => (evK C xw ρ S).bd fun q S => replC x l p q y z S) q fun φ ρ S v φ1 H1 w1 S1 R sl e R1 l1 h1 => ?_
          refine il (tI.next (L := fun H φ1 H1 (w : Option Int) (v : Option Int) => w = v) (F := fun l S => (evK C xv ρ S).bd fun p S => (evK C xw ρ S).bd fun q S => replC w1 l p q y z S) R sl e R1 h1 fun l H2 φ2 l' S2 e2 R2 l2 h2 => ?_)
          have l2 : l' = l := l2
          subst l2
          refine tI.next (F := fun p S => (evK C xw ρ S).bd fun q S => replC w1 l' p q y z S) R sl (e.trans e2) R2 h2 fun vy H3 φ3 wy S3 e3 R3 l3 h3 => ?_
          refine tI.next (F := fun q S => replC w1 l' wy q y z S) R sl ((e.trans e2).trans e3) R3 h3 fun vz H4 φ4 wz S4 e4 R4 l4 h4 => ?_
          unfold replC at h4
          split at h4
          · rename_i i j
            refine ⟨i, j, rp_int l3.1, rp_int l4.1, φ4, w1, S4, fun c d H' => Wx c d σ H', R4, RpW.mono ((e2.trans e3).trans e4) R1 l1.1, ?_⟩
            refine (Post.bd (L := RlW G) (h4.sh (((e.trans e2).trans e3).trans e4) R4 mnW)).mono fun r H5 ⟨φ5, w5, S5, _, e5, R5, l5, h5⟩ => ?_
            unfold replW at h5
            split at h5
            · rename_i r' _
              by_cases hc : r'.length + (r'.length + 1) * z.length ≤ 16777216
              · rw [if_pos hc] at h5
                exact ⟨r', rp_str l5.1, hc, h5 _ _ _ e5 R5 (rl_val rp_st)⟩
              · rw [if_neg hc] at h5; exact h5.elim
            · exact h5.elim
          · exact h4.elim
        refine PySem.Call_method2 (base_ok rfl) (by rfl) hl (wpAny_mono (peo_slice (o_sl g.hK) (ih g hu).1 pl (ih g hv).1 (ih g hw).1 I q2) (fun vo s1 qo => ?_) fun _ _ z => z)
        obtain ⟨hk, v', H1, I1, r1, r', e1, hb, qo⟩ := qo
        subst e1
        obtain ⟨tx, e2⟩ := r1
        subst e2
        refine ⟨"str", _, F.plainAttrs_str, F.slot_str_replace, F.type_str_replace, typeIs_str _ _ _, (fun _ e => nomatch e), Calls.callWith_builtin rfl (Calls.evalArgs_plain (Calls.spliced_cons ?_))⟩
        refine Calls.Constant_str (Calls.spliced_cons (Calls.Constant_str (Calls.spliced_nil ?_)))
        exact PySem.SC.replace (by show s1.toks ≠ 0; omega) (by show s1.toks + 1 ≠ 0; omega) (by show s1.toks ≠ s1.toks + 1; omega) hyz hb fun t' k => ⟨.str (Txt.replace r' y z), H1, I1.tok k, ⟨t', rfl⟩, qo⟩
      · cases h
    · rw [if_neg hk] at h; cases h
  · cases h
/-! ### f-strings -/
theorem rfmt {φ : List Addr} {H : Hp} {S : Store} {w : W} {v : V} {xk : XK} {Q : VK} (R : Rel G φ H S) (r : RpW G φ H w v) (h : Post G (RlW G) φ H (p1 .fmt w S) xk Q) :
    (∃ y : Str, v = .str y ∧ y.length ≤ sizeLine ∧ Q (.str y) H) ∨ ∃ i : Int, v = .int i ∧ i.natAbs.log2 < 1920 ∧ Q (.str (toString i)) H := by
  unfold p1 at h
  dsimp only at h
  split at h
  · rename_i y
    by_cases hc : y.length ≤ sizeLine
    · rw [if_pos hc] at h; exact .inl ⟨y, rp_str r, hc, vv_ok R h rp_st⟩
    · rw [if_neg hc] at h; exact h.elim
  · rename_i i
    by_cases hc : i.natAbs.log2 < 1920
    · rw [if_pos hc] at h; exact .inr ⟨i, rp_int r, hc, vv_ok R h rp_st⟩
    · rw [if_neg hc] at h; exact h.elim
  · exact h.elim
theorem s_fmt {e : Expr} {y : Ex} (ih : SE G C lev rec) (g : Good G C Wx lev X c) (h : fmtStep rec c e = some y) : PE X e (tK G Wx (evK C y)) := by
  unfold fmtStep at h
  split at h
  · obtain ⟨z, hz, rfl⟩ := Option.map_eq_some_iff.mp h
    rw [ev_p1]
    refine (pe_fmt (ih g hz).1).im fun σ H Q q => ?_
    exact tI.bd (F := fun w _ S => p1 .fmt w S) q fun φ ρ S v φ1 H1 w S1 R sl e R1 l h => rfmt R1 l.1 (h.sh e R1 mnW)
  · cases h
    rw [ev_c]
    exact k_const pe_str fun _ _ => by unfold Rp; rfl
  · cases h
theorem s_fmts (ih : SE G C lev rec) (g : Good G C Wx lev X c) : ∀ {es : List Expr} {xs : List Ex}, mapO (fmtStep rec c) es = some xs →
    ∃ ts, PJ X es ts ∧ ∀ (acc : Str) (σ : L2.St) (H : Hp) (Q : VK), tK G Wx (fun ρ S => evJ C xs ρ S acc) σ H Q → tJs ts acc σ H fun out H1 => Q (.str out) H1
  | [], xs, h => by
    rw [mapO_nil h]
    refine ⟨[], .nil, fun acc σ H Q q => ?_⟩
    rw [ev_j0] at q
    obtain ⟨φ, ρ, S, R, sl, q⟩ := q
    exact vv_ok R q rp_st
  | e :: es, xs, h => by
    obtain ⟨y, ys, h1, h2, rfl⟩ := mapO_cons h
    obtain ⟨ts, hp, hq⟩ := s_fmts ih g h2
    refine ⟨_ :: ts, .cons (s_fmt ih g h1) hp, fun acc σ H Q q => ?_⟩
    rw [ev_j] at q
    refine tI.bd (F := fun w ρ S => match w with
      | .val (.str y) => if (acc ++ y).length ≤ sizeLine then evJ C ys ρ S (acc ++ y) else .bad
      | _ => .bad) q fun φ ρ S v φ1 H1 w S1 R sl e R1 l h => ?_
    split at h
    · rename_i z
      by_cases hc : (acc ++ z).length ≤ sizeLine
      · rw [if_pos hc] at h
        exact ⟨z, rp_str l.1, hc, hq _ _ _ _ (tI.go (A := fun ρ S => evJ C ys ρ S (acc ++ z)) R sl e R1 mnW h)⟩
      · rw [if_neg hc] at h; exact h.elim
    · exact h.elim
theorem ev_m2 {k : MK} {o : P3} {a b c : Ex} : evK C (.m2 k o a b c) = fun ρ S => (evK C a ρ S).bd fun x S => if k.is S x = true then (evK C b ρ S).bd fun y S => (evK C c ρ S).bd fun z S => p3 o x y z S else .bad := by funext ρ S; rw [evK]
theorem is_dict {φ : List Addr} {H : Hp} {S : Store} {w : W} {v : V} (R : Rel G φ H S) (r : RpW G φ H w v) (h : MK.dict.is S w = true) : ∃ n a, w = .val (.ref n) ∧ v = .ref a ∧ φ[n]? = some a ∧ IsD H a := by
  cases w with
  | lis ds => cases h
  | val d =>
  cases d <;> try cases h
  rename_i k
  unfold MK.is at h
  dsimp only at h
  split at h
  · rename_i kvs hs
    unfold RpW Rp at r
    obtain ⟨a, rfl, ha⟩ := r
    obtain ⟨vs, h1, _⟩ := R.obj k a _ ha hs
    exact ⟨k, a, rfl, rfl, ha, .inl ⟨vs, .inl h1⟩⟩
  · rename_i kvs hs
    unfold RpW Rp at r
    obtain ⟨a, rfl, ha⟩ := r
    obtain ⟨vs, h1, _⟩ := R.obj k a _ ha hs
    exact ⟨k, a, rfl, rfl, ha, .inr ⟨vs, .inl h1⟩⟩
  · cases h
theorem s_get {o a b : Expr} {xo xa xb : Ex} {apos : Pos} (ih : SE G C lev rec) (g : Good G C Wx lev X c) (hl : (apos.endLine == pos.line) = true) (hbs : baseOk o = true) (h1 : isStar a = false) (h2 : isStar b = false) (ho : rec c o = some xo) (ha : rec c a = some xa) (hb : rec c b = some xb) :
    PE X (.Call (.Attribute o "get" apos) [a, b] [] pos) (tK G Wx (evK C (.m2 .dict .get2 xo xa xb))) := by
  rw [ev_m2]
  refine (pe_dget2 (by have := g.hu; omega) (ih g ho).1 (ih g ha).1 (ih g hb).1 ⟨base_ok hbs, by rw [star_cons h1, star_cons h2]; rfl, hl, by rw [star_cons h1, star_cons h2]; rfl⟩).im fun σ H Q q => ?_
  refine tI.bd (F := fun x ρ S => if MK.dict.is S x = true then (evK C xa ρ S).bd fun y S => (evK C xb ρ S).bd fun z S => p3 .get2 x y z S else .bad) q fun φ ρ S v φ1 H1 x S1 R sl e R1 l h => ?_
  by_cases cc : MK.dict.is S1 x = true
  · rw [if_pos cc] at h
    obtain ⟨n, p, rfl, rfl, hp, hd⟩ := is_dict R1 l.1 cc
    refine ⟨p, rfl, hd, ?_⟩
    refine tI.next R sl e R1 h fun u H2 φ2 y S2 e2 R2 l2 h2 => ?_
    refine tI.next R sl (e.trans e2) R2 h2 fun u3 H3 φ3 z S3 e3 R3 l3 h3 => ?_
    unfold p3 at h3
    dsimp only at h3
    split at h3
    · rename_i n' k d en
      cases en
      split at h3
      · rename_i r hr
        obtain ⟨ov, g1, g2⟩ := look_dget R3 ((e2.trans e3).get hp) (Rp.mono (e3.toKeep R2) _ _ l2.1) hr
        refine ⟨ov, g1, h3.ok ((e.trans e2).trans e3) R3 (rl_val ?_)⟩
        cases r with
        | none =>
          have g2 : ov = none := g2
          subst g2
          exact l3.1
        | some d' =>
          obtain ⟨w, rfl, g2⟩ := g2
          exact g2
      · exact h3.elim
    · exact h3.elim
  · rw [if_neg cc] at h; exact h.elim
theorem s_meth {o : Expr} {m : Str} {es : List Expr} {apos : Pos} (ih : SE G C lev rec) (g : Good G C Wx lev X c) (hl : (apos.endLine == pos.line) = true) (h : methStep rec c o m es = some x) : PE X (.Call (.Attribute o m apos) es [] pos) (tK G Wx (evK C x)) := by
  unfold methStep at h
  by_cases hk : (baseOk o && !es.any isStar) = false
  · rw [if_pos hk] at h; cases h
  rw [if_neg hk] at h
  simp only [Bool.not_eq_false, Bool.and_eq_true, Bool.not_eq_true'] at hk
  obtain ⟨hb, hs⟩ := hk
  split at h
  · split at h
    · rename_i k p xo hm ho
      cases h
      rw [ev_m0]
      unfold m0Of at hm
      split at hm
      · rename_i e; subst e; cases hm
        exact k_m0 "list" F.plainAttrs_list F.slot_list_pop F.type_list_pop m_pop (fun φ H S w x R r q => is_list g.hK R r q) (ih g ho).1 hb hl
      · cases hm
    · cases h
  · rename_i a
    have hsa : isStar a = false := by simpa using hs
    split at h
    · rename_i k p xo xa hm ho ha
      cases h
      rw [ev_m1]
      unfold m1Of at hm
      split at hm
      · rename_i e; subst e; cases hm
        exact k_m1 "list" F.plainAttrs_list F.slot_list_append F.type_list_append m_append (fun φ H S w x R r q => is_list g.hK R r q) (ih g ho).1 (ih g ha).1 hsa hb hl
      split at hm
      · rename_i e; subst e; cases hm
        exact k_m1 "list" F.plainAttrs_list F.slot_list_extend F.type_list_extend (m_extend g.hK) (fun φ H S w x R r q => is_list g.hK R r q) (ih g ho).1 (ih g ha).1 hsa hb hl
      split at hm
      · rename_i e; subst e; cases hm
        exact k_m1 "str" F.plainAttrs_str F.slot_str_join F.type_str_join (m_join g.hK) (fun φ H S w x R r q => is_str r q) (ih g ho).1 (ih g ha).1 hsa hb hl
      split at hm
      · rename_i e; subst e; cases hm
        exact k_m1 "str" F.plainAttrs_str F.slot_str_split F.type_str_split m_split (fun φ H S w x R r q => is_str r q) (ih g ho).1 (ih g ha).1 hsa hb hl
      · cases hm
    · cases h
  · rename_i a b
    by_cases hm : m = ("get" : Str)
    · rw [if_pos hm] at h
      subst hm
      split at h
      · rename_i xo xa xb ho ha hb2
        cases h
        simp at hs
        exact s_get ih g hl hb hs.1 hs.2 ho ha hb2
      · cases h
    · rw [if_neg hm] at h
      exact s_repl ih g hl h
  · cases h

theorem s_ix {a b : Expr} (ih : SE G C lev rec) (g : Good G C Wx lev X c) (h : eStep rec c (.Subscript a b pos) = some x) : PE X (.Subscript a b pos) (tK G Wx (evK C x)) := by
  by_cases hb : isSlice b = true
  · cases b <;> try cases hb
    rename_i lo hi st p2
    cases st with
    | some st => dsimp only [eStep] at h; cases h
    | none =>
      dsimp only [eStep] at h
      split at h
      · rename_i xa l u ha hl hu
        cases h
        obtain ⟨tl, pl, il⟩ := s_part ih g hl
        obtain ⟨tu, pu, iu⟩ := s_part ih g hu
        refine (pe_slice (o_sl g.hK) (ih g ha).1 pl pu).im fun σ H Q q => ?_
        rw [ev_sl] at q
        refine tI.bd (F := fun x ρ S => ((evWs C l ρ S).bd partI).bd fun i S => ((evWs C u ρ S).bd partI).bd fun j S => cutW x i j S) q fun φ ρ S v φ1 H1 x S1 R sl e R1 lx h => ?_
        refine il (tI.next (L := fun H φ1 H1 (w : Option Int) (v : Option Int) => w = v) (F := fun i S => ((evWs C u ρ S).bd partI).bd fun j S => cutW x i j S) R sl e R1 h fun i H2 φ2 i' S2 e2 R2 l2 h2 => ?_)
        have l2 : i' = i := l2
        subst l2
        refine iu (tI.next (L := fun H φ1 H1 (w : Option Int) (v : Option Int) => w = v) (F := fun j S => cutW x i' j S) R sl (e.trans e2) R2 h2 fun j H3 φ3 j' S3 e3 R3 l3 h3 => ?_)
        have l3 : j' = j := l3
        subst l3
        exact ⟨φ3, x, S3, _, R3, RpW.mono (e2.trans e3) R1 lx.1, h3.sh ((e.trans e2).trans e3) R3 mnW⟩
      · cases h
  · have hb : isSlice b = false := by simpa using hb
    have h : (match rec c a, rec c b with | some a, some b => some (Ex.p2 .ix a b) | _, _ => none) = some x := by
      cases b <;> first | exact h | cases hb
    split at h
    · rename_i xa xb ha hb2
      cases h
      rw [ev_p2]
      exact k_ix (o_ix g.hK g.hu) (ih g ha).1 (ih g hb2).1 (plainIx_ok hb)
    · cases h

/-! ### what is walked, comprehensions -/
theorem ita_1 {k : IK} {a : Ex} : itA C k [a] = fun ρ S => (evK C a ρ S).bd fun w S => itsA k [w] S := by
  funext ρ S
  unfold itA
  rw [ev_ws, bd_bd, ev_ws0]
  rfl
theorem ita_2 {k : IK} {a b : Ex} : itA C k [a, b] = fun ρ S => (evK C a ρ S).bd fun w S => (evK C b ρ S).bd fun w2 S => itsA k [w, w2] S := by
  funext ρ S
  unfold itA
  simp only [ev_ws, ev_ws0, bd_bd]
  rfl
theorem ita_3 {k : IK} {a b d : Ex} : itA C k [a, b, d] = fun ρ S => (evK C a ρ S).bd fun w S => (evK C b ρ S).bd fun w2 S => (evK C d ρ S).bd fun w3 S => itsA k [w, w2, w3] S := by
  funext ρ S
  unfold itA
  simp only [ev_ws, ev_ws0, bd_bd]
  rfl
theorem s_it {tg e : Expr} {k : IK} {is : List Ex} (ih : SE G C lev rec) (g : Good G C Wx lev X c) (h : iStep rec c e = some (k, is)) (ht : tupT k tg = true) : PI X tg e (tIts G Wx (itA C k is)) := by
  have plain : ∀ {e : Expr}, (rec c e).map (fun a => (IK.it, [a])) = some (k, is) → PI X tg e (tIts G Wx (itA C k is)) := by
    intro e h
    obtain ⟨y, hy, q⟩ := Option.map_eq_some_iff.mp h
    cases q
    rw [ita_1]
    exact ki_it (ih g hy).1 g.hK
  unfold iStep at h
  split at h
  · rename_i n p es kw pos
    by_cases hb : (c.blt n && kw.isEmpty) = true
    · rw [if_pos hb] at h
      rw [Bool.and_eq_true] at hb
      obtain ⟨hb, hkw⟩ := hb
      cases kw with
      | cons _ _ => cases hkw
      | nil =>
      by_cases h1 : n = ("range" : Str)
      · rw [if_pos h1] at h
        subst h1
        obtain ⟨hg, hm⟩ := blt_of g hb (by decide +kernel)
        split at h
        · rename_i a
          by_cases hs : isStar a = true
          · rw [if_pos hs] at h; cases h
          rw [if_neg hs] at h
          obtain ⟨y, hy, q⟩ := Option.map_eq_some_iff.mp h
          cases q
          rw [ita_1]
          exact ki_rng1 (g.glb _ hg) hm (ih g hy).1 (star_cons (by simpa using hs))
        · rename_i a b
          by_cases hs : (isStar a || isStar b) = true
          · rw [if_pos hs] at h; cases h
          rw [if_neg hs] at h
          simp only [Bool.not_eq_true, Bool.or_eq_false_iff] at hs
          split at h
          · rename_i xa xb ha hb2
            cases h
            rw [ita_2]
            have e1 : starEach [b] X.env = [(false, eval b X.env)] := star_cons hs.2
            exact ki_rng2 (g.glb _ hg) hm (ih g ha).1 (ih g hb2).1 (by rw [star_cons hs.1, e1]) e1
          · cases h
        · rename_i a b d
          by_cases hs : (isStar a || isStar b || isStar d) = true
          · rw [if_pos hs] at h; cases h
          rw [if_neg hs] at h
          simp only [Bool.not_eq_true, Bool.or_eq_false_iff] at hs
          split at h
          · rename_i xa xb xd ha hb2 hd
            cases h
            rw [ita_3]
            exact ki_rng3 (g.glb _ hg) hm (ih g ha).1 (ih g hb2).1 (ih g hd).1 (star_cons hs.1.1) (star_cons hs.1.2) (star_cons hs.2) (star_any (by simp [hs.1.2, hs.2]))
          · cases h
        · cases h
      rw [if_neg h1] at h
      by_cases h2 : n = ("zip" : Str)
      · rw [if_pos h2] at h
        subst h2
        obtain ⟨hg, hm⟩ := blt_of g hb (by decide +kernel)
        split at h
        · rename_i a b
          by_cases hs : (isStar a || isStar b) = true
          · rw [if_pos hs] at h; cases h
          rw [if_neg hs] at h
          simp only [Bool.not_eq_true, Bool.or_eq_false_iff] at hs
          split at h
          · rename_i xa xb ha hb2
            cases h
            rw [ita_2]
            cases tg <;> try cases ht
            exact ki_zip (g.glb _ hg) hm (ih g ha).1 (ih g hb2).1 g.hK (star_cons hs.1) (star_cons hs.2) (star_any (by simp [hs.2]))
          · cases h
        · cases h
      rw [if_neg h2] at h
      by_cases h3 : n = ("enumerate" : Str)
      · rw [if_pos h3] at h
        subst h3
        obtain ⟨hg, hm⟩ := blt_of g hb (by decide +kernel)
        split at h
        · rename_i a
          by_cases hs : isStar a = true
          · rw [if_pos hs] at h; cases h
          rw [if_neg hs] at h
          obtain ⟨y, hy, q⟩ := Option.map_eq_some_iff.mp h
          cases q
          rw [ita_1]
          cases tg <;> try cases ht
          exact ki_enm (g.glb _ hg) hm (ih g hy).1 g.hK (star_cons (by simpa using hs))
        · cases h
      rw [if_neg h3] at h
      by_cases h4 : n = ("reversed" : Str)
      · rw [if_pos h4] at h
        subst h4
        obtain ⟨hg, hm⟩ := blt_of g hb (by decide +kernel)
        split at h
        · rename_i a
          by_cases hs : isStar a = true
          · rw [if_pos hs] at h; cases h
          rw [if_neg hs] at h
          obtain ⟨y, hy, q⟩ := Option.map_eq_some_iff.mp h
          cases q
          rw [ita_1]
          exact ki_rev (g.glb _ hg) hm (ih g hy).1 g.hK (star_cons (by simpa using hs))
        · cases h
      rw [if_neg h4] at h
      exact plain h
    · rw [if_neg hb] at h
      exact plain h
  · by_cases hs : isSet e = true
    · rw [if_pos hs] at h; cases h
    · rw [if_neg hs] at h; exact plain h
theorem s_tg {tg : Expr} {t : Tg} (g : Good G C Wx lev X c) (h : tgE c tg = some t) : PG X tg (gTg G.K t) := by
  unfold tgE at h
  split at h
  · rename_i n p
    by_cases hl : c.loc n = true
    · rw [if_pos hl] at h
      obtain ⟨i, hi, rfl⟩ := Option.map_eq_some_iff.mp h
      obtain ⟨l1, l2⟩ := g.loc n hl
      exact pg_name (by rw [g.hN]; exact g.nd) (by rw [g.hN]; exact ixOf_get hi) l1 l2
    · rw [if_neg hl] at h; cases h
  · rename_i es k p
    obtain ⟨is, hi, rfl⟩ := Option.map_eq_some_iff.mp h
    have many : ∀ {es : List Expr} {is : List Nat}, mapO (fun e => match e with | Expr.Name x _ => if c.loc x = true then ixOf c.N x else none | _ => none) es = some is →
        PGs X es (gNames is) ∧ (assignEach es X.env).length = is.length ∧ (assignEach es X.env).findIdx? (·.1) = none := by
      intro es
      induction es with
      | nil => intro is h; rw [mapO_nil h]; exact ⟨pgs_nil, rfl, rfl⟩
      | cons e es ihe =>
        intro is h
        obtain ⟨i, is, h1, h2, rfl⟩ := mapO_cons h
        obtain ⟨j1, j2, j3⟩ := ihe h2
        cases e with
        | Name n p =>
          dsimp only at h1
          by_cases hl : c.loc n = true
          · rw [if_pos hl] at h1
            obtain ⟨l1, l2⟩ := g.loc n hl
            have p1 : PG X (.Name n p) (gName i) := pg_name (by rw [g.hN]; exact g.nd) (by rw [g.hN]; exact ixOf_get h1) l1 l2
            refine ⟨pgs_cons p1 j1 rfl, ?_, ?_⟩
            · show (_ :: assignEach es X.env).length = _
              rw [List.length_cons, List.length_cons, j2]
            · show ((false, _) :: assignEach es X.env).findIdx? (·.1) = none
              rw [List.findIdx?_cons, j3]
              rfl
          · rw [if_neg hl] at h1; cases h1
        | _ => cases h1
    obtain ⟨m1, m2, m3⟩ := many hi
    unfold gTg
    rw [← g.hK]
    exact pg_tup g.calm m1 m2 m3
  · cases h
theorem comp_parts {elt tg iter : Expr} {ifs : List Expr} {sc : Scope} (ih : SE G C lev rec) (g : Good G C Wx lev X c) (h : compStep rec c elt tg iter ifs sc = some x) :
    ∃ t k is cs y own, x = .comp t k is cs y (own.map (·.2)) ∧ tgE ⟨c.N, c.gl, sc⟩ tg = some t ∧ PI X tg iter (tIts G Wx (itA C k is)) ∧ BlkOk X.N X.env.scope sc own ∧
      (∀ (s : Shared) (H : Hp) (Ca : Addr) (cl : List (Str × Addr)) (fp : List Addr), PG (X.blk s H sc (compEnvC sc cl Ca X.env) fp) tg (gTg G.K t)) ∧
      (∀ (s : Shared) (H : Hp) (Ca : Addr) (cl : List (Str × Addr)) (fp : List Addr), PTs (X.blk s H sc (compEnvC sc cl Ca X.env) fp) ifs (tBo G WxF (evCs C cs))) ∧
      (∀ (s : Shared) (H : Hp) (Ca : Addr) (cl : List (Str × Addr)) (fp : List Addr), PE (X.blk s H sc (compEnvC sc cl Ca X.env) fp) elt (tD G WxF (evD C y))) ∧
      (∀ y, foldedSetIterable iter X.env y = pure y) ∧ ∀ i ∈ t.slots, i ∈ own.map (·.2) := by
  unfold compStep at h
  by_cases hb : (blkC c.N c.sc sc (ownE c.N sc) && !isSet iter) = true
  · rw [if_pos hb] at h
    rw [Bool.and_eq_true] at hb
    obtain ⟨hb, hset⟩ := hb
    have B := blkOk_by hb
    have B : BlkOk X.N X.env.scope sc (ownE c.N sc) := ⟨B.kind, B.uniq, by rw [g.hN]; exact B.ix, fun y hy e => g.cf _ (B.free y hy e), by rw [g.hN]; exact B.own⟩
    split at h
    · rename_i t k is e ht hi he
      by_cases hk : (tupT k tg && t.slots.all fun i => decide (i ∈ (ownE c.N sc).map (·.2))) = true
      · rw [if_pos hk] at h
        rw [Bool.and_eq_true] at hk
        obtain ⟨hk, hsl⟩ := hk
        have hown : ∀ i ∈ t.slots, i ∈ (ownE c.N sc).map (·.2) := fun i hi => by
          have q := List.all_eq_true.mp hsl i hi
          exact of_decide_eq_true q
        have hI := s_it (tg := tg) ih g hi hk
        have hF : ∀ y, foldedSetIterable iter X.env y = pure y := fold_ok (by simpa using hset)
        split at h
        · cases h
          exact ⟨t, k, is, [], e, _, rfl, ht, hI, B, fun s H Ca cl fp => s_tg (g.blk sc s H Ca cl fp) ht, fun s H Ca cl fp => by rw [ev_cs0]; exact kt_nil, fun s H Ca cl fp => k_D (ih (g.blk sc s H Ca cl fp) he).1, hF, hown⟩
        · obtain ⟨y, hy, rfl⟩ := Option.map_eq_some_iff.mp h
          exact ⟨t, k, is, [y], e, _, rfl, ht, hI, B, fun s H Ca cl fp => s_tg (g.blk sc s H Ca cl fp) ht, fun s H Ca cl fp => by rw [ev_cs1]; exact kt_one (ih (g.blk sc s H Ca cl fp) hy).2, fun s H Ca cl fp => k_D (ih (g.blk sc s H Ca cl fp) he).1, hF, hown⟩
        · cases h
      · rw [if_neg hk] at h; cases h
    · cases h
  · rw [if_neg hb] at h; cases h
theorem s_comp {elt tg iter : Expr} {ifs : List Expr} {sc : Scope} (ih : SE G C lev rec) (g : Good G C Wx lev X c) (h : compStep rec c elt tg iter ifs sc = some x) : PE X (.ListComp elt [⟨tg, iter, ifs, 0⟩] sc pos) (tK G Wx (evK C x)) := by
  obtain ⟨t, k, is, cs, y, own, rfl, ht, hI, B, p1, p2, p3, hF, hown⟩ := comp_parts ih g h
  rw [ev_comp]
  exact k_comp g.calm (by rw [g.hN]; exact g.nd) hI B p1 p2 p3 hF hown

theorem pps_of (ih : SE G C lev rec) (g : Good G C Wx lev X c) : ∀ {keys : List (Option Expr)} {values es : List Expr} {xs : List Ex}, flatE keys values = some es → mapO (rec c) es = some xs →
    keys.all (·.isSome) = true ∧ keys.length = values.length ∧ ∃ trs, PPs X pos keys values trs ∧ ∀ σ H Q, tDs G Wx (evDs C xs) σ H (fun vs H' => ∀ ps, flatV ps = vs → Q ps H') → tPairs trs σ H Q
  | [], [], es, xs, h, hm => by
    cases h
    rw [mapO_nil hm]
    refine ⟨rfl, rfl, [], pps_nil, fun σ H Q q => ?_⟩
    obtain ⟨φ, ρ, S, R, sl, q⟩ := q
    rw [ev_ds0] at q
    exact q [] H φ (Ext.refl _ _) R (by show Rps G φ H [] []; unfold Rps; rfl) [] rfl
  | some k :: ks, v :: vs, es, xs, h, hm => by
    obtain ⟨r, hr, rfl⟩ := Option.map_eq_some_iff.mp (show (flatE ks vs).map (fun r => k :: v :: r) = some es from h)
    obtain ⟨xk, xs1, hk, hm1, rfl⟩ := mapO_cons hm
    obtain ⟨xv, xs2, hv, hm2, rfl⟩ := mapO_cons hm1
    obtain ⟨h1, h2, trs, hp, hq⟩ := pps_of ih g hr hm2
    refine ⟨by rw [List.all_cons, h1]; rfl, by rw [List.length_cons, List.length_cons, h2], _ :: trs, pps_cons (k_D (ih g hk).1) (k_D (ih g hv).1) hp, fun σ H Q q => ?_⟩
    rw [ev_ds, ev_ds] at q
    refine tI.bd (F := fun d ρ S => ((evD C xv ρ S).bd fun d2 S => (evDs C xs2 ρ S).bd fun ds S => Mi.R.ok (d2 :: ds) S).bd fun ds S => Mi.R.ok (d :: ds) S) q fun φ ρ S x φ1 H1 d S1 R sl e R1 l h => ?_
    rw [bd_bd] at h
    refine tI.next R sl e R1 h fun y H2 φ2 d2 S2 e2 R2 l2 h2 => hq _ _ _ ?_
    rw [bd_bd] at h2
    refine tI.next (L := RlDs G) R sl (e.trans e2) R2 h2 fun us H3 φ3 ds S3 e3 R3 l3 h3 ps hps => ?_
    refine Post.ok (L := RlDs G) (a := d :: d2 :: ds) (b := x :: y :: us) h3 ((e.trans e2).trans e3) R3 ?_ ((x, y) :: ps) (by rw [← hps]; rfl)
    show Rps G φ3 H3 (d :: d2 :: ds) (x :: y :: us)
    unfold Rps
    refine ⟨x, y :: us, rfl, Rp.mono ((e2.trans e3).toKeep R1) _ _ l, ?_⟩
    unfold Rps
    exact ⟨y, us, rfl, Rp.mono (e3.toKeep R2) _ _ l2, l3⟩
  | some k :: ks, [], es, xs, h, hm => by cases h
  | none :: ks, v, es, xs, h, hm => by cases v <;> cases h
  | [], v :: vs, es, xs, h, hm => by cases h
theorem s_dict {keys : List (Option Expr)} {values : List Expr} (ih : SE G C lev rec) (g : Good G C Wx lev X c) (h : eStep rec c (.Dict keys values pos) = some x) : PE X (.Dict keys values pos) (tK G Wx (evK C x)) := by
  dsimp only [eStep] at h
  split at h
  · rename_i es he
    by_cases hl : keys.length ≤ 15
    · rw [if_pos hl] at h
      obtain ⟨xs, hx, rfl⟩ := Option.map_eq_some_iff.mp h
      rw [ev_dict]
      cases keys with
      | nil =>
        cases values with
        | cons _ _ => cases he
        | nil =>
          cases he
          rw [mapO_nil hx, ev_ds0]
          exact k_dsp0
      | cons k ks =>
        obtain ⟨h1, h2, trs, hp, hq⟩ := pps_of (pos := pos) ih g he hx
        exact k_dsp hp h1 h2 (by simp) hl hq
    · rw [if_neg hl] at h; cases h
  · cases h
theorem s_srt {n k y : Str} {es : List Expr} {p pf kpos : Pos} (ih : SE G C lev rec) (g : Good G C Wx lev X c) (h : srtStep rec c n es k y = some x) : PE X (.Call (.Name n p) es [⟨some k, .Name y pf, kpos⟩] pos) (tK G Wx (evK C x)) := by
  unfold srtStep at h
  split at h
  · rename_i a
    by_cases hk : (c.blt n && decide (n = ("sorted" : Str)) && decide (k = ("key" : Str)) && !isStar a && c.glb y && okName y) = true
    · rw [if_pos hk] at h
      simp only [Bool.and_eq_true, Bool.not_eq_true', decide_eq_true_eq] at hk
      obtain ⟨⟨⟨⟨⟨k1, rfl⟩, rfl⟩, k4⟩, k5⟩, k6⟩ := hk
      split at h
      · rename_i i xa hi ha
        cases h
        rw [ev_srt]
        exact k_srt (x := "sorted") (k := "key") g k1 k5 hi k6 k4 (ih g ha).1
      · cases h
    · rw [if_neg hk] at h; cases h
  · cases h
theorem s_step (ih : SE G C lev rec) : SE G C lev (eStep rec) := by
  intro Wx X c e x g h
  cases e with
  | Name n pos => exact s_name g h
  | Constant k kd pos => exact s_const h
  | BinOp a op b pos => exact s_bin ih g h
  | UnaryOp op a pos => exact s_un ih g h
  | BoolOp op es pos => exact s_bool ih g h
  | IfExp t a b pos => exact s_ite ih g h
  | Compare a ops es pos => exact s_cmp ih g h
  | Call f es kw pos =>
    dsimp only [eStep] at h
    split at h
    · cases f with
      | Name n p => exact both (s_call ih g h)
      | Attribute o m apos =>
        dsimp only at h
        by_cases hl : (apos.endLine == pos.line) = false
        · rw [if_pos hl] at h; cases h
        · rw [if_neg hl] at h
          exact both (s_meth ih g (by simpa using hl) h)
      | _ => cases h
    · cases f with
      | Name n p => exact both (s_srt ih g h)
      | _ => cases h
    · cases h
  | Dict keys values pos => exact both (s_dict ih g h)
  | Subscript a b pos => exact both (s_ix ih g h)
  | Tuple es k pos => exact s_tup ih g h
  | List es pos => exact s_list ih g h
  | ListComp elt gs sc pos =>
    dsimp only [eStep] at h
    split at h
    · exact both (s_comp ih g h)
    · cases h
  | JoinedStr es pos =>
    dsimp only [eStep] at h
    split at h
    · obtain ⟨xs, hx, rfl⟩ := Option.map_eq_some_iff.mp h
      obtain ⟨ts, hp, hq⟩ := s_fmts ih g hx
      refine both ?_
      rw [ev_fst]
      exact (pe_joined hp).im fun σ H Q q => hq _ _ _ _ q
    · cases h
  | _ => cases h
theorem s_all : ∀ n : Nat, SE G C lev (cE n)
  | 0 => fun _ h => by cases h
  | n + 1 => s_step (s_all n)
end
end Mi

/-! Mi, part J: the translation of statements, and that it tells the truth. -/
namespace Mi
open PySem L2 PyProof.Rows RT RZ

/-! ### the translation -/
def isComp : Expr → Bool
  | .ListComp _ _ _ _ => true | .SetComp _ _ _ _ => true | .DictComp _ _ _ _ _ => true | _ => false
def isTup : Expr → Bool
  | .Tuple _ _ _ => true | _ => false
/-- the name is stored ahead of the block's end -/
def swB (c : Ct) (y : Str) (py pos : Pos) (sc : Scope) : Bool := decide (c.sc.names.lookup y = some .local) && py.line == pos.line && !(sc.names.any fun (n, k) => n == y && (k == .local || k == .cell))
def isSub : Expr → Bool
  | .Subscript _ i _ => !isSlice i
  | _ => false
/-- x, y = a, b: the stores are swapped -/
def parB (c : Ct) (x y : Str) (px py : Pos) (a b : Expr) : Bool :=
  decide (c.sc.names.lookup x = some .local) && decide (c.sc.names.lookup y = some .local) && (py.line == px.line) && !(x == y) && !isStar a && !isStar b && !([a, b].all (foldedForSure 8)) && !([a, b].all (constantsAlone 8))
def parStep (n : Nat) (c : Ct) (tg e : Expr) : Option Stm := match tg, e with
  | .Tuple [.Name x px, .Name y py] _ _, .Tuple [a, b] _ _ => if parB c x y px py a b = true then match ixOf c.N x, ixOf c.N y, cE n c a, cE n c b with
      | some i, some j, some a, some b => if i = j then none else some (.par i j a b)
      | _, _, _, _ => none
    else none
  | _, _ => none
def rseStep (c : Ct) (e : Expr) : Option Stm := match e with
  | .Call (.Name x _) [.Constant (.str _) _ _] [] _ => if (c.glb x && okName x) = true then match c.gl.lookup x with
      | some (.exc k) => some (.rse k)
      | _ => none
    else none
  | _ => none
def sStep (n : Nat) (rec : Ct → List Stmt → Option (List Stm)) (c : Ct) : Stmt → Option Stm
  | .Assign [tg] e _ => match tg with
    | .Subscript o i _ => if isSlice i = true then none else match cE n c o, cE n c i, cE n c e with
      | some o, some i, some e => some (.setIx o i e)
      | _, _, _ => none
    | tg => if isTup tg && isTup e then parStep n c tg e else match tgE c tg, cE n c e with
      | some t, some e => some (.set t e)
      | _, _ => none
  | .AugAssign (.Name x _) op e _ => if c.loc x = true then match ixOf c.N x, op, cE n c e with
      | some i, .Add, some e => some (.aug i .add e)
      | some i, .Sub, some e => some (.aug i .sub e)
      | _, _, _ => none
    else none
  | .Expr e _ => match e with
    | .Constant (.str _) _ _ => some .pass
    | e => if isComp e = true then none else (cE n c e).map .exp
  | .Return (some e) _ => (cE n c e).map .ret
  | .Return none _ => some (.ret (.c .non))
  | .If t a b _ => match cE n c t, rec c a, rec c b with
    | some t, some a, some b => some (.iff t a b)
    | _, _, _ => none
  | .For tg iter body [] _ => if isSet iter = true then none else match tgE c tg, cI n c iter, rec c body with
    | some t, some (k, is), some b => if tupT k tg = true then some (.for_ t k is b) else none
    | _, _, _ => none
  | .While t body [] _ => match cE n c t, rec c body with
    | some t, some b => some (.whl t b)
    | _, _ => none
  | .Raise (some e) none _ => rseStep c e
  | .Try body (_ :: _) els [] _ => match rec c body, rec c els with
    | some b, some e => some (.thru b e)
    | _, _ => none
  | .Pass _ => some .pass
  | .Break _ => some .brk
  | .Continue _ => some .cnt
  | _ => none
def cSs (n : Nat) : Nat → Ct → List Stmt → Option (List Stm)
  | 0 => fun _ _ => none
  | m + 1 => fun c l => mapO (sStep n (cSs n m) c) l

section
variable {C : Calls}
theorem ex_set {t : Tg} {e : Ex} : exS C (.set t e) = setA t (evD C e) := by funext ρ S; rw [exS]; try rfl
theorem ex_setIx {o i e : Ex} : exS C (.setIx o i e) = fun ρ S => (evD C e ρ S).st ρ fun d S => (evK C o ρ S).st ρ fun x S => (evK C i ρ S).st ρ fun y S => match setItem x y d S with
    | some S => .ok .nx ρ S
    | none => .bad := by funext ρ S; rw [exS]; try rfl
theorem ex_exp {e : Ex} : exS C (.exp e) = fun ρ S => (evK C e ρ S).st ρ fun _ S => .ok .nx ρ S := by funext ρ S; rw [exS]
theorem ex_ret {e : Ex} : exS C (.ret e) = fun ρ S => (evD C e ρ S).st ρ fun d S => .ok (.rt d) ρ S := by funext ρ S; rw [exS]
theorem ex_iff {c : Ex} {a b : List Stm} : exS C (.iff c a b) = fun ρ S => (evB C c ρ S).st ρ fun k S => if k = true then exSs C a ρ S else exSs C b ρ S := by funext ρ S; rw [exS]
theorem ex_for {t : Tg} {k : IK} {is : List Ex} {b : List Stm} : exS C (.for_ t k is b) = fun ρ S => (itA C k is ρ S).st ρ fun I S => forL I.live (bodyA t (exSs C b)) I.items ρ S := by
  funext ρ S
  rw [exS]
  unfold itA
  cases evWs C is ρ S with
  | ok ws S1 =>
    show _ = (itsA k ws S1).st ρ _
    unfold itsA
    show (match its k ws S1 with | some I => _ | none => _) = _
    cases its k ws S1 with
    | none => rfl
    | some I => rfl
  | ex c fs S => rfl
  | bad => rfl
theorem ex_whl {c : Ex} {b : List Stm} : exS C (.whl c b) = fun ρ S => whileR (evB C c) (exSs C b) ρ S := by funext ρ S; rw [exS]
theorem ex_brk : exS C .brk = fun ρ S => .ok .brk ρ S := by funext ρ S; rw [exS]
theorem ex_cnt : exS C .cnt = fun ρ S => .ok .cnt ρ S := by funext ρ S; rw [exS]
theorem ex_pass : exS C .pass = fun ρ S => .ok .nx ρ S := by funext ρ S; rw [exS]
theorem ex_aug {i : Nat} {o : P2} {e : Ex} : exS C (.aug i o e) = fun ρ S => match ρ[i]? with
    | some (some x) => (evK C e ρ S).st ρ fun y S => match augV o x y with
      | some d => .ok .nx (ρ.set i (some d)) S
      | none => .bad
    | _ => .bad := by funext ρ S; rw [exS]; try rfl
theorem ex_par {i j : Nat} {a b : Ex} : exS C (.par i j a b) = fun ρ S => (evDs C [a, b] ρ S).st ρ fun ds S => parS i j ds ρ S := by funext ρ S; rw [exS]
theorem ex_rse {k : Nat} : exS C (.rse k) = fun ρ S => .ex k [] ρ S := by funext ρ S; rw [exS]
theorem ex_thru {b e : List Stm} : exS C (.thru b e) = fun ρ S => (exSs C b ρ S).nox.sq fun ρ S => exSs C e ρ S := by funext ρ S; rw [exS]
theorem ex_ss0 : exSs C [] = fun ρ S => .ok .nx ρ S := by funext ρ S; rw [exSs]
theorem ex_ss {s : Stm} {r : List Stm} : exSs C (s :: r) = fun ρ S => (exS C s ρ S).sq fun ρ S => exSs C r ρ S := by funext ρ S; rw [exSs]
end

/-! ### it tells the truth -/
structure GoodS (G : Gb) (C : Calls) (Wx : WX) (lev : Nat) (X : Cx) (c : Ct) : Prop extends Good G C Wx lev X c where
  sc : X.env.scope = c.sc
  kind : c.sc.kind = .function
  own : PassesOwn (model X.prog X.w) X.A X.env X.xe
  tk : Takes X Wx
def SS (G : Gb) (C : Calls) (lev : Nat) (rec : Ct → List Stmt → Option (List Stm)) : Prop := ∀ {Wx : WX} {X : Cx} {c : Ct} {l : List Stmt} {x : List Stm}, GoodS G C Wx lev X c → rec c l = some x → PSs X l (tS G Wx (exSs C x))
section
variable {G : Gb} {C : Calls} {lev n : Nat} {rec : Ct → List Stmt → Option (List Stm)} {Wx : WX} {X : Cx} {c : Ct} {x : Stm} {pos : Pos} {D : Ends}
theorem sw_no {e : Expr} {t : Option Expr} {l : Nat} {env : PySem.Env} (h : isComp e = false) : swapsWith e t l env = pure false := by
  cases e <;> first | rfl | cases h
theorem sw_val {elt : Expr} {gs : List Comprehension} {sc : Scope} {pos py : Pos} {y : Str} {l : Nat} (g : GoodS G C Wx lev X c) : swapsWith (.ListComp elt gs sc pos) (some (.Name y py)) l X.env = pure (swB c y py pos sc) := by
  have hb : X.env.blockKind = .function := by unfold Env.blockKind; rw [g.sc, g.kind]; rfl
  unfold swapsWith swB
  have hk : X.env.kindOf y = c.sc.names.lookup y := by unfold Env.kindOf; rw [g.sc]
  simp only [hb, hk, Expr.pos]
  have e : (c.sc.names.lookup y == some NameKind.local) = decide (c.sc.names.lookup y = some NameKind.local) := by
    by_cases q : c.sc.names.lookup y = some NameKind.local
    · rw [q]; rfl
    · rw [decide_eq_false q]; simpa using q
  rw [← e]
  rfl
theorem t_exp {e : Expr} {y : Ex} (g : GoodS G C Wx lev X c) (h : cE n c e = some y) (hc : isComp e = false) : PS X (.Expr e pos) (tS G Wx (exS C (.exp y))) := by
  rw [ex_exp]
  exact k_exp (s_all n g.toGood h).1 (sw_no hc)
theorem t_aug {y : Str} {py : Pos} {op : Operator} {e : Expr} (g : GoodS G C Wx lev X c) (h : sStep n rec c (.AugAssign (.Name y py) op e pos) = some x) : PS X (.AugAssign (.Name y py) op e pos) (tS G Wx (exS C x)) := by
  dsimp only [sStep] at h
  by_cases hl : c.loc y = true
  · rw [if_pos hl] at h
    obtain ⟨l1, l2⟩ := g.loc y hl
    have hnd : X.N.Nodup := by rw [g.hN]; exact g.nd
    split at h
    · rename_i i xe hi he
      cases h
      rw [ex_aug]
      exact (ps_aug hnd (by rw [g.hN]; exact ixOf_get hi) l1 (s_all n g.toGood he).1 ip_add l2).im fun _ _ _ q => aug_im augAdd q
    · rename_i i xe hi he
      cases h
      rw [ex_aug]
      exact (ps_aug hnd (by rw [g.hN]; exact ixOf_get hi) l1 (s_all n g.toGood he).1 ip_sub l2).im fun _ _ _ q => aug_im augSub q
    · cases h
  · rw [if_neg hl] at h; cases h

/-! ### o[i] = v -/
/-- the empty dict's keys may be tuples -/
theorem Inv.retype {pins : List (Addr × Obj)} {σ : L2.St} {H : Hp} {s : Shared} {a : Addr} (I : Inv X pins σ H s) (h : H a = some (.dK [])) : Inv X pins σ (upd H a (.dT [])) s := by
  obtain ⟨_, hd, vs, kv, o, es, ep, h1, h2, h3, h4⟩ := (show ObjOk X.prog X.w H s.heap a (.dK []) from I.hok a _ h)
  cases kv
  have he : es.toList = [] := by
    obtain ⟨_, p, _⟩ := h4
    generalize es.toList = l at p
    cases p
    rfl
  have q := I.write (x := a) (e := a) (o := .dT []) (h' := s.heap) (t' := s.toks) (by rw [h]; trivial) (.inl rfl) (fun _ _ _ e => e) ⟨o, h1⟩ ⟨Nat.zero_le _, hd, [], .nil, o, es, ep, h1, h2, h3, he, List.nodup_nil⟩
  exact q
def rIx (G : Gb) : TSet := fun o i v H Q => ∃ φ w1 w2 d S S', Rel G φ H S ∧ RpW G φ H w1 o ∧ RpW G φ H w2 i ∧ Rp G φ H d v ∧ setItem w1 w2 d S = some S' ∧ ∀ H', Ext φ H φ H' → Rel G φ H' S' → Q H'
theorem set_mi (hu : X.A.units + 64 < cLine) : PSet X (rIx G) := by
  intro pins s σ H o i v ov iv u Q I ro ri rv h
  obtain ⟨φ, w1, w2, d, S, S', R, r1, r2, rd, h, hQ⟩ := h
  have hu1 : X.A.units + 1 < cLine := by omega
  unfold Mi.setItem at h
  split at h
  · rename_i n
    unfold RpW Rp at r1
    obtain ⟨a, rfl, ha⟩ := r1
    split at h
    · rename_i ds hs
      split at h
      · rename_i k
        obtain ⟨j, hj, rfl⟩ := Option.map_eq_some_iff.mp h
        obtain ⟨vs, h1, h2⟩ := R.obj n a _ ha hs
        have e := rp_int r2
        subst e
        refine set_list pins s σ H _ _ v ov iv u Q I ro ri rv ⟨a, vs, k, j, rfl, rfl, h1, by rw [← h2.len]; exact hj, ?_⟩
        have kp := keep_write (u := .lst (vs.set j v)) R ha
        exact hQ _ (Ext.write R ha) (R.write ha ⟨_, upd_same, Rps.set (Rp.mono kp _ _ rd) j (Rps.mono kp _ _ h2)⟩)
      · cases h
    · rename_i o ho hs
      split at h
      · rename_i kd
        obtain ⟨o', ho', rfl⟩ := Option.map_eq_some_iff.mp h
        have r2 : Rp G φ H kd i := r2
        cases o with
        | lst ds => exact (ho ds rfl).elim
        | ins c fs => cases ho'
        | dk kvs =>
          obtain ⟨vs, h1, h2⟩ := R.obj n a _ ha hs
          unfold putO at ho'
          dsimp only at ho'
          cases hk : kd.key with
          | some k =>
            simp only [hk] at ho'
            by_cases hl : kvs.length < sizeLine
            · rw [if_pos hl] at ho'
              cases ho'
              have e := key_v hk r2
              subst e
              have kp := keep_write (u := .dK (putK vs k v)) R ha
              refine set_dict hu1 pins s σ H _ _ v ov iv u Q I ro ri rv ⟨a, _, rfl, DPut.k h1 (by rw [← h2.length]; exact hl), ?_⟩
              exact hQ _ (Ext.write R ha) (R.write ha ⟨_, upd_same, RpKV.mono kp _ _ (h2.put rd)⟩)
            · rw [if_neg hl] at ho'; cases ho'
          | none =>
            simp only [hk] at ho'
            cases hkt : kd.keyT with
            | none => simp only [hkt] at ho'; cases ho'
            | some k =>
              simp only [hkt] at ho'
              by_cases he : kvs.isEmpty = true
              · rw [if_pos he] at ho'
                cases ho'
                have e : kvs = [] := by simpa using he
                subst e
                have e : vs = [] := h2
                subst e
                obtain ⟨b, rfl, hb⟩ := keyT_v hkt r2
                have I2 := Inv.retype I h1
                have kp1 := keep_write (u := .dT []) R ha
                have hb2 : upd H a (.dT []) b = some (.tup (k.map kV)) := by
                  rw [upd_ne]
                  · exact hb
                  · rintro rfl; rw [h1] at hb; cases hb
                refine set_dict hu1 pins s σ _ _ _ v ov iv u Q I2 ro ri rv ⟨a, _, rfl, DPut.t (kvs := []) upd_same hb2 (by decide), ?_⟩
                have eu : upd (upd H a (.dT [])) a (.dT (putK [] k v)) = upd H a (.dT (putK [] k v)) := upd_upd
                rw [eu]
                have kp := keep_write (u := .dT (putK [] k v)) R ha
                exact hQ _ (Ext.write R ha) (R.write ha ⟨_, upd_same, v, [], rfl, Rp.mono kp _ _ rd, rfl⟩)
              · rw [if_neg he] at ho'; cases ho'
        | dt kvs =>
          obtain ⟨vs, h1, h2⟩ := R.obj n a _ ha hs
          unfold putO at ho'
          dsimp only at ho'
          cases hkt : kd.keyT with
          | none => simp only [hkt] at ho'; cases ho'
          | some k =>
            simp only [hkt] at ho'
            by_cases hl : kvs.length < sizeLine
            · rw [if_pos hl] at ho'
              cases ho'
              obtain ⟨b, rfl, hb⟩ := keyT_v hkt r2
              have kp := keep_write (u := .dT (putK vs k v)) R ha
              refine set_dict hu1 pins s σ H _ _ v ov iv u Q I ro ri rv ⟨a, _, rfl, DPut.t h1 hb (by rw [← h2.length]; exact hl), ?_⟩
              exact hQ _ (Ext.write R ha) (R.write ha ⟨_, upd_same, RpKV.mono kp _ _ (h2.put rd)⟩)
            · rw [if_neg hl] at ho'; cases ho'
      · cases h
    · cases h
  · cases h

/-! ### name = .., a, b = .., o[i] = .. -/
theorem t_ix {o i e : Expr} {tpos : Pos} {xo xi xe : Ex} (g : GoodS G C Wx lev X c) (ho : cE n c o = some xo) (hi : cE n c i = some xi) (he : cE n c e = some xe) (hs : isSlice i = false) :
    PS X (.Assign [.Subscript o i tpos] e pos) (tS G Wx (exS C (.setIx xo xi xe))) := by
  have hsw : swapsWithSole [.Subscript o i tpos] e pos.line X.env = pure false := by cases e <;> rfl
  have hw : swappedStores [.Subscript o i tpos] e X.env = pure none := by cases e <;> rfl
  have hg : PG X (.Subscript o i tpos) (gSub (tK G Wx (evK C xo)) (tK G Wx (evK C xi)) (rIx G)) := pg_sub (s_all n g.toGood ho).1 (s_all n g.toGood hi).1 (set_mi g.hu) (by intro _; cases i <;> first | rfl | cases hs)
  refine (ps_asg (k_D (s_all n g.toGood he).1) hg hsw hw).im fun D σ H q => ?_
  rw [ex_setIx] at q
  refine tS.bd (F := fun d ρ S => (evK C xo ρ S).st ρ fun x S => (evK C xi ρ S).st ρ fun y S => match Mi.setItem x y d S with
    | some S => .ok .nx ρ S
    | none => .bad) q fun φ ρ S v φ1 H1 d S1 R sl e R1 l h => ?_
  refine tS.next (L := RlW G) (F := fun x S => (evK C xi ρ S).st ρ fun y S => match Mi.setItem x y d S with
    | some S => .ok .nx ρ S
    | none => .bad) R sl e R1 h fun vo H2 φ2 xo S2 e2 R2 l2 h2 => ?_
  refine tS.next (L := RlW G) (F := fun y S => match Mi.setItem xo y d S with
    | some S => .ok .nx ρ S
    | none => .bad) R sl (e.trans e2) R2 h2 fun vi H3 φ3 xi S3 e3 R3 l3 h3 => ?_
  cases qi : Mi.setItem xo xi d S3 with
  | none => simp only [qi] at h3; exact h3.elim
  | some S4 =>
    simp only [qi] at h3
    refine ⟨φ3, xo, xi, d, S3, S4, R3, RpW.mono e3 R2 l2.1, l3.1, Rp.mono ((e2.trans e3).toKeep R1) _ _ l, qi, fun H4 e4 R4 => ?_⟩
    exact h3 σ H4 φ3 (((e.trans e2).trans e3).trans e4) R4 (sl.mono ((((e.trans e2).trans e3).trans e4).toKeep R))
theorem t_set {tg e : Expr} {t : Tg} {xe : Ex} (g : GoodS G C Wx lev X c) (ht : tgE c tg = some t) (he : cE n c e = some xe) (hh : (isTup tg && isTup e) = false) : PS X (.Assign [tg] e pos) (tS G Wx (exS C (.set t xe))) := by
  have hg := s_tg g.toGood ht
  have h3 : (assignEach [tg] X.env).map (·.2) = [assign tg X.env] := by
    unfold tgE at ht
    split at ht <;> first | rfl | cases ht
  have plain : swapsWithSole [tg] e pos.line X.env = pure false → swappedStores [tg] e X.env = pure none → PS X (.Assign [tg] e pos) (tS G Wx (exS C (.set t xe))) := by
    intro h1 h2
    rw [ex_set]
    exact (ps_asg (k_D (s_all n g.toGood he).1) hg h1 h2 (h1 := h3)).im fun _ _ _ q => set_im q
  have hw : swappedStores [tg] e X.env = pure none := by
    unfold tgE at ht
    split at ht
    · cases e <;> rfl
    · cases e <;> first | rfl | cases hh
    · cases ht
  by_cases hc : isComp e = false
  · exact plain (sw_no hc) hw
  · unfold tgE at ht
    split at ht
    · rename_i y py
      cases e <;> try exact absurd rfl hc
      · rename_i elt gs sc lpos
        have sv : swapsWithSole [.Name y py] (.ListComp elt gs sc lpos) pos.line X.env = pure (swB c y py lpos sc) := sw_val (l := pos.line) g
        cases hb : swB c y py lpos sc with
        | false => rw [hb] at sv; exact plain sv hw
        | true =>
          rw [hb] at sv
          unfold swB at hb
          simp only [Bool.and_eq_true, decide_eq_true_eq] at hb
          have hyl : X.env.scope.names.lookup y = some .local := by rw [g.sc]; exact hb.1.1
          by_cases hl : c.loc y = true
          · rw [if_pos hl] at ht
            obtain ⟨i, hi, rfl⟩ := Option.map_eq_some_iff.mp ht
            cases n with
            | zero => cases he
            | succ m =>
              have he : eStep (cE m) c (.ListComp elt gs sc lpos) = some xe := he
              dsimp only [eStep] at he
              split at he
              · obtain ⟨t2, k, is, cs, z, own, rfl, ht2, hI, B, p1, p2, p3, hF, hown⟩ := comp_parts (s_all m) g.toGood he
                refine (ps_setLc g.calm (by rw [g.hN]; exact g.nd) (by rw [g.hN]; exact ixOf_get hi) hyl sv hI B p1 p2 p3 hF).im fun D σ H q => ?_
                rw [ex_set] at q
                refine comp_im hown ?_
                rw [← ev_comp]
                exact set_imK q
              · cases he
          · rw [if_neg hl] at ht; cases ht
      · cases n with
        | zero => cases he
        | succ n => cases he
      · cases n with
        | zero => cases he
        | succ n => cases he
    · refine plain ?_ hw
      cases e <;> rfl
    · cases ht

/-- nothing is let out -/
theorem GoodS.nox (g : GoodS G C Wx lev X c) : GoodS G C (fun _ _ _ _ => False) lev X.nox c :=
  { hK := g.hK, hN := g.hN, nd := g.nd, vis := g.vis, glb := g.glb, loc := g.loc, cf := g.cf, calm := g.calm, hu := g.hu, room := g.room
    fns := fun x i h => ⟨(g.fns x i h).ex⟩
    cst := g.cst, blt := g.blt
    exc := fun x k h => ⟨(g.exc x k h).ex⟩
    pas := fun σ pins H s e s' I cx => by
      obtain ⟨_, _, _, _, _, _, _, _, _, _, _, _, hF⟩ := cx
      exact hF.elim
    sc := g.sc, kind := g.kind
    own := PassesOwn.never
    tk := fun u s' x => by
      obtain ⟨_, _, _, _, _, _, _, _, _, _, _, _, _, _, _, _, hF⟩ := x
      exact hF.elim }
theorem t_par {tg e : Expr} (g : GoodS G C Wx lev X c) (h : parStep n c tg e = some x) : PS X (.Assign [tg] e pos) (tS G Wx (exS C x)) := by
  unfold parStep at h
  split at h
  · rename_i x1 px y1 py k1 p1 a b k2 p2
    by_cases hp : parB c x1 y1 px py a b = true
    · rw [if_pos hp] at h
      split at h
      · rename_i i j xa xb hi hj ha hb
        by_cases hij : i = j
        · rw [if_pos hij] at h; cases h
        · rw [if_neg hij] at h
          cases h
          unfold parB at hp
          simp only [Bool.and_eq_true, Bool.not_eq_true', decide_eq_true_eq] at hp
          obtain ⟨⟨⟨⟨⟨⟨⟨h1, h2⟩, h3⟩, h4⟩, h5⟩, h6⟩, h7⟩, h8⟩ := hp
          have e1 : X.env.scope.names.lookup x1 = some .local := by rw [g.sc]; exact h1
          have e2 : X.env.scope.names.lookup y1 = some .local := by rw [g.sc]; exact h2
          have hbk : X.env.blockKind = .function := by unfold Env.blockKind; rw [g.sc, g.kind]; rfl
          have k1' : X.env.kindOf x1 = some .local := e1
          have k2' : X.env.kindOf y1 = some .local := e2
          have hne : (y1 == x1) = false := by
            rw [Bool.eq_false_iff]
            intro z
            have z : y1 = x1 := by simpa using z
            rw [z] at h4
            simp at h4
          have hw : swappedStores [.Tuple [.Name x1 px, .Name y1 py] k1 p1] (.Tuple [a, b] k2 p2) X.env = pure (some [x1, y1]) := by
            unfold swappedStores
            simp only [pure_bind, hbk]
            rw [if_neg (by simp)]
            rw [if_neg (by
              rw [Bool.not_eq_true]
              simp only [List.any_cons, List.any_nil, Bool.or_eq_false_iff]
              first
                | exact ⟨h5, h6⟩
                | exact ⟨h5, h6, trivial⟩)]
            have hn : ([Expr.Name x1 px, Expr.Name y1 py].filterMap fun
              | .Name id pos => if (X.env.kindOf id == some .local && pos.line == (([Expr.Name x1 px, Expr.Name y1 py].head?.map (·.pos.line)).getD 0)) = true then some id else none
              | _ => none) = [x1, y1] := by
              simp only [List.filterMap_cons, List.filterMap_nil, List.head?_cons, Option.map_some, Option.getD_some, Expr.pos, k1', k2', h3, beq_self_eq_true, Bool.and_self, if_true]
              try rfl
            have he : ([x1, y1].eraseDups.length != [x1, y1].length) = false := by
              simp [List.eraseDups_cons, hne]
            generalize hg : ([Expr.Name x1 px, Expr.Name y1 py].filterMap _) = l
            have hl : l = [x1, y1] := by rw [← hg]; exact hn
            subst hl
            rw [if_neg (by rw [he]; simp), if_neg (by rw [h7]; simp), if_neg (by rw [h8]; simp)]
          rw [ex_par]
          have hA : PA X [a, b] (tDs G Wx (evDs C [xa, xb])) := by
            rw [ev_ds, ev_ds, ev_ds0]
            exact ka_cons (k_D (s_all n g.toGood ha).1) (ka_cons (k_D (s_all n g.toGood hb).1) ka_nil (star_cons h6)) (star_cons h5)
          refine (ps_par g.calm (by rw [g.hN]; exact g.nd) (by rw [g.hN]; exact ixOf_get hi) (by rw [g.hN]; exact ixOf_get hj) hij e1 e2 hA hw).im fun D σ H q => ?_
          refine tS.bd (F := fun ds ρ S => parS i j ds ρ S) q fun φ ρ S vs φ1 H1 ds S1 R sl e R1 l h => ?_
          have l : Rps G φ1 H1 ds vs := l
          unfold parS at h
          split at h
          · rename_i d1 d2
            unfold Rps at l
            obtain ⟨v1, t, rfl, r1, l⟩ := l
            unfold Rps at l
            obtain ⟨v2, t2, rfl, r2, l⟩ := l
            unfold Rps at l
            subst l
            exact ⟨v1, v2, rfl, h _ H1 φ1 e R1 (((sl.mono (e.toKeep R)).set i r1).set j r2)⟩
          · exact h.elim
      · cases h
    · rw [if_neg hp] at h; cases h
  · cases h
theorem t_rse {e : Expr} (g : GoodS G C Wx lev X c) (h : rseStep c e = some x) : PS X (.Raise (some e) none pos) (tS G Wx (exS C x)) := by
  unfold rseStep at h
  split at h
  · rename_i y py m j mp cp
    by_cases hk : (c.glb y && okName y) = true
    · rw [if_pos hk] at h
      obtain ⟨k1, k2⟩ := Bool.and_eq_true_iff.mp hk
      split at h
      · rename_i k hl
        cases h
        rw [ex_rse]
        obtain ⟨Ca, bmB, B, ni, ii, F, q, gC, kC, r1, r2, hx⟩ := (g.exc y k hl).ex
        refine (ps_raise g.calm g.tk (pmk_own F q gC kC (raises_own r1 r2) (g.glb y k1) (okName_of k2).1)).im fun D σ H t => ?_
        obtain ⟨φ, ρ, S, R, sl, t⟩ := t
        exact t _ _ σ H φ (Ext.refl _ _) R sl ⟨hx, .inl ⟨rfl, rfl⟩⟩
      · cases h
    · rw [if_neg hk] at h; cases h
  · cases h
theorem t_thru {body els : List Stmt} {hd : ExceptHandler} {hds : List ExceptHandler} {xb xe : List Stm} (ih : SS G C lev rec) (g : GoodS G C Wx lev X c) (hb : rec c body = some xb) (he : rec c els = some xe) : PS X (.Try body (hd :: hds) els [] pos) (tS G Wx (exS C (.thru xb xe))) := by
  rw [ex_thru]
  refine (ps_try_thru (ih g.nox hb) (ih g he)).im fun D σ H q => ?_
  obtain ⟨φ, ρ, S, R, sl, h⟩ := q
  dsimp only at h
  refine ⟨φ, ρ, S, R, sl, ?_⟩
  cases q : exSs C xb ρ S with
  | bad => rw [q] at h; exact h
  | ex c fs ρ S => rw [q] at h; exact h.elim
  | ok f ρ1 S1 =>
    rw [q] at h
    cases f with
    | nx => exact fun σ' H' φ' e R' sl' => tS.go e R' sl' h
    | brk => exact h
    | cnt => exact h
    | rt d => exact h
theorem ts_step {m : Nat} {st : Stmt} (ih : SS G C lev rec) (g : GoodS G C Wx lev X c) (h : sStep n rec c st = some x) : PS X st (tS G Wx (exS C x)) := by
  cases st with
  | Assign tgs e pos =>
    cases tgs with
    | nil => cases h
    | cons tg r =>
      cases r with
      | cons _ _ => cases h
      | nil =>
        have plain : ((if (isTup tg && isTup e) = true then parStep n c tg e else match tgE c tg, cE n c e with
          | some t, some e => some (.set t e)
          | _, _ => none) = some x) → PS X (.Assign [tg] e pos) (tS G Wx (exS C x)) := by
          intro h
          by_cases hh : (isTup tg && isTup e) = true
          · rw [if_pos hh] at h; exact t_par g h
          · rw [if_neg hh] at h
            split at h
            · rename_i t xe ht he
              cases h
              exact t_set g ht he (by simpa using hh)
            · cases h
        cases tg with
        | Subscript o i tpos =>
          have h : (if isSlice i = true then none else match cE n c o, cE n c i, cE n c e with
            | some o, some i, some e => some (Stm.setIx o i e)
            | _, _, _ => none) = some x := h
          by_cases hs : isSlice i = true
          · rw [if_pos hs] at h; cases h
          · rw [if_neg hs] at h
            split at h
            · rename_i xo xi xe ho hi he
              cases h
              exact t_ix g ho hi he (by simpa using hs)
            · cases h
        | _ => exact plain h
  | AugAssign tg op e pos =>
    cases tg with
    | Name y py => exact t_aug (rec := rec) g h
    | _ => cases h
  | Expr e pos =>
    have go : ((if isComp e = true then none else (cE n c e).map Stm.exp) = some x) → PS X (.Expr e pos) (tS G Wx (exS C x)) := by
      intro h
      by_cases hc : isComp e = true
      · rw [if_pos hc] at h; cases h
      · rw [if_neg hc] at h
        obtain ⟨y, hy, rfl⟩ := Option.map_eq_some_iff.mp h
        exact t_exp g hy (by simpa using hc)
    cases e with
    | Constant k kd cpos =>
      cases k with
      | str z =>
        cases h
        rw [ex_pass]
        exact k_doc
      | _ => exact go h
    | _ => exact go h
  | Return o pos =>
    cases o with
    | none =>
      cases h
      refine (ps_retN (pos := pos)).im fun D σ H q => ?_
      rw [ex_ret] at q
      obtain ⟨φ, ρ, S, R, sl, q⟩ := q
      have q : PostS G Wx φ H (((evK C (.c .non) ρ S).bd toD).st ρ fun d S => .ok (.rt d) ρ S) D := q
      rw [ev_c] at q
      exact q .non H φ (Ext.refl _ _) R (by unfold Rp; rfl)
    | some e =>
      obtain ⟨y, hy, rfl⟩ := Option.map_eq_some_iff.mp (show (cE n c e).map Stm.ret = some x from h)
      rw [ex_ret]
      exact k_ret (k_D (s_all n g.toGood hy).1)
  | If t a b pos =>
    have h : (match cE n c t, rec c a, rec c b with
      | some t, some a, some b => some (Stm.iff t a b)
      | _, _, _ => none) = some x := h
    split at h
    · rename_i xt xa xb ht ha hb
      cases h
      rw [ex_iff]
      exact k_if (s_all n g.toGood ht).2 (ih g ha) (ih g hb)
    · cases h
  | For tg iter body els pos =>
    cases els with
    | cons _ _ => cases h
    | nil =>
      have h : (if isSet iter = true then none else match tgE c tg, cI n c iter, rec c body with
        | some t, some (k, is), some b => if tupT k tg = true then some (Stm.for_ t k is b) else none
        | _, _, _ => none) = some x := h
      by_cases hs : isSet iter = true
      · rw [if_pos hs] at h; cases h
      · rw [if_neg hs] at h
        split at h
        · rename_i t k is b ht hi hb
          by_cases hk : tupT k tg = true
          · rw [if_pos hk] at h
            cases h
            rw [ex_for]
            exact k_for g.own g.calm (s_it (s_all n) g.toGood hi hk) (s_tg g.toGood ht) (ih g hb) (fold_ok (by simpa using hs))
          · rw [if_neg hk] at h; cases h
        · cases h
  | While t body els pos =>
    cases els with
    | cons _ _ => cases h
    | nil =>
      have h : (match cE n c t, rec c body with
        | some t, some b => some (Stm.whl t b)
        | _, _ => none) = some x := h
      split at h
      · rename_i xt xb ht hb
        cases h
        rw [ex_whl]
        exact k_whl g.own (s_all n g.toGood ht).2 (ih g hb)
      · cases h
  | Raise e cz pos =>
    cases e with
    | none => cases h
    | some e =>
      cases cz with
      | some _ => cases h
      | none => exact t_rse g h
  | Try body hds els fin pos =>
    cases hds with
    | nil => cases h
    | cons hd hds =>
      cases fin with
      | cons _ _ => cases h
      | nil =>
        have h : (match rec c body, rec c els with
          | some b, some e => some (Stm.thru b e)
          | _, _ => none) = some x := h
        split at h
        · rename_i xb xe hb he
          cases h
          exact t_thru ih g hb he
        · cases h
  | Pass pos => cases h; rw [ex_pass]; exact k_pass
  | Break pos => cases h; rw [ex_brk]; exact k_brk
  | Continue pos => cases h; rw [ex_cnt]; exact k_cnt
  | _ => cases h
theorem ss_step {l : List Stmt} {xs : List Stm} (ih : SS G C lev rec) (g : GoodS G C Wx lev X c) (h : mapO (sStep n rec c) l = some xs) : PSs X l (tS G Wx (exSs C xs)) := by
  induction l generalizing xs with
  | nil => rw [mapO_nil h, ex_ss0]; exact k_nil
  | cons st l ihl =>
    obtain ⟨y, ys, h1, h2, rfl⟩ := mapO_cons h
    rw [ex_ss]
    exact k_cons (ts_step (m := 0) ih g h1) (ihl h2)
theorem ss_all : ∀ m : Nat, SS G C lev (cSs n m)
  | 0 => fun _ h => by cases h
  | m + 1 => fun g h => ss_step (ss_all m) g h
end
end Mi

/-! Mi, part K: a call's end; the defs. -/
namespace Mi
open PySem L2 PyProof.Rows RT RZ

section
variable {G : Gb} {φ φ' : List Addr} {H : Hp}
theorem get_back (p : φ <+: φ') {n : Nat} {a : Addr} (hn : n < φ.length) (h : φ'[n]? = some a) : φ[n]? = some a := by
  obtain ⟨t, rfl⟩ := p
  rw [List.getElem?_append_left hn] at h
  exact h
mutual
theorem Rp.back (p : φ <+: φ') : ∀ (d : Mi.D) (v : V), d.und φ.length = true → Rp G φ' H d v → Rp G φ H d v
  | .non, _, _, h => by unfold Rp at h ⊢; exact h
  | .bl _, _, _, h => by unfold Rp at h ⊢; exact h
  | .int _, _, _, h => by unfold Rp at h ⊢; exact h
  | .str _, _, _, h => by unfold Rp at h ⊢; exact h
  | .tup ds, _, u, h => by
    unfold Rp at h ⊢
    unfold D.und at u
    obtain ⟨a, vs, e, ha, hr⟩ := h
    exact ⟨a, vs, e, ha, Rps.back p ds vs u hr⟩
  | .ls ds, _, u, h => by
    unfold Rp at h ⊢
    unfold D.und at u
    obtain ⟨a, vs, e, ha, hr⟩ := h
    exact ⟨a, vs, e, ha, Rps.back p ds vs u hr⟩
  | .kt ds, _, u, h => by
    unfold Rp at h ⊢
    unfold D.und at u
    obtain ⟨a, vs, e, ha, hr⟩ := h
    exact ⟨a, vs, e, ha, Rps.back p ds vs u hr⟩
  | .ref n, _, u, h => by
    unfold Rp at h ⊢
    unfold D.und at u
    obtain ⟨a, e, ha⟩ := h
    exact ⟨a, e, get_back p (of_decide_eq_true u) ha⟩
theorem Rps.back (p : φ <+: φ') : ∀ (ds : List Mi.D) (vs : List V), D.unds φ.length ds = true → Rps G φ' H ds vs → Rps G φ H ds vs
  | [], _, _, h => by unfold Rps at h ⊢; exact h
  | d :: ds, _, u, h => by
    unfold Rps at h ⊢
    unfold D.unds at u
    rw [Bool.and_eq_true] at u
    obtain ⟨v, r, e, h1, h2⟩ := h
    exact ⟨v, r, e, Rp.back p d v u.1 h1, Rps.back p ds r u.2 h2⟩
end
theorem RpKV.back {κ : Type} (p : φ <+: φ') : ∀ {kvs : List (κ × Mi.D)} {vs : List (κ × V)}, D.unds φ.length (kvs.map (·.2)) = true → RpKV G φ' H kvs vs → RpKV G φ H kvs vs
  | [], _, _, h => h
  | q :: r, _, u, h => by
    rw [List.map_cons] at u
    unfold D.unds at u
    rw [Bool.and_eq_true] at u
    obtain ⟨v, t, e, h1, h2⟩ := h
    exact ⟨v, t, e, Rp.back p _ v u.1 h1, RpKV.back p u.2 h2⟩
theorem RpO.back (p : φ <+: φ') {o : O} {a : Addr} (u : o.und φ.length = true) (h : RpO G φ' H o a) : RpO G φ H o a := by
  cases o with
  | lst ds => obtain ⟨vs, h1, h2⟩ := h; exact ⟨vs, h1, Rps.back p _ _ u h2⟩
  | dk ds => obtain ⟨vs, h1, h2⟩ := h; exact ⟨vs, h1, RpKV.back p u h2⟩
  | dt ds => obtain ⟨vs, h1, h2⟩ := h; exact ⟨vs, h1, RpKV.back p u h2⟩
  | ins c ds => obtain ⟨C, dx, vs, h0, h1, h2⟩ := h; exact ⟨C, dx, vs, h0, h1, RpKV.back p u h2⟩
mutual
theorem Rp.und : ∀ (d : Mi.D) (v : V), Rp G φ H d v → d.und φ.length = true
  | .non, _, _ => by unfold D.und; rfl
  | .bl _, _, _ => by unfold D.und; rfl
  | .int _, _, _ => by unfold D.und; rfl
  | .str _, _, _ => by unfold D.und; rfl
  | .tup ds, _, h => by
    unfold Rp at h
    unfold D.und
    obtain ⟨a, vs, e, ha, hr⟩ := h
    exact Rps.und ds vs hr
  | .ls ds, _, h => by
    unfold Rp at h
    unfold D.und
    obtain ⟨a, vs, e, ha, hr⟩ := h
    exact Rps.und ds vs hr
  | .kt ds, _, h => by
    unfold Rp at h
    unfold D.und
    obtain ⟨a, vs, e, ha, hr⟩ := h
    exact Rps.und ds vs hr
  | .ref n, _, h => by
    unfold Rp at h
    unfold D.und
    obtain ⟨a, e, ha⟩ := h
    exact decide_eq_true (List.getElem?_eq_some_iff.mp ha).1
theorem Rps.und : ∀ (ds : List Mi.D) (vs : List V), Rps G φ H ds vs → D.unds φ.length ds = true
  | [], _, _ => by unfold D.unds; rfl
  | d :: ds, _, h => by
    unfold Rps at h
    unfold D.unds
    obtain ⟨v, r, e, h1, h2⟩ := h
    rw [Rp.und d v h1, Rps.und ds r h2]
    rfl
end
theorem RpKV.und {κ : Type} : ∀ {kvs : List (κ × Mi.D)} {vs : List (κ × V)}, RpKV G φ H kvs vs → D.unds φ.length (kvs.map (·.2)) = true
  | [], _, _ => by unfold D.unds; rfl
  | q :: r, _, h => by
    obtain ⟨v, t, e, h1, h2⟩ := h
    rw [List.map_cons]
    unfold D.unds
    rw [Rp.und _ v h1, RpKV.und h2]
    rfl
theorem RpO.und {o : O} {a : Addr} (h : RpO G φ H o a) : o.und φ.length = true := by
  cases o with
  | lst ds => obtain ⟨vs, h1, h2⟩ := h; exact Rps.und _ _ h2
  | dk ds => obtain ⟨vs, h1, h2⟩ := h; exact RpKV.und h2
  | dt ds => obtain ⟨vs, h1, h2⟩ := h; exact RpKV.und h2
  | ins c ds => obtain ⟨C, dx, vs, h0, h1, h2⟩ := h; exact RpKV.und h2
theorem Rel.back {H' : Hp} {S S' : Store} (R : Rel G φ H S) (e : Ext φ H φ' H') (R' : Rel G φ' H' S') (k : keeps S S') : Rel G φ H' (S'.take S.length) := by
  have hl : S.length ≤ S'.length := by
    rw [← R.len, ← R'.len]
    obtain ⟨t, ht⟩ := e.pre
    rw [← ht, List.length_append]
    omega
  refine ⟨by rw [List.length_take, R.len]; omega, R.nd, fun n a o h1 h2 => ?_⟩
  have hn : n < S.length := by rw [← R.len]; exact (List.getElem?_eq_some_iff.mp h1).1
  rw [List.getElem?_take_of_lt hn] at h2
  have q := R'.obj n a o (e.get h1) h2
  refine RpO.back e.pre ?_ q
  rcases k n o hn h2 with z | z
  · exact RpO.und (R.obj n a o h1 z)
  · rw [R.len]; exact z
theorem Ext.back {H' : Hp} (e : Ext φ H φ' H') : Ext φ H φ H' := ⟨List.prefix_refl _, e.keep, fun _ h => .inl h⟩
theorem pack_post {S S' : Store} {d : Mi.D} {xk : XK} {Q : VK} (R : Rel G φ H S) (h : Post G (RlD G) φ H (pack S d S') xk Q) {v : V} {H' : Hp} (e : Ext φ H φ' H') (R' : Rel G φ' H' S') (r : Rp G φ' H' d v) : Q v H' := by
  unfold pack at h
  by_cases k : keeps S S'
  · rw [if_pos k] at h
    by_cases u : d.und S.length = true
    · rw [if_pos u] at h
      exact h v H' φ e.back (R.back e R' k) (Rp.back e.pre d v (by rw [R.len]; exact u) r)
    · rw [if_neg u] at h
      have keep : Post G (RlD G) φ H (.ok d S') xk Q → Q v H' := fun h => h v H' φ' e R' r
      cases d with
      | ref m =>
        dsimp only at h
        cases hm : S'[m]? with
        | none => rw [hm] at h; exact keep h
        | some o =>
          rw [hm] at h
          dsimp only at h
          by_cases uo : o.und S.length = true
          · rw [if_pos uo] at h
            unfold Rp at r
            obtain ⟨a, rfl, ha⟩ := r
            have hge : S.length ≤ m := by
              by_cases q : m < S.length
              · exact absurd (by unfold D.und; exact decide_eq_true q) u
              · omega
            have na : a ∉ φ := fun hmem => by
              obtain ⟨i, hi, ei⟩ := List.getElem_of_mem hmem
              have e1 : φ'[i]? = some a := e.get (by rw [List.getElem?_eq_getElem hi, ei])
              obtain ⟨hi', ei'⟩ := List.getElem?_eq_some_iff.mp e1
              obtain ⟨hm', em'⟩ := List.getElem?_eq_some_iff.mp ha
              have z : i = m := (List.getElem?_inj hi' R'.nd).mp (e1.trans ha.symm)
              rw [R.len] at hi
              omega
            have q := R'.obj m a o ha hm
            have q := RpO.back e.pre (by rw [R.len]; exact uo) q
            refine h _ H' (φ ++ [a]) ⟨List.prefix_append _ _, e.keep, fun x hx => ?_⟩ ((R.back e R' k).more na q) ?_
            · rcases List.mem_append.mp hx with z | z
              · exact .inl z
              · simp at z; subst z
                exact e.new x (List.mem_of_getElem? ha)
            · show Rp G _ _ (.ref S.length) _
              unfold Rp
              exact ⟨a, rfl, by rw [← R.len]; simp⟩
          · rw [if_neg uo] at h; exact keep h
      | _ => exact keep h
  · rw [if_neg k] at h
    exact h v H' φ' e R' r
end

/-! ### the defs -/
/-- a look at the names of a def's scope -/
def scC (N P : List Str) (sc : Scope) : Bool :=
  decide (sc.kind = .function) && !sc.isCoroutine && !sc.isGenerator && decide N.Nodup && decide (N.take P.length = P) && P.all (fun x => decide (sc.names.lookup x = some .local) || decide (sc.names.lookup x = some .cell)) && sc.names.all (fun y => !decide (y.2 = .free))
theorem fnScope_by {N P : List Str} {sc : Scope} (h : scC N P sc = true) : FnScope N P sc := by
  unfold scC at h
  simp only [Bool.and_eq_true, Bool.not_eq_true', decide_eq_true_eq, List.all_eq_true, Bool.or_eq_true, decide_eq_false_iff_not] at h
  obtain ⟨⟨⟨⟨⟨⟨h1, h2⟩, h3⟩, h4⟩, h5⟩, h6⟩, h7⟩ := h
  exact ⟨h1, h2, h3, h4, h5, h6, h7⟩
/-- what is known of a def of the table -/
structure DefOk (G : Gb) (tab : Nat → Option Fn) (gl : List (Str × Gl)) (x : Str) (i : Nat) (f : Addr) (fd : FuncData) (ps : List Str) : Prop where
  ex : ∃ (st : Stmt) (N : List Str) (F : Fn), L2.Fun G.K x x st f fd ∧ scC N ps (defScope st) = true ∧ cSs 100 100 ⟨N, gl, defScope st⟩ (defBody st) = some F.body ∧ tab i = some F ∧ F.np = ps.length ∧ F.nl = N.length
/-- what is known of the text's top -/
structure TopOk (G : Gb) (tab : Nat → Option Fn) (gl : List (Str × Gl)) (mg : Str → Option Value) : Prop where
  fns : ∀ x i, gl.lookup x = some (.fn i) → ∃ f fd ps, mg x = some (.ref f) ∧ PySem.W.keepIn G.K (.ref f) = true ∧ Binds G.K fd ps [] ∧ DefOk G tab gl x i f fd ps
  cst : ∀ x d, gl.lookup x = some (.cst d) → ∃ v u, mg x = some u ∧ L2.RelV v u ∧ ∀ φ H, Rp G φ H d v
  blt : ∀ x ∈ bltNames, gl.lookup x = none → mg x = none
  exc : ∀ x k, gl.lookup x = some (.exc k) → ∃ (C : Addr) (bmB : List Value) (B newId initId : String), PySem.ExcBaseFacts B newId initId bmB ∧ PySem.W.excIn G.K C bmB newId = true ∧ mg x = some (.ref C) ∧ PySem.W.keepIn G.K (.ref C) = true ∧ PySem.W.subIn G.K (.ref C) (.type "BaseException") = some true ∧ PySem.W.typeIn G.K (.ref C) = some (.type "type") ∧ G.exc k = some (.ref C)
section
variable {G : Gb} {tab : Nat → Option Fn} {gl : List (Str × Gl)} {mg : Str → Option Value} {P : Program} {w : World} {base : Heap}
theorem sl_start {φ : List Addr} {H : Hp} {ds : List Mi.D} {vs : List V} {N : List Str} (r : Rps G φ H ds vs) : Sl G φ H (ds.map some ++ List.replicate (N.length - ds.length) none) (L2.start N vs) := by
  unfold L2.start
  rw [r.len]
  refine ⟨by simp [r.len], fun i d h => ?_⟩
  by_cases hi : i < ds.length
  · rw [List.getElem?_append_left (by simpa using hi), List.getElem?_map] at h
    obtain ⟨d', h1, h2⟩ := Option.map_eq_some_iff.mp h
    cases h2
    obtain ⟨v, h3, h4⟩ := r.get h1
    refine ⟨v, ?_, h4⟩
    rw [List.getElem?_append_left (by rw [List.length_map, ← r.len]; exact hi), List.getElem?_map, h3]
    rfl
  · rw [List.getElem?_append_right (by simpa using hi), List.getElem?_replicate] at h
    split at h <;> cases h
theorem def_ok (T : TopOk G tab gl mg) : ∀ (n : Nat) (x : Str) (i : Nat) (f : Addr) (fd : FuncData) (ps : List Str), DefOk G tab gl x i f fd ps → FnOk P w G.K mg base (L2.CX P w) (3 * n) f fd ps (spI G (run tab n) i)
  | 0, x, i, f, fd, ps, _ => ⟨fun vs H Q E ⟨φ, S, ds, _, _, h⟩ => by unfold run at h; exact h.elim, fun A outer s H args us vs Q E _ _ _ _ ⟨φ, S, ds, _, _, h⟩ => by unfold run at h; exact h.elim⟩
  | n + 1, x, i, f, fd, ps, D => by
    obtain ⟨st, N, F, hF, hsc, htr, htab, hnp, hnl⟩ := D.ex
    obtain ⟨oc, od, kV, doc, pm, an, cdv, ct, osl, rfl, lk, hcd⟩ := hF.ex
    have Sc := fnScope_by hsc
    -- what a run of it is
    have key : ∀ vs H Q E, spI G (run tab (n + 1)) i vs H Q E → vs.length = ps.length ∧ ∃ φ S ds, Rel G φ H S ∧ Rps G φ H ds vs ∧ ds.length = F.np ∧ Post G (RlD G) φ H (match exSs (run tab n) F.body (ds.map some ++ List.replicate (F.nl - F.np) none) S with
        | .ok (.rt d) _ S' => pack S d S'
        | .ok .nx _ S' => pack S .non S'
        | .ok _ _ _ => .bad
        | .ex c fs _ S' => .ex c fs S'
        | .bad => .bad) E Q := by
      intro vs H Q E h
      obtain ⟨φ, S, ds, R, r, h⟩ := h
      unfold run at h
      rw [htab] at h
      dsimp only at h
      by_cases hl : ds.length = F.np
      · rw [if_pos hl] at h
        exact ⟨by rw [← r.len, hl, hnp], φ, S, ds, R, r, hl, h⟩
      · rw [if_neg hl] at h; exact h.elim
    refine fn_of lk hcd Sc (fun vs H Q E h => (key vs H Q E h).1) fun A outer s H vs Q E hr h => ?_
    obtain ⟨_, φ, S, ds, R, r, hl, h⟩ := key vs H Q E h
    have tk : Takes (cxOf (L2.CX P w) P w G.K mg base N x (defScope st) f cdv A outer s H E) (fun cls d _ H => E cls d H) := takes_of rfl rfl rfl rfl
    have g : GoodS G (run tab n) (fun cls d _ H => E cls d H) (3 * n) (cxOf (L2.CX P w) P w G.K mg base N x (defScope st) f cdv A outer s H E) ⟨N, gl, defScope st⟩ :=
      { hK := rfl
        hN := rfl
        nd := Sc.nd
        vis := fun y hy => by
          unfold Ct.vis at hy
          have hy : (match (defScope st).names.lookup y with | some .local => true | some .cell => true | some .free => true | _ => false) = true := hy
          show (defScope st).names.lookup y = _ ∨ (defScope st).names.lookup y = _ ∨ (defScope st).names.lookup y = _
          split at hy
          · exact .inl (by assumption)
          · exact .inr (.inl (by assumption))
          · exact .inr (.inr (by assumption))
          · cases hy
        glb := fun y hy => show (defScope st).names.lookup y = some .globalImplicit from of_decide_eq_true hy
        loc := fun y hy => by
          unfold Ct.loc at hy
          have hy : (match (defScope st).names.lookup y with | some .local => true | some .cell => true | _ => false) = true := hy
          refine ⟨?_, .inl rfl⟩
          show (defScope st).names.lookup y = _ ∨ (defScope st).names.lookup y = _
          split at hy
          · exact .inl (by assumption)
          · exact .inr (by assumption)
          · cases hy
        cf := fun y h => h
        calm := rfl
        hu := by
          have := hr.un
          show (A.deeper (envOfC x (defScope st) s.heap.objs.size f cdv)).units + 64 < cLine
          omega
        room := hr
        fns := fun y j hj => by
          obtain ⟨f2, fd2, ps2, h1, h2, h3, h4⟩ := T.fns y j hj
          exact ⟨f2, fd2, ps2, h1, h2, h3, def_ok T n y j f2 fd2 ps2 h4⟩
        cst := T.cst
        blt := T.blt
        exc := fun y k hk => ⟨T.exc y k hk⟩
        tk := tk
        pas := fun σ pins H s e s' I cx => passes_call (W := fun cls d _ H => E cls d H) (E := E) tk (fun cls d σ H h => h) pins σ H s e s' I cx
        sc := rfl
        kind := Sc.kind
        own := passes_of rfl }
    refine ⟨_, ss_all 100 g htr, φ, _, S, R, sl_start r, ?_⟩
    rw [← hnl, hl]
    cases q : exSs (run tab n) F.body (ds.map some ++ List.replicate (F.nl - F.np) none) S with
    | bad => rw [q] at h; exact h.elim
    | ex c fs ρ' S' =>
      rw [q] at h
      exact fun cls dx σ' H' φ' e R' sl x => h cls dx H' φ' e R' x
    | ok fl ρ' S' =>
      rw [q] at h
      cases fl with
      | nx => exact fun σ' H' φ' e R' sl => pack_post R h e R' (by unfold Rp; rfl)
      | rt d => exact fun v H' φ' e R' r' => pack_post R h e R' r'
      | brk => exact h.elim
      | cnt => exact h.elim
end
end Mi

/-! Mi, part P: the law's end. -/
namespace Mi
open PySem L2 PyProof.Rows RT RZ
/-- the own exceptions' classes, by their names -/
def gbX (xs : List Str) (K : PySem.W.Frag) : Gb := ⟨K, fun _ => none, fun k => match xs[k]? with
  | some x => (match PySem.W.nsIn K mainGlobals x with
    | some (some v) => some v
    | _ => none)
  | none => none⟩
theorem ints_rps {G : Gb} {φ : List Addr} {H : Hp} : ∀ ns : List Int, Rps G φ H (ns.map Mi.D.int) (ns.map V.int)
  | [] => by show Rps G φ H [] []; unfold Rps; rfl
  | n :: ns => by
    rw [List.map_cons, List.map_cons]
    unfold Rps
    exact ⟨.int n, _, rfl, by unfold Rp; rfl, ints_rps ns⟩
theorem rel0 {G : Gb} {H : Hp} : Rel G [] H [] := ⟨rfl, List.nodup_nil, fun n a o h _ => by simp at h⟩
theorem lis_of {K : PySem.W.Frag} {H : Hp} {a : Addr} {xs : List V} (hO : Only H) (h : SqL K H a xs) : LisA K H a xs := by
  rcases h with (h | ⟨o, h⟩) | h
  · rcases hO a with z | ⟨o, ys, z⟩
    · rw [z] at h; cases h
    · rw [z] at h; cases h
  · exact .inl ⟨o, h⟩
  · exact .inr h
/-- what is known of a row of the table of globals -/
def TopQ (G : Gb) (tab : Nat → Option Fn) (gl : List (Str × Gl)) (mg : Str → Option Value) (p : Str × Gl) : Prop := match p.2 with
  | .fn i => ∃ f fd ps, mg p.1 = some (.ref f) ∧ PySem.W.keepIn G.K (.ref f) = true ∧ Binds G.K fd ps [] ∧ DefOk G tab gl p.1 i f fd ps
  | .cst d => ∃ v u, mg p.1 = some u ∧ L2.RelV v u ∧ ∀ φ H, Rp G φ H d v
  | .exc k => ∃ (C : Addr) (bmB : List Value) (B newId initId : String), PySem.ExcBaseFacts B newId initId bmB ∧ PySem.W.excIn G.K C bmB newId = true ∧ mg p.1 = some (.ref C) ∧ PySem.W.keepIn G.K (.ref C) = true ∧ PySem.W.subIn G.K (.ref C) (.type "BaseException") = some true ∧ PySem.W.typeIn G.K (.ref C) = some (.type "type") ∧ G.exc k = some (.ref C)
theorem lookup_mem {α : Type} {x : Str} {v : α} : ∀ {l : List (Str × α)}, l.lookup x = some v → (x, v) ∈ l
  | [], h => by cases h
  | (y, w) :: r, h => by
    rw [List.lookup_cons] at h
    cases e : x == y with
    | true =>
      rw [e] at h
      cases h
      have q : x = y := by simpa using e
      subst q
      exact List.mem_cons_self
    | false =>
      rw [e] at h
      exact List.mem_cons_of_mem _ (lookup_mem h)
theorem topOk_of {G : Gb} {tab : Nat → Option Fn} {gl : List (Str × Gl)} {mg : Str → Option Value} (h : ∀ p ∈ gl, TopQ G tab gl mg p) (hb : ∀ x ∈ bltNames, mg x = none) : TopOk G tab gl mg :=
  ⟨fun x i hi => h _ (lookup_mem hi), fun x d hd => h _ (lookup_mem hd), fun x hx _ => hb x hx, fun x k hk => h _ (lookup_mem hk)⟩
/-- a law of the given script, from what run tells -/
theorem walk_mi {l : PySem.W.OpenLaw} {n k i : Nat} {q : Program} {loose : List Str} {XP : (Str → Option Value) → Heap → Prop} {YP : World → Heap → Prop} {d : DefRec} {K : Params → PySem.W.Frag} {tab : Nat → Option Fn} {gl : List (Str × Gl)} {x y : Str} {xs : List Str}
    (hn : l.most = some n) (hn2 : n ≤ sizeLine) (hdf : d.params.defaults = []) (hr : Room (3 * k) callerA)
    (hY : ∀ (w : World) (h : Heap), YP w h → (K w.params).In h)
    (F : ∀ (w : World) (mg : Str → Option Value) (fa : Addr) (h : Heap), (K w.params).In h → h.Ns mainGlobals mg → mg d.name = some (.ref fa) →
      ∃ fd : FuncData, (∀ (s : Shared) (u : Value), BindsTo s fd ⟨[u], []⟩ [(x, u)]) ∧ TopOk (gbX xs (K w.params)) tab gl mg ∧ DefOk (gbX xs (K w.params)) tab gl y i fa fd [x])
    (hlaw : ∀ ns : List Int, ns.length ≤ n → ∃ S, run tab k i [.ls (ns.map Mi.D.int)] [] = .ok (.bl true) S) :
    PySem.W.WalkO q loose XP YP l.row.toRowW d [] (fun f vs => PySem.call f vs) := by
  refine L2.walk_of (n := n) (k := 3 * k) (x := x) (K := K) (CX := fun w => L2.CX l.prog w) (sp := fun w => spI (gbX xs (K w.params)) (run tab k) i) hn hn2 hdf hr hY (fun w mg fa h KX G hmg => ?_) (fun w H a ns hl hO hS => ?_) fun w H s e s' h => ?_
  · obtain ⟨fd, hb, T, D⟩ := F w mg fa h KX G hmg
    exact ⟨fd, hb, fun base _ _ => def_ok T k y i fa fd [x] D⟩
  · obtain ⟨S, hrun⟩ := hlaw ns hl
    refine ⟨[], [], [.ls (ns.map Mi.D.int)], rel0, ?_, ?_⟩
    · unfold Rps
      refine ⟨.ref a, [], rfl, ?_, ?_⟩
      · unfold Rp
        exact ⟨a, ns.map V.int, rfl, lis_of hO hS, ints_rps ns⟩
      · unfold Rps; rfl
    · rw [hrun]
      intro v H' φ' _ _ r
      have r : Rp (gbX xs (K w.params)) φ' H' (.bl true) v := r
      unfold Rp at r
      exact r
  · obtain ⟨_, _, _, _, _, _, _, _, _, _, _, _, hF⟩ := h
    exact hF.elim
end Mi

/-! Mi, part Q: reckoning with run. -/
namespace Mi
open PySem
abbrev CF := Nat → List D → Store → R D
/-- a call's end -/
noncomputable def fin (S : Store) (r : RS) : R D := match r with
  | .ok (.rt d) _ S' => pack S d S'
  | .ok .nx _ S' => pack S .non S'
  | .ok _ _ _ => .bad
  | .ex c fs _ S' => .ex c fs S'
  | .bad => .bad
theorem run_fin {tab : Nat → Option Fn} {n i : Nat} {F : Fn} {ds : List D} {S : Store} (h : tab i = some F) (hl : ds.length = F.np) : run tab (n + 1) i ds S = fin S (exSs (run tab n) F.body (ds.map some ++ List.replicate (F.nl - F.np) none) S) := by
  unfold run
  rw [h]
  dsimp only
  rw [if_pos hl]
  rfl
theorem keeps_refl (S : Store) : keeps S S := fun i o _ h => .inl h
theorem keeps_app (S T : Store) : keeps S (S ++ T) := fun i o h e => .inl (by rw [List.getElem?_append_left h] at e; exact e)
theorem pack_app {S T : Store} {d : D} (h : d.und S.length = true) : pack S d (S ++ T) = .ok d S := by
  unfold pack
  rw [if_pos (keeps_app S T), if_pos h, List.take_left]
theorem pack_same {S : Store} {d : D} (h : d.und S.length = true) : pack S d S = .ok d S := by
  have := pack_app (T := []) h
  rwa [List.append_nil] at this
/-- one place that stood is written, with what knows nothing new -/
theorem pack_set {S T : Store} {d : D} {k : Nat} {o : O} (hk : k < S.length) (ho : o.und S.length = true) (h : d.und S.length = true) : pack S d ((S.set k o) ++ T) = .ok d (S.set k o) := by
  unfold pack
  have hkp : keeps S (S.set k o ++ T) := fun i u hi e => by
    rw [List.getElem?_append_left (by rw [List.length_set]; exact hi)] at e
    by_cases z : k = i
    · subst z
      rw [List.getElem?_set_self hk] at e
      cases e
      exact .inr ho
    · rw [List.getElem?_set_ne z] at e
      exact .inl e
  have ht : (S.set k o ++ T).take S.length = S.set k o := by
    rw [List.take_append_of_le_length (by rw [List.length_set]; exact Nat.le_refl _), List.take_of_length_le (by rw [List.length_set]; exact Nat.le_refl _)]
  rw [if_pos hkp, if_pos h, ht]
/-- a new object that knows nothing new is handed out -/
theorem pack_new {S : Store} {o : O} (ho : o.und S.length = true) : pack S (.ref S.length) (S ++ [o]) = .ok (.ref S.length) (S ++ [o]) := by
  unfold pack
  rw [if_pos (keeps_app S [o]), if_neg (by unfold D.und; simp)]
  dsimp only
  rw [List.getElem?_append_right (Nat.le_refl _), Nat.sub_self]
  show (if o.und S.length = true then _ else _) = _
  rw [if_pos ho, List.take_left]

@[simp] theorem und_int {k : Nat} {i : Int} : D.und k (.int i) = true := by unfold D.und; rfl
@[simp] theorem und_str {k : Nat} {i : Str} : D.und k (.str i) = true := by unfold D.und; rfl
@[simp] theorem und_bl {k : Nat} {i : Bool} : D.und k (.bl i) = true := by unfold D.und; rfl
@[simp] theorem und_non {k : Nat} : D.und k .non = true := by unfold D.und; rfl
@[simp] theorem und_tup {k : Nat} {ds : List D} : D.und k (.tup ds) = D.unds k ds := by rw [D.und]
@[simp] theorem unds_nil {k : Nat} : D.unds k [] = true := by unfold D.unds; rfl
@[simp] theorem unds_cons {k : Nat} {d : D} {r : List D} : D.unds k (d :: r) = (D.und k d && D.unds k r) := by rw [D.unds]
@[simp] theorem und_ref {k n : Nat} : D.und k (.ref n) = decide (n < k) := by rw [D.und]

/-! ### operations -/
section
variable {S : Store}
@[simp] theorem py_int {i : Int} : W.py S (.val (.int i)) = some (.int i) := rfl
@[simp] theorem py_str {x : Str} : W.py S (.val (.str x)) = some (.str x) := rfl
@[simp] theorem py_bl {b : Bool} : W.py S (.val (.bl b)) = some (.bool b) := rfl
@[simp] theorem py_non : W.py S (.val .non) = some .none := rfl
theorem eq_ii {i j : Int} : p2 .eq (.val (.int i)) (.val (.int j)) S = .ok (.val (.bl (decide (i = j)))) S := by
  show vv (.bl (i == j)) S = _
  by_cases h : i = j
  · subst h; simp [vv]
  · rw [decide_eq_false h]; have : (i == j) = false := by simpa using h
    rw [this]; rfl
theorem ne_ii {i j : Int} : p2 .ne (.val (.int i)) (.val (.int j)) S = .ok (.val (.bl (!decide (i = j)))) S := by
  show vv (.bl (!(i == j))) S = _
  by_cases h : i = j
  · subst h; simp [vv]
  · rw [decide_eq_false h]; have : (i == j) = false := by simpa using h
    rw [this]; rfl
theorem eq_ss {i j : Str} : p2 .eq (.val (.str i)) (.val (.str j)) S = .ok (.val (.bl (decide (i = j)))) S := by
  show vv (.bl (i == j)) S = _
  by_cases h : i = j
  · subst h; simp [vv]
  · rw [decide_eq_false h]; have : (i == j) = false := by simpa using h
    rw [this]; rfl
theorem ne_ss {i j : Str} : p2 .ne (.val (.str i)) (.val (.str j)) S = .ok (.val (.bl (!decide (i = j)))) S := by
  show vv (.bl (!(i == j))) S = _
  by_cases h : i = j
  · subst h; simp [vv]
  · rw [decide_eq_false h]; have : (i == j) = false := by simpa using h
    rw [this]; rfl
theorem lt_ii {i j : Int} : p2 .lt (.val (.int i)) (.val (.int j)) S = .ok (.val (.bl (decide (i < j)))) S := by
  have e : W.dataLt (.int i) (.int j) = decide (i < j) := by simp [W.dataLt, W.keyToks, PyProof.Rows.lex_cons, PyProof.Rows.itemLt, PyProof.Rows.lexLt]
  show ob (some (W.dataLt (.int i) (.int j))) S = _
  rw [e]; rfl
theorem lt_ss {i j : Str} : p2 .lt (.val (.str i)) (.val (.str j)) S = .ok (.val (.bl (decide (i.cps.toList < j.cps.toList)))) S := by
  have e : W.dataLt (.str i) (.str j) = decide (i.cps.toList < j.cps.toList) := by simp [W.dataLt, W.keyToks, PyProof.Rows.lex_cons, PyProof.Rows.itemLt, PyProof.Rows.lexLt]
  show ob (some (W.dataLt (.str i) (.str j))) S = _
  rw [e]; rfl
end
end Mi

/-! Mi, part R: reckoning with texts as lists of signs, with loops. -/
namespace Mi
open PySem
abbrev tx (l : List Nat) : D := .str (SX.S l)
theorem tx_inj {a b : List Nat} (h : tx a = tx b) : a = b := SX.S_inj (by injection h)
theorem S_surj (z : Str) : ∃ l : List Nat, z = SX.S l := ⟨_, (SX.S_tl z).symm⟩
theorem S_eqP {a b : List Nat} : (SX.S a = SX.S b) = (a = b) := propext ⟨SX.S_inj, fun h => by rw [h]⟩
def rp1 (y z : Nat) (l : List Nat) : List Nat := l.map fun c => if c = y then z else c
theorem replL_one {y z : Nat} : ∀ l : List Nat, StrLaws.replL [y] [z] l = rp1 y z l
  | [] => StrLaws.replL_nil
  | c :: r => by
    by_cases h : c = y
    · rw [StrLaws.replL_hit (by simp) (by simp [h])]
      show [z] ++ StrLaws.replL [y] [z] r = _
      rw [replL_one r]
      unfold rp1
      rw [List.map_cons, if_pos h]; rfl
    · rw [StrLaws.replL_miss (by simp [h]), replL_one r]
      unfold rp1
      rw [List.map_cons, if_neg h]
section
variable {S : Store} {a b l : List Nat} {c : Nat}
theorem len_tx (h : l.length ≤ sizeLine) : p1 .len (.val (tx l)) S = .ok (.val (.int l.length)) S := by
  show (if (SX.S l).length ≤ sizeLine then vv (.int (SX.S l).length) S else .bad) = _
  rw [SX.S_len, if_pos h]; rfl
theorem add_tx (h : a.length + b.length ≤ sizeLine) : p2 .add (.val (tx a)) (.val (tx b)) S = .ok (.val (tx (a ++ b))) S := by
  show (if (SX.S a).length + (SX.S b).length ≤ sizeLine then vv (.str (SX.S a ++ SX.S b)) S else .bad) = _
  rw [SX.S_len, SX.S_len, if_pos h, SX.S_cat]; rfl
theorem eq_tx : p2 .eq (.val (tx a)) (.val (tx b)) S = .ok (.val (.bl (decide (a = b)))) S := by
  rw [eq_ss]; simp only [S_eqP]
theorem ne_tx : p2 .ne (.val (tx a)) (.val (tx b)) S = .ok (.val (.bl (!decide (a = b)))) S := by
  rw [ne_ss]; simp only [S_eqP]
theorem ix_tx {i : Int} (h : L2.atI l i = some c) (hz : l.length ≤ sizeLine) : p2 .ix (.val (tx l)) (.val (.int i)) S = .ok (.val (tx [c])) S := by
  show (match L2.atI l i with | some c => if (SX.S l).length ≤ sizeLine then vv (.str ⟨#[c]⟩) S else .bad | none => .bad) = _
  rw [h, SX.S_len]
  show (if l.length ≤ sizeLine then _ else _) = _
  rw [if_pos hz]; rfl
theorem in_tx : p2 .inn (.val (tx [c])) (.val (tx l)) S = .ok (.val (.bl (decide (c ∈ l)))) S := by
  show ob (some (!(Builtin.Str.occurrences (SX.S l) (SX.S [c]) 0 (SX.S l).length 1).isEmpty)) S = _
  rw [SX.in_one]; rfl
theorem nin_tx : p2 .nin (.val (tx [c])) (.val (tx l)) S = .ok (.val (.bl (!decide (c ∈ l)))) S := by
  show ob ((some (!(Builtin.Str.occurrences (SX.S l) (SX.S [c]) 0 (SX.S l).length 1).isEmpty)).map (!·)) S = _
  rw [SX.in_one]; rfl
theorem cut_tx {lo hi : Option Int} (hz : l.length ≤ sizeLine) : cutW (.val (tx l)) lo hi S = .ok (.val (tx (cutD l lo hi))) S := by
  show (if (SX.S l).length ≤ sizeLine then vv (.str (L2.cutS (SX.S l) lo hi)) S else .bad) = _
  rw [SX.S_len, if_pos hz]; rfl
theorem ord_tx : p1 .ord (.val (tx [c])) S = .ok (.val (.int c)) S := rfl
theorem split_tx (hc : c < 256) (hz : a.length + 2 ≤ sizeLine) : p2 .split (.val (tx a)) (.val (tx [c])) S = .ok (.lis ((TL.spl [c] 0 [] a).map tx)) S := by
  show (if ((SX.S [c]).length == 0) = false ∧ (SX.S a).length + 2 ≤ sizeLine then R.ok (W.lis ((Txt.split (SX.S a) (SX.S [c])).map D.str)) S else .bad) = _
  rw [SX.S_len, SX.S_len, if_pos ⟨rfl, hz⟩, SX.split_S (by simp) (by simpa using hc), List.map_map]; rfl
theorem strsOf_tx : ∀ ys : List (List Nat), strsOf (ys.map tx) = some (ys.map SX.S)
  | [] => rfl
  | y :: ys => by rw [List.map_cons, strsOf, strsOf_tx ys]; rfl
theorem joinL_nil : ∀ ys : List (List Nat), TL.joinL [] ys = ys.flatten
  | [] => rfl
  | [p] => by simp [TL.joinL]
  | p :: q :: r => by
    show p ++ ([] ++ TL.joinL [] (q :: r)) = _
    rw [joinL_nil (q :: r)]; simp
theorem join_tx {ys : List (List Nat)} (hz : ys.flatten.length ≤ 16777216) : p2 .join (.val (tx [])) (.lis (ys.map tx)) S = .ok (.val (tx ys.flatten)) S := by
  show (match strsOf (ys.map tx) with | some ys => if joinFits (SX.S []) ys = true then vv (.str (Txt.join (SX.S []) ys)) S else .bad | none => .bad) = _
  rw [strsOf_tx]
  show (if joinFits (SX.S []) (ys.map SX.S) = true then _ else _) = _
  rw [if_pos]
  · rw [SX.join_S, joinL_nil]; rfl
  · unfold joinFits
    refine decide_eq_true ?_
    rw [SX.lens, SX.S_len]
    rw [List.length_flatten] at hz
    simp only [List.length_nil, Nat.mul_zero, Nat.add_zero]
    exact hz
theorem repl_S {y z : Nat} : Txt.replace (SX.S a) (SX.S [y]) (SX.S [z]) = SX.S (rp1 y z a) := by
  refine TL.ext_tl ?_
  show (Txt.replace (SX.S a) (SX.S [y]) (SX.S [z])).cps.toList = rp1 y z a
  rw [StrLaws.replace_list (by show 1 ≤ (SX.S [y]).length; rw [SX.S_len]; simp)]
  exact replL_one a
theorem replC_tx {y z : Nat} {i j : Int} {lo : Option Int} (hz : a.length ≤ 1000000) : replC (.val (tx a)) lo (.val (.int i)) (.val (.int j)) (SX.S [y]) (SX.S [z]) S = .ok (.val (tx (rp1 y z (cutD a lo (some (i + j)))))) S := by
  have hl : (cutD a lo (some (i + j))).length ≤ a.length := by
    unfold cutD
    rw [List.length_take, List.length_drop]; omega
  show (cutW (.val (tx a)) lo (some (i + j)) S).bd (fun x S => replW (SX.S [y]) (SX.S [z]) x S) = _
  rw [cut_tx (Nat.le_trans hz (by decide))]
  show (if (SX.S _).length + ((SX.S _).length + 1) * (SX.S [z]).length ≤ 16777216 then vv (.str (Txt.replace (SX.S _) (SX.S [y]) (SX.S [z]))) S else .bad) = _
  rw [SX.S_len, SX.S_len, if_pos (by simp; omega), repl_S]; rfl
theorem int_tx (h : a.all (fun c => decide (48 ≤ c) && decide (c ≤ 57)) = true) (hne : a ≠ []) (hl : a.length ≤ 640) : p1 .int_ (.val (tx a)) S = .ok (.val (.int ((NumText.digitsVal a : Nat) : Int))) S := by
  show (match intText? (SX.S a) with | some n => if (SX.S a).length ≤ 640 then vv (.int n) S else .bad | none => .bad) = _
  rw [SX.int_S h hne (by omega), SX.S_len]
  show (if a.length ≤ 640 then _ else _) = _
  rw [if_pos hl]; rfl
theorem log_ok {n : Nat} (h : n < 2 ^ 1000) : ((n : Int)).natAbs.log2 < 1920 := by
  show n.log2 < 1920
  by_cases z : n = 0
  · subst z; decide
  · exact Nat.lt_of_lt_of_le ((Nat.log2_lt z).mpr h) (by decide)
theorem str_tx {n : Nat} (h : n < 2 ^ 1000) : p1 .str_ (.val (.int n)) S = .ok (.val (tx (TL.numL n))) S := by
  show (if ((n : Int)).natAbs.log2 < 1920 then vv (.str (Str.ofString (toString (n : Int)))) S else .bad) = _
  rw [if_pos (log_ok h), SX.num_S]; rfl
theorem fmt_int {n : Nat} (h : n < 2 ^ 1000) : p1 .fmt (.val (.int n)) S = .ok (.val (tx (TL.numL n))) S := by
  show (if ((n : Int)).natAbs.log2 < 1920 then vv (.str (Str.ofString (toString (n : Int)))) S else .bad) = _
  rw [if_pos (log_ok h), SX.num_S]; rfl
theorem fmt_tx (h : a.length ≤ sizeLine) : p1 .fmt (.val (tx a)) S = .ok (.val (tx a)) S := by
  show (if (SX.S a).length ≤ sizeLine then vv (tx a) S else .bad) = _
  rw [SX.S_len, if_pos h]; rfl
theorem its_tx : its .it [.val (tx l)] S = some ⟨l.map fun c => tx [c], []⟩ := rfl
end

/-! ### numbers -/
section
variable {S : Store} {i j : Int}
theorem mod_ok (h : 0 < j) : p2 .mod (.val (.int i)) (.val (.int j)) S = .ok (.val (.int (i % j))) S := by
  show (if 0 < j then _ else _) = _
  rw [if_pos h]; rfl
theorem fdiv_ok (h : 0 < j) (h2 : j < 2 ^ 128) : p2 .fdiv (.val (.int i)) (.val (.int j)) S = .ok (.val (.int (i / j))) S := by
  show (if divFits j = true then _ else _) = _
  rw [if_pos]
  · rfl
  · unfold divFits
    refine decide_eq_true ⟨h, ?_⟩
    have : j.natAbs < 2 ^ 128 := by omega
    exact Nat.lt_trans (Nat.log2_lt (by omega) |>.mpr this) (by decide)
theorem mul_ok (h : i.natAbs < 2 ^ 200) (h2 : j.natAbs < 2 ^ 200) : p2 .mul (.val (.int i)) (.val (.int j)) S = .ok (.val (.int (i * j))) S := by
  show (if mulFits i j = true then _ else _) = _
  rw [if_pos]
  · rfl
  · unfold mulFits
    have lg : ∀ n : Nat, n < 2 ^ 200 → n.log2 < 200 := fun n hn => by
      by_cases z : n = 0
      · subst z; decide
      · exact (Nat.log2_lt z).mpr hn
    have := lg _ h
    have := lg _ h2
    exact decide_eq_true (by omega)
theorem pow_ok (h : 0 ≤ j ∧ j ≤ 1000000 ∧ i.natAbs < 2 ^ 64) : p2 .pow (.val (.int i)) (.val (.int j)) S = .ok (.val (.int (i ^ j.toNat))) S := by
  show (if 0 ≤ j ∧ j ≤ 1000000 ∧ i.natAbs < 2 ^ 64 then _ else _) = _
  rw [if_pos h]; rfl
theorem add_ok : p2 .add (.val (.int i)) (.val (.int j)) S = .ok (.val (.int (i + j))) S := rfl
theorem sub_ok : p2 .sub (.val (.int i)) (.val (.int j)) S = .ok (.val (.int (i - j))) S := rfl
theorem neg_ok : p1 .neg (.val (.int i)) S = .ok (.val (.int (-i))) S := rfl
theorem max_ok : p2 .max_ (.val (.int i)) (.val (.int j)) S = .ok (.val (.int (if j > i then j else i))) S := rfl
theorem dataLt_ii : W.dataLt (.int i) (.int j) = decide (i < j) := by simp [W.dataLt, W.keyToks, PyProof.Rows.lex_cons, PyProof.Rows.itemLt, PyProof.Rows.lexLt]
theorem gt_ii : p2 .gt (.val (.int i)) (.val (.int j)) S = .ok (.val (.bl (decide (j < i)))) S := by
  show ob (some (W.dataLt (.int j) (.int i))) S = _
  rw [dataLt_ii]; rfl
theorem le_ii : p2 .le (.val (.int i)) (.val (.int j)) S = .ok (.val (.bl (decide (i ≤ j)))) S := by
  show ob (some (!W.dataLt (.int j) (.int i))) S = _
  rw [dataLt_ii]
  have : (!decide (j < i)) = decide (i ≤ j) := by
    by_cases h : j < i
    · simp [h]
    · simp [h]; omega
  rw [this]; rfl
theorem ge_ii : p2 .ge (.val (.int i)) (.val (.int j)) S = .ok (.val (.bl (decide (j ≤ i)))) S := by
  show ob (some (!W.dataLt (.int i) (.int j))) S = _
  rw [dataLt_ii]
  have : (!decide (i < j)) = decide (j ≤ i) := by
    by_cases h : i < j
    · simp [h]
    · simp [h]; omega
  rw [this]; rfl
end

/-! ### lists at a place -/
section
variable {S : Store} {k : Nat} {ds : List D}
theorem seq_at (hS : S[k]? = some (.lst ds)) : W.seq S (.val (.ref k)) = some (false, ds) := by
  show (match S[k]? with | some (.lst ds) => _ | _ => _) = _
  rw [hS]
theorem its_at (hS : S[k]? = some (.lst ds)) : its .it [.val (.ref k)] S = some ⟨ds, [(k, ds)]⟩ := by
  unfold its
  dsimp only
  rw [seq_at hS]
  rfl
theorem live_at (hS : S[k]? = some (.lst ds)) : isLive [(k, ds)] S := fun p hp => by rw [List.mem_singleton.mp hp]; exact hS
theorem ix_at {i : Int} {d : D} (hS : S[k]? = some (.lst ds)) (h : L2.atI ds i = some d) : p2 .ix (.val (.ref k)) (.val (.int i)) S = .ok (.val d) S := by
  show (match W.seq S (.val (.ref k)) with | some (_, ds) => _ | none => _) = _
  rw [seq_at hS]
  show (match L2.atI ds i with | some d => vv d S | none => .bad) = _
  rw [h]; rfl
theorem ix_lis {i : Int} {d : D} (h : L2.atI ds i = some d) : p2 .ix (.lis ds) (.val (.int i)) S = .ok (.val d) S := by
  show (match L2.atI ds i with | some d => vv d S | none => .bad) = _
  rw [h]; rfl
theorem ix_tup {i : Int} {d : D} (h : L2.atI ds i = some d) : p2 .ix (.val (.tup ds)) (.val (.int i)) S = .ok (.val d) S := by
  show (match L2.atI ds i with | some d => vv d S | none => .bad) = _
  rw [h]; rfl
theorem len_at (hS : S[k]? = some (.lst ds)) : p1 .len (.val (.ref k)) S = .ok (.val (.int ds.length)) S := by
  show (match W.seq S (.val (.ref k)) with | some (_, ds) => vv (.int ds.length) S | none => .bad) = _
  rw [seq_at hS]; rfl
theorem len_lis : p1 .len (.lis ds) S = .ok (.val (.int ds.length)) S := rfl
theorem len_tup : p1 .len (.val (.tup ds)) S = .ok (.val (.int ds.length)) S := rfl
theorem isLst_at (hS : S[k]? = some (.lst ds)) : isLst S (.val (.ref k)) = true := by
  show (match S[k]? with | some (.lst _) => true | _ => false) = true
  rw [hS]
theorem isK_at (hS : S[k]? = some (.lst ds)) : MK.list.is S (.val (.ref k)) = true := by
  show (match S[k]? with | some (.lst _) => true | _ => false) = true
  rw [hS]
theorem app_at {w : D} (hS : S[k]? = some (.lst ds)) (hz : ds.length < sizeLine) : p2 .append (.val (.ref k)) (.val w) S = .ok (.val .non) (S.set k (.lst (ds ++ [w]))) := by
  show (match S[k]? with | some (.lst ds) => if ds.length < sizeLine then vv .non (S.set k (.lst (ds ++ [w]))) else .bad | _ => .bad) = _
  rw [hS]
  show (if ds.length < sizeLine then _ else _) = _
  rw [if_pos hz]; rfl
theorem app_lis {es : List D} (hS : S[k]? = some (.lst ds)) (hz : ds.length < sizeLine) : p2 .append (.val (.ref k)) (.lis es) S = .ok (.val .non) ((S.set k (.lst (ds ++ [.ref S.length]))) ++ [.lst es]) := by
  have hk : k < S.length := (List.getElem?_eq_some_iff.mp hS).1
  show (match (S ++ [O.lst es])[k]? with | some (.lst ds) => if ds.length < sizeLine then vv .non ((S ++ [O.lst es]).set k (.lst (ds ++ [D.ref S.length]))) else .bad | _ => .bad) = _
  rw [List.getElem?_append_left hk, hS]
  show (if ds.length < sizeLine then _ else _) = _
  rw [if_pos hz, List.set_append_left _ _ hk]; rfl
theorem ext_lis {es : List D} (hS : S[k]? = some (.lst ds)) (hz : ds.length + es.length ≤ sizeLine) : p2 .extend (.val (.ref k)) (.lis es) S = .ok (.val .non) (S.set k (.lst (ds ++ es))) := by
  show (match S[k]? with | some (.lst ds) => (match W.seq S (.lis es) with | some (_, es) => if (isLst S (.lis es) && decide (ds.length + es.length ≤ sizeLine)) = true then vv .non (S.set k (.lst (ds ++ es))) else .bad | _ => .bad) | _ => .bad) = _
  rw [hS]
  show (if (true && decide (ds.length + es.length ≤ sizeLine)) = true then _ else _) = _
  rw [if_pos (by simpa using hz)]; rfl
theorem ext_at {m : Nat} {es : List D} (hS : S[k]? = some (.lst ds)) (hm : S[m]? = some (.lst es)) (hz : ds.length + es.length ≤ sizeLine) : p2 .extend (.val (.ref k)) (.val (.ref m)) S = .ok (.val .non) (S.set k (.lst (ds ++ es))) := by
  have hq := seq_at hm
  have hl := isLst_at hm
  show (match S[k]? with | some (.lst ds) => (match W.seq S (.val (.ref m)) with | some (b, es) => if ((b || isLst S (.val (.ref m))) && decide (ds.length + es.length ≤ sizeLine)) = true then vv .non (S.set k (.lst (ds ++ es))) else .bad | _ => .bad) | _ => .bad) = _
  rw [hS]
  dsimp only
  rw [hq]
  dsimp only
  rw [Bool.false_or, hl, if_pos (by simpa using hz)]; rfl
/-- a list gets a tuple's items -/
theorem ext_tup {es : List D} (hS : S[k]? = some (.lst ds)) (hz : ds.length + es.length ≤ sizeLine) : p2 .extend (.val (.ref k)) (.val (.tup es)) S = .ok (.val .non) (S.set k (.lst (ds ++ es))) := by
  show (match S[k]? with | some (.lst ds) => (match W.seq S (.val (.tup es)) with | some (b, es) => if ((b || isLst S (.val (.tup es))) && decide (ds.length + es.length ≤ sizeLine)) = true then vv .non (S.set k (.lst (ds ++ es))) else .bad | _ => .bad) | _ => .bad) = _
  rw [hS]
  show (if (true && decide (ds.length + es.length ≤ sizeLine)) = true then _ else _) = _
  rw [if_pos (by simpa using hz)]; rfl
/-- a list times a whole number -/
theorem rep_lis {xs : List D} {n : Int} (h0 : fits62 n = true) (h : xs.length * n.toNat ≤ sizeLine) : p2 .mul (.lis xs) (.val (.int n)) S = .ok (.lis (List.replicate n.toNat xs).flatten) S := by
  show (if (true && fits62 n && decide (xs.length * n.toNat ≤ sizeLine)) = true then _ else _) = _
  rw [if_pos (by simp [h0, h])]
theorem add_lis {xs ys : List D} (h : xs.length + ys.length ≤ sizeLine) : p2 .add (.lis xs) (.lis ys) S = .ok (.lis (xs ++ ys)) S := by
  show (if (true && true && decide (xs.length + ys.length ≤ sizeLine)) = true then _ else _) = _
  rw [if_pos (by simpa using h)]
theorem add_at {xs : List D} (hS : S[k]? = some (.lst ds)) (h : ds.length + xs.length ≤ sizeLine) : p2 .add (.val (.ref k)) (.lis xs) S = .ok (.lis (ds ++ xs)) S := by
  have hq := seq_at hS
  have hl := isLst_at hS
  show (match W.seq S (.val (.ref k)), W.seq S (.lis xs) with
      | some (false, xs'), some (false, ys) => if (isLst S (.val (.ref k)) && isLst S (.lis xs) && decide (xs'.length + ys.length ≤ sizeLine)) = true then R.ok (W.lis (xs' ++ ys)) S else .bad
      | some (true, xs'), some (true, ys) => if (!xs'.isEmpty && !ys.isEmpty && decide (xs'.length + ys.length ≤ sizeLine)) = true then vv (.tup (xs' ++ ys)) S else .bad
      | _, _ => .bad) = _
  rw [hq, hl]
  show (if (true && true && decide (ds.length + xs.length ≤ sizeLine)) = true then _ else _) = _
  rw [if_pos (by simpa using h)]
theorem lis_add_at {xs : List D} (hS : S[k]? = some (.lst ds)) (h : xs.length + ds.length ≤ sizeLine) : p2 .add (.lis xs) (.val (.ref k)) S = .ok (.lis (xs ++ ds)) S := by
  have hq := seq_at hS
  have hl := isLst_at hS
  show (match W.seq S (.lis xs), W.seq S (.val (.ref k)) with
      | some (false, xs'), some (false, ys) => if (isLst S (.lis xs) && isLst S (.val (.ref k)) && decide (xs'.length + ys.length ≤ sizeLine)) = true then R.ok (W.lis (xs' ++ ys)) S else .bad
      | some (true, xs'), some (true, ys) => if (!xs'.isEmpty && !ys.isEmpty && decide (xs'.length + ys.length ≤ sizeLine)) = true then vv (.tup (xs' ++ ys)) S else .bad
      | _, _ => .bad) = _
  rw [hq, hl]
  show (if (true && true && decide (xs.length + ds.length ≤ sizeLine)) = true then _ else _) = _
  rw [if_pos (by simpa using h)]
theorem setItem_at {i : Int} {d : D} {j : Nat} (hS : S[k]? = some (.lst ds)) (h : L2.ixN ds.length i = some j) : setItem (.val (.ref k)) (.val (.int i)) d S = some (S.set k (.lst (ds.set j d))) := by
  unfold setItem
  simp only [hS, h]
  rfl
theorem list_at (hS : S[k]? = some (.lst ds)) : p1 .list_ (.val (.ref k)) S = .ok (.lis ds) S := by
  show (match W.seq S (.val (.ref k)) with | some (_, ds) => R.ok (W.lis ds) S | none => .bad) = _
  rw [seq_at hS]
theorem pop_at {d : D} (hS : S[k]? = some (.lst (ds ++ [d]))) : p1 .pop (.val (.ref k)) S = .ok (.val d) (S.set k (.lst ds)) := by
  show (match S[k]? with | some (.lst ds) => (match ds.getLast? with | some d => R.ok (W.val d) (S.set k (.lst ds.dropLast)) | none => .bad) | _ => .bad) = _
  rw [hS]; simp
theorem all_lis {bs : List Bool} : p1 .all_ (.lis (bs.map D.bl)) S = .ok (.val (.bl (bs.all id))) S := by
  have : ∀ bs : List Bool, blsOf (bs.map D.bl) = some bs := by
    intro bs
    induction bs with
    | nil => rfl
    | cons b r ih => rw [List.map_cons, blsOf, ih]; rfl
  show (match blsOf (bs.map D.bl) with | some bs => vv (.bl (bs.all id)) S | none => .bad) = _
  rw [this]; rfl
theorem cut_at {lo hi : Option Int} (hS : S[k]? = some (.lst ds)) : cutW (.val (.ref k)) lo hi S = .ok (.lis (cutD ds lo hi)) S := by
  show (match W.seq S (.val (.ref k)) with | some (true, ds) => _ | some (false, ds) => _ | none => _) = _
  rw [seq_at hS]
theorem cut_ls {lo hi : Option Int} : cutW (.val (.ls ds)) lo hi S = .ok (.lis (cutD ds lo hi)) S := rfl
end
theorem ixN_at {i : Int} {n : Nat} (h : 0 ≤ i) (h2 : i < (n : Int)) : L2.ixN n i = some i.toNat := by
  unfold L2.ixN
  rw [if_pos h, if_pos (by omega)]
theorem atI_at {α : Type} {l : List α} {i : Int} {x : α} (h : 0 ≤ i) (h2 : l[i.toNat]? = some x) : L2.atI l i = some x := by
  have hl : i.toNat < l.length := (List.getElem?_eq_some_iff.mp h2).1
  unfold L2.atI
  rw [ixN_at h (by omega)]
  exact h2
theorem at_map {α : Type} {f : α → D} {l : List α} {r : Int} (h : 0 ≤ r) (h2 : r < (l.length : Int)) : ∃ x ∈ l, L2.atI (l.map f) r = some (f x) := by
  have hi : r.toNat < l.length := by omega
  exact ⟨l[r.toNat], List.getElem_mem hi, atI_at h (by rw [List.getElem?_map, List.getElem?_eq_getElem hi]; rfl)⟩
theorem cutD_map {α β : Type} (f : α → β) (xs : List α) (lo hi : Option Int) : cutD (xs.map f) lo hi = (cutD xs lo hi).map f := by
  unfold cutD
  rw [List.length_map, List.map_take, List.map_drop]
theorem cutD_le {α : Type} (xs : List α) (lo hi : Option Int) : (cutD xs lo hi).length ≤ xs.length := by
  unfold cutD
  rw [List.length_take, List.length_drop]
  omega
theorem cutD_nat {α : Type} (xs : List α) (a b : Nat) : cutD xs (some (a : Int)) (some (b : Int)) = (xs.drop a).take (b - a) := by
  unfold cutD
  rw [HT.sIx_nat, HT.sIx_nat]
  by_cases h : a ≤ xs.length
  · rw [Nat.min_eq_left h]
    by_cases h2 : b ≤ xs.length
    · rw [Nat.min_eq_left h2]
    · rw [Nat.min_eq_right (by omega), List.take_of_length_le (by rw [List.length_drop]; omega), List.take_of_length_le (by rw [List.length_drop]; omega)]
  · rw [Nat.min_eq_right (show xs.length ≤ a by omega), List.drop_eq_nil_of_le (Nat.le_refl _), List.drop_eq_nil_of_le (show xs.length ≤ a by omega), List.take_nil, List.take_nil]
theorem cutD_from {α : Type} (xs : List α) (a : Nat) : cutD xs (some (a : Int)) none = xs.drop a := by
  unfold cutD
  rw [HT.sIx_nat, HT.sIx_none]
  by_cases h : a ≤ xs.length
  · rw [Nat.min_eq_left h, List.take_of_length_le (by rw [List.length_drop]; omega)]
  · rw [Nat.min_eq_right (by omega), List.drop_eq_nil_of_le (Nat.le_refl _), List.drop_eq_nil_of_le (by omega), List.take_nil]
theorem cutD_to {α : Type} (xs : List α) (b : Nat) : cutD xs none (some (b : Int)) = xs.take b := by
  unfold cutD
  rw [HT.sIx_nat, HT.sIx_none, List.drop_zero, Nat.sub_zero]
  by_cases h : b ≤ xs.length
  · rw [Nat.min_eq_left h]
  · rw [Nat.min_eq_right (by omega), List.take_of_length_le (Nat.le_refl _), List.take_of_length_le (by omega)]

/-! ### loops -/
@[simp] theorem isLive_nil {S : Store} : isLive [] S := fun p hp => by cases hp
theorem forL_nx {live : List (Nat × List D)} {turn : D → Env → Store → RS} {d : D} {r : List D} {ρ ρ' : Env} {S S' : Store} (h : isLive live S) (ht : turn d ρ S = .ok .nx ρ' S') : forL live turn (d :: r) ρ S = forL live turn r ρ' S' := by
  rw [forL, if_pos h, ht]
theorem forL_rt {live : List (Nat × List D)} {turn : D → Env → Store → RS} {d x : D} {r : List D} {ρ ρ' : Env} {S S' : Store} (h : isLive live S) (ht : turn d ρ S = .ok (.rt x) ρ' S') : forL live turn (d :: r) ρ S = .ok (.rt x) ρ' S' := by
  rw [forL, if_pos h, ht]
theorem forL_end {live : List (Nat × List D)} {turn : D → Env → Store → RS} {ρ : Env} {S : Store} (h : isLive live S) : forL live turn [] ρ S = .ok .nx ρ S := by
  rw [forL, if_pos h]
/-- a loop that goes from state to state -/
theorem forL_fold {α : Type} {live : List (Nat × List D)} {S : Store} (hl : isLive live S) {turn : D → Env → Store → RS} (E : α → Env) (step : α → D → α) : ∀ (ds : List D) (s : α), (∀ d ∈ ds, ∀ s, turn d (E s) S = .ok .nx (E (step s d)) S) → forL live turn ds (E s) S = .ok .nx (E (ds.foldl step s)) S
  | [], s, _ => forL_end hl
  | d :: r, s, h => by
    rw [forL_nx hl (h d List.mem_cons_self s), List.foldl_cons]
    exact forL_fold hl E step r (step s d) fun e he => h e (List.mem_cons_of_mem _ he)
/-- the same with an invariant of the states -/
theorem forL_foldI {α : Type} {live : List (Nat × List D)} {S : Store} (hl : isLive live S) {turn : D → Env → Store → RS} (E : α → Env) (step : α → D → α) (I : α → Prop) : ∀ (ds : List D) (s : α), I s → (∀ d ∈ ds, ∀ s, I s → turn d (E s) S = .ok .nx (E (step s d)) S ∧ I (step s d)) → forL live turn ds (E s) S = .ok .nx (E (ds.foldl step s)) S ∧ I (ds.foldl step s)
  | [], s, hI, _ => ⟨forL_end hl, hI⟩
  | d :: r, s, hI, h => by
    obtain ⟨h1, h2⟩ := h d List.mem_cons_self s hI
    rw [forL_nx hl h1, List.foldl_cons]
    exact forL_foldI hl E step I r (step s d) h2 fun e he => h e (List.mem_cons_of_mem _ he)
/-- a loop whose turns leave the store and the rest of the names -/
theorem forL_inv {live : List (Nat × List D)} {S : Store} (hl : isLive live S) {turn : D → Env → Store → RS} {I : Env → Prop} : ∀ (ds : List D) (ρ : Env), (∀ d ∈ ds, ∀ ρ, I ρ → ∃ ρ', turn d ρ S = .ok .nx ρ' S ∧ I ρ') → I ρ → ∃ ρ', forL live turn ds ρ S = .ok .nx ρ' S ∧ I ρ'
  | [], ρ, _, h => ⟨ρ, forL_end hl, h⟩
  | d :: r, ρ, ht, h => by
    obtain ⟨ρ1, h1, h2⟩ := ht d List.mem_cons_self ρ h
    obtain ⟨ρ2, h3, h4⟩ := forL_inv hl r ρ1 (fun e he => ht e (List.mem_cons_of_mem _ he)) h2
    exact ⟨ρ2, by rw [forL_nx hl h1, h3], h4⟩
/-- .. with a store that grows or changes: the invariant speaks of both -/
theorem forL_invS {live : List (Nat × List D)} {turn : D → Env → Store → RS} {I : List D → Env → Store → Prop} (hl : ∀ l ρ S, I l ρ S → isLive live S) : ∀ (ds : List D) (ρ : Env) (S : Store), (∀ d r ρ S, I (d :: r) ρ S → ∃ ρ' S', turn d ρ S = .ok .nx ρ' S' ∧ I r ρ' S') → I ds ρ S → ∃ ρ' S', forL live turn ds ρ S = .ok .nx ρ' S' ∧ I [] ρ' S'
  | [], ρ, S, _, h => ⟨ρ, S, forL_end (hl _ _ _ h), h⟩
  | d :: r, ρ, S, ht, h => by
    obtain ⟨ρ1, S1, h1, h2⟩ := ht d r ρ S h
    obtain ⟨ρ2, S2, h3, h4⟩ := forL_invS hl r ρ1 S1 ht h2
    exact ⟨ρ2, S2, by rw [forL_nx (hl _ _ _ h) h1, h3], h4⟩
theorem whileF_more {c : Env → Store → R Bool} {b : Env → Store → RS} : ∀ {n m : Nat} {ρ : Env} {S : Store} {r : RS}, n ≤ m → whileF c b n ρ S = some r → whileF c b m ρ S = some r
  | 0, m, ρ, S, r, _, h => by rw [whileF] at h; cases h
  | n + 1, 0, ρ, S, r, hm, h => absurd hm (by omega)
  | n + 1, m + 1, ρ, S, r, hm, h => by
    rw [whileF] at h ⊢
    cases hc : c ρ S with
    | bad => simp only [hc] at h ⊢; exact h
    | ex k fs S1 => simp only [hc] at h ⊢; exact h
    | ok k S1 =>
      simp only [hc] at h ⊢
      cases k with
      | false => exact h
      | true =>
        dsimp only at h ⊢
        cases hb : b ρ S1 with
        | bad => simp only [hb] at h ⊢; exact h
        | ex k fs ρ1 S1 => simp only [hb] at h ⊢; exact h
        | ok f ρ1 S2 =>
          cases f with
          | nx => simp only [hb] at h ⊢; exact whileF_more (by omega) h
          | cnt => simp only [hb] at h ⊢; exact whileF_more (by omega) h
          | brk => simp only [hb] at h ⊢; exact h
          | rt d => simp only [hb] at h ⊢; exact h
theorem whileF_go {c : Env → Store → R Bool} {b : Env → Store → RS} {n : Nat} {ρ ρ' : Env} {S S1 S2 : Store} {r : RS} (hc : c ρ S = .ok true S1) (hb : b ρ S1 = .ok .nx ρ' S2) (h : whileF c b n ρ' S2 = some r) : whileF c b (n + 1) ρ S = some r := by
  rw [whileF, hc]
  dsimp only
  rw [hb]
  exact h
theorem whileF_end {c : Env → Store → R Bool} {b : Env → Store → RS} {n : Nat} {ρ : Env} {S S1 : Store} (hc : c ρ S = .ok false S1) : whileF c b (n + 1) ρ S = some (.ok .nx ρ S1) := by
  rw [whileF, hc]
theorem whileF_rt {c : Env → Store → R Bool} {b : Env → Store → RS} {n : Nat} {ρ ρ' : Env} {S S1 S2 : Store} {d : D} (hc : c ρ S = .ok true S1) (hb : b ρ S1 = .ok (.rt d) ρ' S2) : whileF c b (n + 1) ρ S = some (.ok (.rt d) ρ' S2) := by
  rw [whileF, hc]
  dsimp only
  rw [hb]

/-! ### comprehensions -/
theorem compL_pure {live : List (Nat × List D)} {S : Store} (hl : isLive live S) {turn : D → Store → R (Option D)} {f : D → D} : ∀ (ds acc : List D), (∀ d ∈ ds, turn d S = .ok (some (f d)) S) → acc.length + ds.length ≤ sizeLine → compL live turn ds S acc = .ok (acc ++ ds.map f) S
  | [], acc, _, _ => by rw [compL, if_pos hl, List.map_nil, List.append_nil]
  | d :: r, acc, h, hz => by
    rw [List.length_cons] at hz
    rw [compL, if_pos hl, h d List.mem_cons_self]
    show (if acc.length < sizeLine then compL live turn r S (acc ++ [f d]) else .bad) = _
    rw [if_pos (by omega), compL_pure hl r (acc ++ [f d]) (fun e he => h e (List.mem_cons_of_mem _ he)) (by rw [List.length_append]; simp; omega)]
    simp
theorem comp_pure {C : CF} {ρ : Env} {S S' : Store} {i : Nat} {k : IK} {is : List Ex} {e : Ex} {own : List Nat} {ws : List W} {I : Its} {f : D → D} (h1 : evWs C is ρ S = .ok ws S') (h2 : its k ws S' = some I) (hl : isLive I.live S') (hz : I.items.length ≤ sizeLine)
    (ht : ∀ d ∈ I.items, evD C e ((wipeD ρ own).set i (some d)) S' = .ok (f d) S') : evK C (.comp (.nm i) k is [] e own) ρ S = .ok (.lis (I.items.map f)) S' := by
  rw [evK, h1]
  show (match its k ws S' with
    | some I => (compL I.live (fun d S => match bindTg (.nm i) d (wipeD ρ own) with
        | some ρ' => ((evCs C [] ρ' S).bd fun b S => if b = true then ((evK C e ρ' S).bd toD).bd fun d S => .ok (some d) S else .ok none S).nox
        | none => .bad) I.items S' []).bd fun ds S => .ok (W.lis ds) S
    | none => .bad) = _
  rw [h2]
  dsimp only
  rw [compL_pure (f := f) hl I.items [] (fun d hd => ?_) (by simpa using hz), List.nil_append]
  · rfl
  · show ((evCs C [] ((wipeD ρ own).set i (some d)) S').bd fun b S => if b = true then ((evK C e ((wipeD ρ own).set i (some d)) S).bd toD).bd fun d S => .ok (some d) S else .ok none S).nox = _
    have := ht d hd
    unfold evD at this
    rw [evCs]
    show (((evK C e ((wipeD ρ own).set i (some d)) S').bd toD).bd fun d S => R.ok (some d) S).nox = _
    rw [this]
    rfl
theorem compL_filter {live : List (Nat × List D)} {S : Store} (hl : isLive live S) {turn : D → Store → R (Option D)} {g : D → Option D} : ∀ (ds acc : List D), (∀ d ∈ ds, turn d S = .ok (g d) S) → acc.length + ds.length ≤ sizeLine → compL live turn ds S acc = .ok (acc ++ ds.filterMap g) S
  | [], acc, _, _ => by rw [compL, if_pos hl, List.filterMap_nil, List.append_nil]
  | d :: r, acc, h, hz => by
    rw [List.length_cons] at hz
    rw [compL, if_pos hl, h d List.mem_cons_self]
    cases hg : g d with
    | none =>
      show compL live turn r S acc = _
      rw [compL_filter hl r acc (fun e he => h e (List.mem_cons_of_mem _ he)) (by omega), List.filterMap_cons, hg]
    | some y =>
      show (if acc.length < sizeLine then compL live turn r S (acc ++ [y]) else .bad) = _
      rw [if_pos (by omega), compL_filter hl r (acc ++ [y]) (fun e he => h e (List.mem_cons_of_mem _ he)) (by rw [List.length_append]; simp; omega), List.filterMap_cons, hg]
      simp
theorem comp_filter {C : CF} {ρ : Env} {S S' : Store} {i : Nat} {k : IK} {is : List Ex} {c e : Ex} {own : List Nat} {ws : List W} {I : Its} {p : D → Bool} {f : D → D} (h1 : evWs C is ρ S = .ok ws S') (h2 : its k ws S' = some I) (hl : isLive I.live S') (hz : I.items.length ≤ sizeLine)
    (hc : ∀ d ∈ I.items, evB C c ((wipeD ρ own).set i (some d)) S' = .ok (p d) S') (ht : ∀ d ∈ I.items, p d = true → evD C e ((wipeD ρ own).set i (some d)) S' = .ok (f d) S') : evK C (.comp (.nm i) k is [c] e own) ρ S = .ok (.lis ((I.items.filter p).map f)) S' := by
  rw [evK, h1]
  show (match its k ws S' with
    | some I => (compL I.live (fun d S => match bindTg (.nm i) d (wipeD ρ own) with
        | some ρ' => ((evCs C [c] ρ' S).bd fun b S => if b = true then ((evK C e ρ' S).bd toD).bd fun d S => .ok (some d) S else .ok none S).nox
        | none => .bad) I.items S' []).bd fun ds S => .ok (W.lis ds) S
    | none => .bad) = _
  rw [h2]
  dsimp only
  rw [compL_filter (g := fun d => if p d = true then some (f d) else none) hl I.items [] (fun d hd => ?_) (by simpa using hz), List.nil_append]
  · show R.ok _ _ = _
    congr 2
    generalize I.items = l
    clear hc ht
    induction l with
    | nil => rfl
    | cons d r ih =>
      rw [List.filterMap_cons, List.filter_cons]
      by_cases h : p d = true
      · simp only [h, if_true, List.map_cons, ih]
      · simp only [h, if_false, ih]; simp [ih]
  · show ((evCs C [c] ((wipeD ρ own).set i (some d)) S').bd fun b S => if b = true then ((evK C e ((wipeD ρ own).set i (some d)) S).bd toD).bd fun d S => .ok (some d) S else .ok none S).nox = _
    have hc := hc d hd
    have ht := ht d hd
    unfold evB at hc
    unfold evD at ht
    rw [evCs, hc]
    cases hp : p d with
    | false => rfl
    | true =>
      show (((evCs C [] ((wipeD ρ own).set i (some d)) S').bd fun b S => if b = true then ((evK C e ((wipeD ρ own).set i (some d)) S).bd toD).bd fun d S => .ok (some d) S else .ok none S)).nox = _
      rw [evCs]
      show (((evK C e ((wipeD ρ own).set i (some d)) S').bd toD).bd fun d S => R.ok (some d) S).nox = _
      rw [ht hp]
      rfl
/-! ### loops over mapped lists -/
theorem forL_foldM {α β : Type} {live : List (Nat × List D)} {S : Store} (hl : isLive live S) {turn : D → Env → Store → RS} {g : β → D} (E : α → Env) (step : α → β → α) : ∀ (bs : List β) (s : α), (∀ b ∈ bs, ∀ s, turn (g b) (E s) S = .ok .nx (E (step s b)) S) → forL live turn (bs.map g) (E s) S = .ok .nx (E (bs.foldl step s)) S
  | [], s, _ => forL_end hl
  | b :: r, s, h => by
    rw [List.map_cons, forL_nx hl (h b List.mem_cons_self s), List.foldl_cons]
    exact forL_foldM hl E step r (step s b) fun e he => h e (List.mem_cons_of_mem _ he)
theorem forL_foldMI {α β : Type} {live : List (Nat × List D)} {S : Store} (hl : isLive live S) {turn : D → Env → Store → RS} {g : β → D} (E : α → Env) (step : α → β → α) (I : α → Prop) : ∀ (bs : List β) (s : α), I s → (∀ b ∈ bs, ∀ s, I s → turn (g b) (E s) S = .ok .nx (E (step s b)) S ∧ I (step s b)) → forL live turn (bs.map g) (E s) S = .ok .nx (E (bs.foldl step s)) S ∧ I (bs.foldl step s)
  | [], s, hI, _ => ⟨forL_end hl, hI⟩
  | b :: r, s, hI, h => by
    obtain ⟨h1, h2⟩ := h b List.mem_cons_self s hI
    rw [List.map_cons, forL_nx hl h1, List.foldl_cons]
    exact forL_foldMI hl E step I r (step s b) h2 fun e he => h e (List.mem_cons_of_mem _ he)
/-- a loop whose names and store are told by a state -/
theorem forL_J {α β : Type} {live : List (Nat × List D)} {turn : D → Env → Store → RS} {g : β → D} (step : α → β → α) (J : List β → α → Env → Store → Prop) (hl : ∀ l s ρ S, J l s ρ S → isLive live S)
    (ht : ∀ b r s ρ S, J (b :: r) s ρ S → ∃ ρ' S', turn (g b) ρ S = .ok .nx ρ' S' ∧ J r (step s b) ρ' S') : ∀ (bs : List β) (s : α) (ρ : Env) (S : Store), J bs s ρ S → ∃ ρ' S', forL live turn (bs.map g) ρ S = .ok .nx ρ' S' ∧ J [] (bs.foldl step s) ρ' S'
  | [], s, ρ, S, h => ⟨ρ, S, forL_end (hl _ _ _ _ h), h⟩
  | b :: r, s, ρ, S, h => by
    obtain ⟨ρ1, S1, h1, h2⟩ := ht b r s ρ S h
    obtain ⟨ρ2, S2, h3, h4⟩ := forL_J step J hl ht r (step s b) ρ1 S1 h2
    exact ⟨ρ2, S2, by rw [List.map_cons, forL_nx (hl _ _ _ _ h) h1, h3], h4⟩
/-- the starts 0, c, 2 c, .. below n -/
def stn (c n : Nat) : List Nat := (List.range (steps 0 n c)).map fun i => i * c
abbrev dn (n : Nat) : D := .int (n : Nat)
theorem its_r3 {S : Store} {c n : Nat} (hc : 0 < c) (hc2 : c < 1000000) (hn : n ≤ 2 ^ 40) : its .rng3 [.val (.int 0), .val (.int n), .val (.int c)] S = some ⟨(stn c n).map dn, []⟩ := by
  unfold its
  dsimp only
  rw [if_pos]
  · unfold stn intsD
    rw [List.map_map]
    congr 2
    refine List.map_congr_left fun i _ => ?_
    show D.int (0 + (i : Int) * c) = D.int ((i * c : Nat) : Int)
    congr 1
    rw [Int.zero_add, Int.natCast_mul]
  · unfold fits62
    simp only [Bool.and_eq_true, decide_eq_true_eq]
    omega
theorem steps_le {n c : Nat} (hc : 0 < c) : steps 0 n c ≤ n := by
  unfold steps
  split
  · have h : ((n : Int) - 0 - 1) / c ≤ (n : Int) - 1 := by
      have := Int.ediv_le_self (a := (n : Int) - 1) (b := c) (by omega)
      simpa using this
    omega
  · omega
theorem stn_len {n c : Nat} (hc : 0 < c) : (stn c n).length ≤ n := by
  unfold stn
  rw [List.length_map, List.length_range]
  exact steps_le hc
theorem cut_n {S : Store} {l : List Nat} {a : Nat} {c : Int} (hc : 0 ≤ c) (hz : l.length ≤ sizeLine) : cutW (.val (tx l)) (some (a : Int)) (some ((a : Int) + c)) S = .ok (.val (tx ((l.drop a).take c.toNat))) S := by
  rw [show (a : Int) + c = ((a + c.toNat : Nat) : Int) by omega, cut_tx hz, cutD_nat, Nat.add_sub_cancel_left]
@[simp] theorem unds_ints {k : Nat} : ∀ l : List Int, D.unds k (l.map D.int) = true
  | [] => by simp
  | x :: r => by rw [List.map_cons, unds_cons, und_int, unds_ints r]; rfl
@[simp] theorem unds_tx {k : Nat} : ∀ l : List (List Nat), D.unds k (l.map tx) = true
  | [] => by simp
  | x :: r => by rw [List.map_cons, unds_cons, und_str, unds_tx r]; rfl
theorem at_new {S : Store} {o : O} : (S ++ [o])[S.length]? = some o := by simp
theorem set_new {S : Store} {o o' : O} : (S ++ [o]).set S.length o' = S ++ [o'] := by
  rw [List.set_append_right _ _ (Nat.le_refl _), Nat.sub_self]; rfl
/-! ### steps -/
section
variable {C : CF} {ρ ρ' : Env} {S S' S'' : Store}
@[simp] theorem e_c {d : D} : evK C (.c d) ρ S = .ok (.val d) S := by rw [evK]; rfl
theorem e_v0 {i : Nat} : evK C (.v i) ρ S = (match ρ[i]? with | some (some d) => vv d S | _ => .bad) := by rw [evK]; try rfl
@[simp] theorem e_v {i : Nat} {d : D} (h : ρ[i]? = some (some d)) : evK C (.v i) ρ S = .ok (.val d) S := by rw [e_v0, h]; rfl
@[simp] theorem e_p1 {o : P1} {a : Ex} : evK C (.p1 o a) ρ S = (evK C a ρ S).bd fun x S => p1 o x S := by rw [evK]
@[simp] theorem e_p2 {o : P2} {a b : Ex} : evK C (.p2 o a b) ρ S = (evK C a ρ S).bd fun x S => (evK C b ρ S).bd fun y S => p2 o x y S := by rw [evK]
@[simp] theorem e_isi {ts : List Ty} {a : Ex} : evK C (.isi ts a) ρ S = (evK C a ρ S).bd fun x S => isiW ts x S := by rw [evK]
@[simp] theorem e_and {a b : Ex} : evK C (.and_ a b) ρ S = ((evK C a ρ S).bd toB).bd fun c S => if c = true then evK C b ρ S else vv (.bl false) S := by rw [evK]
@[simp] theorem e_or {a b : Ex} : evK C (.or_ a b) ρ S = ((evK C a ρ S).bd toB).bd fun c S => if c = true then vv (.bl true) S else evK C b ρ S := by rw [evK]
@[simp] theorem e_not {a : Ex} : evK C (.not_ a) ρ S = ((evK C a ρ S).bd toB).bd fun c S => vv (.bl (!c)) S := by rw [evK]
@[simp] theorem e_ite {c a b : Ex} : evK C (.ite c a b) ρ S = ((evK C c ρ S).bd toB).bd fun k S => if k = true then evK C a ρ S else evK C b ρ S := by rw [evK]
@[simp] theorem e_tup {es : List Ex} : evK C (.tup es) ρ S = (evDs C es ρ S).bd fun ds S => if ds.length ≤ sizeLine then vv (.tup ds) S else .bad := by rw [evK]
@[simp] theorem e_disp {es : List Ex} : evK C (.disp es) ρ S = (evDs C es ρ S).bd fun ds S => if ds.length ≤ sizeLine then .ok (.lis ds) S else .bad := by rw [evK]
@[simp] theorem e_sl {a : Ex} {lo hi : List Ex} : evK C (.sl a lo hi) ρ S = (evK C a ρ S).bd fun x S => ((evWs C lo ρ S).bd partI).bd fun l S => ((evWs C hi ρ S).bd partI).bd fun h S => cutW x l h S := by rw [evK]
@[simp] theorem e_call {f : Nat} {es : List Ex} : evK C (.call f es) ρ S = (evDs C es ρ S).bd fun ds S => (C f ds S).bd fun d S => vv d S := by rw [evK]
@[simp] theorem e_m0 {k : MK} {o : P1} {a : Ex} : evK C (.m0 k o a) ρ S = (evK C a ρ S).bd fun x S => if k.is S x = true then p1 o x S else .bad := by rw [evK]
@[simp] theorem e_m1 {k : MK} {o : P2} {a b : Ex} : evK C (.m1 k o a b) ρ S = (evK C a ρ S).bd fun x S => if k.is S x = true then (evK C b ρ S).bd fun y S => p2 o x y S else .bad := by rw [evK]
@[simp] theorem e_repl {a v w : Ex} {lo : List Ex} {y z : Str} : evK C (.repl a lo v w y z) ρ S = (evK C a ρ S).bd fun x S => ((evWs C lo ρ S).bd partI).bd fun l S => (evK C v ρ S).bd fun p S => (evK C w ρ S).bd fun q S => replC x l p q y z S := by rw [evK]
@[simp] theorem e_fst {es : List Ex} : evK C (.fst es) ρ S = evJ C es ρ S Str.empty := by rw [evK]
@[simp] theorem e_j0 {acc : Str} : evJ C [] ρ S acc = .ok (.val (.str acc)) S := by rw [evJ]; rfl
@[simp] theorem e_ds0 : evDs C [] ρ S = .ok [] S := by rw [evDs]
@[simp] theorem e_ds {e : Ex} {r : List Ex} : evDs C (e :: r) ρ S = ((evK C e ρ S).bd toD).bd fun d S => (evDs C r ρ S).bd fun ds S => .ok (d :: ds) S := by rw [evDs]
@[simp] theorem e_ws0 : evWs C [] ρ S = .ok [] S := by rw [evWs]
@[simp] theorem e_ws {e : Ex} {r : List Ex} : evWs C (e :: r) ρ S = (evK C e ρ S).bd fun d S => (evWs C r ρ S).bd fun ds S => .ok (d :: ds) S := by rw [evWs]
@[simp] theorem e_D {e : Ex} : evD C e ρ S = (evK C e ρ S).bd toD := rfl
@[simp] theorem e_B {e : Ex} : evB C e ρ S = (evK C e ρ S).bd toB := rfl
@[simp] theorem bd_ok' {α β : Type} {a : α} {f : α → Store → R β} : (R.ok a S).bd f = f a S := rfl
@[simp] theorem toD_val {d : D} : toD (.val d) S = .ok d S := rfl
@[simp] theorem toD_lis {ds : List D} : toD (.lis ds) S = .ok (.ref S.length) (S ++ [.lst ds]) := rfl
@[simp] theorem toB_bl {b : Bool} : toB (.val (.bl b)) S = .ok b S := rfl
@[simp] theorem vv_ok' {d : D} : vv d S = .ok (.val d) S := rfl
@[simp] theorem partI0 : partI [] S = .ok none S := rfl
@[simp] theorem partI1 {i : Int} : partI [.val (.int i)] S = .ok (some i) S := rfl
theorem x_nil : exSs C [] ρ S = .ok .nx ρ S := by rw [exSs]
theorem x_set {i : Nat} {e : Ex} {r : List Stm} {d : D} (h : evD C e ρ S = .ok d S') : exSs C (.set (.nm i) e :: r) ρ S = exSs C r (ρ.set i (some d)) S' := by
  rw [exSs, exS, h]; rfl
theorem x_tp {is : List Nat} {e : Ex} {r : List Stm} {ds : List D} (h : evD C e ρ S = .ok (.tup ds) S') (h2 : bindTs is ds ρ = some ρ') : exSs C (.set (.tp is) e :: r) ρ S = exSs C r ρ' S' := by
  rw [exSs, exS, h]
  show (match bindTs is ds ρ with | some ρ => RS.ok .nx ρ S' | none => .bad).sq _ = _
  rw [h2]; rfl
theorem x_exp {e : Ex} {r : List Stm} {w : W} (h : evK C e ρ S = .ok w S') : exSs C (.exp e :: r) ρ S = exSs C r ρ S' := by
  rw [exSs, exS, h]; rfl
theorem x_ret {e : Ex} {r : List Stm} {d : D} (h : evD C e ρ S = .ok d S') : exSs C (.ret e :: r) ρ S = .ok (.rt d) ρ S' := by
  rw [exSs, exS, h]; rfl
theorem x_ix {o i e : Ex} {r : List Stm} {d : D} {S1 S2 S3 S4 : Store} {w v : W} (h : evD C e ρ S = .ok d S1) (h2 : evK C o ρ S1 = .ok w S2) (h3 : evK C i ρ S2 = .ok v S3) (h4 : setItem w v d S3 = some S4) : exSs C (.setIx o i e :: r) ρ S = exSs C r ρ S4 := by
  rw [exSs, exS, h]
  show (((evK C o ρ S1).st ρ fun x S => (evK C i ρ S).st ρ fun y S => match setItem x y d S with
    | some S => .ok .nx ρ S
    | none => .bad) : RS).sq _ = _
  rw [h2]
  show (((evK C i ρ S2).st ρ fun y S => match setItem w y d S with
    | some S => .ok .nx ρ S
    | none => .bad) : RS).sq _ = _
  rw [h3]
  show ((match setItem w v d S3 with
    | some S => .ok .nx ρ S
    | none => .bad) : RS).sq _ = _
  rw [h4]; rfl
theorem x_ift {c : Ex} {a b r : List Stm} (h : evB C c ρ S = .ok true S') : exSs C (.iff c a b :: r) ρ S = (exSs C a ρ S').sq fun ρ S => exSs C r ρ S := by
  rw [exSs, exS, h]; rfl
theorem x_iff {c : Ex} {a b r : List Stm} (h : evB C c ρ S = .ok false S') : exSs C (.iff c a b :: r) ρ S = (exSs C b ρ S').sq fun ρ S => exSs C r ρ S := by
  rw [exSs, exS, h]; rfl
theorem y_set {i : Nat} {e : Ex} {r : List Stm} (d : D) (h : evD C e ρ S = .ok d S) : exSs C (.set (.nm i) e :: r) ρ S = exSs C r (ρ.set i (some d)) S := x_set h
theorem y_tp {is : List Nat} {e : Ex} {r : List Stm} (ds : List D) (h : evD C e ρ S = .ok (.tup ds) S) (h2 : bindTs is ds ρ = some ρ') : exSs C (.set (.tp is) e :: r) ρ S = exSs C r ρ' S := x_tp h h2
theorem y_exp {e : Ex} {r : List Stm} (w : W) (h : evK C e ρ S = .ok w S) : exSs C (.exp e :: r) ρ S = exSs C r ρ S := x_exp h
theorem y_ret {e : Ex} {r : List Stm} {d : D} (h : evD C e ρ S = .ok d S) : exSs C (.ret e :: r) ρ S = .ok (.rt d) ρ S := x_ret h
/-- an if without else, not taken -/
theorem x_if0 {c : Ex} {a r : List Stm} (h : evB C c ρ S = .ok false S') : exSs C (.iff c a [] :: r) ρ S = exSs C r ρ S' := by
  rw [x_iff h, x_nil]; rfl
/-- an if that returns -/
theorem x_if1 {c e : Ex} {b r : List Stm} {d : D} (h : evB C c ρ S = .ok true S') (h2 : evD C e ρ S' = .ok d S'') : exSs C (.iff c [.ret e] b :: r) ρ S = .ok (.rt d) ρ S'' := by
  rw [x_ift h, x_ret h2]; rfl
theorem y_if0 {c : Ex} {a r : List Stm} (h : evB C c ρ S = .ok false S) : exSs C (.iff c a [] :: r) ρ S = exSs C r ρ S := x_if0 h
theorem y_ift {c : Ex} {a b r : List Stm} (h : evB C c ρ S = .ok true S) : exSs C (.iff c a b :: r) ρ S = (exSs C a ρ S).sq fun ρ S => exSs C r ρ S := x_ift h
theorem y_iff {c : Ex} {a b r : List Stm} (h : evB C c ρ S = .ok false S) : exSs C (.iff c a b :: r) ρ S = (exSs C b ρ S).sq fun ρ S => exSs C r ρ S := x_iff h
theorem y_if1 {c e : Ex} {b r : List Stm} {d : D} (h : evB C c ρ S = .ok true S) (h2 : evD C e ρ S = .ok d S) : exSs C (.iff c [.ret e] b :: r) ρ S = .ok (.rt d) ρ S := x_if1 h h2
theorem x_for {i : Nat} {k : IK} {is : List Ex} {b r : List Stm} {ws : List W} {I : Its} (h : evWs C is ρ S = .ok ws S') (h2 : its k ws S' = some I) (h3 : forL I.live (fun d ρ S => exSs C b (ρ.set i (some d)) S) I.items ρ S' = .ok .nx ρ' S'') : exSs C (.for_ (.nm i) k is b :: r) ρ S = exSs C r ρ' S'' := by
  rw [exSs, exS, h]
  show ((match its k ws S' with
    | some I => forL I.live (fun d ρ S => exSs C b (ρ.set i (some d)) S) I.items ρ S'
    | none => .bad) : RS).sq _ = _
  rw [h2]
  dsimp only
  rw [h3]; rfl
theorem x_forR {i : Nat} {k : IK} {is : List Ex} {b r : List Stm} {ws : List W} {I : Its} {d : D} (h : evWs C is ρ S = .ok ws S') (h2 : its k ws S' = some I) (h3 : forL I.live (fun d ρ S => exSs C b (ρ.set i (some d)) S) I.items ρ S' = .ok (.rt d) ρ' S'') : exSs C (.for_ (.nm i) k is b :: r) ρ S = .ok (.rt d) ρ' S'' := by
  rw [exSs, exS, h]
  show ((match its k ws S' with
    | some I => forL I.live (fun d ρ S => exSs C b (ρ.set i (some d)) S) I.items ρ S'
    | none => .bad) : RS).sq _ = _
  rw [h2]
  dsimp only
  rw [h3]; rfl
theorem x_whl {c : Ex} {b r : List Stm} {n : Nat} (h : whileF (evB C c) (exSs C b) n ρ S = some (.ok .nx ρ' S')) : exSs C (.whl c b :: r) ρ S = exSs C r ρ' S' := by
  rw [exSs, exS, whileR_of h]; rfl
theorem x_whlR {c : Ex} {b r : List Stm} {n : Nat} {d : D} (h : whileF (evB C c) (exSs C b) n ρ S = some (.ok (.rt d) ρ' S')) : exSs C (.whl c b :: r) ρ S = .ok (.rt d) ρ' S' := by
  rw [exSs, exS, whileR_of h]; rfl
theorem x_aug {i : Nat} {o : P2} {e : Ex} {r : List Stm} {x d : D} {w : W} (h : ρ[i]? = some (some x)) (h2 : evK C e ρ S = .ok w S') (h3 : augV o x w = some d) : exSs C (.aug i o e :: r) ρ S = exSs C r (ρ.set i (some d)) S' := by
  rw [exSs, exS, h]
  show (((evK C e ρ S).st ρ fun y S => match augV o x y with
      | some d => .ok .nx (ρ.set i (some d)) S
      | none => .bad) : RS).sq _ = _
  rw [h2]
  show ((match augV o x w with
      | some d => .ok .nx (ρ.set i (some d)) S'
      | none => .bad) : RS).sq _ = _
  rw [h3]; rfl
theorem r_run {tab : Nat → Option Fn} {n i : Nat} {F : Fn} {ds : List D} {d : D} {r : R D} (h : tab i = some F) (hl : ds.length = F.np) (hx : ∃ ρ', exSs (run tab n) F.body (ds.map some ++ List.replicate (F.nl - F.np) none) S = .ok (.rt d) ρ' S') (hp : pack S d S' = r) : run tab (n + 1) i ds S = r := by
  obtain ⟨_, hx⟩ := hx
  rw [run_fin h hl, hx]; exact hp
theorem r_runN {tab : Nat → Option Fn} {n i : Nat} {F : Fn} {ds : List D} {r : R D} (h : tab i = some F) (hl : ds.length = F.np) (hx : ∃ ρ', exSs (run tab n) F.body (ds.map some ++ List.replicate (F.nl - F.np) none) S = .ok .nx ρ' S') (hp : pack S .non S' = r) : run tab (n + 1) i ds S = r := by
  obtain ⟨_, hx⟩ := hx
  rw [run_fin h hl, hx]; exact hp
end
/-- a new object behind others that nobody knows -/
theorem pack_fresh {S T : Store} {m : Nat} {o : O} (hm : S.length ≤ m) (hT : (S ++ T)[m]? = some o) (ho : o.und S.length = true) : pack S (.ref m) (S ++ T) = .ok (.ref S.length) (S ++ [o]) := by
  unfold pack
  rw [if_pos (keeps_app S T), if_neg (by unfold D.und; simp; exact hm)]
  dsimp only
  rw [hT]
  show (if o.und S.length = true then _ else _) = _
  rw [if_pos ho, List.take_left]
theorem fold_snoc {α β : Type} (f : α → β) : ∀ (bs : List α) (acc : List β), bs.foldl (fun s a => s ++ [f a]) acc = acc ++ bs.map f
  | [], acc => by simp
  | b :: r, acc => by rw [List.foldl_cons, fold_snoc f r]; simp
/-- a part of an f-string -/
theorem y_j {C : CF} {ρ : Env} {S : Store} {e : Ex} {r : List Ex} {a y : List Nat} (h : evK C e ρ S = .ok (.val (tx y)) S) (hz : (a ++ y).length ≤ sizeLine) : evJ C (e :: r) ρ S (SX.S a) = evJ C r ρ S (SX.S (a ++ y)) := by
  rw [evJ, h]
  show (if (SX.S a ++ SX.S y).length ≤ sizeLine then evJ C r ρ S (SX.S a ++ SX.S y) else .bad) = _
  rw [SX.S_cat, SX.S_len, if_pos hz]
/-- it returns -/
abbrev Rt (r : RS) (d : D) (S' : Store) : Prop := ∃ ρ', r = .ok (.rt d) ρ' S'
theorem Rt.go {a b : RS} {d : D} {S' : Store} (h : a = b) (k : Rt b d S') : Rt a d S' := by rw [h]; exact k
theorem Rt.fin {a : RS} {d : D} {ρ : Env} {S' : Store} (h : a = .ok (.rt d) ρ S') : Rt a d S' := ⟨ρ, h⟩
end Mi

/-! the defs of the law in the small language -/
namespace Mi.L
open PySem L2 Mi
def top (i : Nat) : Stmt := PySem.Challenge.pw_papervault_k86_steps_read.main.body.getD i (.Pass ⟨0, 0, 0, 0⟩)
def glT : List (Str × Mi.Gl) := ("is_name", .fn 0) :: ("is_value", .fn 1) :: ("words_in", .fn 2) :: ("number_of", .fn 3) :: ("value_of", .fn 4) :: ("word_at", .fn 5) :: ("need_word", .fn 6) :: ("name_at", .fn 7) :: ("column_at", .fn 8) :: ("test_at", .fn 9) :: ("group_at", .fn 10) :: ("condition_at", .fn 11) :: ("read_condition", .fn 12) :: ("what_at", .fn 13) :: ("second_at", .fn 14) :: ("rising_at", .fn 15) :: ("first_at", .fn 16) :: ("columns_in", .fn 17) :: ("columns_asked", .fn 18) :: ("tables_asked", .fn 19) :: ("read_question", .fn 20) :: ("need_many", .fn 21) :: ("table_of", .fn 22) :: ("column_of", .fn 23) :: ("columns_within", .fn 24) :: ("condition_behind", .fn 25) :: ("changing", .fn 26) :: ("step_in", .fn 27) :: ("read_step", .fn 28) :: ("_law_cell_at", .fn 29) :: ("_law_take", .fn 30) :: ("_law_value", .fn 31) :: ("_law_word", .fn 32) :: ("_law_key", .fn 33) :: ("_law_condition", .fn 34) :: ("_law_column_word", .fn 35) :: ("_law_condition_text", .fn 36) :: ("_law_true", .fn 37) :: ("_law_question_text", .fn 38) :: ("_law_answer", .fn 39) :: ("_law_column", .fn 40) :: ("_law_behind", .fn 41) :: ("_law_need", .fn 42) :: ("_law_make", .fn 43) :: ("_law_step", .fn 44) :: ("_law_where", .fn 45) :: ("_law_step_text", .fn 46) :: ("_law_alike", .fn 47) :: ("law", .fn 48) :: ("LETTERS", .cst (.str "abcdefghijklmnopqrstuvwxyz")) :: ("SIGNS_names", .cst (.str " !\"#$&()*+,-./0123456789:<=>?@ABCDEFGHIJKLMNOPQRSTUVWXYZ[\\]^_`abcdefghijklmnopqrstuvwxyz{|}~")) :: ("MOST_LETTERS", .cst (.int 8)) :: ("MOST_SIGNS", .cst (.int 20)) :: ("MOST", .cst (.int 1000000000000)) :: ("QUOTE", .cst (.str "'")) :: ("FIGURES", .cst (.str "0123456789")) :: ("MOST_FIGURES", .cst (.int 13)) :: ("SIGNS_questions", .cst (.kt [(.str "="), (.str "#"), (.str "<"), (.str ">"), (.str "<="), (.str ">=")])) :: ("OF_ONE", .cst (.kt [(.str "sum"), (.str "least"), (.str "most"), (.str "groups")])) :: ("DEEPEST", .cst (.int 5)) :: ("MOST_COLUMNS", .cst (.int 12)) :: ("MOST_FIRST", .cst (.int 1000)) :: ("NoQuestion", .exc 0) :: ("NoStep", .exc 1) :: []
def exT : List Str := ["NoQuestion", "NoStep"]
abbrev s0 : Stmt := top 10
def N0 : List Str := ["thing", "sign"]
def P0 : List Str := ["thing"]
def b0_0 : List Stm := [.iff (.p2 .nin (.v 1) (.c (.str "abcdefghijklmnopqrstuvwxyz"))) [.ret (.c (.bl false))] []]
/-- is_name -/
def b0 : List Stm := [.iff (.or_ (.not_ (.isi [.str] (.v 0))) (.or_ (.p2 .lt (.p1 .len (.v 0)) (.c (.int 1))) (.p2 .gt (.p1 .len (.v 0)) (.c (.int 8))))) [.ret (.c (.bl false))] [], .for_ (.nm 1) .it [(.v 0)] b0_0, .ret (.c (.bl true))]
theorem c0 : cSs 100 100 ⟨N0, glT, defScope s0⟩ (defBody s0) = some b0 := by kernel_rfl
theorem sc0 : scC N0 P0 (defScope s0) = true := by decide +kernel
abbrev s1 : Stmt := top 11
def N1 : List Str := ["thing", "sign"]
def P1 : List Str := ["thing"]
def b1_0 : List Stm := [.iff (.p2 .nin (.v 1) (.c (.str " !\"#$&()*+,-./0123456789:<=>?@ABCDEFGHIJKLMNOPQRSTUVWXYZ[\\]^_`abcdefghijklmnopqrstuvwxyz{|}~"))) [.ret (.c (.bl false))] []]
/-- is_value -/
def b1 : List Stm := [.iff (.isi [.bool] (.v 0)) [.ret (.c (.bl false))] [], .iff (.isi [.int] (.v 0)) [.ret (.ch .le .le (.p2 .sub (.c (.int 0)) (.c (.int 1000000000000))) (.v 0) (.c (.int 1000000000000)))] [], .iff (.or_ (.not_ (.isi [.str] (.v 0))) (.p2 .gt (.p1 .len (.v 0)) (.c (.int 20)))) [.ret (.c (.bl false))] [], .for_ (.nm 1) .it [(.v 0)] b1_0, .ret (.c (.bl true))]
theorem c1 : cSs 100 100 ⟨N1, glT, defScope s1⟩ (defBody s1) = some b1 := by kernel_rfl
theorem sc1 : scC N1 P1 (defScope s1) = true := by decide +kernel
abbrev s2 : Stmt := top 16
def N2 : List Str := ["text", "words", "quoted", "closed", "sign"]
def P2 : List Str := ["text"]
def b2_0 : List Stm := [.iff (.and_ (.p2 .eq (.v 4) (.c (.str " "))) (.not_ (.v 2))) [.exp (.m1 .list .append (.v 1) (.c (.str ""))), .set (.nm 3) (.c (.bl false))] [.iff (.or_ (.v 3) (.and_ (.p2 .eq (.v 4) (.c (.str "'"))) (.and_ (.not_ (.v 2)) (.p2 .ne (.p2 .ix (.v 1) (.p1 .neg (.c (.int 1)))) (.c (.str "")))))) [.rse 0] [.setIx (.v 1) (.p1 .neg (.c (.int 1))) (.p2 .add (.p2 .ix (.v 1) (.p1 .neg (.c (.int 1)))) (.v 4)), .iff (.p2 .eq (.v 4) (.c (.str "'"))) [.set (.nm 3) (.v 2), .set (.nm 2) (.not_ (.v 2))] []]]]
/-- words_in -/
def b2 : List Stm := [.iff (.not_ (.isi [.str] (.v 0))) [.rse 0] [], .set (.nm 1) (.disp [(.c (.str ""))]), .set (.nm 2) (.c (.bl false)), .set (.nm 3) (.c (.bl false)), .for_ (.nm 4) .it [(.v 0)] b2_0, .iff (.or_ (.v 2) (.p2 .inn (.c (.str "")) (.v 1))) [.rse 0] [], .ret (.v 1)]
theorem c2 : cSs 100 100 ⟨N2, glT, defScope s2⟩ (defBody s2) = some b2 := by kernel_rfl
theorem sc2 : scC N2 P2 (defScope s2) = true := by decide +kernel
abbrev s3 : Stmt := top 17
def N3 : List Str := ["word", "figures", "figure"]
def P3 : List Str := ["word"]
def b3_0 : List Stm := [.iff (.p2 .nin (.v 2) (.c (.str "0123456789"))) [.ret (.c .non)] []]
/-- number_of -/
def b3 : List Stm := [.set (.nm 1) (.v 0), .iff (.p2 .eq (.sl (.v 0) [] [(.c (.int 1))]) (.c (.str "-"))) [.set (.nm 1) (.sl (.v 0) [(.c (.int 1))] [])] [], .iff (.or_ (.p2 .lt (.p1 .len (.v 1)) (.c (.int 1))) (.or_ (.p2 .gt (.p1 .len (.v 1)) (.c (.int 13))) (.and_ (.p2 .eq (.p2 .ix (.v 1) (.c (.int 0))) (.c (.str "0"))) (.p2 .ne (.v 0) (.c (.str "0")))))) [.ret (.c .non)] [], .for_ (.nm 2) .it [(.v 1)] b3_0, .ret (.p1 .int_ (.v 0))]
theorem c3 : cSs 100 100 ⟨N3, glT, defScope s3⟩ (defBody s3) = some b3 := by kernel_rfl
theorem sc3 : scC N3 P3 (defScope s3) = true := by decide +kernel
abbrev s4 : Stmt := top 18
def N4 : List Str := ["word", "value"]
def P4 : List Str := ["word"]
/-- value_of -/
def b4 : List Stm := [.set (.nm 1) (.call 3 [(.v 0)]), .iff (.and_ (.p2 .gt (.p1 .len (.v 0)) (.c (.int 1))) (.and_ (.p2 .eq (.p2 .ix (.v 0) (.c (.int 0))) (.c (.str "'"))) (.p2 .eq (.p2 .ix (.v 0) (.p1 .neg (.c (.int 1)))) (.c (.str "'"))))) [.set (.nm 1) (.sl (.v 0) [(.c (.int 1))] [(.p1 .neg (.c (.int 1)))])] [], .iff (.or_ (.p1 .isN (.v 1)) (.not_ (.call 1 [(.v 1)]))) [.rse 0] [], .ret (.v 1)]
theorem c4 : cSs 100 100 ⟨N4, glT, defScope s4⟩ (defBody s4) = some b4 := by kernel_rfl
theorem sc4 : scC N4 P4 (defScope s4) = true := by decide +kernel
abbrev s5 : Stmt := top 25
def N5 : List Str := ["words", "at"]
def P5 : List Str := ["words", "at"]
/-- word_at -/
def b5 : List Stm := [.iff (.p2 .ge (.v 1) (.p1 .len (.v 0))) [.rse 0] [], .ret (.p2 .ix (.v 0) (.v 1))]
theorem c5 : cSs 100 100 ⟨N5, glT, defScope s5⟩ (defBody s5) = some b5 := by kernel_rfl
theorem sc5 : scC N5 P5 (defScope s5) = true := by decide +kernel
abbrev s6 : Stmt := top 26
def N6 : List Str := ["words", "at", "wanted"]
def P6 : List Str := ["words", "at", "wanted"]
/-- need_word -/
def b6 : List Stm := [.iff (.p2 .ne (.call 5 [(.v 0), (.v 1)]) (.v 2)) [.rse 0] []]
theorem c6 : cSs 100 100 ⟨N6, glT, defScope s6⟩ (defBody s6) = some b6 := by kernel_rfl
theorem sc6 : scC N6 P6 (defScope s6) = true := by decide +kernel
abbrev s7 : Stmt := top 27
def N7 : List Str := ["words", "at"]
def P7 : List Str := ["words", "at"]
/-- name_at -/
def b7 : List Stm := [.iff (.not_ (.call 0 [(.call 5 [(.v 0), (.v 1)])])) [.rse 0] [], .ret (.p2 .ix (.v 0) (.v 1))]
theorem c7 : cSs 100 100 ⟨N7, glT, defScope s7⟩ (defBody s7) = some b7 := by kernel_rfl
theorem sc7 : scC N7 P7 (defScope s7) = true := by decide +kernel
abbrev s8 : Stmt := top 28
def N8 : List Str := ["words", "at", "parts"]
def P8 : List Str := ["words", "at"]
/-- column_at -/
def b8 : List Stm := [.set (.nm 2) (.m1 .str .split (.call 5 [(.v 0), (.v 1)]) (.c (.str "."))), .iff (.or_ (.p2 .ne (.p1 .len (.v 2)) (.c (.int 2))) (.or_ (.not_ (.call 0 [(.p2 .ix (.v 2) (.c (.int 0)))])) (.not_ (.call 0 [(.p2 .ix (.v 2) (.c (.int 1)))])))) [.rse 0] [], .ret (.p1 .tuple_ (.v 2))]
theorem c8 : cSs 100 100 ⟨N8, glT, defScope s8⟩ (defBody s8) = some b8 := by kernel_rfl
theorem sc8 : scC N8 P8 (defScope s8) = true := by decide +kernel
abbrev s9 : Stmt := top 29
def N9 : List Str := ["words", "at", "column", "sign", "right"]
def P9 : List Str := ["words", "at"]
/-- test_at -/
def b9 : List Stm := [.set (.nm 2) (.call 8 [(.v 0), (.v 1)]), .set (.nm 3) (.call 5 [(.v 0), (.p2 .add (.v 1) (.c (.int 1)))]), .iff (.p2 .nin (.v 3) (.c (.kt [(.str "="), (.str "#"), (.str "<"), (.str ">"), (.str "<="), (.str ">=")]))) [.rse 0] [], .set (.nm 4) (.call 5 [(.v 0), (.p2 .add (.v 1) (.c (.int 2)))]), .iff (.p2 .inn (.p2 .ix (.v 4) (.c (.int 0))) (.c (.str "'-0123456789"))) [.ret (.tup [(.tup [(.c (.str "test")), (.v 2), (.v 3), (.tup [(.c (.str "value")), (.call 4 [(.v 4)])])]), (.p2 .add (.v 1) (.c (.int 3)))])] [], .ret (.tup [(.tup [(.c (.str "test")), (.v 2), (.v 3), (.tup [(.c (.str "column")), (.call 8 [(.v 0), (.p2 .add (.v 1) (.c (.int 2)))])])]), (.p2 .add (.v 1) (.c (.int 3)))])]
theorem c9 : cSs 100 100 ⟨N9, glT, defScope s9⟩ (defBody s9) = some b9 := by kernel_rfl
theorem sc9 : scC N9 P9 (defScope s9) = true := by decide +kernel
abbrev s10 : Stmt := top 30
def N10 : List Str := ["words", "at", "deep", "kind", "parts", "joint", "part"]
def P10 : List Str := ["words", "at", "deep"]
def b10_0 : List Stm := [.set (.tp [6, 1]) (.call 11 [(.v 0), (.v 1), (.v 2)]), .exp (.m1 .list .append (.v 4) (.v 6)), .set (.nm 5) (.call 5 [(.v 0), (.v 1)]), .iff (.or_ (.p2 .nin (.v 5) (.tup [(.c (.str ")")), (.c (.str "and")), (.c (.str "or"))])) (.and_ (.p2 .ne (.v 5) (.c (.str ")"))) (.p2 .nin (.v 3) (.tup [(.c (.str "")), (.v 5)])))) [.rse 0] [], .iff (.p2 .ne (.v 5) (.c (.str ")"))) [.set (.nm 3) (.v 5)] [], .aug 1 .add (.c (.int 1))]
/-- group_at -/
def b10 : List Stm := [.set (.nm 3) (.c (.str "")), .set (.nm 4) (.disp []), .set (.nm 5) (.c (.str "")), .whl (.p2 .ne (.v 5) (.c (.str ")"))) b10_0, .iff (.p2 .eq (.v 3) (.c (.str ""))) [.rse 0] [], .ret (.tup [(.tup [(.v 3), (.p1 .tuple_ (.v 4))]), (.v 1)])]
theorem c10 : cSs 100 100 ⟨N10, glT, defScope s10⟩ (defBody s10) = some b10 := by kernel_rfl
theorem sc10 : scC N10 P10 (defScope s10) = true := by decide +kernel
abbrev s11 : Stmt := top 31
def N11 : List Str := ["words", "at", "deep", "first", "part", "behind"]
def P11 : List Str := ["words", "at", "deep"]
/-- condition_at -/
def b11 : List Stm := [.iff (.p2 .ge (.v 2) (.c (.int 5))) [.rse 0] [], .set (.nm 3) (.call 5 [(.v 0), (.v 1)]), .iff (.p2 .eq (.v 3) (.c (.str "not"))) [.set (.tp [4, 5]) (.call 11 [(.v 0), (.p2 .add (.v 1) (.c (.int 1))), (.p2 .add (.v 2) (.c (.int 1)))]), .ret (.tup [(.tup [(.c (.str "not")), (.v 4)]), (.v 5)])] [], .iff (.p2 .eq (.v 3) (.c (.str "("))) [.ret (.call 10 [(.v 0), (.p2 .add (.v 1) (.c (.int 1))), (.p2 .add (.v 2) (.c (.int 1)))])] [], .ret (.call 9 [(.v 0), (.v 1)])]
theorem c11 : cSs 100 100 ⟨N11, glT, defScope s11⟩ (defBody s11) = some b11 := by kernel_rfl
theorem sc11 : scC N11 P11 (defScope s11) = true := by decide +kernel
abbrev s12 : Stmt := top 32
def N12 : List Str := ["words", "condition", "at"]
def P12 : List Str := ["words"]
/-- read_condition -/
def b12 : List Stm := [.set (.tp [1, 2]) (.call 11 [(.v 0), (.c (.int 0)), (.c (.int 0))]), .iff (.p2 .ne (.v 2) (.p1 .len (.v 0))) [.rse 0] [], .ret (.v 1)]
theorem c12 : cSs 100 100 ⟨N12, glT, defScope s12⟩ (defBody s12) = some b12 := by kernel_rfl
theorem sc12 : scC N12 P12 (defScope s12) = true := by decide +kernel
abbrev s13 : Stmt := top 33
def N13 : List Str := ["words", "first", "columns", "at"]
def P13 : List Str := ["words"]
def b13_0 : List Stm := [.exp (.m1 .list .append (.v 2) (.call 8 [(.v 0), (.v 3)])), .aug 3 .add (.c (.int 1))]
/-- what_at -/
def b13 : List Stm := [.set (.nm 1) (.call 5 [(.v 0), (.c (.int 1))]), .iff (.p2 .inn (.v 1) (.tup [(.c (.str "all")), (.c (.str "count"))])) [.ret (.tup [(.tup [(.v 1)]), (.c (.int 2))])] [], .iff (.p2 .inn (.v 1) (.c (.kt [(.str "sum"), (.str "least"), (.str "most"), (.str "groups")]))) [.ret (.tup [(.tup [(.v 1), (.call 8 [(.v 0), (.c (.int 2))])]), (.c (.int 3))])] [], .set (.nm 2) (.disp []), .set (.nm 3) (.c (.int 1)), .whl (.p2 .ne (.call 5 [(.v 0), (.v 3)]) (.c (.str "of"))) b13_0, .iff (.or_ (.p2 .lt (.p1 .len (.v 2)) (.c (.int 1))) (.p2 .gt (.p1 .len (.v 2)) (.c (.int 12)))) [.rse 0] [], .ret (.tup [(.tup [(.c (.str "columns")), (.p1 .tuple_ (.v 2))]), (.v 3)])]
theorem c13 : cSs 100 100 ⟨N13, glT, defScope s13⟩ (defBody s13) = some b13 := by kernel_rfl
theorem sc13 : scC N13 P13 (defScope s13) = true := by decide +kernel
abbrev s14 : Stmt := top 34
def N14 : List Str := ["words", "at", "table", "second", "one", "other"]
def P14 : List Str := ["words", "at", "table"]
/-- second_at -/
def b14 : List Stm := [.iff (.or_ (.p2 .ge (.v 1) (.p1 .len (.v 0))) (.p2 .ne (.p2 .ix (.v 0) (.v 1)) (.c (.str "and")))) [.ret (.tup [(.c .non), (.v 1)])] [], .set (.nm 3) (.call 7 [(.v 0), (.p2 .add (.v 1) (.c (.int 1)))]), .exp (.call 6 [(.v 0), (.p2 .add (.v 1) (.c (.int 2))), (.c (.str "by"))]), .set (.nm 4) (.call 8 [(.v 0), (.p2 .add (.v 1) (.c (.int 3)))]), .exp (.call 6 [(.v 0), (.p2 .add (.v 1) (.c (.int 4))), (.c (.str "="))]), .set (.nm 5) (.call 8 [(.v 0), (.p2 .add (.v 1) (.c (.int 5)))]), .iff (.or_ (.p2 .eq (.v 3) (.v 2)) (.or_ (.p2 .ne (.p2 .ix (.v 4) (.c (.int 0))) (.v 2)) (.p2 .ne (.p2 .ix (.v 5) (.c (.int 0))) (.v 3)))) [.rse 0] [], .ret (.tup [(.tup [(.v 3), (.v 4), (.v 5)]), (.p2 .add (.v 1) (.c (.int 6)))])]
theorem c14 : cSs 100 100 ⟨N14, glT, defScope s14⟩ (defBody s14) = some b14 := by kernel_rfl
theorem sc14 : scC N14 P14 (defScope s14) = true := by decide +kernel
abbrev s15 : Stmt := top 35
def N15 : List Str := ["words", "at"]
def P15 : List Str := ["words", "at"]
/-- rising_at -/
def b15 : List Stm := [.iff (.or_ (.p2 .ge (.v 1) (.p1 .len (.v 0))) (.p2 .nin (.p2 .ix (.v 0) (.v 1)) (.tup [(.c (.str "rising")), (.c (.str "falling"))]))) [.ret (.tup [(.c .non), (.v 1)])] [], .ret (.tup [(.tup [(.call 8 [(.v 0), (.p2 .add (.v 1) (.c (.int 1)))]), (.p2 .ix (.v 0) (.v 1))]), (.p2 .add (.v 1) (.c (.int 2)))])]
theorem c15 : cSs 100 100 ⟨N15, glT, defScope s15⟩ (defBody s15) = some b15 := by kernel_rfl
theorem sc15 : scC N15 P15 (defScope s15) = true := by decide +kernel
abbrev s16 : Stmt := top 36
def N16 : List Str := ["words", "at", "number"]
def P16 : List Str := ["words", "at"]
/-- first_at -/
def b16 : List Stm := [.iff (.or_ (.p2 .ge (.v 1) (.p1 .len (.v 0))) (.p2 .ne (.p2 .ix (.v 0) (.v 1)) (.c (.str "first")))) [.ret (.tup [(.c .non), (.v 1)])] [], .set (.nm 2) (.call 3 [(.call 5 [(.v 0), (.p2 .add (.v 1) (.c (.int 1)))])]), .iff (.or_ (.p1 .isN (.v 2)) (.or_ (.p2 .lt (.v 2) (.c (.int 0))) (.p2 .gt (.v 2) (.c (.int 1000))))) [.rse 0] [], .ret (.tup [(.v 2), (.p2 .add (.v 1) (.c (.int 2)))])]
theorem c16 : cSs 100 100 ⟨N16, glT, defScope s16⟩ (defBody s16) = some b16 := by kernel_rfl
theorem sc16 : scC N16 P16 (defScope s16) = true := by decide +kernel
abbrev s17 : Stmt := top 37
def N17 : List Str := ["condition", "told", "part"]
def P17 : List Str := ["condition"]
def b17_0 : List Stm := [.exp (.m1 .list .extend (.v 1) (.call 17 [(.v 2)]))]
/-- columns_in -/
def b17 : List Stm := [.iff (.p1 .isN (.v 0)) [.ret (.disp [])] [], .iff (.p2 .eq (.p2 .ix (.v 0) (.c (.int 0))) (.c (.str "test"))) [.set (.nm 1) (.disp [(.p2 .ix (.v 0) (.c (.int 1)))]), .iff (.p2 .eq (.p2 .ix (.p2 .ix (.v 0) (.c (.int 3))) (.c (.int 0))) (.c (.str "column"))) [.exp (.m1 .list .append (.v 1) (.p2 .ix (.p2 .ix (.v 0) (.c (.int 3))) (.c (.int 1))))] [], .ret (.v 1)] [], .iff (.p2 .eq (.p2 .ix (.v 0) (.c (.int 0))) (.c (.str "not"))) [.ret (.call 17 [(.p2 .ix (.v 0) (.c (.int 1)))])] [], .set (.nm 1) (.disp []), .for_ (.nm 2) .it [(.p2 .ix (.v 0) (.c (.int 1)))] b17_0, .ret (.v 1)]
theorem c17 : cSs 100 100 ⟨N17, glT, defScope s17⟩ (defBody s17) = some b17 := by kernel_rfl
theorem sc17 : scC N17 P17 (defScope s17) = true := by decide +kernel
abbrev s18 : Stmt := top 38
def N18 : List Str := ["question", "what", "table", "second", "condition", "rising", "first", "told"]
def P18 : List Str := ["question"]
/-- columns_asked -/
def b18 : List Stm := [.set (.tp [1, 2, 3, 4, 5, 6]) (.v 0), .set (.nm 7) (.disp []), .iff (.p2 .eq (.p2 .ix (.v 1) (.c (.int 0))) (.c (.str "columns"))) [.exp (.m1 .list .extend (.v 7) (.p2 .ix (.v 1) (.c (.int 1))))] [.iff (.p2 .gt (.p1 .len (.v 1)) (.c (.int 1))) [.exp (.m1 .list .append (.v 7) (.p2 .ix (.v 1) (.c (.int 1))))] []], .iff (.p1 .notN (.v 3)) [.exp (.m1 .list .extend (.v 7) (.sl (.v 3) [(.c (.int 1))] []))] [], .exp (.m1 .list .extend (.v 7) (.call 17 [(.v 4)])), .iff (.p1 .notN (.v 5)) [.exp (.m1 .list .append (.v 7) (.p2 .ix (.v 5) (.c (.int 0))))] [], .ret (.v 7)]
theorem c18 : cSs 100 100 ⟨N18, glT, defScope s18⟩ (defBody s18) = some b18 := by kernel_rfl
theorem sc18 : scC N18 P18 (defScope s18) = true := by decide +kernel
abbrev s19 : Stmt := top 39
def N19 : List Str := ["question"]
def P19 : List Str := ["question"]
/-- tables_asked -/
def b19 : List Stm := [.iff (.p1 .isN (.p2 .ix (.v 0) (.c (.int 2)))) [.ret (.disp [(.p2 .ix (.v 0) (.c (.int 1)))])] [], .ret (.disp [(.p2 .ix (.v 0) (.c (.int 1))), (.p2 .ix (.p2 .ix (.v 0) (.c (.int 2))) (.c (.int 0)))])]
theorem c19 : cSs 100 100 ⟨N19, glT, defScope s19⟩ (defBody s19) = some b19 := by kernel_rfl
theorem sc19 : scC N19 P19 (defScope s19) = true := by decide +kernel
abbrev s20 : Stmt := top 40
def N20 : List Str := ["text", "words", "what", "at", "table", "second", "condition", "rising", "first", "question", "column"]
def P20 : List Str := ["text"]
def b20_0 : List Stm := [.iff (.p2 .nin (.p2 .ix (.v 10) (.c (.int 0))) (.call 19 [(.v 9)])) [.rse 0] []]
/-- read_question -/
def b20 : List Stm := [.set (.nm 1) (.call 2 [(.v 0)]), .exp (.call 6 [(.v 1), (.c (.int 0)), (.c (.str "show"))]), .set (.tp [2, 3]) (.call 13 [(.v 1)]), .exp (.call 6 [(.v 1), (.v 3), (.c (.str "of"))]), .set (.nm 4) (.call 7 [(.v 1), (.p2 .add (.v 3) (.c (.int 1)))]), .set (.tp [5, 3]) (.call 14 [(.v 1), (.p2 .add (.v 3) (.c (.int 2))), (.v 4)]), .set (.nm 6) (.c .non), .iff (.and_ (.p2 .lt (.v 3) (.p1 .len (.v 1))) (.p2 .eq (.p2 .ix (.v 1) (.v 3)) (.c (.str "where")))) [.set (.tp [6, 3]) (.call 11 [(.v 1), (.p2 .add (.v 3) (.c (.int 1))), (.c (.int 0))])] [], .set (.tp [7, 3]) (.call 15 [(.v 1), (.v 3)]), .set (.tp [8, 3]) (.call 16 [(.v 1), (.v 3)]), .iff (.or_ (.p2 .ne (.v 3) (.p1 .len (.v 1))) (.and_ (.p2 .nin (.p2 .ix (.v 2) (.c (.int 0))) (.tup [(.c (.str "all")), (.c (.str "columns"))])) (.or_ (.p1 .notN (.v 7)) (.p1 .notN (.v 8))))) [.rse 0] [], .set (.nm 9) (.tup [(.v 2), (.v 4), (.v 5), (.v 6), (.v 7), (.v 8)]), .for_ (.nm 10) .it [(.call 18 [(.v 9)])] b20_0, .ret (.v 9)]
theorem c20 : cSs 100 100 ⟨N20, glT, defScope s20⟩ (defBody s20) = some b20 := by kernel_rfl
theorem sc20 : scC N20 P20 (defScope s20) = true := by decide +kernel
abbrev s21 : Stmt := top 42
def N21 : List Str := ["words", "least", "most"]
def P21 : List Str := ["words", "least", "most"]
/-- need_many -/
def b21 : List Stm := [.iff (.or_ (.p2 .lt (.p1 .len (.v 0)) (.v 1)) (.and_ (.p1 .notN (.v 2)) (.p2 .gt (.p1 .len (.v 0)) (.v 2)))) [.rse 1] []]
theorem c21 : cSs 100 100 ⟨N21, glT, defScope s21⟩ (defBody s21) = some b21 := by kernel_rfl
theorem sc21 : scC N21 P21 (defScope s21) = true := by decide +kernel
abbrev s22 : Stmt := top 43
def N22 : List Str := ["word"]
def P22 : List Str := ["word"]
/-- table_of -/
def b22 : List Stm := [.iff (.not_ (.call 0 [(.v 0)])) [.rse 1] [], .ret (.v 0)]
theorem c22 : cSs 100 100 ⟨N22, glT, defScope s22⟩ (defBody s22) = some b22 := by kernel_rfl
theorem sc22 : scC N22 P22 (defScope s22) = true := by decide +kernel
abbrev s23 : Stmt := top 44
def N23 : List Str := ["word", "parts"]
def P23 : List Str := ["word"]
/-- column_of -/
def b23 : List Stm := [.set (.nm 1) (.m1 .str .split (.v 0) (.c (.str "."))), .iff (.p2 .ne (.p1 .len (.v 1)) (.c (.int 2))) [.rse 1] [], .ret (.tup [(.call 22 [(.p2 .ix (.v 1) (.c (.int 0)))]), (.call 22 [(.p2 .ix (.v 1) (.c (.int 1)))])])]
theorem c23 : cSs 100 100 ⟨N23, glT, defScope s23⟩ (defBody s23) = some b23 := by kernel_rfl
theorem sc23 : scC N23 P23 (defScope s23) = true := by decide +kernel
abbrev s24 : Stmt := top 45
def N24 : List Str := ["condition", "right", "found", "part"]
def P24 : List Str := ["condition"]
def b24_0 : List Stm := [.exp (.m1 .list .extend (.v 2) (.call 24 [(.v 3)]))]
/-- columns_within -/
def b24 : List Stm := [.iff (.p2 .eq (.p2 .ix (.v 0) (.c (.int 0))) (.c (.str "not"))) [.ret (.call 24 [(.p2 .ix (.v 0) (.c (.int 1)))])] [], .iff (.p2 .eq (.p2 .ix (.v 0) (.c (.int 0))) (.c (.str "test"))) [.set (.nm 1) (.p2 .ix (.v 0) (.c (.int 3))), .ret (.p2 .add (.disp [(.p2 .ix (.v 0) (.c (.int 1)))]) (.p2 .mul (.disp [(.p2 .ix (.v 1) (.c (.int 1)))]) (.p1 .int_ (.p2 .eq (.p2 .ix (.v 1) (.c (.int 0))) (.c (.str "column"))))))] [], .set (.nm 2) (.disp []), .for_ (.nm 3) .it [(.p2 .ix (.v 0) (.c (.int 1)))] b24_0, .ret (.v 2)]
theorem c24 : cSs 100 100 ⟨N24, glT, defScope s24⟩ (defBody s24) = some b24 := by kernel_rfl
theorem sc24 : scC N24 P24 (defScope s24) = true := by decide +kernel
abbrev s25 : Stmt := top 46
def N25 : List Str := ["words", "table", "condition", "column"]
def P25 : List Str := ["words", "table"]
def b25_0 : List Stm := [.iff (.p2 .ne (.p2 .ix (.v 3) (.c (.int 0))) (.v 1)) [.rse 1] []]
/-- condition_behind -/
def b25 : List Stm := [.iff (.p2 .eq (.v 0) (.disp [])) [.ret (.c .non)] [], .iff (.p2 .ne (.p2 .ix (.v 0) (.c (.int 0))) (.c (.str "where"))) [.rse 1] [], .set (.nm 2) (.call 12 [(.sl (.v 0) [(.c (.int 1))] [])]), .for_ (.nm 3) .it [(.call 24 [(.v 2)])] b25_0, .ret (.v 2)]
theorem c25 : cSs 100 100 ⟨N25, glT, defScope s25⟩ (defBody s25) = some b25 := by kernel_rfl
theorem sc25 : scC N25 P25 (defScope s25) = true := by decide +kernel
abbrev s26 : Stmt := top 47
def N26 : List Str := ["words", "word", "column"]
def P26 : List Str := ["words"]
/-- changing -/
def b26 : List Stm := [.iff (.p2 .eq (.p2 .ix (.v 0) (.c (.int 0))) (.c (.str "put"))) [.exp (.call 21 [(.v 0), (.c (.int 3)), (.c .non)]), .ret (.tup [(.c (.str "put")), (.call 22 [(.p2 .ix (.v 0) (.c (.int 1)))]), (.p1 .tuple_ (.comp (.nm 1) .it [(.sl (.v 0) [(.c (.int 2))] [])] [] (.call 4 [(.v 1)]) [1]))])] [], .iff (.p2 .eq (.p2 .ix (.v 0) (.c (.int 0))) (.c (.str "cut"))) [.exp (.call 21 [(.v 0), (.c (.int 2)), (.c .non)]), .ret (.tup [(.c (.str "cut")), (.call 22 [(.p2 .ix (.v 0) (.c (.int 1)))]), (.call 25 [(.sl (.v 0) [(.c (.int 2))] []), (.p2 .ix (.v 0) (.c (.int 1)))])])] [], .iff (.p2 .eq (.p2 .ix (.v 0) (.c (.int 0))) (.c (.str "set"))) [.exp (.call 21 [(.v 0), (.c (.int 4)), (.c .non)]), .set (.nm 2) (.call 23 [(.p2 .ix (.v 0) (.c (.int 1)))]), .iff (.p2 .ne (.p2 .ix (.v 0) (.c (.int 2))) (.c (.str "="))) [.rse 1] [], .ret (.tup [(.c (.str "set")), (.v 2), (.call 4 [(.p2 .ix (.v 0) (.c (.int 3)))]), (.call 25 [(.sl (.v 0) [(.c (.int 4))] []), (.p2 .ix (.v 2) (.c (.int 0)))])])] [], .iff (.or_ (.p2 .ne (.p2 .ix (.v 0) (.c (.int 0))) (.c (.str "need"))) (.or_ (.p2 .lt (.p1 .len (.v 0)) (.c (.int 4))) (.p2 .ne (.p2 .ix (.v 0) (.c (.int 2))) (.c (.str "is"))))) [.rse 1] [], .ret (.tup [(.c (.str "need")), (.call 4 [(.p2 .ix (.v 0) (.c (.int 1)))]), (.call 20 [(.m1 .str .join (.c (.str " ")) (.sl (.v 0) [(.c (.int 3))] []))])])]
theorem c26 : cSs 100 100 ⟨N26, glT, defScope s26⟩ (defBody s26) = some b26 := by kernel_rfl
theorem sc26 : scC N26 P26 (defScope s26) = true := by decide +kernel
abbrev s27 : Stmt := top 48
def N27 : List Str := ["text", "words", "word"]
def P27 : List Str := ["text"]
/-- step_in -/
def b27 : List Stm := [.set (.nm 1) (.call 2 [(.v 0)]), .iff (.p2 .eq (.p2 .ix (.v 1) (.c (.int 0))) (.c (.str "make"))) [.exp (.call 21 [(.v 1), (.c (.int 3)), (.c .non)]), .ret (.tup [(.c (.str "make")), (.call 22 [(.p2 .ix (.v 1) (.c (.int 1)))]), (.p1 .tuple_ (.comp (.nm 2) .it [(.sl (.v 1) [(.c (.int 2))] [])] [] (.call 22 [(.v 2)]) [2]))])] [], .iff (.p2 .eq (.p2 .ix (.v 1) (.c (.int 0))) (.c (.str "drop"))) [.exp (.call 21 [(.v 1), (.c (.int 2)), (.c (.int 2))]), .ret (.tup [(.c (.str "drop")), (.call 22 [(.p2 .ix (.v 1) (.c (.int 1)))])])] [], .iff (.p2 .inn (.p2 .ix (.v 1) (.c (.int 0))) (.tup [(.c (.str "order")), (.c (.str "unorder"))])) [.exp (.call 21 [(.v 1), (.c (.int 2)), (.c (.int 2))]), .ret (.tup [(.p2 .ix (.v 1) (.c (.int 0))), (.call 23 [(.p2 .ix (.v 1) (.c (.int 1)))])])] [], .ret (.call 26 [(.v 1)])]
theorem c27 : cSs 100 100 ⟨N27, glT, defScope s27⟩ (defBody s27) = some b27 := by kernel_rfl
theorem sc27 : scC N27 P27 (defScope s27) = true := by decide +kernel
abbrev s28 : Stmt := top 49
def N28 : List Str := ["text", "step"]
def P28 : List Str := ["text"]
/-- read_step -/
def b28 : List Stm := [.thru [.set (.nm 1) (.call 27 [(.v 0)])] [.ret (.v 1)]]
theorem c28 : cSs 100 100 ⟨N28, glT, defScope s28⟩ (defBody s28) = some b28 := by kernel_rfl
theorem sc28 : scC N28 P28 (defScope s28) = true := by decide +kernel
abbrev s29 : Stmt := top 51
def N29 : List Str := ["script", "k"]
def P29 : List Str := ["script", "k"]
/-- _law_cell_at -/
def b29 : List Stm := [.iff (.p2 .lt (.v 1) (.p1 .len (.v 0))) [.ret (.p2 .ix (.v 0) (.v 1))] [], .ret (.c (.int 0))]
theorem c29 : cSs 100 100 ⟨N29, glT, defScope s29⟩ (defBody s29) = some b29 := by kernel_rfl
theorem sc29 : scC N29 P29 (defScope s29) = true := by decide +kernel
abbrev s30 : Stmt := top 52
def N30 : List Str := ["deck", "many", "come", "number"]
def P30 : List Str := ["deck", "many"]
/-- _law_take -/
def b30 : List Stm := [.iff (.p2 .eq (.p2 .ix (.v 0) (.c (.int 1))) (.c (.int 0))) [.set (.nm 2) (.p2 .mod (.p2 .ix (.v 0) (.c (.int 0))) (.v 1)), .setIx (.v 0) (.c (.int 0)) (.p2 .fdiv (.p2 .ix (.v 0) (.c (.int 0))) (.v 1)), .ret (.v 2)] [], .setIx (.v 0) (.c (.int 2)) (.p2 .add (.p2 .ix (.v 0) (.c (.int 2))) (.c (.int 1))), .set (.nm 3) (.p2 .mod (.p2 .add (.p2 .mul (.p2 .mod (.p2 .ix (.v 0) (.c (.int 0))) (.c (.int 2147483647))) (.p2 .add (.p2 .mul (.p2 .ix (.v 0) (.c (.int 2))) (.p2 .ix (.v 0) (.c (.int 2)))) (.c (.int 48271)))) (.p2 .ix (.v 0) (.c (.int 2)))) (.c (.int 2147483629))), .set (.nm 3) (.p2 .mod (.p2 .mul (.v 3) (.v 3)) (.c (.int 2147483587))), .ret (.p2 .mod (.p2 .fdiv (.p2 .mod (.p2 .mul (.v 3) (.c (.int 69621))) (.c (.int 2147483563))) (.c (.int 3))) (.v 1))]
theorem c30 : cSs 100 100 ⟨N30, glT, defScope s30⟩ (defBody s30) = some b30 := by kernel_rfl
theorem sc30 : scC N30 P30 (defScope s30) = true := by decide +kernel
abbrev s31 : Stmt := top 53
def N31 : List Str := ["deck", "some"]
def P31 : List Str := ["deck"]
/-- _law_value -/
def b31 : List Stm := [.set (.nm 1) (.disp [(.c (.int 0)), (.c (.int 1)), (.c (.int 2)), (.c (.int 3)), (.p1 .neg (.c (.int 1))), (.p1 .neg (.c (.int 20))), (.p2 .pow (.c (.int 10)) (.c (.int 12))), (.c (.str "")), (.c (.str "a")), (.c (.str "b b")), (.c (.str "Z")), (.c (.str "where")), (.c (.str "0")), (.c (.str "~ (x)")), (.c (.str "a where b")), (.c (.str " is "))]), .ret (.p2 .ix (.v 1) (.call 30 [(.v 0), (.c (.int 16))]))]
theorem c31 : cSs 100 100 ⟨N31, glT, defScope s31⟩ (defBody s31) = some b31 := by kernel_rfl
theorem sc31 : scC N31 P31 (defScope s31) = true := by decide +kernel
abbrev s32 : Stmt := top 54
def N32 : List Str := ["value"]
def P32 : List Str := ["value"]
/-- _law_word -/
def b32 : List Stm := [.iff (.isi [.str] (.v 0)) [.ret (.p2 .add (.p2 .add (.c (.str "'")) (.v 0)) (.c (.str "'")))] [], .ret (.p1 .str_ (.v 0))]
theorem c32 : cSs 100 100 ⟨N32, glT, defScope s32⟩ (defBody s32) = some b32 := by kernel_rfl
theorem sc32 : scC N32 P32 (defScope s32) = true := by decide +kernel
abbrev s33 : Stmt := top 55
def N33 : List Str := ["value"]
def P33 : List Str := ["value"]
/-- _law_key -/
def b33 : List Stm := [.iff (.isi [.str] (.v 0)) [.ret (.tup [(.c (.int 1)), (.c (.int 0)), (.v 0)])] [], .ret (.tup [(.c (.int 0)), (.v 0), (.c (.str ""))])]
theorem c33 : cSs 100 100 ⟨N33, glT, defScope s33⟩ (defBody s33) = some b33 := by kernel_rfl
theorem sc33 : scC N33 P33 (defScope s33) = true := by decide +kernel
abbrev s34 : Stmt := top 56
def N34 : List Str := ["deck", "columns", "deep", "way", "parts", "k", "column", "sign"]
def P34 : List Str := ["deck", "columns", "deep"]
/-- _law_condition -/
def b34 : List Stm := [.set (.nm 3) (.call 30 [(.v 0), (.c (.int 7))]), .iff (.and_ (.p2 .gt (.v 2) (.c (.int 0))) (.p2 .eq (.v 3) (.c (.int 0)))) [.ret (.tup [(.c (.str "not")), (.call 34 [(.v 0), (.v 1), (.p2 .sub (.v 2) (.c (.int 1)))])])] [], .iff (.and_ (.p2 .gt (.v 2) (.c (.int 0))) (.p2 .lt (.v 3) (.c (.int 3)))) [.set (.nm 4) (.comp (.nm 5) .rng1 [(.p2 .add (.c (.int 2)) (.call 30 [(.v 0), (.c (.int 2))]))] [] (.call 34 [(.v 0), (.v 1), (.p2 .sub (.v 2) (.c (.int 1)))]) [5]), .ret (.tup [(.p2 .ix (.disp [(.c (.str "and")), (.c (.str "or"))]) (.p2 .sub (.v 3) (.c (.int 1)))), (.p1 .tuple_ (.v 4))])] [], .set (.nm 6) (.p2 .ix (.v 1) (.call 30 [(.v 0), (.p1 .len (.v 1))])), .set (.nm 7) (.p2 .ix (.disp [(.c (.str "=")), (.c (.str "#")), (.c (.str "<")), (.c (.str ">")), (.c (.str "<=")), (.c (.str ">="))]) (.call 30 [(.v 0), (.c (.int 6))])), .iff (.p2 .eq (.call 30 [(.v 0), (.c (.int 5))]) (.c (.int 1))) [.ret (.tup [(.c (.str "test")), (.v 6), (.v 7), (.tup [(.c (.str "column")), (.p2 .ix (.v 1) (.call 30 [(.v 0), (.p1 .len (.v 1))]))])])] [], .ret (.tup [(.c (.str "test")), (.v 6), (.v 7), (.tup [(.c (.str "value")), (.call 31 [(.v 0)])])])]
theorem c34 : cSs 100 100 ⟨N34, glT, defScope s34⟩ (defBody s34) = some b34 := by kernel_rfl
theorem sc34 : scC N34 P34 (defScope s34) = true := by decide +kernel
abbrev s35 : Stmt := top 57
def N35 : List Str := ["column"]
def P35 : List Str := ["column"]
/-- _law_column_word -/
def b35 : List Stm := [.ret (.p2 .add (.p2 .add (.p2 .ix (.v 0) (.c (.int 0))) (.c (.str "."))) (.p2 .ix (.v 0) (.c (.int 1))))]
theorem c35 : cSs 100 100 ⟨N35, glT, defScope s35⟩ (defBody s35) = some b35 := by kernel_rfl
theorem sc35 : scC N35 P35 (defScope s35) = true := by decide +kernel
abbrev s36 : Stmt := top 58
def N36 : List Str := ["condition", "right", "left", "joint", "piece"]
def P36 : List Str := ["condition"]
/-- _law_condition_text -/
def b36 : List Stm := [.iff (.p2 .eq (.p2 .ix (.v 0) (.c (.int 0))) (.c (.str "not"))) [.ret (.p2 .add (.c (.str "not ")) (.call 36 [(.p2 .ix (.v 0) (.c (.int 1)))]))] [], .iff (.p2 .eq (.p2 .ix (.v 0) (.c (.int 0))) (.c (.str "test"))) [.set (.nm 1) (.p2 .ix (.p2 .ix (.v 0) (.c (.int 3))) (.c (.int 1))), .set (.nm 2) (.p2 .add (.p2 .add (.p2 .add (.call 35 [(.p2 .ix (.v 0) (.c (.int 1)))]) (.c (.str " "))) (.p2 .ix (.v 0) (.c (.int 2)))) (.c (.str " "))), .iff (.p2 .eq (.p2 .ix (.p2 .ix (.v 0) (.c (.int 3))) (.c (.int 0))) (.c (.str "column"))) [.ret (.p2 .add (.v 2) (.call 35 [(.v 1)]))] [], .ret (.p2 .add (.v 2) (.call 32 [(.v 1)]))] [], .set (.nm 3) (.p2 .add (.p2 .add (.c (.str " ")) (.p2 .ix (.v 0) (.c (.int 0)))) (.c (.str " "))), .ret (.p2 .add (.p2 .add (.c (.str "( ")) (.m1 .str .join (.v 3) (.comp (.nm 4) .it [(.p2 .ix (.v 0) (.c (.int 1)))] [] (.call 36 [(.v 4)]) [4]))) (.c (.str " )")))]
theorem c36 : cSs 100 100 ⟨N36, glT, defScope s36⟩ (defBody s36) = some b36 := by kernel_rfl
theorem sc36 : scC N36 P36 (defScope s36) = true := by decide +kernel
abbrev s37 : Stmt := top 59
def N37 : List Str := ["condition", "line", "piece", "left", "right", "truths"]
def P37 : List Str := ["condition", "line"]
/-- _law_true -/
def b37 : List Stm := [.iff (.p1 .isN (.v 0)) [.ret (.c (.bl true))] [], .iff (.p2 .eq (.p2 .ix (.v 0) (.c (.int 0))) (.c (.str "not"))) [.ret (.not_ (.call 37 [(.p2 .ix (.v 0) (.c (.int 1))), (.v 1)]))] [], .iff (.p2 .eq (.p2 .ix (.v 0) (.c (.int 0))) (.c (.str "and"))) [.ret (.p2 .eq (.comp (.nm 2) .it [(.p2 .ix (.v 0) (.c (.int 1)))] [(.not_ (.call 37 [(.v 2), (.v 1)]))] (.v 2) [2]) (.disp []))] [], .iff (.p2 .eq (.p2 .ix (.v 0) (.c (.int 0))) (.c (.str "or"))) [.ret (.p2 .ne (.comp (.nm 2) .it [(.p2 .ix (.v 0) (.c (.int 1)))] [(.call 37 [(.v 2), (.v 1)])] (.v 2) [2]) (.disp []))] [], .set (.nm 3) (.call 33 [(.p2 .ix (.v 1) (.p2 .ix (.v 0) (.c (.int 1))))]), .set (.nm 4) (.p2 .ix (.p2 .ix (.v 0) (.c (.int 3))) (.c (.int 1))), .iff (.p2 .eq (.p2 .ix (.p2 .ix (.v 0) (.c (.int 3))) (.c (.int 0))) (.c (.str "column"))) [.set (.nm 4) (.p2 .ix (.v 1) (.v 4))] [], .set (.nm 4) (.call 33 [(.v 4)]), .set (.nm 5) (.dict [(.c (.str "=")), (.p2 .eq (.v 3) (.v 4)), (.c (.str "#")), (.p2 .ne (.v 3) (.v 4)), (.c (.str "<")), (.p2 .lt (.v 3) (.v 4)), (.c (.str ">")), (.p2 .gt (.v 3) (.v 4))]), .ret (.m2 .dict .get2 (.v 5) (.p2 .ix (.v 0) (.c (.int 2))) (.or_ (.p2 .eq (.v 3) (.v 4)) (.p2 .eq (.p2 .lt (.v 3) (.v 4)) (.p2 .eq (.p2 .ix (.v 0) (.c (.int 2))) (.c (.str "<="))))))]
theorem c37 : cSs 100 100 ⟨N37, glT, defScope s37⟩ (defBody s37) = some b37 := by kernel_rfl
theorem sc37 : scC N37 P37 (defScope s37) = true := by decide +kernel
abbrev s38 : Stmt := top 60
def N38 : List Str := ["question", "what", "table", "second", "condition", "rising", "first", "told", "words", "column", "text"]
def P38 : List Str := ["question"]
/-- _law_question_text -/
def b38 : List Stm := [.set (.tp [1, 2, 3, 4, 5, 6]) (.v 0), .set (.nm 7) (.sl (.v 1) [(.c (.int 1))] []), .set (.nm 8) (.disp [(.p2 .ix (.v 1) (.c (.int 0)))]), .iff (.p2 .eq (.p2 .ix (.v 1) (.c (.int 0))) (.c (.str "columns"))) [.par 7 8 (.p2 .ix (.v 1) (.c (.int 1))) (.disp [])] [], .set (.nm 8) (.p2 .add (.v 8) (.comp (.nm 9) .it [(.v 7)] [] (.call 35 [(.v 9)]) [9])), .set (.nm 10) (.p2 .add (.p2 .add (.p2 .add (.c (.str "show ")) (.m1 .str .join (.c (.str " ")) (.v 8))) (.c (.str " of "))) (.v 2)), .iff (.p1 .isN (.v 4)) [.ret (.v 10)] [], .ret (.p2 .add (.p2 .add (.v 10) (.c (.str " where "))) (.call 36 [(.v 4)]))]
theorem c38 : cSs 100 100 ⟨N38, glT, defScope s38⟩ (defBody s38) = some b38 := by kernel_rfl
theorem sc38 : scC N38 P38 (defScope s38) = true := by decide +kernel
abbrev s39 : Stmt := top 61
def N39 : List Str := ["tables", "question", "what", "table", "second", "condition", "rising", "order", "heads", "rows", "orders", "some", "first", "line", "name", "value", "values"]
def P39 : List Str := ["tables", "question"]
def b39_0 : List Stm := [.set (.nm 13) (.p1 .dict_ (.comp (.tp [14, 15]) .zip [(.v 8), (.p2 .ix (.v 9) (.v 12))] [] (.tup [(.tup [(.v 3), (.v 14)]), (.v 15)]) [14, 15])), .iff (.call 37 [(.v 5), (.v 13)]) [.exp (.m1 .list .append (.v 11) (.v 13))] []]
/-- _law_answer -/
def b39 : List Stm := [.set (.tp [2, 3, 4, 5, 6, 7]) (.v 1), .set (.tp [8, 9, 10]) (.p2 .ix (.v 0) (.v 3)), .set (.nm 11) (.disp []), .for_ (.nm 12) .it [(.srt 33 false (.v 9))] b39_0, .iff (.p2 .eq (.p2 .ix (.v 2) (.c (.int 0))) (.c (.str "count"))) [.ret (.disp [(.tup [(.p1 .len (.v 11))])])] [], .iff (.p2 .eq (.p2 .ix (.v 2) (.c (.int 0))) (.c (.str "columns"))) [.ret (.comp (.nm 13) .it [(.v 11)] [] (.tup [(.p2 .ix (.v 13) (.p2 .ix (.p2 .ix (.v 2) (.c (.int 1))) (.c (.int 0))))]) [13])] [], .set (.nm 16) (.comp (.nm 13) .it [(.v 11)] [] (.p2 .ix (.v 13) (.p2 .ix (.v 2) (.c (.int 1)))) [13]), .iff (.p2 .eq (.p2 .ix (.v 2) (.c (.int 0))) (.c (.str "sum"))) [.ret (.disp [(.tup [(.p1 .sum (.comp (.nm 15) .it [(.v 16)] [(.not_ (.isi [.str] (.v 15)))] (.v 15) [15]))])])] [], .ret (.comp (.nm 15) .it [(.sl (.srt 33 false (.v 16)) [(.p1 .neg (.c (.int 1)))] [])] [] (.tup [(.v 15)]) [15])]
theorem c39 : cSs 100 100 ⟨N39, glT, defScope s39⟩ (defBody s39) = some b39 := by kernel_rfl
theorem sc39 : scC N39 P39 (defScope s39) = true := by decide +kernel
abbrev s40 : Stmt := top 62
def N40 : List Str := ["deck", "table", "tables", "some"]
def P40 : List Str := ["deck", "table", "tables"]
/-- _law_column -/
def b40 : List Stm := [.set (.nm 3) (.disp [(.c (.str "a")), (.c (.str "zz"))]), .iff (.p2 .inn (.v 1) (.v 2)) [.set (.nm 3) (.p2 .add (.p2 .mul (.p1 .list_ (.p2 .ix (.p2 .ix (.v 2) (.v 1)) (.c (.int 0)))) (.c (.int 2))) (.disp [(.c (.str "zz"))]))] [], .ret (.tup [(.v 1), (.p2 .ix (.v 3) (.call 30 [(.v 0), (.p1 .len (.v 3))]))])]
theorem c40 : cSs 100 100 ⟨N40, glT, defScope s40⟩ (defBody s40) = some b40 := by kernel_rfl
theorem sc40 : scC N40 P40 (defScope s40) = true := by decide +kernel
abbrev s41 : Stmt := top 63
def N41 : List Str := ["deck", "table", "tables", "some", "name"]
def P41 : List Str := ["deck", "table", "tables"]
/-- _law_behind -/
def b41 : List Stm := [.iff (.p2 .eq (.call 30 [(.v 0), (.c (.int 3))]) (.c (.int 0))) [.ret (.c .non)] [], .set (.nm 3) (.disp [(.tup [(.v 1), (.c (.str "a"))])]), .iff (.p2 .inn (.v 1) (.v 2)) [.set (.nm 3) (.comp (.nm 4) .it [(.p2 .ix (.p2 .ix (.v 2) (.v 1)) (.c (.int 0)))] [] (.tup [(.v 1), (.v 4)]) [4])] [], .iff (.p2 .eq (.call 30 [(.v 0), (.c (.int 9))]) (.c (.int 1))) [.set (.nm 3) (.p2 .add (.v 3) (.disp [(.tup [(.v 1), (.c (.str "zz"))])]))] [], .ret (.call 34 [(.v 0), (.v 3), (.c (.int 2))])]
theorem c41 : cSs 100 100 ⟨N41, glT, defScope s41⟩ (defBody s41) = some b41 := by kernel_rfl
theorem sc41 : scC N41 P41 (defScope s41) = true := by decide +kernel
abbrev s42 : Stmt := top 64
def N42 : List Str := ["deck", "table", "tables", "some", "name", "column", "what", "condition", "question", "value", "told"]
def P42 : List Str := ["deck", "table", "tables"]
/-- _law_need -/
def b42 : List Stm := [.set (.nm 3) (.disp [(.tup [(.v 1), (.c (.str "a"))])]), .iff (.p2 .inn (.v 1) (.v 2)) [.set (.nm 3) (.comp (.nm 4) .it [(.p2 .ix (.p2 .ix (.v 2) (.v 1)) (.c (.int 0)))] [] (.tup [(.v 1), (.v 4)]) [4])] [], .set (.nm 5) (.p2 .ix (.v 3) (.call 30 [(.v 0), (.p1 .len (.v 3))])), .set (.nm 6) (.p2 .ix (.disp [(.tup [(.c (.str "count"))]), (.tup [(.c (.str "sum")), (.v 5)]), (.tup [(.c (.str "most")), (.v 5)]), (.tup [(.c (.str "columns")), (.tup [(.v 5)])])]) (.call 30 [(.v 0), (.c (.int 4))])), .set (.nm 7) (.c .non), .iff (.p2 .gt (.call 30 [(.v 0), (.c (.int 3))]) (.c (.int 0))) [.set (.nm 7) (.call 34 [(.v 0), (.v 3), (.c (.int 1))])] [], .set (.nm 8) (.tup [(.v 6), (.v 1), (.c .non), (.v 7), (.c .non), (.c .non)]), .set (.nm 9) (.call 31 [(.v 0)]), .iff (.and_ (.p2 .inn (.v 1) (.v 2)) (.p2 .gt (.call 30 [(.v 0), (.c (.int 4))]) (.c (.int 0)))) [.set (.nm 10) (.call 39 [(.v 2), (.v 8)]), .iff (.and_ (.p2 .eq (.p1 .len (.v 10)) (.c (.int 1))) (.or_ (.isi [.str] (.p2 .ix (.p2 .ix (.v 10) (.c (.int 0))) (.c (.int 0)))) (.p2 .le (.p1 .abs (.p2 .ix (.p2 .ix (.v 10) (.c (.int 0))) (.c (.int 0)))) (.p2 .pow (.c (.int 10)) (.c (.int 12)))))) [.set (.nm 9) (.p2 .ix (.p2 .ix (.v 10) (.c (.int 0))) (.c (.int 0)))] []] [], .ret (.tup [(.c (.str "need")), (.v 9), (.v 8)])]
theorem c42 : cSs 100 100 ⟨N42, glT, defScope s42⟩ (defBody s42) = some b42 := by kernel_rfl
theorem sc42 : scC N42 P42 (defScope s42) = true := by decide +kernel
abbrev s43 : Stmt := top 65
def N43 : List Str := ["deck", "table", "begin", "heads", "k", "way"]
def P43 : List Str := ["deck", "table"]
/-- _law_make -/
def b43 : List Stm := [.set (.nm 2) (.call 30 [(.v 0), (.c (.int 4))]), .set (.nm 3) (.comp (.nm 4) .rng1 [(.p2 .add (.c (.int 1)) (.call 30 [(.v 0), (.c (.int 3))]))] [] (.p2 .ix (.disp [(.c (.str "a")), (.c (.str "b")), (.c (.str "of")), (.c (.str "is"))]) (.p2 .mod (.p2 .add (.v 2) (.v 4)) (.c (.int 4)))) [4]), .set (.nm 5) (.call 30 [(.v 0), (.c (.int 16))]), .iff (.p2 .eq (.v 5) (.c (.int 1))) [.set (.nm 3) (.p2 .add (.v 3) (.sl (.v 3) [] [(.c (.int 1))]))] [], .iff (.p2 .eq (.v 5) (.c (.int 2))) [.set (.nm 3) (.disp [(.c (.str "a")), (.c (.str "b")), (.c (.str "c")), (.c (.str "d")), (.c (.str "e")), (.c (.str "f")), (.c (.str "g"))])] [], .ret (.tup [(.c (.str "make")), (.v 1), (.p1 .tuple_ (.v 3))])]
theorem c43 : cSs 100 100 ⟨N43, glT, defScope s43⟩ (defBody s43) = some b43 := by kernel_rfl
theorem sc43 : scC N43 P43 (defScope s43) = true := by decide +kernel
abbrev s44 : Stmt := top 66
def N44 : List Str := ["deck", "tables", "table", "way", "many", "k", "column"]
def P44 : List Str := ["deck", "tables"]
/-- _law_step -/
def b44 : List Stm := [.set (.nm 2) (.p2 .ix (.disp [(.c (.str "fig")), (.c (.str "pear")), (.c (.str "where"))]) (.call 30 [(.v 0), (.c (.int 3))])), .iff (.and_ (.p2 .nin (.v 2) (.v 1)) (.p2 .gt (.call 30 [(.v 0), (.c (.int 5))]) (.c (.int 0)))) [.ret (.call 43 [(.v 0), (.v 2)])] [], .set (.nm 3) (.call 30 [(.v 0), (.c (.int 16))]), .iff (.p2 .lt (.v 3) (.c (.int 7))) [.set (.nm 4) (.c (.int 2)), .iff (.p2 .inn (.v 2) (.v 1)) [.set (.nm 4) (.p1 .len (.p2 .ix (.p2 .ix (.v 1) (.v 2)) (.c (.int 0))))] [], .set (.nm 4) (.p2 .max_ (.c (.int 1)) (.p2 .add (.v 4) (.p2 .ix (.disp [(.c (.int 0)), (.c (.int 0)), (.c (.int 0)), (.c (.int 0)), (.c (.int 0)), (.c (.int 0)), (.c (.int 1)), (.p1 .neg (.c (.int 1)))]) (.call 30 [(.v 0), (.c (.int 8))])))), .ret (.tup [(.c (.str "put")), (.v 2), (.p1 .tuple_ (.comp (.nm 5) .rng1 [(.v 4)] [] (.call 31 [(.v 0)]) [5]))])] [], .iff (.p2 .lt (.v 3) (.c (.int 9))) [.ret (.tup [(.c (.str "order")), (.call 40 [(.v 0), (.v 2), (.v 1)])])] [], .iff (.p2 .eq (.v 3) (.c (.int 9))) [.ret (.tup [(.c (.str "unorder")), (.call 40 [(.v 0), (.v 2), (.v 1)])])] [], .iff (.p2 .eq (.v 3) (.c (.int 10))) [.ret (.tup [(.c (.str "cut")), (.v 2), (.call 41 [(.v 0), (.v 2), (.v 1)])])] [], .iff (.p2 .lt (.v 3) (.c (.int 13))) [.set (.nm 6) (.call 40 [(.v 0), (.v 2), (.v 1)]), .ret (.tup [(.c (.str "set")), (.v 6), (.call 31 [(.v 0)]), (.call 41 [(.v 0), (.v 2), (.v 1)])])] [], .iff (.p2 .lt (.v 3) (.c (.int 15))) [.ret (.call 42 [(.v 0), (.v 2), (.v 1)])] [], .iff (.p2 .eq (.call 30 [(.v 0), (.c (.int 2))]) (.c (.int 0))) [.ret (.tup [(.c (.str "drop")), (.v 2)])] [], .ret (.call 43 [(.v 0), (.v 2)])]
theorem c44 : cSs 100 100 ⟨N44, glT, defScope s44⟩ (defBody s44) = some b44 := by kernel_rfl
theorem sc44 : scC N44 P44 (defScope s44) = true := by decide +kernel
abbrev s45 : Stmt := top 67
def N45 : List Str := ["condition"]
def P45 : List Str := ["condition"]
/-- _law_where -/
def b45 : List Stm := [.iff (.p1 .isN (.v 0)) [.ret (.c (.str ""))] [], .ret (.p2 .add (.c (.str " where ")) (.call 36 [(.v 0)]))]
theorem c45 : cSs 100 100 ⟨N45, glT, defScope s45⟩ (defBody s45) = some b45 := by kernel_rfl
theorem sc45 : scC N45 P45 (defScope s45) = true := by decide +kernel
abbrev s46 : Stmt := top 68
def N46 : List Str := ["step", "value", "text"]
def P46 : List Str := ["step"]
/-- _law_step_text -/
def b46 : List Stm := [.iff (.p2 .eq (.p2 .ix (.v 0) (.c (.int 0))) (.c (.str "make"))) [.ret (.m1 .str .join (.c (.str " ")) (.p2 .add (.disp [(.c (.str "make")), (.p2 .ix (.v 0) (.c (.int 1)))]) (.p1 .list_ (.p2 .ix (.v 0) (.c (.int 2))))))] [], .iff (.p2 .eq (.p2 .ix (.v 0) (.c (.int 0))) (.c (.str "drop"))) [.ret (.p2 .add (.c (.str "drop ")) (.p2 .ix (.v 0) (.c (.int 1))))] [], .iff (.p2 .inn (.p2 .ix (.v 0) (.c (.int 0))) (.tup [(.c (.str "order")), (.c (.str "unorder"))])) [.ret (.p2 .add (.p2 .add (.p2 .ix (.v 0) (.c (.int 0))) (.c (.str " "))) (.call 35 [(.p2 .ix (.v 0) (.c (.int 1)))]))] [], .iff (.p2 .eq (.p2 .ix (.v 0) (.c (.int 0))) (.c (.str "put"))) [.ret (.m1 .str .join (.c (.str " ")) (.p2 .add (.disp [(.c (.str "put")), (.p2 .ix (.v 0) (.c (.int 1)))]) (.comp (.nm 1) .it [(.p2 .ix (.v 0) (.c (.int 2)))] [] (.call 32 [(.v 1)]) [1])))] [], .iff (.p2 .eq (.p2 .ix (.v 0) (.c (.int 0))) (.c (.str "cut"))) [.ret (.p2 .add (.p2 .add (.c (.str "cut ")) (.p2 .ix (.v 0) (.c (.int 1)))) (.call 45 [(.p2 .ix (.v 0) (.c (.int 2)))]))] [], .iff (.p2 .eq (.p2 .ix (.v 0) (.c (.int 0))) (.c (.str "set"))) [.set (.nm 2) (.p2 .add (.p2 .add (.c (.str "set ")) (.call 35 [(.p2 .ix (.v 0) (.c (.int 1)))])) (.c (.str " = "))), .ret (.p2 .add (.p2 .add (.v 2) (.call 32 [(.p2 .ix (.v 0) (.c (.int 2)))])) (.call 45 [(.p2 .ix (.v 0) (.c (.int 3)))]))] [], .set (.nm 2) (.p2 .add (.p2 .add (.c (.str "need ")) (.call 32 [(.p2 .ix (.v 0) (.c (.int 1)))])) (.c (.str " is "))), .ret (.p2 .add (.v 2) (.call 38 [(.p2 .ix (.v 0) (.c (.int 2)))]))]
theorem c46 : cSs 100 100 ⟨N46, glT, defScope s46⟩ (defBody s46) = some b46 := by kernel_rfl
theorem sc46 : scC N46 P46 (defScope s46) = true := by decide +kernel
abbrev s47 : Stmt := top 69
def N47 : List Str := ["one", "other", "k"]
def P47 : List Str := ["one", "other"]
/-- _law_alike -/
def b47 : List Stm := [.iff (.isi [.tuple] (.v 1)) [.iff (.or_ (.not_ (.isi [.tuple] (.v 0))) (.p2 .ne (.p1 .len (.v 0)) (.p1 .len (.v 1)))) [.ret (.c (.bl false))] [], .ret (.p2 .eq (.comp (.nm 2) .rng1 [(.p1 .len (.v 0))] [(.not_ (.call 47 [(.p2 .ix (.v 0) (.v 2)), (.p2 .ix (.v 1) (.v 2))]))] (.v 2) [2]) (.disp []))] [], .iff (.p1 .isN (.v 1)) [.ret (.p1 .isN (.v 0))] [], .iff (.isi [.str] (.v 1)) [.ret (.and_ (.isi [.str] (.v 0)) (.p2 .eq (.v 0) (.v 1)))] [], .ret (.and_ (.isi [.int] (.v 0)) (.and_ (.not_ (.isi [.bool] (.v 0))) (.p2 .eq (.v 0) (.v 1))))]
theorem c47 : cSs 100 100 ⟨N47, glT, defScope s47⟩ (defBody s47) = some b47 := by kernel_rfl
theorem sc47 : scC N47 P47 (defScope s47) = true := by decide +kernel
abbrev s48 : Stmt := top 70
def N48 : List Str := ["script", "way", "tables", "k", "step"]
def P48 : List Str := ["script"]
def b48_0 : List Stm := [.set (.nm 4) (.call 44 [(.disp [(.p2 .ix (.v 0) (.v 3)), (.v 1), (.c (.int 0))]), (.p2 .ix (.v 2) (.p2 .mod (.v 3) (.c (.int 2))))]), .iff (.not_ (.call 47 [(.call 28 [(.call 46 [(.v 4)])]), (.v 4)])) [.ret (.c (.bl false))] []]
/-- law -/
def b48 : List Stm := [.set (.nm 1) (.p2 .mod (.call 29 [(.v 0), (.c (.int 0))]) (.c (.int 2))), .set (.nm 2) (.disp [(.dict []), (.dict [(.c (.str "fig")), (.tup [(.tup [(.c (.str "a")), (.c (.str "of")), (.c (.str "b"))]), (.dict [(.c (.int 0)), (.tup [(.c (.int 0)), (.c (.str "a")), (.c (.int 1))])]), (.disp [])]), (.c (.str "where")), (.tup [(.tup [(.c (.str "is")), (.c (.str "a"))]), (.dict []), (.disp [])])])]), .for_ (.nm 3) .rng2 [(.c (.int 1)), (.p2 .min_ (.p1 .len (.v 0)) (.c (.int 63)))] b48_0, .ret (.c (.bl true))]
theorem c48 : cSs 100 100 ⟨N48, glT, defScope s48⟩ (defBody s48) = some b48 := by kernel_rfl
theorem sc48 : scC N48 P48 (defScope s48) = true := by decide +kernel
def tab : Nat → Option Fn
  | 0 => some ⟨1, 2, b0⟩
  | 1 => some ⟨1, 2, b1⟩
  | 2 => some ⟨1, 5, b2⟩
  | 3 => some ⟨1, 3, b3⟩
  | 4 => some ⟨1, 2, b4⟩
  | 5 => some ⟨2, 2, b5⟩
  | 6 => some ⟨3, 3, b6⟩
  | 7 => some ⟨2, 2, b7⟩
  | 8 => some ⟨2, 3, b8⟩
  | 9 => some ⟨2, 5, b9⟩
  | 10 => some ⟨3, 7, b10⟩
  | 11 => some ⟨3, 6, b11⟩
  | 12 => some ⟨1, 3, b12⟩
  | 13 => some ⟨1, 4, b13⟩
  | 14 => some ⟨3, 6, b14⟩
  | 15 => some ⟨2, 2, b15⟩
  | 16 => some ⟨2, 3, b16⟩
  | 17 => some ⟨1, 3, b17⟩
  | 18 => some ⟨1, 8, b18⟩
  | 19 => some ⟨1, 1, b19⟩
  | 20 => some ⟨1, 11, b20⟩
  | 21 => some ⟨3, 3, b21⟩
  | 22 => some ⟨1, 1, b22⟩
  | 23 => some ⟨1, 2, b23⟩
  | 24 => some ⟨1, 4, b24⟩
  | 25 => some ⟨2, 4, b25⟩
  | 26 => some ⟨1, 3, b26⟩
  | 27 => some ⟨1, 3, b27⟩
  | 28 => some ⟨1, 2, b28⟩
  | 29 => some ⟨2, 2, b29⟩
  | 30 => some ⟨2, 4, b30⟩
  | 31 => some ⟨1, 2, b31⟩
  | 32 => some ⟨1, 1, b32⟩
  | 33 => some ⟨1, 1, b33⟩
  | 34 => some ⟨3, 8, b34⟩
  | 35 => some ⟨1, 1, b35⟩
  | 36 => some ⟨1, 5, b36⟩
  | 37 => some ⟨2, 6, b37⟩
  | 38 => some ⟨1, 11, b38⟩
  | 39 => some ⟨2, 17, b39⟩
  | 40 => some ⟨3, 4, b40⟩
  | 41 => some ⟨3, 5, b41⟩
  | 42 => some ⟨3, 11, b42⟩
  | 43 => some ⟨2, 6, b43⟩
  | 44 => some ⟨2, 7, b44⟩
  | 45 => some ⟨1, 1, b45⟩
  | 46 => some ⟨1, 3, b46⟩
  | 47 => some ⟨2, 3, b47⟩
  | 48 => some ⟨1, 5, b48⟩
  | _ => none
end Mi.L

namespace Mi.L
open PySem Mi
/-! ### words as lists of signs -/
abbrev q (x : Str) : List Nat := x.cps.toList
theorem tx_q (x : Str) : tx (q x) = .str x := congrArg D.str (SX.S_tl x)
theorem S_q (x : Str) : SX.S (q x) = x := SX.S_tl x
section
variable {S : Store} {l : List Nat} {i j : Int} {x y : Str}
theorem isi_str_tx : isiW [.str] (.val (tx l)) S = .ok (.val (.bl true)) S := rfl
theorem isi_str_str : isiW [.str] (.val (.str x)) S = .ok (.val (.bl true)) S := rfl
theorem isi_str_int : isiW [.str] (.val (.int i)) S = .ok (.val (.bl false)) S := rfl
theorem isi_int_int : isiW [.int] (.val (.int i)) S = .ok (.val (.bl true)) S := rfl
theorem isi_int_tx : isiW [.int] (.val (tx l)) S = .ok (.val (.bl false)) S := rfl
theorem isi_bool_int : isiW [.bool] (.val (.int i)) S = .ok (.val (.bl false)) S := rfl
theorem isi_bool_tx : isiW [.bool] (.val (tx l)) S = .ok (.val (.bl false)) S := rfl
theorem isN_tx : p1 .isN (.val (tx l)) S = .ok (.val (.bl false)) S := rfl
theorem isN_str : p1 .isN (.val (.str x)) S = .ok (.val (.bl false)) S := rfl
theorem isN_int : p1 .isN (.val (.int i)) S = .ok (.val (.bl false)) S := rfl
theorem isN_non : p1 .isN (.val .non) S = .ok (.val (.bl true)) S := rfl
theorem isN_tup {ds : List D} : p1 .isN (.val (.tup ds)) S = .ok (.val (.bl false)) S := rfl
theorem nN_non : p1 .notN (.val .non) S = .ok (.val (.bl false)) S := rfl
theorem nN_int : p1 .notN (.val (.int i)) S = .ok (.val (.bl true)) S := rfl
theorem nin_q {c : Nat} : p2 .nin (.val (tx [c])) (.val (.str x)) S = .ok (.val (.bl (!decide (c ∈ q x)))) S := by
  have := nin_tx (S := S) (c := c) (l := q x)
  rwa [tx_q] at this
theorem in_q {c : Nat} : p2 .inn (.val (tx [c])) (.val (.str x)) S = .ok (.val (.bl (decide (c ∈ q x)))) S := by
  have := in_tx (S := S) (c := c) (l := q x)
  rwa [tx_q] at this
theorem eq_q {a : List Nat} : p2 .eq (.val (tx a)) (.val (.str x)) S = .ok (.val (.bl (decide (a = q x)))) S := by
  have := eq_tx (S := S) (a := a) (b := q x)
  rwa [tx_q] at this
theorem ne_q {a : List Nat} : p2 .ne (.val (tx a)) (.val (.str x)) S = .ok (.val (.bl (!decide (a = q x)))) S := by
  have := ne_tx (S := S) (a := a) (b := q x)
  rwa [tx_q] at this
end
/-- a walk over the signs that ends at the first one that p does not let -/
theorem forL_scan {turn : D → Env → Store → RS} {S : Store} {p : Nat → Bool} {d : D} {I : Env → Prop} (h1 : ∀ c ρ, I ρ → p c = true → ∃ ρ', turn (tx [c]) ρ S = .ok .nx ρ' S ∧ I ρ') (h2 : ∀ c ρ, I ρ → p c = false → ∃ ρ', turn (tx [c]) ρ S = .ok (.rt d) ρ' S) :
    ∀ (l : List Nat) (ρ : Env), I ρ → (l.all p = true → ∃ ρ', forL [] turn (l.map fun c => tx [c]) ρ S = .ok .nx ρ' S ∧ I ρ') ∧ (l.all p = false → ∃ ρ', forL [] turn (l.map fun c => tx [c]) ρ S = .ok (.rt d) ρ' S)
  | [], ρ, hI => ⟨fun _ => ⟨ρ, forL_end isLive_nil, hI⟩, fun h => by cases h⟩
  | c :: r, ρ, hI => by
    cases hp : p c with
    | true =>
      obtain ⟨ρ1, e1, I1⟩ := h1 c ρ hI hp
      obtain ⟨g1, g2⟩ := forL_scan h1 h2 r ρ1 I1
      rw [List.map_cons, forL_nx isLive_nil e1]
      refine ⟨fun h => g1 (by simpa [hp] using h), fun h => g2 (by rw [List.all_cons, hp, Bool.true_and] at h; exact h)⟩
    | false =>
      obtain ⟨ρ1, e1⟩ := h2 c ρ hI hp
      refine ⟨fun h => ?_, fun _ => ⟨ρ1, by rw [List.map_cons, forL_rt isLive_nil e1]⟩⟩
      rw [List.all_cons, hp] at h
      cases h
/-! ### names, values, numbers -/
def LET : Str := "abcdefghijklmnopqrstuvwxyz"
def SGN : Str := " !\"#$&()*+,-./0123456789:<=>?@ABCDEFGHIJKLMNOPQRSTUVWXYZ[\\]^_`abcdefghijklmnopqrstuvwxyz{|}~"
def FIG : Str := "0123456789"
def nmB (l : List Nat) : Bool := !(decide ((l.length : Int) < 1) || decide (8 < (l.length : Int))) && l.all fun c => decide (c ∈ q LET)
theorem r_name {n : Nat} {S : Store} {l : List Nat} (hz : l.length ≤ sizeLine) : run tab (n + 1) 0 [tx l] S = .ok (.bl (nmB l)) S := by
  refine r_run (F := ⟨1, 2, b0⟩) rfl rfl ?_ (pack_same (by simp))
  show Rt (exSs (run tab n) b0 [some (tx l), none] S) (.bl (nmB l)) S
  by_cases h1 : (l.length : Int) < 1
  · have e : nmB l = false := by simp [nmB, h1]
    rw [e]
    exact Rt.fin (y_if1 (by simp [isi_str_tx, len_tx hz, lt_ii, h1]) (by simp))
  by_cases h2 : 8 < (l.length : Int)
  · have e : nmB l = false := by simp [nmB, h2]
    rw [e]
    exact Rt.fin (y_if1 (by simp [isi_str_tx, len_tx hz, lt_ii, gt_ii, h1, h2]) (by simp))
  refine Rt.go (y_if0 (by simp [isi_str_tx, len_tx hz, lt_ii, gt_ii, h1, h2])) ?_
  have e : nmB l = l.all fun c => decide (c ∈ q LET) := by simp [nmB, h1, h2]
  rw [e]
  have sc := forL_scan (S := S) (turn := fun d ρ S => exSs (run tab n) b0_0 (ρ.set 1 (some d)) S) (p := fun c => decide (c ∈ q LET)) (d := .bl false) (I := fun ρ => ρ.length = 2) (fun c ρ hI hc => ?_) (fun c ρ hI hc => ?_) l [some (tx l), none] rfl
  · cases ha : l.all fun c => decide (c ∈ q LET) with
    | true =>
      obtain ⟨ρ', g, _⟩ := sc.1 ha
      exact Rt.go (x_for (ws := [.val (tx l)]) (by simp) its_tx g) (Rt.fin (y_ret (by simp)))
    | false =>
      obtain ⟨ρ', g⟩ := sc.2 ha
      exact Rt.fin (x_forR (ws := [.val (tx l)]) (by simp) its_tx g)
  · have v1 : evK (run tab n) (.v 1) (ρ.set 1 (some (tx [c]))) S = .ok (.val (tx [c])) S := e_v (by rw [List.getElem?_set_self (by omega)])
    refine ⟨_, (y_if0 ?_).trans x_nil, by simp [hI]⟩
    simp only [e_B, e_p2, v1, e_c, bd_ok', nin_q]
    show R.ok (!decide (c ∈ q LET)) S = _
    rw [hc]; rfl
  · have v1 : evK (run tab n) (.v 1) (ρ.set 1 (some (tx [c]))) S = .ok (.val (tx [c])) S := e_v (by rw [List.getElem?_set_self (by omega)])
    refine ⟨_, y_if1 ?_ (by simp)⟩
    simp only [e_B, e_p2, v1, e_c, bd_ok', nin_q]
    show R.ok (!decide (c ∈ q LET)) S = _
    rw [hc]; rfl
def vtB (l : List Nat) : Bool := !decide (20 < (l.length : Int)) && l.all fun c => decide (c ∈ q SGN)
theorem r_isv_tx {n : Nat} {S : Store} {l : List Nat} (hz : l.length ≤ sizeLine) : run tab (n + 1) 1 [tx l] S = .ok (.bl (vtB l)) S := by
  refine r_run (F := ⟨1, 2, b1⟩) rfl rfl ?_ (pack_same (by simp))
  show Rt (exSs (run tab n) b1 [some (tx l), none] S) (.bl (vtB l)) S
  refine Rt.go (y_if0 (by simp [isi_bool_tx])) ?_
  refine Rt.go (y_if0 (by simp [isi_int_tx])) ?_
  by_cases h2 : 20 < (l.length : Int)
  · have e : vtB l = false := by simp [vtB, h2]
    rw [e]
    exact Rt.fin (y_if1 (by simp [isi_str_tx, len_tx hz, gt_ii, h2]) (by simp))
  refine Rt.go (y_if0 (by simp [isi_str_tx, len_tx hz, gt_ii, h2])) ?_
  have e : vtB l = l.all fun c => decide (c ∈ q SGN) := by simp [vtB, h2]
  rw [e]
  have sc := forL_scan (S := S) (turn := fun d ρ S => exSs (run tab n) b1_0 (ρ.set 1 (some d)) S) (p := fun c => decide (c ∈ q SGN)) (d := .bl false) (I := fun ρ => ρ.length = 2) (fun c ρ hI hc => ?_) (fun c ρ hI hc => ?_) l [some (tx l), none] rfl
  · cases ha : l.all fun c => decide (c ∈ q SGN) with
    | true =>
      obtain ⟨ρ', g, _⟩ := sc.1 ha
      exact Rt.go (x_for (ws := [.val (tx l)]) (by simp) its_tx g) (Rt.fin (y_ret (by simp)))
    | false =>
      obtain ⟨ρ', g⟩ := sc.2 ha
      exact Rt.fin (x_forR (ws := [.val (tx l)]) (by simp) its_tx g)
  · have v1 : evK (run tab n) (.v 1) (ρ.set 1 (some (tx [c]))) S = .ok (.val (tx [c])) S := e_v (by rw [List.getElem?_set_self (by omega)])
    refine ⟨_, (y_if0 ?_).trans x_nil, by simp [hI]⟩
    simp only [e_B, e_p2, v1, e_c, bd_ok', nin_q]
    show R.ok (!decide (c ∈ q SGN)) S = _
    rw [hc]; rfl
  · have v1 : evK (run tab n) (.v 1) (ρ.set 1 (some (tx [c]))) S = .ok (.val (tx [c])) S := e_v (by rw [List.getElem?_set_self (by omega)])
    refine ⟨_, y_if1 ?_ (by simp)⟩
    simp only [e_B, e_p2, v1, e_c, bd_ok', nin_q]
    show R.ok (!decide (c ∈ q SGN)) S = _
    rw [hc]; rfl
def viB (i : Int) : Bool := decide (-1000000000000 ≤ i) && decide (i ≤ 1000000000000)
theorem r_isv_int {n : Nat} {S : Store} {i : Int} : run tab (n + 1) 1 [.int i] S = .ok (.bl (viB i)) S := by
  refine r_run (F := ⟨1, 2, b1⟩) rfl rfl ?_ (pack_same (by simp))
  show Rt (exSs (run tab n) b1 [some (.int i), none] S) (.bl (viB i)) S
  refine Rt.go (y_if0 (by simp [isi_bool_int])) ?_
  refine Rt.fin (y_if1 (by simp [isi_int_int]) ?_)
  have v0 : ∀ T, evK (run tab n) (.v 0) [some (.int i), none] T = .ok (.val (.int i)) T := fun T => e_v rfl
  rw [e_D, evK]
  simp only [e_p2, e_c, v0, bd_ok', sub_ok, le_ii, toB_bl]
  by_cases h : -1000000000000 ≤ i
  · simp [h, viB]
  · simp [h, viB]
end Mi.L

namespace Mi
open PySem
/-! ### refusals -/
abbrev Rx (r : RS) (c : Nat) (S' : Store) : Prop := ∃ ρ', r = .ex c [] ρ' S'
theorem Rx.go {a b : RS} {c : Nat} {S' : Store} (h : a = b) (k : Rx b c S') : Rx a c S' := by rw [h]; exact k
theorem Rx.fin {a : RS} {c : Nat} {ρ : Env} {S' : Store} (h : a = .ex c [] ρ S') : Rx a c S' := ⟨ρ, h⟩
theorem r_runX {tab : Nat → Option Fn} {n i c : Nat} {F : Fn} {ds : List D} {S S' : Store} (h : tab i = some F) (hl : ds.length = F.np) (hx : Rx (exSs (run tab n) F.body (ds.map some ++ List.replicate (F.nl - F.np) none) S) c S') : run tab (n + 1) i ds S = .ex c [] S' := by
  obtain ⟨ρ', hx⟩ := hx
  rw [run_fin h hl, hx]; rfl
section
variable {C : CF} {ρ ρ' : Env} {S S' : Store}
theorem x_rse {k : Nat} {r : List Stm} : exSs C (.rse k :: r) ρ S = .ex k [] ρ S := by rw [exSs, exS]; rfl
theorem x_ifX {c : Ex} {k : Nat} {b r : List Stm} (h : evB C c ρ S = .ok true S') : exSs C (.iff c [.rse k] b :: r) ρ S = .ex k [] ρ S' := by
  rw [x_ift h, x_rse]; rfl
theorem x_setX {i c : Nat} {e : Ex} {r : List Stm} (h : evD C e ρ S = .ex c [] S') : exSs C (.set (.nm i) e :: r) ρ S = .ex c [] ρ S' := by
  rw [exSs, exS, h]; rfl
theorem x_tpX {is : List Nat} {c : Nat} {e : Ex} {r : List Stm} (h : evD C e ρ S = .ex c [] S') : exSs C (.set (.tp is) e :: r) ρ S = .ex c [] ρ S' := by
  rw [exSs, exS, h]; rfl
theorem x_expX {c : Nat} {e : Ex} {r : List Stm} (h : evK C e ρ S = .ex c [] S') : exSs C (.exp e :: r) ρ S = .ex c [] ρ S' := by
  rw [exSs, exS, h]; rfl
theorem x_retX {c : Nat} {e : Ex} {r : List Stm} (h : evD C e ρ S = .ex c [] S') : exSs C (.ret e :: r) ρ S = .ex c [] ρ S' := by
  rw [exSs, exS, h]; rfl
theorem x_ifE {k : Nat} {c : Ex} {a b r : List Stm} (h : evB C c ρ S = .ex k [] S') : exSs C (.iff c a b :: r) ρ S = .ex k [] ρ S' := by
  rw [exSs, exS, h]; rfl
@[simp] theorem bd_ex' {α β : Type} {c : Nat} {fs : List (Str × D)} {f : α → Store → R β} : (R.ex c fs S : R α).bd f = .ex c fs S := rfl
end
end Mi
namespace Mi.L
open PySem Mi
theorem cut_q1 {S : Store} {l : List Nat} (hz : l.length ≤ sizeLine) : cutW (.val (tx l)) none (some 1) S = .ok (.val (tx (l.take 1))) S := by
  rw [cut_tx hz]
  exact congrArg (fun z => R.ok (W.val (tx z)) S) (cutD_to l 1)
theorem cut_q2 {S : Store} {l : List Nat} (hz : l.length ≤ sizeLine) : cutW (.val (tx l)) (some 1) none S = .ok (.val (tx (l.drop 1))) S := by
  rw [cut_tx hz]
  exact congrArg (fun z => R.ok (W.val (tx z)) S) (cutD_from l 1)
theorem ix0_q {S : Store} {l : List Nat} {c : Nat} (h : l[0]? = some c) (hz : l.length ≤ sizeLine) : p2 .ix (.val (tx l)) (.val (.int 0)) S = .ok (.val (tx [c])) S := ix_tx (atI_at (by decide) h) hz
def fgs (l : List Nat) : List Nat := if l.take 1 = [45] then l.drop 1 else l
def badF (l : List Nat) : Bool := decide (((fgs l).length : Int) < 1) || (decide (13 < ((fgs l).length : Int)) || (decide ((fgs l)[0]? = some 48) && !decide (l = q "0")))
def nuB (l : List Nat) : Bool := !badF l && (fgs l).all fun c => decide (c ∈ q FIG)
def numD (l : List Nat) : D := if nuB l = true then (match PySem.intText? (SX.S l) with | some i => .int i | none => .non) else .non
theorem q0 : q "0" = [48] := by decide +kernel
theorem qm : q "-" = [45] := by decide +kernel
theorem r_number {n : Nat} {S : Store} {l : List Nat} (hz : l.length ≤ 640) (hi : nuB l = true → ∃ i, PySem.intText? (SX.S l) = some i) : run tab (n + 1) 3 [tx l] S = .ok (numD l) S := by
  have hz' : l.length ≤ sizeLine := Nat.le_trans hz (by decide)
  have und : (numD l).und S.length = true := by
    unfold numD
    split
    · split <;> simp
    · simp
  refine r_run (F := ⟨1, 3, b3⟩) rfl rfl ?_ (pack_same und)
  show Rt (exSs (run tab n) b3 [some (tx l), none, none] S) (numD l) S
  refine Rt.go (y_set (tx l) (by simp)) ?_
  have step : exSs (run tab n) (b3.drop 1) [some (tx l), some (tx l), none] S = exSs (run tab n) (b3.drop 2) [some (tx l), some (tx (fgs l)), none] S := by
    have v0 : ∀ T, evK (run tab n) (.v 0) [some (tx l), some (tx l), none] T = .ok (.val (tx l)) T := fun T => e_v rfl
    have ev : evB (run tab n) (.p2 .eq (.sl (.v 0) [] [(.c (.int 1))]) (.c (.str "-"))) [some (tx l), some (tx l), none] S = .ok (decide (l.take 1 = [45])) S := by
      simp only [e_B, e_p2, e_sl, v0, e_ws, e_ws0, e_c, bd_ok', partI0, partI1, cut_q1 hz', eq_q, toB_bl, qm]
    by_cases h : l.take 1 = [45]
    · rw [show fgs l = l.drop 1 by simp [fgs, h]]
      refine (x_ift (by rw [ev, decide_eq_true h])).trans ?_
      rw [x_set (d := tx (l.drop 1)) (S' := S) (by simp only [e_D, e_sl, v0, e_ws, e_ws0, e_c, bd_ok', partI0, partI1, cut_q2 hz', toD_val]), x_nil]
      rfl
    · rw [show fgs l = l by simp [fgs, h]]
      refine (x_iff (by rw [ev, decide_eq_false h])).trans ?_
      rw [x_nil]
      rfl
  refine Rt.go step ?_
  have hf : (fgs l).length ≤ sizeLine := by
    refine Nat.le_trans ?_ hz'
    unfold fgs; split
    · simp
    · exact Nat.le_refl _
  obtain ⟨f, hfe⟩ : ∃ f, f = fgs l := ⟨_, rfl⟩
  have v0 : ∀ T, evK (run tab n) (.v 0) [some (tx l), some (tx f), none] T = .ok (.val (tx l)) T := fun T => e_v rfl
  have v1 : ∀ T, evK (run tab n) (.v 1) [some (tx l), some (tx f), none] T = .ok (.val (tx f)) T := fun T => e_v rfl
  have evb : evB (run tab n) (.or_ (.p2 .lt (.p1 .len (.v 1)) (.c (.int 1))) (.or_ (.p2 .gt (.p1 .len (.v 1)) (.c (.int 13))) (.and_ (.p2 .eq (.p2 .ix (.v 1) (.c (.int 0))) (.c (.str "0"))) (.p2 .ne (.v 0) (.c (.str "0")))))) [some (tx l), some (tx f), none] S = .ok (badF l) S := by
    unfold badF
    rw [← hfe]
    rw [← hfe] at hf
    by_cases h1 : (f.length : Int) < 1
    · simp only [e_B, e_or, e_p2, e_p1, v1, e_c, bd_ok', len_tx hf, lt_ii, toB_bl, h1, decide_true, if_true, vv_ok', Bool.true_or]
    by_cases h2 : 13 < (f.length : Int)
    · simp only [e_B, e_or, e_p2, e_p1, v1, e_c, bd_ok', len_tx hf, lt_ii, gt_ii, toB_bl, h1, h2, decide_true, decide_false, if_true, Bool.false_eq_true, if_false, vv_ok', Bool.true_or, Bool.false_or]
    obtain ⟨c, r, e⟩ : ∃ c r, f = c :: r := by
      cases f with
      | nil => simp at h1
      | cons c r => exact ⟨c, r, rfl⟩
    have hix := ix0_q (S := S) (l := f) (c := c) (by rw [e]; rfl) hf
    have e0 : f[0]? = some c := by rw [e]; rfl
    have ec : decide (f[0]? = some 48) = decide (([c] : List Nat) = q "0") := by rw [e0, q0]; simp
    rw [ec]
    simp only [e_B, e_or, e_and, e_p2, e_p1, v0, v1, e_c, bd_ok', len_tx hf, lt_ii, gt_ii, toB_bl, h1, h2, decide_false, if_true, Bool.false_eq_true, if_false, vv_ok', Bool.false_or, hix, eq_q, ne_q]
    by_cases h3 : ([c] : List Nat) = q "0"
    · simp only [h3, decide_true, if_true, bd_ok', toB_bl, Bool.true_and]
    · simp only [h3, decide_false, Bool.false_eq_true, if_false, bd_ok', toB_bl, Bool.false_and]
  cases hb : badF l with
  | true =>
    rw [hb] at evb
    rw [show numD l = .non by simp [numD, nuB, hb]]
    rw [← hfe]
    exact Rt.fin (y_if1 evb (by simp))
  | false =>
    rw [hb] at evb
    rw [← hfe]
    refine Rt.go (y_if0 evb) ?_
    have e : nuB l = f.all fun c => decide (c ∈ q FIG) := by rw [hfe]; simp [nuB, hb]
    have sc := forL_scan (S := S) (turn := fun d ρ S => exSs (run tab n) b3_0 (ρ.set 2 (some d)) S) (p := fun c => decide (c ∈ q FIG)) (d := .non) (I := fun ρ => ρ.length = 3 ∧ ρ[0]? = some (some (tx l))) (fun c ρ hI hc => ?_) (fun c ρ hI hc => ?_) f [some (tx l), some (tx f), none] ⟨rfl, rfl⟩
    · cases ha : f.all fun c => decide (c ∈ q FIG) with
      | true =>
        rw [ha] at e
        obtain ⟨ρ', g, hρ⟩ := sc.1 ha
        obtain ⟨i, hi⟩ := hi e
        refine Rt.go (x_for (ws := [.val (tx f)]) (by simp only [e_ws, e_ws0, v1, bd_ok']) its_tx g) (Rt.fin (y_ret ?_))
        rw [show numD l = .int i by simp [numD, e, hi]]
        have v0' : evK (run tab n) (.v 0) ρ' S = .ok (.val (tx l)) S := e_v hρ.2
        simp only [e_D, e_p1, v0', bd_ok']
        show ((match PySem.intText? (SX.S l) with | some n => if (SX.S l).length ≤ 640 then vv (.int n) S else .bad | none => .bad) : R W).bd toD = _
        rw [hi]
        dsimp only
        rw [if_pos (by rw [SX.S_len]; exact hz)]
        rfl
      | false =>
        rw [ha] at e
        rw [show numD l = .non by simp [numD, e]]
        obtain ⟨ρ', g⟩ := sc.2 ha
        exact Rt.fin (x_forR (ws := [.val (tx f)]) (by simp only [e_ws, e_ws0, v1, bd_ok']) its_tx g)
    · have v2 : evK (run tab n) (.v 2) (ρ.set 2 (some (tx [c]))) S = .ok (.val (tx [c])) S := e_v (by rw [List.getElem?_set_self (by omega)])
      refine ⟨_, (y_if0 ?_).trans x_nil, by simp [hI.1], by simp [hI.2]⟩
      simp only [e_B, e_p2, v2, e_c, bd_ok', nin_q]
      show R.ok (!decide (c ∈ q FIG)) S = _
      rw [hc]; rfl
    · have v2 : evK (run tab n) (.v 2) (ρ.set 2 (some (tx [c]))) S = .ok (.val (tx [c])) S := e_v (by rw [List.getElem?_set_self (by omega)])
      refine ⟨_, y_if1 ?_ (by simp)⟩
      simp only [e_B, e_p2, v2, e_c, bd_ok', nin_q]
      show R.ok (!decide (c ∈ q FIG)) S = _
      rw [hc]; rfl
end Mi.L

namespace Mi.L
open PySem Mi
def quB (l : List Nat) : Bool := decide (1 < (l.length : Int)) && (decide (l[0]? = some 39) && decide (l.getLast? = some 39))
theorem q39 : q "'" = [39] := by decide +kernel
theorem atI_last {l : List Nat} {c : Nat} (h : l.getLast? = some c) : L2.atI l (-1) = some c := by
  have hl : 0 < l.length := by
    cases l with
    | nil => cases h
    | cons _ _ => simp
  unfold L2.atI L2.ixN
  rw [if_neg (by decide), if_pos (by omega)]
  show l[(-1 + (l.length : Int)).toNat]? = _
  have e : (-1 + (l.length : Int)).toNat = l.length - 1 := by omega
  rw [e, ← List.getLast?_eq_getElem?, h]
/-- what a word's value is -/
def valW (l : List Nat) : Option D := if quB l = true then (if vtB (cutD l (some 1) (some (-1))) = true then some (tx (cutD l (some 1) (some (-1)))) else none)
  else match numD l with
    | .int i => if viB i = true then some (.int i) else none
    | _ => none
theorem numD_or (l : List Nat) : numD l = .non ∨ ∃ i, numD l = .int i := by
  unfold numD
  split
  · split
    · exact .inr ⟨_, rfl⟩
    · exact .inl rfl
  · exact .inl rfl
theorem valW_und {l : List Nat} {d : D} (h : valW l = some d) (k : Nat) : d.und k = true := by
  unfold valW at h
  split at h
  · split at h
    · cases h; simp
    · cases h
  · split at h
    · split at h
      · cases h; simp
      · cases h
    · cases h
theorem r_value {n : Nat} {S : Store} {l : List Nat} (hz : l.length ≤ 640) (hi : nuB l = true → ∃ i, PySem.intText? (SX.S l) = some i) : run tab (n + 2) 4 [tx l] S = (match valW l with | some d => .ok d S | none => .ex 0 [] S) := by
  have hz' : l.length ≤ sizeLine := Nat.le_trans hz (by decide)
  have hn := r_number (n := n) (S := S) hz hi
  -- the value ahead of the test
  obtain ⟨v, hv⟩ : ∃ v, v = if quB l = true then tx (cutD l (some 1) (some (-1))) else numD l := ⟨_, rfl⟩
  have head : ∀ r, exSs (run tab (n + 1)) (b4.take 2 ++ r) [some (tx l), none] S = exSs (run tab (n + 1)) r [some (tx l), some v] S := by
    intro r
    show exSs (run tab (n + 1)) (.set (.nm 1) (.call 3 [.v 0]) :: (b4.drop 1).take 1 ++ r) [some (tx l), none] S = _
    refine (y_set (numD l) ?_).trans ?_
    · have v0 : ∀ T, evK (run tab (n + 1)) (.v 0) [some (tx l), none] T = .ok (.val (tx l)) T := fun T => e_v rfl
      simp only [e_D, e_call, e_ds, e_ds0, v0, bd_ok', toD_val, hn, vv_ok']
    have v0 : ∀ T, evK (run tab (n + 1)) (.v 0) [some (tx l), some (numD l)] T = .ok (.val (tx l)) T := fun T => e_v rfl
    have ev : evB (run tab (n + 1)) (.and_ (.p2 .gt (.p1 .len (.v 0)) (.c (.int 1))) (.and_ (.p2 .eq (.p2 .ix (.v 0) (.c (.int 0))) (.c (.str "'"))) (.p2 .eq (.p2 .ix (.v 0) (.p1 .neg (.c (.int 1)))) (.c (.str "'"))))) [some (tx l), some (numD l)] S = .ok (quB l) S := by
      unfold quB
      by_cases h1 : 1 < (l.length : Int)
      · obtain ⟨c, hc⟩ : ∃ c, l[0]? = some c := ⟨l[0]'(by omega), List.getElem?_eq_getElem _⟩
        obtain ⟨e, he⟩ : ∃ e, l.getLast? = some e := by
          cases l with
          | nil => simp at h1
          | cons a r => exact ⟨_, List.getLast?_eq_some_getLast (by simp)⟩
        have i1 := ix0_q (S := S) hc hz'
        have i2 := ix_tx (S := S) (atI_last he) hz'
        have e1 : decide (l[0]? = some 39) = decide (([c] : List Nat) = q "'") := by rw [hc, q39]; simp
        have e2 : decide (l.getLast? = some 39) = decide (([e] : List Nat) = q "'") := by rw [he, q39]; simp
        rw [e1, e2]
        simp only [e_B, e_and, e_p2, e_p1, v0, e_c, bd_ok', len_tx hz', gt_ii, toB_bl, h1, decide_true, if_true, i1, eq_q, neg_ok, Bool.true_and]
        by_cases h2 : ([c] : List Nat) = q "'"
        · simp only [h2, decide_true, if_true, bd_ok', toB_bl, Bool.true_and, i2, eq_q]
        · simp only [h2, decide_false, Bool.false_eq_true, if_false, vv_ok', bd_ok', toB_bl, Bool.false_and]
      · simp only [e_B, e_and, e_p2, e_p1, v0, e_c, bd_ok', len_tx hz', gt_ii, toB_bl, h1, decide_false, Bool.false_eq_true, if_false, vv_ok', Bool.false_and]
    show exSs (run tab (n + 1)) (.iff _ [.set (.nm 1) (.sl (.v 0) [(.c (.int 1))] [(.p1 .neg (.c (.int 1)))])] [] :: r) [some (tx l), some (numD l)] S = _
    cases hb : quB l with
    | true =>
      rw [hb] at ev hv
      rw [if_pos rfl] at hv
      refine (y_ift ev).trans ?_
      rw [y_set v (by simp only [e_D, e_sl, v0, e_ws, e_ws0, e_c, e_p1, neg_ok, bd_ok', partI1, cut_tx hz', toD_val, hv]), x_nil]
      rfl
    | false =>
      rw [hb] at ev hv
      rw [if_neg Bool.false_ne_true] at hv
      refine (y_if0 ev).trans ?_
      rw [hv]
  have tail : ∀ r : List Stm, b4.take 2 ++ b4.drop 2 = b4 := fun _ => rfl
  have v1 : ∀ T, evK (run tab (n + 1)) (.v 1) [some (tx l), some v] T = .ok (.val v) T := fun T => e_v rfl
  -- the test
  have good : ∀ d, valW l = some d → v = d ∧ evB (run tab (n + 1)) (.or_ (.p1 .isN (.v 1)) (.not_ (.call 1 [(.v 1)]))) [some (tx l), some v] S = .ok false S := by
    intro d h
    unfold valW at h
    cases hb : quB l with
    | true =>
      rw [hb, if_pos rfl] at h hv
      rw [hv] at v1 ⊢
      obtain ⟨m, hm⟩ : ∃ m, m = cutD l (some 1) (some (-1)) := ⟨_, rfl⟩
      rw [← hm] at h v1 ⊢
      have hmz : m.length ≤ sizeLine := by rw [hm]; exact Nat.le_trans (cutD_le _ _ _) hz'
      have hr := r_isv_tx (n := n) (S := S) hmz
      split at h
      · rename_i hv2
        cases h
        refine ⟨rfl, ?_⟩
        simp only [e_B, e_or, e_p1, e_not, e_call, e_ds, e_ds0, v1, bd_ok', isN_tx, toB_bl, Bool.false_eq_true, if_false, toD_val, hr, vv_ok', hv2, Bool.not_true]
      · cases h
    | false =>
      rw [hb, if_neg Bool.false_ne_true] at h hv
      rcases numD_or l with hN | ⟨i, hN⟩
      · rw [hN] at h; cases h
      · rw [hN] at h hv
        rw [hv] at v1 ⊢
        have hr := r_isv_int (n := n) (S := S) (i := i)
        dsimp only at h
        split at h
        · rename_i hv2
          cases h
          refine ⟨rfl, ?_⟩
          simp only [e_B, e_or, e_p1, e_not, e_call, e_ds, e_ds0, v1, bd_ok', isN_int, toB_bl, Bool.false_eq_true, if_false, toD_val, hr, vv_ok', hv2, Bool.not_true]
        · cases h
  have evil : valW l = none → evB (run tab (n + 1)) (.or_ (.p1 .isN (.v 1)) (.not_ (.call 1 [(.v 1)]))) [some (tx l), some v] S = .ok true S := by
    intro h
    unfold valW at h
    cases hb : quB l with
    | true =>
      rw [hb, if_pos rfl] at h hv
      rw [hv] at v1 ⊢
      obtain ⟨m, hm⟩ : ∃ m, m = cutD l (some 1) (some (-1)) := ⟨_, rfl⟩
      rw [← hm] at h v1 ⊢
      have hmz : m.length ≤ sizeLine := by rw [hm]; exact Nat.le_trans (cutD_le _ _ _) hz'
      have hr := r_isv_tx (n := n) (S := S) hmz
      split at h
      · cases h
      · rename_i hv2
        have hv2 : vtB m = false := by simpa using hv2
        simp only [e_B, e_or, e_p1, e_not, e_call, e_ds, e_ds0, v1, bd_ok', isN_tx, toB_bl, Bool.false_eq_true, if_false, toD_val, hr, vv_ok', hv2, Bool.not_false]
    | false =>
      rw [hb, if_neg Bool.false_ne_true] at h hv
      rcases numD_or l with hN | ⟨i, hN⟩
      · rw [hN] at hv
        rw [hv] at v1 ⊢
        simp only [e_B, e_or, e_p1, v1, bd_ok', isN_non, toB_bl, if_true, vv_ok']
      · rw [hN] at h hv
        rw [hv] at v1 ⊢
        have hr := r_isv_int (n := n) (S := S) (i := i)
        dsimp only at h
        split at h
        · cases h
        · rename_i hv2
          have hv2 : viB i = false := by simpa using hv2
          simp only [e_B, e_or, e_p1, e_not, e_call, e_ds, e_ds0, v1, bd_ok', isN_int, toB_bl, Bool.false_eq_true, if_false, toD_val, hr, vv_ok', hv2, Bool.not_false]
  cases hw : valW l with
  | some d =>
    obtain ⟨rfl, ev⟩ := good d hw
    refine r_run (F := ⟨1, 2, b4⟩) rfl rfl ?_ (pack_same (valW_und hw _))
    exact Rt.go (head (b4.drop 2)) (Rt.go (y_if0 ev) (Rt.fin (y_ret (by simp only [e_D, v1, bd_ok', toD_val]))))
  | none =>
    refine r_runX (F := ⟨1, 2, b4⟩) rfl rfl ?_
    exact Rx.go (head (b4.drop 2)) (Rx.fin (x_ifX (evil hw)))
end Mi.L

namespace Mi.L
open PySem Mi
/-! ### a text's words -/
theorem sz1 : (1 : Nat) ≤ sizeLine := by decide
theorem sz2 : (2 : Nat) ≤ sizeLine := by decide
theorem sz3 : (3 : Nat) ≤ sizeLine := by decide
theorem sz4 : (4 : Nat) ≤ sizeLine := by decide
theorem sz6 : (6 : Nat) ≤ sizeLine := by decide
theorem py_strs {S : Store} {k : Nat} : ∀ ws : List (List Nat), mapO (toPy S (k + 1)) (ws.map tx) = some (ws.map fun w => PyData.str (SX.S w))
  | [] => rfl
  | w :: r => by
    rw [List.map_cons, mapO, py_strs r]
    rfl
theorem any_strs (x : List Nat) : ∀ ws : List (List Nat), ((ws.map fun w => PyData.str (SX.S w)).any fun y => PyData.eqv y (.str (SX.S x))) = decide (x ∈ ws)
  | [] => rfl
  | w :: r => by
    rw [List.map_cons, List.any_cons, any_strs x r]
    have e : PyData.eqv (.str (SX.S w)) (.str (SX.S x)) = decide (x = w) := by
      show (SX.S w == SX.S x) = _
      rw [SX.S_beq_eq]
      exact decide_eq_decide.mpr ⟨fun h => h.symm, fun h => h.symm⟩
    rw [e]
    by_cases h : x = w
    · simp [h]
    · simp [h]
theorem inn_at {S : Store} {m : Nat} {x : List Nat} {ws : List (List Nat)} (hS : S[m]? = some (.lst (ws.map tx))) : p2 .inn (.val (tx x)) (.val (.ref m)) S = .ok (.val (.bl (decide (x ∈ ws)))) S := by
  show ob (isIn (.val (tx x)) (.val (.ref m)) S) S = _
  have e : isIn (.val (tx x)) (.val (.ref m)) S = some (decide (x ∈ ws)) := by
    show (match W.seq S (.val (.ref m)) with
      | some (_, ds) => ((W.val (tx x)).py S).bind fun p => (mapO (toPy S deepest) ds).map fun (ys : List PyData) => ys.any fun y => PyData.eqv y p
      | none => _) = _
    rw [seq_at hS]
    show ((some (PyData.str (SX.S x))).bind fun p => (mapO (toPy S deepest) (ws.map tx)).map fun (ys : List PyData) => ys.any fun y => PyData.eqv y p) = _
    rw [show deepest = 39 + 1 from rfl, py_strs ws]
    exact congrArg some (any_strs x ws)
  rw [e]; rfl
def foldO {α : Type} (step : α → Nat → Option α) : α → List Nat → Option α
  | s, [] => some s
  | s, c :: r => match step s c with
    | some s' => foldO step s' r
    | none => none
theorem foldO_app {α : Type} {step : α → Nat → Option α} : ∀ {l1 l2 : List Nat} {s s' : α}, foldO step s l1 = some s' → foldO step s (l1 ++ l2) = foldO step s' l2
  | [], _, s, s', h => by cases h; rfl
  | c :: r, l2, s, s', h => by
    rw [foldO] at h
    rw [List.cons_append, foldO]
    cases e : step s c with
    | none => rw [e] at h; cases h
    | some s1 => rw [e] at h; exact foldO_app h
theorem forL_opt {α : Type} {turn : D → Env → Store → RS} {k : Nat} {step : α → Nat → Option α} {J : Nat → α → Env → Store → Prop}
    (ht : ∀ c r s ρ S s', J (r + 1) s ρ S → step s c = some s' → ∃ ρ' S', turn (tx [c]) ρ S = .ok .nx ρ' S' ∧ J r s' ρ' S')
    (hx : ∀ c r s ρ S, J (r + 1) s ρ S → step s c = none → ∃ ρ', turn (tx [c]) ρ S = .ex k [] ρ' S) : ∀ (l : List Nat) (s : α) (ρ : Env) (S : Store), J l.length s ρ S →
      (∀ s', foldO step s l = some s' → ∃ ρ' S', forL [] turn (l.map fun c => tx [c]) ρ S = .ok .nx ρ' S' ∧ J 0 s' ρ' S') ∧
      (foldO step s l = none → ∃ ρ' S', forL [] turn (l.map fun c => tx [c]) ρ S = .ex k [] ρ' S' ∧ ∃ r s'' ρ'', J r s'' ρ'' S')
  | [], s, ρ, S, h => ⟨fun s' e => (by cases e; exact ⟨ρ, S, forL_end isLive_nil, h⟩), fun e => (by cases e)⟩
  | c :: r, s, ρ, S, h => by
    cases e : step s c with
    | some s1 =>
      obtain ⟨ρ1, S1, h1, h2⟩ := ht c r.length s ρ S s1 h e
      obtain ⟨g1, g2⟩ := forL_opt ht hx r s1 ρ1 S1 h2
      rw [List.map_cons, forL_nx isLive_nil h1]
      refine ⟨fun s' he => g1 s' (by rw [foldO, e] at he; exact he), fun he => g2 (by rw [foldO, e] at he; exact he)⟩
    | none =>
      obtain ⟨ρ1, h1⟩ := hx c r.length s ρ S h e
      refine ⟨fun s' he => (by rw [foldO, e] at he; cases he), fun _ => ⟨ρ1, S, ?_, _, _, _, h⟩⟩
      rw [List.map_cons, forL, if_pos isLive_nil, h1]
abbrev Wst := List (List Nat) × List Nat × Bool × Bool
def stepW (s : Wst) (c : Nat) : Option Wst :=
  if (decide (c = 32) && !s.2.2.1) = true then some (s.1 ++ [s.2.1], [], s.2.2.1, false)
  else if (s.2.2.2 || (decide (c = 39) && (!s.2.2.1 && !decide (s.2.1 = [])))) = true then none
  else if c = 39 then some (s.1, s.2.1 ++ [c], !s.2.2.1, s.2.2.1) else some (s.1, s.2.1 ++ [c], s.2.2.1, s.2.2.2)
theorem q32 : q " " = [32] := by decide +kernel
theorem qE : q "" = [] := by decide +kernel
theorem str_nil : D.str "" = tx [] := by rw [← tx_q, qE]
section
variable {S : Store} {m : Nat} {init : List (List Nat)} {cur : List Nat}
theorem ix_last (hS : S[m]? = some (.lst ((init ++ [cur]).map tx))) : p2 .ix (.val (.ref m)) (.val (.int (-1))) S = .ok (.val (tx cur)) S := by
  refine ix_at hS ?_
  unfold L2.atI L2.ixN
  rw [if_neg (by decide), if_pos (by simp; omega)]
  show ((init ++ [cur]).map tx)[(-1 + ((((init ++ [cur]).map tx).length : Nat) : Int)).toNat]? = _
  have e : (-1 + ((((init ++ [cur]).map tx).length : Nat) : Int)).toNat = init.length := by simp; omega
  rw [e, List.map_append, List.getElem?_append_right (by simp), List.length_map, Nat.sub_self]
  rfl
theorem ixN_last : L2.ixN ((init ++ [cur]).map tx).length (-1) = some init.length := by
  unfold L2.ixN
  rw [if_neg (by decide), if_pos (by simp; omega)]
  simp
  omega
theorem set_last {d : List Nat} : ((init ++ [cur]).map tx).set init.length (tx d) = (init ++ [d]).map tx := by
  rw [List.map_append, List.map_append, List.set_append_right _ _ (by simp), List.length_map, Nat.sub_self]
  rfl
end
def JW (S0 : Store) (t : D) (N r : Nat) (s : Wst) (ρ : Env) (S : Store) : Prop := S = S0 ++ [.lst ((s.1 ++ [s.2.1]).map tx)] ∧ (∃ x, ρ = [some t, some (.ref S0.length), some (.bl s.2.2.1), some (.bl s.2.2.2), x]) ∧ s.1.length + r ≤ N ∧ s.2.1.length + r ≤ N
theorem turnW {n N : Nat} {S0 : Store} {t : D} (hN : N < 1000000) (c r : Nat) (s : Wst) (ρ : Env) (S : Store) (hJ : JW S0 t N (r + 1) s ρ S) :
    (∀ s', stepW s c = some s' → ∃ ρ' S', exSs (run tab n) b2_0 (ρ.set 4 (some (tx [c]))) S = .ok .nx ρ' S' ∧ JW S0 t N r s' ρ' S') ∧ (stepW s c = none → ∃ ρ', exSs (run tab n) b2_0 (ρ.set 4 (some (tx [c]))) S = .ex 0 [] ρ' S) := by
  obtain ⟨init, cur, qt, cl⟩ := s
  obtain ⟨rfl, ⟨x, rfl⟩, h1, h2⟩ := hJ
  dsimp only at h1 h2 ⊢
  have hS : (S0 ++ [O.lst ((init ++ [cur]).map tx)])[S0.length]? = some (.lst ((init ++ [cur]).map tx)) := at_new
  obtain ⟨T, hT⟩ : ∃ T, T = S0 ++ [O.lst ((init ++ [cur]).map tx)] := ⟨_, rfl⟩
  have hTs : ∀ o, T.set S0.length o = S0 ++ [o] := fun o => by rw [hT, set_new]
  rw [← hT] at hS ⊢
  obtain ⟨ρ, hρ⟩ : ∃ ρ : Env, ρ = [some t, some (.ref S0.length), some (.bl qt), some (.bl cl), some (tx [c])] := ⟨_, rfl⟩
  show (∀ s', _ → ∃ ρ' S', exSs (run tab n) b2_0 [some t, some (.ref S0.length), some (.bl qt), some (.bl cl), some (tx [c])] T = _ ∧ _) ∧ (_ → ∃ ρ', exSs (run tab n) b2_0 [some t, some (.ref S0.length), some (.bl qt), some (.bl cl), some (tx [c])] T = _)
  rw [← hρ]
  have v1 : ∀ T, evK (run tab n) (.v 1) ρ T = .ok (.val (.ref S0.length)) T := fun T => e_v (by rw [hρ]; rfl)
  have v2 : ∀ T, evK (run tab n) (.v 2) ρ T = .ok (.val (.bl qt)) T := fun T => e_v (by rw [hρ]; rfl)
  have v3 : ∀ T, evK (run tab n) (.v 3) ρ T = .ok (.val (.bl cl)) T := fun T => e_v (by rw [hρ]; rfl)
  have v4 : ∀ T, evK (run tab n) (.v 4) ρ T = .ok (.val (tx [c])) T := fun T => e_v (by rw [hρ]; rfl)
  have hk := isK_at hS
  have c1 : evB (run tab n) (.and_ (.p2 .eq (.v 4) (.c (.str " "))) (.not_ (.v 2))) ρ T = .ok (decide (c = 32) && !qt) T := by
    simp only [e_B, e_and, e_p2, e_not, v4, v2, e_c, bd_ok', eq_q, q32, toB_bl]
    by_cases h : c = 32
    · subst h; simp
    · have h' : decide ([c] = [32]) = false := by simp [h]
      simp [h', h]
  unfold stepW
  dsimp only
  cases hb : (decide (c = 32) && !qt) with
  | true =>
    rw [hb] at c1
    rw [if_pos rfl]
    refine ⟨fun s' e => ?_, fun e => by cases e⟩
    cases e
    have ap := app_at (w := tx []) hS (by rw [List.length_map, List.length_append]; exact Nat.lt_of_lt_of_le (by simp; omega : _ < 1000001) (by decide))
    refine ⟨[some t, some (.ref S0.length), some (.bl qt), some (.bl false), some (tx [c])], S0 ++ [.lst (((init ++ [cur]) ++ [[]]).map tx)], (y_ift c1).trans ?_, ?_⟩
    · rw [x_exp (w := .val .non) (S' := S0 ++ [.lst (((init ++ [cur]) ++ [[]]).map tx)]), x_set (d := .bl false) (S' := S0 ++ [.lst (((init ++ [cur]) ++ [[]]).map tx)]), x_nil]
      · rw [hρ]; rfl
      · simp
      · simp only [e_m1, v1, e_c, bd_ok', hk, if_true, str_nil, ap, hTs]
        simp
    · refine ⟨rfl, ⟨_, rfl⟩, ?_, ?_⟩
      · show (init ++ [cur]).length + r ≤ N
        rw [List.length_append]; simp; omega
      · show 0 + r ≤ N
        omega
  | false =>
    rw [hb] at c1
    rw [if_neg Bool.false_ne_true]
    have il := ix_last hS
    have c2 : evB (run tab n) (.or_ (.v 3) (.and_ (.p2 .eq (.v 4) (.c (.str "'"))) (.and_ (.not_ (.v 2)) (.p2 .ne (.p2 .ix (.v 1) (.p1 .neg (.c (.int 1)))) (.c (.str "")))))) ρ T = .ok (cl || (decide (c = 39) && (!qt && !decide (cur = [])))) T := by
      simp only [e_B, e_or, e_and, e_p2, e_p1, e_not, v1, v2, v3, v4, e_c, bd_ok', eq_q, ne_q, q39, qE, neg_ok, il, toB_bl]
      cases cl with
      | true => simp
      | false =>
        by_cases h : c = 39
        · subst h
          cases qt <;> simp [v1, il, neg_ok, ne_q, qE]
        · have h' : decide ([c] = [39]) = false := by simp [h]
          simp [h', h]
    cases hb2 : (cl || (decide (c = 39) && (!qt && !decide (cur = [])))) with
    | true =>
      rw [hb2] at c2
      rw [if_pos rfl]
      refine ⟨fun s' e => (by cases e), fun _ => ⟨ρ, ?_⟩⟩
      refine (y_iff c1).trans ?_
      rw [x_ifX c2]; rfl
    | false =>
      rw [hb2] at c2
      rw [if_neg Bool.false_ne_true]
      have hcl : cl = false := by cases cl with | true => simp at hb2 | false => rfl
      subst hcl
      have ad := add_tx (S := T) (a := cur) (b := [c]) (Nat.le_trans (by simp; omega : _ ≤ 1000000) (by decide))
      have st := setItem_at (d := tx (cur ++ [c])) hS (ixN_last (init := init) (cur := cur))
      rw [set_last, hTs] at st
      have sx : ∀ r, exSs (run tab n) (.setIx (.v 1) (.p1 .neg (.c (.int 1))) (.p2 .add (.p2 .ix (.v 1) (.p1 .neg (.c (.int 1)))) (.v 4)) :: r) ρ T = exSs (run tab n) r ρ (S0 ++ [.lst ((init ++ [cur ++ [c]]).map tx)]) := fun r =>
        x_ix (d := tx (cur ++ [c])) (w := .val (.ref S0.length)) (v := .val (.int (-1))) (S1 := T) (S2 := T) (S3 := T) (by simp only [e_D, e_p2, e_p1, e_c, v1, v4, bd_ok', neg_ok, il, ad, toD_val]) (by rw [v1]) (by simp only [e_p1, e_c, bd_ok', neg_ok]) st
      have c3 : ∀ T, evB (run tab n) (.p2 .eq (.v 4) (.c (.str "'"))) ρ T = .ok (decide (c = 39)) T := fun T => by
        simp only [e_B, e_p2, v4, e_c, bd_ok', eq_q, q39, toB_bl]
        by_cases h : c = 39
        · subst h; simp
        · have h' : decide ([c] = [39]) = false := by simp [h]
          simp [h', h]
      by_cases h : c = 39
      · rw [if_pos h]
        refine ⟨fun s' e => ?_, fun e => by cases e⟩
        cases e
        refine ⟨[some t, some (.ref S0.length), some (.bl !qt), some (.bl qt), some (tx [c])], S0 ++ [.lst ((init ++ [cur ++ [c]]).map tx)], ?_, rfl, ⟨_, rfl⟩, by show init.length + r ≤ N; omega, by show (cur ++ [c]).length + r ≤ N; rw [List.length_append]; simp; omega⟩
        refine (y_iff c1).trans ?_
        rw [x_iff c2, sx, x_ift (by rw [c3, decide_eq_true h]), x_set (d := .bl qt) (S' := S0 ++ [.lst ((init ++ [cur ++ [c]]).map tx)]) (by simp only [e_D, v2, bd_ok', toD_val])]
        have v2' : ∀ T, evK (run tab n) (.v 2) (ρ.set 3 (some (.bl qt))) T = .ok (.val (.bl qt)) T := fun T => e_v (by rw [hρ]; rfl)
        rw [x_set (d := .bl !qt) (S' := S0 ++ [.lst ((init ++ [cur ++ [c]]).map tx)]) (by simp only [e_D, e_not, v2', bd_ok', toB_bl, vv_ok', toD_val]), x_nil, hρ]
        simp only [RS.sq, x_nil]
        rfl
      · rw [if_neg h]
        refine ⟨fun s' e => ?_, fun e => by cases e⟩
        cases e
        refine ⟨ρ, S0 ++ [.lst ((init ++ [cur ++ [c]]).map tx)], ?_, rfl, ⟨_, hρ⟩, by show init.length + r ≤ N; omega, by show (cur ++ [c]).length + r ≤ N; rw [List.length_append]; simp; omega⟩
        refine (y_iff c1).trans ?_
        rw [x_iff c2, sx, x_iff (by rw [c3, decide_eq_false h]), x_nil]
        simp only [RS.sq, x_nil]
/-- the words of a text -/
def wordsO (l : List Nat) : Option (List (List Nat)) := match foldO stepW ([], [], false, false) l with
  | some (init, cur, qt, _) => if (qt || decide ([] ∈ init ++ [cur])) = true then none else some (init ++ [cur])
  | none => none
theorem r_words {n : Nat} {S : Store} {l : List Nat} {ws : List (List Nat)} (hz : l.length < 1000000) (h : wordsO l = some ws) : run tab (n + 1) 2 [tx l] S = .ok (.ref S.length) (S ++ [.lst (ws.map tx)]) := by
  unfold wordsO at h
  split at h
  · rename_i init cur qt cl hf
    split at h
    · cases h
    · rename_i hb
      cases h
      have hb : (qt || decide ([] ∈ init ++ [cur])) = false := by simpa using hb
      obtain ⟨ρ0, hρ0⟩ : ∃ ρ0 : Env, ρ0 = [some (tx l), some (.ref S.length), some (.bl false), some (.bl false), none] := ⟨_, rfl⟩
      have hl := forL_opt (turn := fun d ρ S => exSs (run tab n) b2_0 (ρ.set 4 (some d)) S) (k := 0) (step := stepW) (J := JW S (tx l) l.length) (fun c r s ρ T s' hJ e => (turnW (n := n) hz c r s ρ T hJ).1 s' e) (fun c r s ρ T hJ e => (turnW (n := n) hz c r s ρ T hJ).2 e) l ([], [], false, false) ρ0 (S ++ [.lst [tx []]]) ⟨rfl, ⟨none, hρ0⟩, by simp, by simp⟩
      obtain ⟨ρ', S', g1, g2, ⟨x, g3⟩, _⟩ := hl.1 _ hf
      subst g2
      dsimp only at g3
      refine r_run (F := ⟨1, 5, b2⟩) rfl rfl ?_ (pack_new (unds_tx _))
      show Rt (exSs (run tab n) b2 [some (tx l), none, none, none, none] S) (.ref S.length) _
      refine Rt.go (y_if0 (by simp [isi_str_tx])) ?_
      refine Rt.go (x_set (d := .ref S.length) (S' := S ++ [.lst [tx []]]) (by simp [str_nil, sz1])) ?_
      refine Rt.go (y_set (.bl false) (by simp)) ?_
      refine Rt.go (y_set (.bl false) (by simp)) ?_
      refine Rt.go (x_for (ws := [.val (tx l)]) (S' := S ++ [.lst [tx []]]) (by simp) its_tx (by rw [hρ0] at g1; exact g1)) ?_
      have hS : (S ++ [O.lst ((init ++ [cur]).map tx)])[S.length]? = some (.lst ((init ++ [cur]).map tx)) := at_new
      have ii := inn_at (x := []) hS
      have v1 : ∀ T, evK (run tab n) (.v 1) ρ' T = .ok (.val (.ref S.length)) T := fun T => e_v (by rw [g3]; rfl)
      have v2 : ∀ T, evK (run tab n) (.v 2) ρ' T = .ok (.val (.bl qt)) T := fun T => e_v (by rw [g3]; rfl)
      refine Rt.go (y_if0 ?_) (Rt.fin (y_ret (by simp only [e_D, v1, bd_ok', toD_val])))
      obtain ⟨q1, q2⟩ := Bool.or_eq_false_iff.mp hb
      simp only [e_B, e_or, e_p2, v1, v2, e_c, bd_ok', toB_bl, q1, Bool.false_eq_true, if_false, str_nil, ii, q2]
  · cases h
end Mi.L

namespace Mi.L
open PySem Mi
/-! ### the words at a place -/
theorem inn_kt {S : Store} {x : List Nat} {ws : List (List Nat)} : p2 .inn (.val (tx x)) (.val (.kt (ws.map tx))) S = .ok (.val (.bl (decide (x ∈ ws)))) S := by
  show ob (((W.val (tx x)).py S).bind fun p => (mapO (toPy S (39 + 1)) (ws.map tx)).map fun (ys : List PyData) => ys.any fun y => PyData.eqv y p) S = _
  rw [py_strs ws]
  show ob (some _) S = _
  exact congrArg (fun b => ob (some b) S) (any_strs x ws)
theorem nin_kt {S : Store} {x : List Nat} {ws : List (List Nat)} : p2 .nin (.val (tx x)) (.val (.kt (ws.map tx))) S = .ok (.val (.bl (!decide (x ∈ ws)))) S := by
  show ob ((((W.val (tx x)).py S).bind fun p => (mapO (toPy S (39 + 1)) (ws.map tx)).map fun (ys : List PyData) => ys.any fun y => PyData.eqv y p).map (!·)) S = _
  rw [py_strs ws]
  show ob (some _) S = _
  exact congrArg (fun b => ob (some !b) S) (any_strs x ws)
theorem inn_tup {S : Store} {x : List Nat} {ws : List (List Nat)} : p2 .inn (.val (tx x)) (.val (.tup (ws.map tx))) S = .ok (.val (.bl (decide (x ∈ ws)))) S := by
  show ob (((W.val (tx x)).py S).bind fun p => (mapO (toPy S (39 + 1)) (ws.map tx)).map fun (ys : List PyData) => ys.any fun y => PyData.eqv y p) S = _
  rw [py_strs ws]
  show ob (some _) S = _
  exact congrArg (fun b => ob (some b) S) (any_strs x ws)
theorem nin_tup {S : Store} {x : List Nat} {ws : List (List Nat)} : p2 .nin (.val (tx x)) (.val (.tup (ws.map tx))) S = .ok (.val (.bl (!decide (x ∈ ws)))) S := by
  show ob ((((W.val (tx x)).py S).bind fun p => (mapO (toPy S (39 + 1)) (ws.map tx)).map fun (ys : List PyData) => ys.any fun y => PyData.eqv y p).map (!·)) S = _
  rw [py_strs ws]
  show ob (some _) S = _
  exact congrArg (fun b => ob (some !b) S) (any_strs x ws)
section
variable {n m k : Nat} {S : Store} {ws : List (List Nat)} {w : List Nat} {j : Int} (hS : S[m]? = some (.lst (ws.map tx)))
include hS
theorem r_at (hj : j = k) (h : ws[k]? = some w) : run tab (n + 1) 5 [.ref m, .int j] S = .ok (tx w) S := by
  subst hj
  have hk : k < ws.length := (List.getElem?_eq_some_iff.mp h).1
  refine r_run (F := ⟨2, 2, b5⟩) rfl rfl ?_ (pack_same (by simp))
  show Rt (exSs (run tab n) b5 [some (.ref m), some (.int k)] S) (tx w) S
  have v0 : ∀ T, evK (run tab n) (.v 0) [some (.ref m), some (.int k)] T = .ok (.val (.ref m)) T := fun T => e_v rfl
  have v1 : ∀ T, evK (run tab n) (.v 1) [some (.ref m), some (.int k)] T = .ok (.val (.int k)) T := fun T => e_v rfl
  have ix := ix_at (i := (k : Int)) hS (atI_at (by omega) (show (ws.map tx)[(k : Int).toNat]? = some (tx w) by rw [Int.toNat_natCast, List.getElem?_map, h]; rfl))
  refine Rt.go (y_if0 ?_) (Rt.fin (y_ret (by simp only [e_D, e_p2, v0, v1, bd_ok', ix, toD_val])))
  simp only [e_B, e_p2, e_p1, v0, v1, bd_ok', len_at hS, ge_ii, toB_bl]
  rw [List.length_map, decide_eq_false (by omega)]
theorem r_atX (hj : j = k) (h : ws.length ≤ k) : run tab (n + 1) 5 [.ref m, .int j] S = .ex 0 [] S := by
  subst hj
  refine r_runX (F := ⟨2, 2, b5⟩) rfl rfl ?_
  show Rx (exSs (run tab n) b5 [some (.ref m), some (.int k)] S) 0 S
  have v0 : ∀ T, evK (run tab n) (.v 0) [some (.ref m), some (.int k)] T = .ok (.val (.ref m)) T := fun T => e_v rfl
  have v1 : ∀ T, evK (run tab n) (.v 1) [some (.ref m), some (.int k)] T = .ok (.val (.int k)) T := fun T => e_v rfl
  refine Rx.fin (x_ifX (S' := S) ?_)
  simp only [e_B, e_p2, e_p1, v0, v1, bd_ok', len_at hS, ge_ii, toB_bl]
  rw [List.length_map, decide_eq_true (by omega)]
theorem r_need {x : Str} (hj : j = k) (h : ws[k]? = some (q x)) : run tab (n + 2) 6 [.ref m, .int j, .str x] S = .ok .non S := by
  have ha := r_at (n := n) hS hj h
  refine r_runN (F := ⟨3, 3, b6⟩) rfl rfl ?_ (pack_same (by simp))
  refine ⟨[some (.ref m), some (.int j), some (.str x)], ?_⟩
  show exSs (run tab (n + 1)) b6 [some (.ref m), some (.int j), some (.str x)] S = _
  refine (y_if0 ?_).trans x_nil
  simp [ha, ne_q]
theorem r_name_at (hj : j = k) (h : ws[k]? = some w) (hw : nmB w = true) (hz : w.length ≤ 640) : run tab (n + 2) 7 [.ref m, .int j] S = .ok (tx w) S := by
  have ha := r_at (n := n) hS hj h
  have hn := r_name (n := n) (S := S) (l := w) (Nat.le_trans hz (by decide))
  subst hj
  refine r_run (F := ⟨2, 2, b7⟩) rfl rfl ?_ (pack_same (by simp))
  show Rt (exSs (run tab (n + 1)) b7 [some (.ref m), some (.int k)] S) (tx w) S
  have ix := ix_at (i := (k : Int)) hS (atI_at (by omega) (show (ws.map tx)[(k : Int).toNat]? = some (tx w) by rw [Int.toNat_natCast, List.getElem?_map, h]; rfl))
  exact Rt.go (y_if0 (by simp [ha, hn, hw])) (Rt.fin (y_ret (by simp [ix])))
theorem r_column_at {a b : List Nat} (hj : j = k) (h : ws[k]? = some w) (hw : TL.spl [46] 0 [] w = [a, b]) (ha : nmB a = true) (hb : nmB b = true) (hz : w.length ≤ 640) (hza : a.length ≤ 640) (hzb : b.length ≤ 640) :
    run tab (n + 2) 8 [.ref m, .int j] S = .ok (.tup [tx a, tx b]) S := by
  have hat := r_at (n := n) hS hj h
  have e46 : D.str "." = tx [46] := by rw [← tx_q, show q "." = [46] by decide +kernel]
  have sp := split_tx (S := S) (a := w) (c := 46) (by decide) (Nat.le_trans (by omega : w.length + 2 ≤ 700) (by decide))
  rw [hw] at sp
  obtain ⟨T, hT⟩ : ∃ T, T = S ++ [O.lst [tx a, tx b]] := ⟨_, rfl⟩
  have hTl : T[S.length]? = some (.lst [tx a, tx b]) := by rw [hT]; exact at_new
  have h1 := r_name (n := n) (S := T) (l := a) (Nat.le_trans hza (by decide))
  have h2 := r_name (n := n) (S := T) (l := b) (Nat.le_trans hzb (by decide))
  have hk : MK.is S .str (.val (tx w)) = true := rfl
  refine r_run (F := ⟨2, 3, b8⟩) (S' := T) rfl rfl ?_ (by rw [hT]; exact pack_app (by simp))
  show Rt (exSs (run tab (n + 1)) b8 [some (.ref m), some (.int j), none] S) (.tup [tx a, tx b]) T
  refine Rt.go (x_set (d := .ref S.length) (S' := T) ?_) ?_
  · have v0 : ∀ T, evK (run tab (n + 1)) (.v 0) [some (.ref m), some (.int j), none] T = .ok (.val (.ref m)) T := fun T => e_v rfl
    have v1 : ∀ T, evK (run tab (n + 1)) (.v 1) [some (.ref m), some (.int j), none] T = .ok (.val (.int j)) T := fun T => e_v rfl
    simp only [e_D, e_m1, e_call, e_ds, e_ds0, v0, v1, bd_ok', toD_val, hat, vv_ok', hk, if_true, e_c, e46, sp, hT]
    rfl
  obtain ⟨ρ, hρ⟩ : ∃ ρ : Env, ρ = [some (.ref m), some (.int j), some (.ref S.length)] := ⟨_, rfl⟩
  show Rt (exSs (run tab (n + 1)) (b8.drop 1) [some (.ref m), some (.int j), some (.ref S.length)] T) (.tup [tx a, tx b]) T
  rw [← hρ]
  have v2 : ∀ T, evK (run tab (n + 1)) (.v 2) ρ T = .ok (.val (.ref S.length)) T := fun T => e_v (by rw [hρ]; rfl)
  have i0 : p2 .ix (.val (.ref S.length)) (.val (.int 0)) T = .ok (.val (tx a)) T := ix_at hTl rfl
  have i1 : p2 .ix (.val (.ref S.length)) (.val (.int 1)) T = .ok (.val (tx b)) T := ix_at hTl rfl
  have ln := len_at hTl
  have tp : p1 .tuple_ (.val (.ref S.length)) T = .ok (.val (.tup [tx a, tx b])) T := by
    show (match W.seq T (.val (.ref S.length)) with
      | some (_, ds) => vv (.tup ds) T
      | none => .bad) = _
    rw [seq_at hTl]; rfl
  refine Rt.go (y_if0 ?_) (Rt.fin (y_ret (by simp only [e_D, e_p1, v2, bd_ok', tp, toD_val])))
  simp [v2, ln, ne_ii, i0, i1, h1, h2, ha, hb]
end
end Mi.L

namespace Mi.L
open PySem Mi
/-! ### atoms -/
abbrev Vl := Int ⊕ Str
def dv : Vl → D
  | .inl i => .int i
  | .inr x => .str x
/-- the word that writes a value -/
def wdV : Vl → List Nat
  | .inl i => q (toString i : Str)
  | .inr x => 39 :: (q x ++ [39])
abbrev Cl := List Nat × List Nat
def dcl (c : Cl) : D := .tup [tx c.1, tx c.2]
def wdC (c : Cl) : List Nat := c.1 ++ 46 :: c.2
def TAB : List (List Nat) := [q "fig", q "pear", q "where"]
def NAM : List (List Nat) := [q "a", q "zz", q "of", q "b", q "is", q "c", q "d", q "e", q "f", q "g"]
def SIG : List (List Nat) := [q "=", q "#", q "<", q ">", q "<=", q ">="]
def MENU : List Vl := [.inl 0, .inl 1, .inl 2, .inl 3, .inl (-1), .inl (-20), .inl (10 ^ 12), .inr "", .inr "a", .inr "b b", .inr "Z", .inr "where", .inr "0", .inr "~ (x)", .inr "a where b", .inr " is "]
def DIG : Str := "'-0123456789"
def KWS : List (List Nat) := [q "all", q "count", q "sum", q "least", q "most", q "groups", q "not", q "(", q ")", q "and", q "or", q "where", q "of", q "show", q "is"]
def hd1 (w : List Nat) : Bool := match w with
  | [] => false
  | c :: _ => decide (c ∈ q DIG)
/-- the value of a word, plainly -/
def valV (l : List Nat) : Option Vl := if quB l = true then (if vtB (cutD l (some 1) (some (-1))) = true then some (.inr (SX.S (cutD l (some 1) (some (-1))))) else none)
  else if nuB l = true then (match PySem.intText? (SX.S l) with
    | some i => if viB i = true then some (.inl i) else none
    | none => none) else none
theorem valW_of (l : List Nat) : valW l = (valV l).map dv := by
  unfold valW valV numD
  by_cases h : quB l = true
  · rw [if_pos h, if_pos h]
    split <;> rfl
  · rw [if_neg h, if_neg h]
    by_cases h2 : nuB l = true
    · rw [if_pos h2, if_pos h2]
      cases e : PySem.intText? (SX.S l) with
      | none => rfl
      | some i =>
        dsimp only
        split <;> rfl
    · rw [if_neg h2, if_neg h2]; rfl
def okC (a b : List Nat) : Bool := decide (TL.spl [46] 0 [] (wdC (a, b)) = [a, b]) && nmB a && nmB b && !hd1 (wdC (a, b)) && decide (a.length ≤ 8) && decide (b.length ≤ 8) && KWS.all (fun k => !decide (wdC (a, b) = k)) && decide (wdC (a, b) ≠ [])
theorem okC_all : (TAB.all fun a => NAM.all fun b => okC a b) = true := by decide +kernel
def okV (v : Vl) : Bool := decide (valV (wdV v) = some v) && hd1 (wdV v) && decide ((wdV v).length ≤ 20) && (!nuB (wdV v) || (PySem.intText? (SX.S (wdV v))).isSome) && decide (wdV v ≠ [])
theorem okV_all : (MENU.all okV) = true := by decide +kernel
theorem okC_at {a b : List Nat} (ha : a ∈ TAB) (hb : b ∈ NAM) : okC a b = true := List.all_eq_true.mp (List.all_eq_true.mp okC_all a ha) b hb
theorem okV_at {v : Vl} (h : v ∈ MENU) : okV v = true := List.all_eq_true.mp okV_all v h
def gc (c : Cl) : Prop := c.1 ∈ TAB ∧ c.2 ∈ NAM
theorem dv_tx (x : Str) : D.str x = tx (q x) := (tx_q x).symm
theorem sig_eq : D.kt [(.str "="), (.str "#"), (.str "<"), (.str ">"), (.str "<="), (.str ">=")] = .kt (SIG.map tx) := by
  simp only [SIG, List.map_cons, List.map_nil, tx_q]
section
variable {n m k : Nat} {S : Store} {ws : List (List Nat)} {j : Int} (hS : S[m]? = some (.lst (ws.map tx)))
include hS
theorem r_col {c : Cl} (hc : gc c) (hj : j = k) (h : ws[k]? = some (wdC c)) : run tab (n + 2) 8 [.ref m, .int j] S = .ok (dcl c) S := by
  obtain ⟨a, b⟩ := c
  have o := okC_at hc.1 hc.2
  unfold okC at o
  simp only [Bool.and_eq_true, decide_eq_true_eq] at o
  obtain ⟨⟨⟨⟨⟨⟨⟨o1, o2⟩, o3⟩, o4⟩, o5⟩, o6⟩, o7⟩, o8⟩ := o
  exact r_column_at hS hj h o1 o2 o3 (by simp [wdC]; omega) (show a.length ≤ 640 by omega) (show b.length ≤ 640 by omega)
/-- a test's column and sign -/
theorem test_head {c : Cl} {s : List Nat} {r : List Stm} (hc : gc c) (hs : s ∈ SIG) (hj : j = k) (h1 : ws[k]? = some (wdC c)) (h2 : ws[k + 1]? = some s) :
    exSs (run tab (n + 2)) (b9.take 3 ++ r) [some (.ref m), some (.int j), none, none, none] S = exSs (run tab (n + 2)) r [some (.ref m), some (.int j), some (dcl c), some (tx s), none] S := by
  have e1 := r_col (n := n) hS hc hj h1
  have e2 := r_at (n := n + 1) (j := j + 1) hS (by omega) h2
  refine (y_set (dcl c) ?_).trans ?_
  · simp [e1]
  refine (y_set (tx s) ?_).trans ?_
  · simp [e2, add_ok]
  refine (y_if0 ?_).trans rfl
  rw [sig_eq]
  simp [nin_kt, hs]
theorem r_test_v {c : Cl} {s : List Nat} {v : Vl} (hc : gc c) (hs : s ∈ SIG) (hv : v ∈ MENU) (hj : j = k) (h1 : ws[k]? = some (wdC c)) (h2 : ws[k + 1]? = some s) (h3 : ws[k + 2]? = some (wdV v)) :
    run tab (n + 3) 9 [.ref m, .int j] S = .ok (.tup [.tup [.str "test", dcl c, tx s, .tup [.str "value", dv v]], .int (j + 3)]) S := by
  have o := okV_at hv
  unfold okV at o
  simp only [Bool.and_eq_true, decide_eq_true_eq, Bool.or_eq_true, Bool.not_eq_true'] at o
  obtain ⟨⟨⟨⟨o1, o2⟩, o3⟩, o4⟩, o5⟩ := o
  have e3 := r_at (n := n + 1) (j := j + 2) hS (by omega) h3
  have ev := r_value (n := n) (S := S) (l := wdV v) (by omega) (fun h => by
    rcases o4 with q | q
    · rw [h] at q; cases q
    · exact Option.isSome_iff_exists.mp q)
  rw [valW_of, o1] at ev
  have ev : run tab (n + 2) 4 [tx (wdV v)] S = .ok (dv v) S := ev
  have hu : (dv v).und S.length = true := by cases v <;> simp [dv]
  obtain ⟨c0, r0, ew⟩ : ∃ c0 r0, wdV v = c0 :: r0 := by
    cases h : wdV v with
    | nil => exact absurd h o5
    | cons a b => exact ⟨a, b, rfl⟩
  have hin : decide (c0 ∈ q DIG) = true := by
    unfold hd1 at o2
    rw [ew] at o2
    exact o2
  have i0 := ix0_q (S := S) (l := wdV v) (c := c0) (by rw [ew]; rfl) (Nat.le_trans (by omega : _ ≤ 640) (by decide))
  obtain ⟨w, hw⟩ : ∃ w, w = wdV v := ⟨_, rfl⟩
  rw [← hw] at e3 ev i0
  refine r_run (F := ⟨2, 5, b9⟩) rfl rfl ?_ (pack_same (by simp [dcl, hu]))
  refine Rt.go (test_head hS hc hs hj h1 h2 (r := b9.drop 3)) ?_
  refine Rt.go (y_set (tx w) (by simp [e3, add_ok])) ?_
  refine Rt.fin (y_if1 ?_ ?_)
  · have hd : c0 ∈ ("'-0123456789" : Str).cps := by
      have := of_decide_eq_true hin
      simpa [q, DIG] using this
    simp [i0, in_q, hd]
  · simp [ev, sz2, sz4, add_ok]
theorem r_test_c {c c2 : Cl} {s : List Nat} (hc : gc c) (hs : s ∈ SIG) (hc2 : gc c2) (hj : j = k) (h1 : ws[k]? = some (wdC c)) (h2 : ws[k + 1]? = some s) (h3 : ws[k + 2]? = some (wdC c2)) :
    run tab (n + 3) 9 [.ref m, .int j] S = .ok (.tup [.tup [.str "test", dcl c, tx s, .tup [.str "column", dcl c2]], .int (j + 3)]) S := by
  obtain ⟨a, b⟩ := c2
  have o := okC_at hc2.1 hc2.2
  unfold okC at o
  simp only [Bool.and_eq_true, decide_eq_true_eq, Bool.not_eq_true'] at o
  obtain ⟨⟨⟨⟨⟨⟨⟨o1, o2⟩, o3⟩, o4⟩, o5⟩, o6⟩, o7⟩, o8⟩ := o
  have e3 := r_at (n := n + 1) (j := j + 2) hS (by omega) h3
  have ev := r_col (n := n) (j := j + 2) hS hc2 (by omega) h3
  obtain ⟨c0, r0, ew⟩ : ∃ c0 r0, wdC (a, b) = c0 :: r0 := by
    cases h : wdC (a, b) with
    | nil => exact absurd h o8
    | cons a b => exact ⟨a, b, rfl⟩
  have hin : decide (c0 ∈ q DIG) = false := by
    unfold hd1 at o4
    rw [ew] at o4
    exact o4
  have hl : (wdC (a, b)).length ≤ 640 := by simp only [wdC, List.length_append, List.length_cons]; omega
  have i0 := ix0_q (S := S) (l := wdC (a, b)) (c := c0) (by rw [ew]; rfl) (Nat.le_trans hl (by decide))
  obtain ⟨w, hw⟩ : ∃ w, w = wdC (a, b) := ⟨_, rfl⟩
  obtain ⟨d, hd⟩ : ∃ d, d = dcl (a, b) := ⟨_, rfl⟩
  have hu : d.und S.length = true := by rw [hd]; simp [dcl]
  rw [← hw] at e3 i0
  rw [← hd] at ev ⊢
  refine r_run (F := ⟨2, 5, b9⟩) rfl rfl ?_ (pack_same (by simp [dcl, hu]))
  refine Rt.go (test_head hS hc hs hj h1 h2 (r := b9.drop 3)) ?_
  refine Rt.go (y_set (tx w) (by simp [e3, add_ok])) ?_
  refine Rt.go (y_if0 ?_) (Rt.fin (y_ret ?_))
  · have hd : ¬ c0 ∈ ("'-0123456789" : Str).cps := by
      have := of_decide_eq_false hin
      simpa [q, DIG] using this
    simp [i0, in_q, hd]
  · simp [ev, sz2, sz4, add_ok]
end
end Mi.L

namespace Mi.L
open PySem Mi
/-! ### conditions -/
inductive Cn where
  | tv (c : Cl) (s : List Nat) (v : Vl) | tc (c : Cl) (s : List Nat) (c2 : Cl) | no (x : Cn) | g2 (k : Bool) (x y : Cn) | g3 (k : Bool) (x y z : Cn)
def kw (k : Bool) : List Nat := if k = true then q "and" else q "or"
def enc : Cn → D
  | .tv c s v => .tup [.str "test", dcl c, tx s, .tup [.str "value", dv v]]
  | .tc c s c2 => .tup [.str "test", dcl c, tx s, .tup [.str "column", dcl c2]]
  | .no x => .tup [.str "not", enc x]
  | .g2 k x y => .tup [tx (kw k), .tup [enc x, enc y]]
  | .g3 k x y z => .tup [tx (kw k), .tup [enc x, enc y, enc z]]
def wds : Cn → List (List Nat)
  | .tv c s v => [wdC c, s, wdV v]
  | .tc c s c2 => [wdC c, s, wdC c2]
  | .no x => q "not" :: wds x
  | .g2 k x y => q "(" :: (wds x ++ kw k :: (wds y ++ [q ")"]))
  | .g3 k x y z => q "(" :: (wds x ++ kw k :: (wds y ++ kw k :: (wds z ++ [q ")"])))
def gd : Cn → Prop
  | .tv c s v => gc c ∧ s ∈ SIG ∧ v ∈ MENU
  | .tc c s c2 => gc c ∧ s ∈ SIG ∧ gc c2
  | .no x => gd x
  | .g2 _ x y => gd x ∧ gd y
  | .g3 _ x y z => gd x ∧ gd y ∧ gd z
def dp : Cn → Nat
  | .tv _ _ _ => 0
  | .tc _ _ _ => 0
  | .no x => dp x + 1
  | .g2 _ x y => max (dp x) (dp y) + 1
  | .g3 _ x y z => max (dp x) (max (dp y) (dp z)) + 1
theorem und_enc (k : Nat) : ∀ c : Cn, (enc c).und k = true
  | .tv c s v => by cases v <;> simp [enc, dcl, dv]
  | .tc c s c2 => by simp [enc, dcl]
  | .no x => by simp [enc, und_enc k x]
  | .g2 b x y => by simp [enc, und_enc k x, und_enc k y]
  | .g3 b x y z => by simp [enc, und_enc k x, und_enc k y, und_enc k z]
theorem nin3 {S : Store} {w : List Nat} : p2 .nin (.val (tx w)) (.val (.tup [.str ")", .str "and", .str "or"])) S = .ok (.val (.bl (!decide (w ∈ [q ")", q "and", q "or"])))) S := by
  have := nin_tup (S := S) (x := w) (ws := [q ")", q "and", q "or"])
  simpa only [List.map_cons, List.map_nil, tx_q] using this
theorem nin2 {S : Store} {w k : List Nat} : p2 .nin (.val (tx k)) (.val (.tup [.str "", tx w])) S = .ok (.val (.bl (!decide (k ∈ [[], w])))) S := by
  have := nin_tup (S := S) (x := k) (ws := [q "", w])
  simp only [List.map_cons, List.map_nil, tx_q] at this
  rw [qE] at this
  exact this
theorem kw_ok (k : Bool) : kw k ∈ [q ")", q "and", q "or"] ∧ kw k ≠ q ")" ∧ kw k ≠ [] := by
  cases k <;> decide +kernel
theorem rb_ok : q ")" ∈ [q ")", q "and", q "or"] := List.mem_cons_self
section
variable {N m j j2 : Nat} {d : Int} {S : Store} {ps : List D} {kd jt w : List Nat} {e : D} {x : Option D}
/-- one turn within brackets -/
theorem turnG (hc : run tab N 11 [.ref m, .int j, .int d] (S ++ [.lst ps]) = .ok (.tup [e, .int j2]) (S ++ [.lst ps])) (hw : run tab N 5 [.ref m, .int j2] (S ++ [.lst (ps ++ [e])]) = .ok (tx w) (S ++ [.lst (ps ++ [e])])) (hz : ps.length < 100)
    (h1 : w ∈ [q ")", q "and", q "or"]) (h2 : w ≠ q ")" → kd ∈ [[], w]) :
    exSs (run tab N) b10_0 [some (.ref m), some (.int j), some (.int d), some (tx kd), some (.ref S.length), some (tx jt), x] (S ++ [.lst ps]) =
      .ok .nx [some (.ref m), some (.int ((j2 + 1 : Nat) : Int)), some (.int d), some (tx (if w = q ")" then kd else w)), some (.ref S.length), some (tx w), some e] (S ++ [.lst (ps ++ [e])]) := by
  have hS : (S ++ [O.lst ps])[S.length]? = some (.lst ps) := at_new
  have hk := isK_at hS
  have ap := app_at (w := e) hS (Nat.lt_of_lt_of_le hz (by decide))
  rw [set_new] at ap
  obtain ⟨T, hT⟩ : ∃ T, T = S ++ [O.lst ps] := ⟨_, rfl⟩
  obtain ⟨T2, hT2⟩ : ∃ T2, T2 = S ++ [O.lst (ps ++ [e])] := ⟨_, rfl⟩
  rw [← hT] at hc hk ap ⊢
  rw [← hT2] at hw ap ⊢
  refine (y_tp (ρ' := [some (.ref m), some (.int j2), some (.int d), some (tx kd), some (.ref S.length), some (tx jt), some e]) [e, .int j2] ?_ rfl).trans ?_
  · simp [hc]
  refine (x_exp (w := .val .non) (S' := T2) ?_).trans ?_
  · simp [hk, ap]
  refine (y_set (tx w) ?_).trans ?_
  · simp [hw]
  obtain ⟨ρ, hρ⟩ : ∃ ρ : Env, ρ = [some (.ref m), some (.int j2), some (.int d), some (tx kd), some (.ref S.length), some (tx w), some e] := ⟨_, rfl⟩
  show exSs (run tab N) (b10_0.drop 3) [some (.ref m), some (.int j2), some (.int d), some (tx kd), some (.ref S.length), some (tx w), some e] T2 = _
  rw [← hρ]
  have v3 : ∀ T, evK (run tab N) (.v 3) ρ T = .ok (.val (tx kd)) T := fun T => e_v (by rw [hρ]; rfl)
  have v5 : ∀ T, evK (run tab N) (.v 5) ρ T = .ok (.val (tx w)) T := fun T => e_v (by rw [hρ]; rfl)
  refine (y_if0 ?_).trans ?_
  · have t3 : evK (run tab N) (.tup [(.c (.str ")")), (.c (.str "and")), (.c (.str "or"))]) ρ T2 = .ok (.val (.tup [.str ")", .str "and", .str "or"])) T2 := by simp [sz3]
    have t2 : evK (run tab N) (.tup [(.c (.str "")), (.v 5)]) ρ T2 = .ok (.val (.tup [.str "", tx w])) T2 := by simp [v5, sz2]
    simp only [e_B, e_or, e_and, e_p2, t3, t2, v3, v5, e_c, bd_ok', vv_ok', nin3, nin2, ne_q, toB_bl, h1, decide_true, Bool.not_true, Bool.false_eq_true, if_false]
    by_cases hb : w = q ")"
    · simp only [hb, decide_true, Bool.not_true, Bool.false_eq_true, if_false, bd_ok', toB_bl]
    · have h2 := h2 hb
      have hb' : decide (w = q ")") = false := decide_eq_false hb
      simp only [hb', Bool.not_false, if_true, h2, decide_true, Bool.not_true, bd_ok', toB_bl]
  have fin : ∀ (k2 : List Nat) (r : Env), r = [some (.ref m), some (.int j2), some (.int d), some (tx k2), some (.ref S.length), some (tx w), some e] → exSs (run tab N) [.aug 1 .add (.c (.int 1))] r T2 = .ok .nx [some (.ref m), some (.int ((j2 + 1 : Nat) : Int)), some (.int d), some (tx k2), some (.ref S.length), some (tx w), some e] T2 := by
    intro k2 r hr
    rw [x_aug (x := .int j2) (d := .int ((j2 + 1 : Nat) : Int)) (w := .val (.int 1)) (S' := T2) (by rw [hr]; rfl) (by simp) rfl, x_nil, hr]
    rfl
  by_cases hb : w = q ")"
  · rw [if_pos hb]
    refine (y_if0 ?_).trans (fin kd ρ hρ)
    simp only [e_B, e_p2, v5, e_c, bd_ok', ne_q, toB_bl, hb, decide_true, Bool.not_true]
  · rw [if_neg hb]
    have hb' : decide (w = q ")") = false := decide_eq_false hb
    refine (y_ift ?_).trans ?_
    · simp only [e_B, e_p2, v5, e_c, bd_ok', ne_q, toB_bl, hb', Bool.not_false]
    rw [y_set (tx w) (by simp only [e_D, v5, bd_ok', toD_val]), x_nil]
    exact fin w _ (by rw [hρ]; rfl)
end
end Mi.L

namespace Mi.L
open PySem Mi
def fu : Cn → Nat
  | .tv _ _ _ => 4
  | .tc _ _ _ => 4
  | .no x => fu x + 1
  | .g2 _ x y => max (fu x) (fu y) + 2
  | .g3 _ x y z => max (fu x) (max (fu y) (fu z)) + 2
theorem get_drop {α : Type} {ws l : List α} {k : Nat} (h : ws.drop k = l) (i : Nat) : ws[k + i]? = l[i]? := by rw [← h, List.getElem?_drop]
theorem drop_app {α : Type} {ws a l : List α} {k : Nat} (h : ws.drop k = a ++ l) : ws.drop (k + a.length) = l := by
  rw [← List.drop_drop, h, List.drop_left]
theorem drop_one {α : Type} {ws l : List α} {a : α} {k : Nat} (h : ws.drop k = a :: l) : ws.drop (k + 1) = l := drop_app (a := [a]) h
section
variable {N m k : Nat} {j d : Int} {S : Store} {ws : List (List Nat)} {w : List Nat}
theorem cond_head {r : List Stm} (hS : S[m]? = some (.lst (ws.map tx))) (hj : j = k) (hd : d < 5) (h : ws[k]? = some w) :
    exSs (run tab (N + 1)) (b11.take 2 ++ r) [some (.ref m), some (.int j), some (.int d), none, none, none] S = exSs (run tab (N + 1)) r [some (.ref m), some (.int j), some (.int d), some (tx w), none, none] S := by
  have e1 := r_at (n := N) hS hj h
  refine (y_if0 ?_).trans ?_
  · have : decide (5 ≤ d) = false := decide_eq_false (by omega)
    simp [ge_ii, this]
  refine (y_set (tx w) (by simp [e1])).trans rfl
/-- what is neither not nor a bracket -/
theorem cond_test {t : D} (hS : S[m]? = some (.lst (ws.map tx))) (hj : j = k) (hd : d < 5) (h : ws[k]? = some w) (h1 : w ≠ q "not") (h2 : w ≠ q "(") (hu : t.und S.length = true) (hc : run tab (N + 1) 9 [.ref m, .int j] S = .ok t S) : run tab (N + 2) 11 [.ref m, .int j, .int d] S = .ok t S := by
  refine r_run (F := ⟨3, 6, b11⟩) rfl rfl ?_ (pack_same hu)
  refine Rt.go (cond_head hS hj hd h (r := b11.drop 2)) ?_
  refine Rt.go (y_if0 (by simp [eq_q, h1])) (Rt.go (y_if0 (by simp [eq_q, h2])) (Rt.fin (y_ret (by simp [hc]))))
theorem colw {c : Cl} (h : gc c) : wdC c ≠ q "not" ∧ wdC c ≠ q "(" := by
  obtain ⟨a, b⟩ := c
  have o := okC_at h.1 h.2
  unfold okC at o
  simp only [Bool.and_eq_true, decide_eq_true_eq, Bool.not_eq_true', List.all_eq_true, decide_eq_false_iff_not] at o
  exact ⟨o.1.2 _ (by simp [KWS]), o.1.2 _ (by simp [KWS])⟩
theorem wh_end {P : Store} {kd : List Nat} {x : Option D} {jj : Int} {C : CF} {n : Nat} : whileF (evB C (.p2 .ne (.v 5) (.c (.str ")")))) (exSs C b10_0) (n + 1) [some (.ref m), some (.int jj), some (.int d), some (tx kd), some (.ref S.length), some (tx (q ")")), x] P =
    some (.ok .nx [some (.ref m), some (.int jj), some (.int d), some (tx kd), some (.ref S.length), some (tx (q ")")), x] P) := by
  refine whileF_end ?_
  have v5 : evK C (.v 5) [some (.ref m), some (.int jj), some (.int d), some (tx kd), some (.ref S.length), some (tx (q ")")), x] P = .ok (.val (tx (q ")"))) P := e_v rfl
  simp only [e_B, e_p2, v5, e_c, bd_ok', ne_q, toB_bl, decide_true, Bool.not_true]
theorem wh_go {P : Store} {kd jt : List Nat} {x : Option D} {jj : Int} {C : CF} (hjt : jt ≠ q ")") : evB C (.p2 .ne (.v 5) (.c (.str ")"))) [some (.ref m), some (.int jj), some (.int d), some (tx kd), some (.ref S.length), some (tx jt), x] P = .ok true P := by
  have v5 : evK C (.v 5) [some (.ref m), some (.int jj), some (.int d), some (tx kd), some (.ref S.length), some (tx jt), x] P = .ok (.val (tx jt)) P := e_v rfl
  simp only [e_B, e_p2, v5, e_c, bd_ok', ne_q, toB_bl, decide_eq_false hjt, Bool.not_false]
theorem qrb : ([] : List Nat) ≠ q ")" := by decide +kernel
/-- the end of a bracket -/
theorem grp_end {C : CF} {ps : List D} {kd jt : List Nat} {x : Option D} {jj : Int} (hk : kd ≠ []) : exSs C (b10.drop 4) [some (.ref m), some (.int jj), some (.int d), some (tx kd), some (.ref S.length), some (tx jt), x] (S ++ [.lst ps]) =
    .ok (.rt (.tup [.tup [tx kd, .tup ps], .int jj])) [some (.ref m), some (.int jj), some (.int d), some (tx kd), some (.ref S.length), some (tx jt), x] (S ++ [.lst ps]) := by
  have hS : (S ++ [O.lst ps])[S.length]? = some (.lst ps) := at_new
  have tp : p1 .tuple_ (.val (.ref S.length)) (S ++ [O.lst ps]) = .ok (.val (.tup ps)) (S ++ [O.lst ps]) := by
    show (match W.seq (S ++ [O.lst ps]) (.val (.ref S.length)) with
      | some (_, ds) => vv (.tup ds) (S ++ [O.lst ps])
      | none => .bad) = _
    rw [seq_at hS]; rfl
  refine (y_if0 (by simp [eq_q, qE, hk])).trans (y_ret (by simp [tp, sz2]))
theorem grp2 {x y : Cn} {b : Bool} {post : List (List Nat)} (hS : S[m]? = some (.lst (ws.map tx))) (hd : ws.drop k = wds x ++ kw b :: (wds y ++ q ")" :: post))
    (hx : ∀ T, T[m]? = some (.lst (ws.map tx)) → run tab (N + 1) 11 [.ref m, .int (k : Nat), .int d] T = .ok (.tup [enc x, .int ((k + (wds x).length : Nat) : Int)]) T)
    (hy : ∀ T, T[m]? = some (.lst (ws.map tx)) → run tab (N + 1) 11 [.ref m, .int ((k + (wds x).length + 1 : Nat) : Int), .int d] T = .ok (.tup [enc y, .int ((k + (wds x).length + 1 + (wds y).length : Nat) : Int)]) T) :
    run tab (N + 2) 10 [.ref m, .int (k : Nat), .int d] S = .ok (.tup [.tup [tx (kw b), .tup [enc x, enc y]], .int ((k + (wds x).length + 1 + (wds y).length + 1 : Nat) : Int)]) S := by
  have hm : ∀ T, (S ++ T)[m]? = some (.lst (ws.map tx)) := fun T => by rw [List.getElem?_append_left (List.getElem?_eq_some_iff.mp hS).1]; exact hS
  have w1 : ws[k + (wds x).length]? = some (kw b) := by rw [get_drop hd]; simp
  have d2 := drop_one (drop_app hd)
  have w2 : ws[k + (wds x).length + 1 + (wds y).length]? = some (q ")") := by rw [get_drop d2]; simp
  have a1 := fun T => r_at (n := N) (j := ((k + (wds x).length : Nat) : Int)) (hm T) rfl w1
  have a2 := fun T => r_at (n := N) (j := ((k + (wds x).length + 1 + (wds y).length : Nat) : Int)) (hm T) rfl w2
  have t1 := turnG (N := N + 1) (S := S) (ps := []) (kd := []) (jt := []) (x := none) (hx _ (hm _)) (a1 _) (by simp) (kw_ok b).1 (fun _ => by simp)
  have t2 := turnG (N := N + 1) (S := S) (ps := [enc x]) (kd := kw b) (jt := kw b) (x := some (enc x)) (hy _ (hm _)) (a2 _) (by simp) rb_ok (fun h => absurd rfl h)
  rw [if_neg (kw_ok b).2.1] at t1
  rw [if_pos rfl] at t2
  refine r_run (F := ⟨3, 7, b10⟩) (S' := S ++ [.lst [enc x, enc y]]) rfl rfl ?_ (pack_app (by simp [und_enc]))
  show Rt (exSs (run tab (N + 1)) b10 [some (.ref m), some (.int (k : Nat)), some (.int d), none, none, none, none] S) _ _
  refine Rt.go (y_set (tx []) (by simp [str_nil])) ?_
  refine Rt.go (x_set (d := .ref S.length) (S' := S ++ [.lst []]) (by simp)) ?_
  refine Rt.go (y_set (tx []) (by simp [str_nil])) ?_
  refine Rt.go (x_whl (n := 3) (whileF_go (wh_go qrb) t1 (whileF_go (wh_go (kw_ok b).2.1) t2 wh_end))) ?_
  exact Rt.fin (grp_end (kw_ok b).2.2)
theorem grp3 {x y z : Cn} {b : Bool} {post : List (List Nat)} (hS : S[m]? = some (.lst (ws.map tx))) (hd : ws.drop k = wds x ++ kw b :: (wds y ++ kw b :: (wds z ++ q ")" :: post)))
    (hx : ∀ T, T[m]? = some (.lst (ws.map tx)) → run tab (N + 1) 11 [.ref m, .int (k : Nat), .int d] T = .ok (.tup [enc x, .int ((k + (wds x).length : Nat) : Int)]) T)
    (hy : ∀ T, T[m]? = some (.lst (ws.map tx)) → run tab (N + 1) 11 [.ref m, .int ((k + (wds x).length + 1 : Nat) : Int), .int d] T = .ok (.tup [enc y, .int ((k + (wds x).length + 1 + (wds y).length : Nat) : Int)]) T)
    (hz : ∀ T, T[m]? = some (.lst (ws.map tx)) → run tab (N + 1) 11 [.ref m, .int ((k + (wds x).length + 1 + (wds y).length + 1 : Nat) : Int), .int d] T = .ok (.tup [enc z, .int ((k + (wds x).length + 1 + (wds y).length + 1 + (wds z).length : Nat) : Int)]) T) :
    run tab (N + 2) 10 [.ref m, .int (k : Nat), .int d] S = .ok (.tup [.tup [tx (kw b), .tup [enc x, enc y, enc z]], .int ((k + (wds x).length + 1 + (wds y).length + 1 + (wds z).length + 1 : Nat) : Int)]) S := by
  have hm : ∀ T, (S ++ T)[m]? = some (.lst (ws.map tx)) := fun T => by rw [List.getElem?_append_left (List.getElem?_eq_some_iff.mp hS).1]; exact hS
  have w1 : ws[k + (wds x).length]? = some (kw b) := by rw [get_drop hd]; simp
  have d2 := drop_one (drop_app hd)
  have w2 : ws[k + (wds x).length + 1 + (wds y).length]? = some (kw b) := by rw [get_drop d2]; simp
  have d3 := drop_one (drop_app d2)
  have w3 : ws[k + (wds x).length + 1 + (wds y).length + 1 + (wds z).length]? = some (q ")") := by rw [get_drop d3]; simp
  have a1 := fun T => r_at (n := N) (j := ((k + (wds x).length : Nat) : Int)) (hm T) rfl w1
  have a2 := fun T => r_at (n := N) (j := ((k + (wds x).length + 1 + (wds y).length : Nat) : Int)) (hm T) rfl w2
  have a3 := fun T => r_at (n := N) (j := ((k + (wds x).length + 1 + (wds y).length + 1 + (wds z).length : Nat) : Int)) (hm T) rfl w3
  have t1 := turnG (N := N + 1) (S := S) (ps := []) (kd := []) (jt := []) (x := none) (hx _ (hm _)) (a1 _) (by simp) (kw_ok b).1 (fun _ => by simp)
  have t2 := turnG (N := N + 1) (S := S) (ps := [enc x]) (kd := kw b) (jt := kw b) (x := some (enc x)) (hy _ (hm _)) (a2 _) (by simp) (kw_ok b).1 (fun _ => by simp)
  have t3 := turnG (N := N + 1) (S := S) (ps := [enc x, enc y]) (kd := kw b) (jt := kw b) (x := some (enc y)) (hz _ (hm _)) (a3 _) (by simp) rb_ok (fun h => absurd rfl h)
  rw [if_neg (kw_ok b).2.1] at t1 t2
  rw [if_pos rfl] at t3
  refine r_run (F := ⟨3, 7, b10⟩) (S' := S ++ [.lst [enc x, enc y, enc z]]) rfl rfl ?_ (pack_app (by simp [und_enc]))
  show Rt (exSs (run tab (N + 1)) b10 [some (.ref m), some (.int (k : Nat)), some (.int d), none, none, none, none] S) _ _
  refine Rt.go (y_set (tx []) (by simp [str_nil])) ?_
  refine Rt.go (x_set (d := .ref S.length) (S' := S ++ [.lst []]) (by simp)) ?_
  refine Rt.go (y_set (tx []) (by simp [str_nil])) ?_
  refine Rt.go (x_whl (n := 4) (whileF_go (wh_go qrb) t1 (whileF_go (wh_go (kw_ok b).2.1) t2 (whileF_go (wh_go (kw_ok b).2.1) t3 wh_end)))) ?_
  exact Rt.fin (grp_end (kw_ok b).2.2)
end
end Mi.L

namespace Mi.L
open PySem Mi
theorem r_cond : ∀ (c : Cn) {N m k : Nat} {j d : Int} {S : Store} {ws post : List (List Nat)}, S[m]? = some (.lst (ws.map tx)) → ws.drop k = wds c ++ post → j = (k : Nat) → 0 ≤ d → d + dp c < 5 → gd c → fu c ≤ N →
    run tab N 11 [.ref m, .int j, .int d] S = .ok (.tup [enc c, .int ((k + (wds c).length : Nat) : Int)]) S
  | .tv c s v, N, m, k, j, d, S, ws, post, hS, hd, hj, h0, h5, hg, hN => by
    obtain ⟨n, rfl⟩ : ∃ n, N = n + 4 := ⟨N - 4, by unfold fu at hN; omega⟩
    subst hj
    have g := fun i => get_drop hd i
    unfold wds at g
    have t := r_test_v (n := n) hS hg.1 hg.2.1 hg.2.2 (j := (k : Int)) (k := k) rfl (g 0) (g 1) (g 2)
    unfold dp at h5
    rw [show D.tup [.str "test", dcl c, tx s, .tup [.str "value", dv v]] = enc (.tv c s v) by rw [enc]] at t
    exact cond_test (N := n + 2) hS rfl (by omega) (g 0) (colw hg.1).1 (colw hg.1).2 (by simp [und_enc]) t
  | .tc c s c2, N, m, k, j, d, S, ws, post, hS, hd, hj, h0, h5, hg, hN => by
    obtain ⟨n, rfl⟩ : ∃ n, N = n + 4 := ⟨N - 4, by unfold fu at hN; omega⟩
    subst hj
    have g := fun i => get_drop hd i
    unfold wds at g
    have t := r_test_c (n := n) hS hg.1 hg.2.1 hg.2.2 (j := (k : Int)) (k := k) rfl (g 0) (g 1) (g 2)
    unfold dp at h5
    rw [show D.tup [.str "test", dcl c, tx s, .tup [.str "column", dcl c2]] = enc (.tc c s c2) by rw [enc]] at t
    exact cond_test (N := n + 2) hS rfl (by omega) (g 0) (colw hg.1).1 (colw hg.1).2 (by simp [und_enc]) t
  | .no x, N, m, k, j, d, S, ws, post, hS, hd, hj, h0, h5, hg, hN => by
    unfold fu at hN
    have f1 : 1 ≤ fu x := by cases x <;> (unfold fu; omega)
    obtain ⟨n, rfl⟩ : ∃ n, N = n + 2 := ⟨N - 2, by omega⟩
    subst hj
    unfold dp at h5
    unfold wds at hd
    have ih := r_cond x (N := n + 1) (k := k + 1) (j := (k : Int) + 1) (d := d + 1) hS (drop_one hd) (by omega) (by omega) (by omega) hg (by omega)
    have g0 : ws[k]? = some (q "not") := by have := get_drop hd 0; exact this
    refine r_run (F := ⟨3, 6, b11⟩) rfl rfl ?_ (pack_same (by simp [und_enc, enc]))
    refine Rt.go (cond_head (N := n) hS rfl (by omega) g0 (r := b11.drop 2)) ?_
    have hl : k + (wds (.no x)).length = k + 1 + (wds x).length := by rw [wds]; simp; omega
    rw [hl]
    have v3 : ∀ T, evK (run tab (n + 1)) (.v 3) [some (.ref m), some (.int k), some (.int d), some (tx (q "not")), none, none] T = .ok (.val (tx (q "not"))) T := fun T => e_v rfl
    obtain ⟨e, he⟩ : ∃ e, e = enc x := ⟨_, rfl⟩
    rw [← he] at ih
    have hen : enc (.no x) = .tup [.str "not", e] := by unfold enc; rw [he]
    rw [hen]
    refine Rt.go (y_ift (by simp [eq_q])) ?_
    rw [y_tp (ρ' := [some (.ref m), some (.int k), some (.int d), some (tx (q "not")), some e, some (.int ((k + 1 + (wds x).length : Nat) : Int))]) [e, .int ((k + 1 + (wds x).length : Nat) : Int)] (by simp [ih, add_ok]) rfl,
      y_ret (d := .tup [.tup [.str "not", e], .int ((k + 1 + (wds x).length : Nat) : Int)]) (by simp [sz2])]
    exact Rt.fin rfl
  | .g2 b x y, N, m, k, j, d, S, ws, post, hS, hd, hj, h0, h5, hg, hN => by
    unfold fu at hN
    have f1 : 1 ≤ fu x := by cases x <;> (unfold fu; omega)
    obtain ⟨n, rfl⟩ : ∃ n, N = n + 3 := ⟨N - 3, by omega⟩
    subst hj
    unfold dp at h5
    unfold wds at hd
    have d1 := drop_one hd
    have d1 : ws.drop (k + 1) = wds x ++ kw b :: (wds y ++ q ")" :: post) := by rw [d1]; simp
    have d2 := drop_one (drop_app d1)
    have hx := fun T hT => r_cond x (N := n + 1) (m := m) (k := k + 1) (j := ((k + 1 : Nat) : Int)) (d := d + 1) (S := T) hT d1 rfl (by omega) (by omega) hg.1 (by omega)
    have hy := fun T hT => r_cond y (N := n + 1) (m := m) (k := k + 1 + (wds x).length + 1) (j := ((k + 1 + (wds x).length + 1 : Nat) : Int)) (d := d + 1) (S := T) hT d2 rfl (by omega) (by omega) hg.2 (by omega)
    have gr := grp2 (N := n) hS d1 hx hy
    have g0 : ws[k]? = some (q "(") := by have := get_drop hd 0; exact this
    refine r_run (F := ⟨3, 6, b11⟩) rfl rfl ?_ (pack_same (by simp [und_enc]))
    refine Rt.go (cond_head (N := n + 1) hS rfl (by omega) g0 (r := b11.drop 2)) ?_
    have hn : q "(" ≠ q "not" := by decide +kernel
    have hl : k + (wds (.g2 b x y)).length = k + 1 + (wds x).length + 1 + (wds y).length + 1 := by
      rw [wds]; simp; omega
    rw [hl]
    obtain ⟨e, he⟩ : ∃ e, e = D.tup [tx (kw b), .tup [enc x, enc y]] := ⟨_, rfl⟩
    have hen : enc (.g2 b x y) = e := by rw [he, enc]
    rw [← he] at gr
    rw [hen]
    refine Rt.go (y_if0 (by simp [eq_q, hn])) (Rt.fin (y_if1 (by simp [eq_q]) ?_))
    have v0 : ∀ T, evK (run tab (n + 2)) (.v 0) [some (.ref m), some (.int k), some (.int d), some (tx (q "(")), none, none] T = .ok (.val (.ref m)) T := fun T => e_v rfl
    have v1 : ∀ T, evK (run tab (n + 2)) (.v 1) [some (.ref m), some (.int k), some (.int d), some (tx (q "(")), none, none] T = .ok (.val (.int k)) T := fun T => e_v rfl
    have v2 : ∀ T, evK (run tab (n + 2)) (.v 2) [some (.ref m), some (.int k), some (.int d), some (tx (q "(")), none, none] T = .ok (.val (.int d)) T := fun T => e_v rfl
    simp only [e_D, e_call, e_ds, e_ds0, e_p2, e_c, v0, v1, v2, bd_ok', toD_val, add_ok]
    show ((run tab (n + 2) 10 [.ref m, .int ((k + 1 : Nat) : Int), .int (d + 1)] S).bd fun d S => vv d S).bd toD = _
    rw [gr]; rfl
  | .g3 b x y z, N, m, k, j, d, S, ws, post, hS, hd, hj, h0, h5, hg, hN => by
    unfold fu at hN
    have f1 : 1 ≤ fu x := by cases x <;> (unfold fu; omega)
    obtain ⟨n, rfl⟩ : ∃ n, N = n + 3 := ⟨N - 3, by omega⟩
    subst hj
    unfold dp at h5
    unfold wds at hd
    have d1 := drop_one hd
    have d1 : ws.drop (k + 1) = wds x ++ kw b :: (wds y ++ kw b :: (wds z ++ q ")" :: post)) := by rw [d1]; simp
    have d2 := drop_one (drop_app d1)
    have d3 := drop_one (drop_app d2)
    have hx := fun T hT => r_cond x (N := n + 1) (m := m) (k := k + 1) (j := ((k + 1 : Nat) : Int)) (d := d + 1) (S := T) hT d1 rfl (by omega) (by omega) hg.1 (by omega)
    have hy := fun T hT => r_cond y (N := n + 1) (m := m) (k := k + 1 + (wds x).length + 1) (j := ((k + 1 + (wds x).length + 1 : Nat) : Int)) (d := d + 1) (S := T) hT d2 rfl (by omega) (by omega) hg.2.1 (by omega)
    have hz := fun T hT => r_cond z (N := n + 1) (m := m) (k := k + 1 + (wds x).length + 1 + (wds y).length + 1) (j := ((k + 1 + (wds x).length + 1 + (wds y).length + 1 : Nat) : Int)) (d := d + 1) (S := T) hT d3 rfl (by omega) (by omega) hg.2.2 (by omega)
    have gr := grp3 (N := n) hS d1 hx hy hz
    have g0 : ws[k]? = some (q "(") := by have := get_drop hd 0; exact this
    refine r_run (F := ⟨3, 6, b11⟩) rfl rfl ?_ (pack_same (by simp [und_enc]))
    refine Rt.go (cond_head (N := n + 1) hS rfl (by omega) g0 (r := b11.drop 2)) ?_
    have hn : q "(" ≠ q "not" := by decide +kernel
    have hl : k + (wds (.g3 b x y z)).length = k + 1 + (wds x).length + 1 + (wds y).length + 1 + (wds z).length + 1 := by
      rw [wds]; simp; omega
    rw [hl]
    obtain ⟨e, he⟩ : ∃ e, e = D.tup [tx (kw b), .tup [enc x, enc y, enc z]] := ⟨_, rfl⟩
    have hen : enc (.g3 b x y z) = e := by rw [he, enc]
    rw [← he] at gr
    rw [hen]
    refine Rt.go (y_if0 (by simp [eq_q, hn])) (Rt.fin (y_if1 (by simp [eq_q]) ?_))
    have v0 : ∀ T, evK (run tab (n + 2)) (.v 0) [some (.ref m), some (.int k), some (.int d), some (tx (q "(")), none, none] T = .ok (.val (.ref m)) T := fun T => e_v rfl
    have v1 : ∀ T, evK (run tab (n + 2)) (.v 1) [some (.ref m), some (.int k), some (.int d), some (tx (q "(")), none, none] T = .ok (.val (.int k)) T := fun T => e_v rfl
    have v2 : ∀ T, evK (run tab (n + 2)) (.v 2) [some (.ref m), some (.int k), some (.int d), some (tx (q "(")), none, none] T = .ok (.val (.int d)) T := fun T => e_v rfl
    simp only [e_D, e_call, e_ds, e_ds0, e_p2, e_c, v0, v1, v2, bd_ok', toD_val, add_ok]
    show ((run tab (n + 2) 10 [.ref m, .int ((k + 1 : Nat) : Int), .int (d + 1)] S).bd fun d S => vv d S).bd toD = _
    rw [gr]; rfl
end Mi.L

namespace Mi.L
open PySem Mi
theorem sq_nx {ρ : Env} {S : Store} {f : Env → Store → RS} : (RS.ok .nx ρ S).sq f = f ρ S := rfl
theorem sq_rt {d : D} {ρ : Env} {S : Store} {f : Env → Store → RS} : (RS.ok (.rt d) ρ S).sq f = .ok (.rt d) ρ S := rfl
theorem r_readc {N m : Nat} {S : Store} {c : Cn} (hS : S[m]? = some (.lst ((wds c).map tx))) (hg : gd c) (hd : dp c < 5) (hN : fu c ≤ N) : run tab (N + 1) 12 [.ref m] S = .ok (enc c) S := by
  have h := r_cond c (N := N) (k := 0) (j := 0) (d := 0) (post := []) hS (by simp) rfl (Int.le_refl _) (by omega) hg hN
  rw [Nat.zero_add] at h
  have ln := len_at hS
  rw [List.length_map] at ln
  obtain ⟨e, he⟩ : ∃ e, e = enc c := ⟨_, rfl⟩
  have hu : e.und S.length = true := by rw [he]; exact und_enc _ _
  rw [← he] at h ⊢
  refine r_run (F := ⟨1, 3, b12⟩) rfl rfl ?_ (pack_same hu)
  refine Rt.go (y_tp (ρ' := [some (.ref m), some e, some (.int ((wds c).length : Nat))]) [e, .int ((wds c).length : Nat)] (by simp [h]) rfl) ?_
  refine Rt.go (y_if0 (by simp [ln, ne_ii])) (Rt.fin (y_ret (by simp)))
section
variable {N m k : Nat} {S : Store} {ws : List (List Nat)} {j : Int} {t : D} (hS : S[m]? = some (.lst (ws.map tx)))
include hS
theorem ix_k {w : List Nat} (h : ws[k]? = some w) : p2 .ix (.val (.ref m)) (.val (.int (k : Nat))) S = .ok (.val (tx w)) S :=
  ix_at hS (atI_at (by omega) (show (ws.map tx)[((k : Nat) : Int).toNat]? = some (tx w) by rw [Int.toNat_natCast, List.getElem?_map, h]; rfl))
theorem r_second (hj : j = k) (ht : t.und S.length = true) (h : ws.length ≤ k ∨ ∃ w, ws[k]? = some w ∧ w ≠ q "and") : run tab (N + 1) 14 [.ref m, .int j, t] S = .ok (.tup [.non, .int j]) S := by
  have ln := len_at hS
  rw [List.length_map] at ln
  refine r_run (F := ⟨3, 6, b14⟩) rfl rfl ?_ (pack_same (by simp))
  refine Rt.fin (y_if1 ?_ (by simp [sz2]))
  rcases h with h | ⟨w, h, hw⟩
  · have : decide ((ws.length : Int) ≤ j) = true := decide_eq_true (by omega)
    simp [ln, ge_ii, this]
  · have hk : k < ws.length := (List.getElem?_eq_some_iff.mp h).1
    have hlt : ¬ ((ws.length : Int) ≤ (k : Int)) := by omega
    subst hj
    have ix := ix_k hS h
    simp [ln, ge_ii, hlt, ix, ne_q, hw]
theorem r_rising (hj : j = k) (h : ws.length ≤ k) : run tab (N + 1) 15 [.ref m, .int j] S = .ok (.tup [.non, .int j]) S := by
  have ln := len_at hS
  rw [List.length_map] at ln
  have hd : ((ws.length : Int) ≤ j) := by omega
  refine r_run (F := ⟨2, 2, b15⟩) rfl rfl ?_ (pack_same (by simp))
  exact Rt.fin (y_if1 (by simp [ln, ge_ii, hd]) (by simp [sz2]))
theorem r_first (hj : j = k) (h : ws.length ≤ k) : run tab (N + 1) 16 [.ref m, .int j] S = .ok (.tup [.non, .int j]) S := by
  have ln := len_at hS
  rw [List.length_map] at ln
  have hd : ((ws.length : Int) ≤ j) := by omega
  refine r_run (F := ⟨2, 3, b16⟩) rfl rfl ?_ (pack_same (by simp))
  exact Rt.fin (y_if1 (by simp [ln, ge_ii, hd]) (by simp [sz2]))
end
/-! ### the columns of a condition -/
def csC : Cn → List Cl
  | .tv c _ _ => [c]
  | .tc c _ c2 => [c, c2]
  | .no x => csC x
  | .g2 _ x y => csC x ++ csC y
  | .g3 _ x y z => csC x ++ (csC y ++ csC z)
theorem csC_len : ∀ c : Cn, (csC c).length ≤ 2 * 3 ^ dp c
  | .tv _ _ _ => by simp [csC, dp]
  | .tc _ _ _ => by simp [csC, dp]
  | .no x => by
    have := csC_len x
    simp only [csC, dp, Nat.pow_succ]; omega
  | .g2 _ x y => by
    have h1 := csC_len x
    have h2 := csC_len y
    have p1 := Nat.pow_le_pow_right (n := 3) (by decide) (Nat.le_max_left (dp x) (dp y))
    have p2 := Nat.pow_le_pow_right (n := 3) (by decide) (Nat.le_max_right (dp x) (dp y))
    simp only [csC, dp, Nat.pow_succ, List.length_append]; omega
  | .g3 _ x y z => by
    have h1 := csC_len x
    have h2 := csC_len y
    have h3 := csC_len z
    have p1 := Nat.pow_le_pow_right (n := 3) (by decide) (Nat.le_max_left (dp x) (max (dp y) (dp z)))
    have p2 := Nat.pow_le_pow_right (n := 3) (by decide) (Nat.le_trans (Nat.le_max_left (dp y) (dp z)) (Nat.le_max_right (dp x) (max (dp y) (dp z))))
    have p3 := Nat.pow_le_pow_right (n := 3) (by decide) (Nat.le_trans (Nat.le_max_right (dp y) (dp z)) (Nat.le_max_right (dp x) (max (dp y) (dp z))))
    simp only [csC, dp, Nat.pow_succ, List.length_append]; omega
theorem csC_short {c : Cn} (h : dp c < 5) : (csC c).length ≤ 162 := by
  refine Nat.le_trans (csC_len c) ?_
  have := Nat.pow_le_pow_right (n := 3) (by decide) (show dp c ≤ 4 by omega)
  omega
theorem unds_dcl {k : Nat} : ∀ l : List Cl, D.unds k (l.map dcl) = true
  | [] => by simp
  | c :: r => by rw [List.map_cons, unds_cons, unds_dcl r]; simp [dcl]
theorem eqs {S : Store} {x y : Str} (b : Bool) (h : decide (x = y) = b) : p2 .eq (.val (.str x)) (.val (.str y)) S = .ok (.val (.bl b)) S := by rw [eq_ss, h]
theorem nt1 : decide (("not" : Str) = ("test" : Str)) = false := by decide +kernel
theorem nt2 : decide (("test" : Str) = ("not" : Str)) = false := by decide +kernel
theorem nt3 : decide (("value" : Str) = ("column" : Str)) = false := by decide +kernel
theorem kw_nt (k : Bool) : kw k ≠ q "test" ∧ kw k ≠ q "not" := by cases k <;> decide +kernel
section
variable {C : CF} {S : Store} {xs ys : List Cl} {k : Nat} {d e : D} {ρ : Env}
end
theorem r_csin_tv {N : Nat} {S : Store} {c : Cl} {s : List Nat} {v : Vl} : run tab (N + 1) 17 [enc (.tv c s v)] S = .ok (.ref S.length) (S ++ [.lst ([c].map dcl)]) := by
  obtain ⟨d, hd⟩ : ∃ d, d = dcl c := ⟨_, rfl⟩
  have hu : D.unds S.length [d] = true := by rw [hd]; exact unds_dcl [c]
  rw [enc, List.map_cons, List.map_nil, ← hd]
  refine r_run (F := ⟨1, 3, b17⟩) rfl rfl ?_ (pack_new hu)
  refine Rt.go (y_if0 (by simp [isN_tup])) ?_
  have i0 : ∀ T, p2 .ix (.val (.tup [.str "test", d, tx s, .tup [.str "value", dv v]])) (.val (.int 0)) T = .ok (.val (.str "test")) T := fun T => ix_tup rfl
  have i1 : ∀ T, p2 .ix (.val (.tup [.str "test", d, tx s, .tup [.str "value", dv v]])) (.val (.int 1)) T = .ok (.val d) T := fun T => ix_tup rfl
  have i3 : ∀ T, p2 .ix (.val (.tup [.str "test", d, tx s, .tup [.str "value", dv v]])) (.val (.int 3)) T = .ok (.val (.tup [.str "value", dv v])) T := fun T => ix_tup rfl
  have j0 : ∀ T, p2 .ix (.val (.tup [.str "value", dv v])) (.val (.int 0)) T = .ok (.val (.str "value")) T := fun T => ix_tup rfl
  refine Rt.go (y_ift (by simp [i0, eqs true (decide_eq_true rfl)])) ?_
  rw [x_set (d := .ref S.length) (S' := S ++ [.lst [d]]) (by simp [i1, sz1])]
  rw [y_if0 (by simp [i3, j0, eqs false nt3]), y_ret (d := .ref S.length) (by simp)]
  exact Rt.fin rfl
theorem r_csin_tc {N : Nat} {S : Store} {c c2 : Cl} {s : List Nat} : run tab (N + 1) 17 [enc (.tc c s c2)] S = .ok (.ref S.length) (S ++ [.lst ([c, c2].map dcl)]) := by
  obtain ⟨d, hd⟩ : ∃ d, d = dcl c := ⟨_, rfl⟩
  obtain ⟨d2, hd2⟩ : ∃ d, d = dcl c2 := ⟨_, rfl⟩
  have hu : D.unds S.length [d, d2] = true := by rw [hd, hd2]; exact unds_dcl [c, c2]
  rw [enc, List.map_cons, List.map_cons, List.map_nil, ← hd, ← hd2]
  refine r_run (F := ⟨1, 3, b17⟩) rfl rfl ?_ (pack_new hu)
  refine Rt.go (y_if0 (by simp [isN_tup])) ?_
  have i0 : ∀ T, p2 .ix (.val (.tup [.str "test", d, tx s, .tup [.str "column", d2]])) (.val (.int 0)) T = .ok (.val (.str "test")) T := fun T => ix_tup rfl
  have i1 : ∀ T, p2 .ix (.val (.tup [.str "test", d, tx s, .tup [.str "column", d2]])) (.val (.int 1)) T = .ok (.val d) T := fun T => ix_tup rfl
  have i3 : ∀ T, p2 .ix (.val (.tup [.str "test", d, tx s, .tup [.str "column", d2]])) (.val (.int 3)) T = .ok (.val (.tup [.str "column", d2])) T := fun T => ix_tup rfl
  have j0 : ∀ T, p2 .ix (.val (.tup [.str "column", d2])) (.val (.int 0)) T = .ok (.val (.str "column")) T := fun T => ix_tup rfl
  have j1 : ∀ T, p2 .ix (.val (.tup [.str "column", d2])) (.val (.int 1)) T = .ok (.val d2) T := fun T => ix_tup rfl
  refine Rt.go (y_ift (by simp [i0, eqs true (decide_eq_true rfl)])) ?_
  rw [x_set (d := .ref S.length) (S' := S ++ [.lst [d]]) (by simp [i1, sz1])]
  have hS : (S ++ [O.lst [d]])[S.length]? = some (.lst [d]) := at_new
  have hk := isK_at hS
  have ap := app_at (w := d2) hS (by show 1 < sizeLine; decide)
  rw [set_new] at ap
  rw [x_ift (S' := S ++ [.lst [d]]) (by simp [i3, j0, eqs true (decide_eq_true rfl)]), x_exp (w := .val .non) (S' := S ++ [.lst [d, d2]]) (by simp [hk, i3, j1, ap]), x_nil]
  rw [sq_nx, y_ret (d := .ref S.length) (by simp)]
  exact Rt.fin rfl
/-- one part's columns put behind -/
theorem turnI {N : Nat} {S U : Store} {xs ys : List Cl} {e d0 : D} {x : Option D} (hc : run tab N 17 [e] (S ++ .lst (xs.map dcl) :: U) = .ok (.ref (S ++ O.lst (xs.map dcl) :: U).length) ((S ++ .lst (xs.map dcl) :: U) ++ [.lst (ys.map dcl)])) (hz : xs.length + ys.length ≤ 1000) :
    exSs (run tab N) b17_0 [some d0, some (.ref S.length), some e] (S ++ .lst (xs.map dcl) :: U) = .ok .nx [some d0, some (.ref S.length), some e] (S ++ .lst ((xs ++ ys).map dcl) :: (U ++ [.lst (ys.map dcl)])) := by
  obtain ⟨T, hT⟩ : ∃ T, T = S ++ O.lst (xs.map dcl) :: U := ⟨_, rfl⟩
  have hTl : T[S.length]? = some (.lst (xs.map dcl)) := by rw [hT]; simp
  have hlt : S.length < T.length := by rw [hT]; simp
  rw [← hT] at hc ⊢
  have hk := isK_at hTl
  have ex := ext_at (S := T ++ [.lst (ys.map dcl)]) (k := S.length) (ds := xs.map dcl) (m := T.length) (es := ys.map dcl) (by rw [List.getElem?_append_left hlt]; exact hTl) at_new (by simp only [List.length_map]; exact Nat.le_trans hz (by decide))
  have st : (T ++ [O.lst (ys.map dcl)]).set S.length (.lst (xs.map dcl ++ ys.map dcl)) = S ++ .lst ((xs ++ ys).map dcl) :: (U ++ [.lst (ys.map dcl)]) := by
    rw [hT]; simp
  rw [st] at ex
  refine (x_exp (w := .val .non) (S' := S ++ .lst ((xs ++ ys).map dcl) :: (U ++ [.lst (ys.map dcl)])) ?_).trans x_nil
  simp [hk, hc, ex]
end Mi.L

namespace Mi.L
open PySem Mi
def fc : Cn → Nat
  | .tv _ _ _ => 1
  | .tc _ _ _ => 1
  | .no x => fc x + 1
  | .g2 _ x y => max (fc x) (fc y) + 1
  | .g3 _ x y z => max (fc x) (max (fc y) (fc z)) + 1
theorem kw_tx (b : Bool) : D.str (SX.S (kw b)) = tx (kw b) := rfl
theorem r_csin : ∀ (c : Cn) {N : Nat} {S : Store}, dp c < 5 → fc c ≤ N → run tab N 17 [enc c] S = .ok (.ref S.length) (S ++ [.lst ((csC c).map dcl)])
  | .tv c s v, N, S, _, hN => by
    obtain ⟨n, rfl⟩ : ∃ n, N = n + 1 := ⟨N - 1, by unfold fc at hN; omega⟩
    exact r_csin_tv
  | .tc c s c2, N, S, _, hN => by
    obtain ⟨n, rfl⟩ : ∃ n, N = n + 1 := ⟨N - 1, by unfold fc at hN; omega⟩
    exact r_csin_tc
  | .no x, N, S, hd, hN => by
    unfold fc at hN
    obtain ⟨n, rfl⟩ : ∃ n, N = n + 1 := ⟨N - 1, by omega⟩
    have ih := r_csin x (N := n) (S := S) (by unfold dp at hd; omega) (by omega)
    rw [enc, csC]
    obtain ⟨e, he⟩ : ∃ e, e = enc x := ⟨_, rfl⟩
    rw [← he] at ih ⊢
    have i0 : ∀ T, p2 .ix (.val (.tup [.str "not", e])) (.val (.int 0)) T = .ok (.val (.str "not")) T := fun T => ix_tup rfl
    have i1 : ∀ T, p2 .ix (.val (.tup [.str "not", e])) (.val (.int 1)) T = .ok (.val e) T := fun T => ix_tup rfl
    refine r_run (F := ⟨1, 3, b17⟩) rfl rfl ?_ (pack_new (unds_dcl _))
    refine Rt.go (y_if0 (by simp [isN_tup])) ?_
    refine Rt.go (y_if0 (by simp [i0, eqs false nt1])) ?_
    exact Rt.fin (x_if1 (S' := S) (by simp [i0, eqs true (decide_eq_true rfl)]) (by simp [i1, ih]))
  | .g2 b x y, N, S, hd, hN => by
    unfold fc at hN
    obtain ⟨n, rfl⟩ : ∃ n, N = n + 1 := ⟨N - 1, by omega⟩
    have hdx : dp x < 5 := by unfold dp at hd; omega
    have hdy : dp y < 5 := by unfold dp at hd; omega
    have ihx := r_csin x (N := n) (S := S ++ [.lst (([] : List Cl).map dcl)]) hdx (by omega)
    have ihy := r_csin y (N := n) (S := S ++ .lst ((([] : List Cl) ++ csC x).map dcl) :: ([] ++ [.lst ((csC x).map dcl)])) hdy (by omega)
    have sx := csC_short hdx
    have sy := csC_short hdy
    obtain ⟨ex, hex⟩ : ∃ e, e = enc x := ⟨_, rfl⟩
    obtain ⟨ey, hey⟩ : ∃ e, e = enc y := ⟨_, rfl⟩
    rw [enc, csC]
    rw [← hex] at ihx ⊢
    rw [← hey] at ihy ⊢
    obtain ⟨d0, hd0⟩ : ∃ d, d = D.tup [tx (kw b), .tup [ex, ey]] := ⟨_, rfl⟩
    have i0 : ∀ T, p2 .ix (.val d0) (.val (.int 0)) T = .ok (.val (tx (kw b))) T := fun T => by rw [hd0]; exact ix_tup rfl
    have i1 : ∀ T, p2 .ix (.val d0) (.val (.int 1)) T = .ok (.val (.tup [ex, ey])) T := fun T => by rw [hd0]; exact ix_tup rfl
    have iN : ∀ T, p1 .isN (.val d0) T = .ok (.val (.bl false)) T := fun T => by rw [hd0]; rfl
    rw [← hd0]
    have t1 := turnI (U := []) (xs := []) (d0 := d0) (x := none) ihx (by simp; omega)
    have t2 := turnI (U := [] ++ [.lst ((csC x).map dcl)]) (xs := [] ++ csC x) (d0 := d0) (x := some ex) ihy (by simp; omega)
    have k1 := (kw_nt b).1
    have k2 := (kw_nt b).2
    refine r_run (F := ⟨1, 3, b17⟩) (d := .ref S.length) (S' := S ++ .lst ((([] : List Cl) ++ csC x ++ csC y).map dcl) :: ([] ++ [.lst ((csC x).map dcl)] ++ [.lst ((csC y).map dcl)])) rfl rfl ?_ (pack_fresh (Nat.le_refl _) (by simp) (unds_dcl _))
    refine Rt.go (y_if0 (by simp [iN])) ?_
    refine Rt.go (y_if0 (by simp [i0, eq_q, k1])) ?_
    refine Rt.go (y_if0 (by simp [i0, eq_q, k2])) ?_
    refine Rt.go (x_set (d := .ref S.length) (S' := S ++ [.lst []]) (by simp)) ?_
    refine Rt.go (x_for (ws := [.val (.tup [ex, ey])]) (S' := S ++ [.lst []]) (I := ⟨[ex, ey], []⟩) (by simp [i1]) rfl ((forL_nx isLive_nil t1).trans ((forL_nx isLive_nil t2).trans (forL_end isLive_nil)))) ?_
    exact Rt.fin (y_ret (by simp))
  | .g3 b x y z, N, S, hd, hN => by
    unfold fc at hN
    obtain ⟨n, rfl⟩ : ∃ n, N = n + 1 := ⟨N - 1, by omega⟩
    have hdx : dp x < 5 := by unfold dp at hd; omega
    have hdy : dp y < 5 := by unfold dp at hd; omega
    have hdz : dp z < 5 := by unfold dp at hd; omega
    have ihx := r_csin x (N := n) (S := S ++ [.lst (([] : List Cl).map dcl)]) hdx (by omega)
    have ihy := r_csin y (N := n) (S := S ++ .lst ((([] : List Cl) ++ csC x).map dcl) :: ([] ++ [.lst ((csC x).map dcl)])) hdy (by omega)
    have ihz := r_csin z (N := n) (S := S ++ .lst ((([] : List Cl) ++ csC x ++ csC y).map dcl) :: ([] ++ [.lst ((csC x).map dcl)] ++ [.lst ((csC y).map dcl)])) hdz (by omega)
    have sx := csC_short hdx
    have sy := csC_short hdy
    have sz := csC_short hdz
    obtain ⟨ex, hex⟩ : ∃ e, e = enc x := ⟨_, rfl⟩
    obtain ⟨ey, hey⟩ : ∃ e, e = enc y := ⟨_, rfl⟩
    obtain ⟨ez, hez⟩ : ∃ e, e = enc z := ⟨_, rfl⟩
    rw [enc, csC]
    rw [← hex] at ihx ⊢
    rw [← hey] at ihy ⊢
    rw [← hez] at ihz ⊢
    obtain ⟨d0, hd0⟩ : ∃ d, d = D.tup [tx (kw b), .tup [ex, ey, ez]] := ⟨_, rfl⟩
    have i0 : ∀ T, p2 .ix (.val d0) (.val (.int 0)) T = .ok (.val (tx (kw b))) T := fun T => by rw [hd0]; exact ix_tup rfl
    have i1 : ∀ T, p2 .ix (.val d0) (.val (.int 1)) T = .ok (.val (.tup [ex, ey, ez])) T := fun T => by rw [hd0]; exact ix_tup rfl
    have iN : ∀ T, p1 .isN (.val d0) T = .ok (.val (.bl false)) T := fun T => by rw [hd0]; rfl
    rw [← hd0]
    have t1 := turnI (U := []) (xs := []) (d0 := d0) (x := none) ihx (by simp; omega)
    have t2 := turnI (U := [] ++ [.lst ((csC x).map dcl)]) (xs := [] ++ csC x) (d0 := d0) (x := some ex) ihy (by simp; omega)
    have t3 := turnI (U := [] ++ [.lst ((csC x).map dcl)] ++ [.lst ((csC y).map dcl)]) (xs := [] ++ csC x ++ csC y) (d0 := d0) (x := some ey) ihz (by simp; omega)
    have k1 := (kw_nt b).1
    have k2 := (kw_nt b).2
    refine r_run (F := ⟨1, 3, b17⟩) (d := .ref S.length) (S' := S ++ .lst ((([] : List Cl) ++ csC x ++ csC y ++ csC z).map dcl) :: ([] ++ [.lst ((csC x).map dcl)] ++ [.lst ((csC y).map dcl)] ++ [.lst ((csC z).map dcl)])) rfl rfl ?_ (pack_fresh (Nat.le_refl _) (by simp) (unds_dcl _))
    refine Rt.go (y_if0 (by simp [iN])) ?_
    refine Rt.go (y_if0 (by simp [i0, eq_q, k1])) ?_
    refine Rt.go (y_if0 (by simp [i0, eq_q, k2])) ?_
    refine Rt.go (x_set (d := .ref S.length) (S' := S ++ [.lst []]) (by simp)) ?_
    refine Rt.go (x_for (ws := [.val (.tup [ex, ey, ez])]) (S' := S ++ [.lst []]) (I := ⟨[ex, ey, ez], []⟩) (by simp [i1]) rfl ((forL_nx isLive_nil t1).trans ((forL_nx isLive_nil t2).trans ((forL_nx isLive_nil t3).trans (forL_end isLive_nil))))) ?_
    exact Rt.fin (y_ret (by simp))
end Mi.L

namespace Mi.L
open PySem Mi
/-! ### what is asked -/
inductive Wh where
  | cnt | sum (c : Cl) | most (c : Cl) | cols (c : Cl)
def whD : Wh → D
  | .cnt => .tup [.str "count"]
  | .sum c => .tup [.str "sum", dcl c]
  | .most c => .tup [.str "most", dcl c]
  | .cols c => .tup [.str "columns", .tup [dcl c]]
def whW : Wh → List (List Nat)
  | .cnt => [q "count"]
  | .sum c => [q "sum", wdC c]
  | .most c => [q "most", wdC c]
  | .cols c => [wdC c]
def whC : Wh → List Cl
  | .cnt => []
  | .sum c => [c]
  | .most c => [c]
  | .cols c => [c]
def OFO : List (List Nat) := [q "sum", q "least", q "most", q "groups"]
theorem ofo_eq : D.kt [(.str "sum"), (.str "least"), (.str "most"), (.str "groups")] = .kt (OFO.map tx) := by
  simp only [OFO, List.map_cons, List.map_nil, tx_q]
theorem in_ac {S : Store} {w : List Nat} : p2 .inn (.val (tx w)) (.val (.tup [.str "all", .str "count"])) S = .ok (.val (.bl (decide (w ∈ [q "all", q "count"])))) S := by
  have := inn_tup (S := S) (x := w) (ws := [q "all", q "count"])
  simpa only [List.map_cons, List.map_nil, tx_q] using this
theorem ac_ev {C : CF} {ρ : Env} {S : Store} {w : List Nat} (h : ρ[1]? = some (some (tx w))) : evB C (.p2 .inn (.v 1) (.tup [(.c (.str "all")), (.c (.str "count"))])) ρ S = .ok (decide (w ∈ [q "all", q "count"])) S := by
  have t2 : evK C (.tup [(.c (.str "all")), (.c (.str "count"))]) ρ S = .ok (.val (.tup [.str "all", .str "count"])) S := by simp [sz2]
  have v1 : evK C (.v 1) ρ S = .ok (.val (tx w)) S := e_v h
  simp only [e_B, e_p2, t2, v1, bd_ok', in_ac, toB_bl]
theorem wf1 : q "count" ∈ [q "all", q "count"] := by decide +kernel
theorem wf2 : q "sum" ∉ [q "all", q "count"] ∧ q "sum" ∈ OFO := by decide +kernel
theorem wf3 : q "most" ∉ [q "all", q "count"] ∧ q "most" ∈ OFO := by decide +kernel
theorem colk {c : Cl} (h : gc c) : wdC c ∉ [q "all", q "count"] ∧ wdC c ∉ OFO ∧ wdC c ≠ q "of" := by
  obtain ⟨a, b⟩ := c
  have o := okC_at h.1 h.2
  unfold okC at o
  simp only [Bool.and_eq_true, decide_eq_true_eq, Bool.not_eq_true', List.all_eq_true, decide_eq_false_iff_not] at o
  have k := o.1.2
  refine ⟨fun hm => ?_, fun hm => ?_, k _ (by simp [KWS])⟩
  · simp only [List.mem_cons, List.not_mem_nil, or_false] at hm
    rcases hm with e | e
    · exact k _ (by simp [KWS]) e
    · exact k _ (by simp [KWS]) e
  · unfold OFO at hm
    simp only [List.mem_cons, List.not_mem_nil, or_false] at hm
    rcases hm with e | e | e | e
    · exact k _ (by simp [KWS]) e
    · exact k _ (by simp [KWS]) e
    · exact k _ (by simp [KWS]) e
    · exact k _ (by simp [KWS]) e
section
variable {N m : Nat} {S : Store} {ws rest : List (List Nat)} (hS : S[m]? = some (.lst (ws.map tx)))
include hS
theorem what_one {c : Cl} {x : Str} (hc : gc c) (h1 : ws[1]? = some (q x)) (h2 : ws[2]? = some (wdC c)) (hx : q x ∉ [q "all", q "count"] ∧ q x ∈ OFO) : run tab (N + 3) 13 [.ref m] S = .ok (.tup [.tup [.str x, dcl c], .int 3]) S := by
  have a1 := r_at (n := N + 1) (j := 1) (k := 1) hS rfl h1
  have a2 := r_col (n := N) (j := 2) (k := 2) hS hc rfl h2
  obtain ⟨d, hd⟩ : ∃ d, d = dcl c := ⟨_, rfl⟩
  have hu : d.und S.length = true := by rw [hd]; simp [dcl]
  rw [← hd] at a2 ⊢
  rw [← tx_q x]
  refine r_run (F := ⟨1, 4, b13⟩) rfl rfl ?_ (pack_same (by simp [hu]))
  refine Rt.go (y_set (tx (q x)) (by simp [a1])) ?_
  have o := ofo_eq
  obtain ⟨w, hw⟩ : ∃ w, w = q x := ⟨_, rfl⟩
  rw [← hw] at hx ⊢
  have h1 := hx.1
  have h2 := hx.2
  have t2 : ∀ ρ T, evK (run tab (N + 2)) (.tup [(.c (.str "all")), (.c (.str "count"))]) ρ T = .ok (.val (.tup [.str "all", .str "count"])) T := fun ρ T => by simp [sz2]
  refine Rt.go (y_if0 ?_) (Rt.fin (y_if1 ?_ (by simp [a2, sz2])))
  · rw [ac_ev (w := w) rfl, decide_eq_false h1]
  · rw [o]
    simp [inn_kt, h2]
theorem r_what {w : Wh} (hd : ws.drop 1 = whW w ++ q "of" :: rest) (hg : ∀ c ∈ whC w, gc c) : run tab (N + 3) 13 [.ref m] S = .ok (.tup [whD w, .int ((1 + (whW w).length : Nat) : Int)]) S := by
  have g := fun i => get_drop hd i
  cases w with
  | cnt =>
    have h1 : ws[1]? = some (q "count") := g 0
    have a1 := r_at (n := N + 1) (j := 1) (k := 1) hS rfl h1
    have t2 : ∀ ρ T, evK (run tab (N + 2)) (.tup [(.c (.str "all")), (.c (.str "count"))]) ρ T = .ok (.val (.tup [.str "all", .str "count"])) T := fun ρ T => by simp [sz2]
    unfold whD
    rw [← tx_q "count"]
    refine r_run (F := ⟨1, 4, b13⟩) rfl rfl ?_ (pack_same (by simp))
    refine Rt.go (y_set (tx (q "count")) (by simp [a1])) ?_
    refine Rt.fin (y_if1 ?_ (by simp [sz1, sz2, whW]))
    rw [ac_ev (w := q "count") rfl, decide_eq_true wf1]
  | sum c => exact what_one hS (hg c List.mem_cons_self) (g 0) (g 1) wf2
  | most c => exact what_one hS (hg c List.mem_cons_self) (g 0) (g 1) wf3
  | cols c =>
    have hc := hg c List.mem_cons_self
    have h1 : ws[1]? = some (wdC c) := g 0
    have h2 : ws[2]? = some (q "of") := g 1
    have hm : ∀ T, (S ++ T)[m]? = some (.lst (ws.map tx)) := fun T => by rw [List.getElem?_append_left (List.getElem?_eq_some_iff.mp hS).1]; exact hS
    have a1 := fun T => r_at (n := N + 1) (j := 1) (k := 1) (hm T) rfl h1
    have a2 := fun T => r_at (n := N + 1) (j := 2) (k := 2) (hm T) rfl h2
    have a0 := r_at (n := N + 1) (j := 1) (k := 1) hS rfl h1
    have c1 := fun T => r_col (n := N) (j := 1) (k := 1) (hm T) hc rfl h1
    obtain ⟨k1, k2, k3⟩ := colk hc
    obtain ⟨d, hd⟩ : ∃ d, d = dcl c := ⟨_, rfl⟩
    have hu : d.und S.length = true := by rw [hd]; simp [dcl]
    simp only [← hd] at c1
    show run tab (N + 3) 13 [.ref m] S = .ok (.tup [.tup [.str "columns", .tup [dcl c]], .int 2]) S
    rw [← hd]
    obtain ⟨v, hv⟩ : ∃ v, v = wdC c := ⟨_, rfl⟩
    rw [← hv] at k1 k2 k3
    simp only [← hv] at a1 a0
    have t2 : ∀ ρ T, evK (run tab (N + 2)) (.tup [(.c (.str "all")), (.c (.str "count"))]) ρ T = .ok (.val (.tup [.str "all", .str "count"])) T := fun ρ T => by simp [sz2]
    have hS1 : (S ++ [O.lst []])[S.length]? = some (.lst []) := at_new
    have hk := isK_at hS1
    have ap := app_at (w := d) hS1 (by show 0 < sizeLine; decide)
    rw [set_new] at ap
    have ap : p2 .append (.val (.ref S.length)) (.val d) (S ++ [O.lst []]) = .ok (.val .non) (S ++ [O.lst [d]]) := ap
    have hS2 : (S ++ [O.lst [d]])[S.length]? = some (.lst [d]) := at_new
    have ln := len_at hS2
    have tp : p1 .tuple_ (.val (.ref S.length)) (S ++ [O.lst [d]]) = .ok (.val (.tup [d])) (S ++ [O.lst [d]]) := by
      show (match W.seq (S ++ [O.lst [d]]) (.val (.ref S.length)) with
        | some (_, ds) => vv (.tup ds) (S ++ [O.lst [d]])
        | none => .bad) = _
      rw [seq_at hS2]; rfl
    refine r_run (F := ⟨1, 4, b13⟩) (S' := S ++ [.lst [d]]) rfl rfl ?_ (pack_app (by simp [hu]))
    refine Rt.go (y_set (tx v) (by simp [a0])) ?_
    refine Rt.go (y_if0 ?_) (Rt.go (y_if0 ?_) ?_)
    · rw [ac_ev (w := v) rfl, decide_eq_false k1]
    · rw [ofo_eq]
      simp [inn_kt, k2]
    refine Rt.go (x_set (d := .ref S.length) (S' := S ++ [O.lst []]) (by simp)) ?_
    refine Rt.go (y_set (.int 1) (by simp)) ?_
    have turn : exSs (run tab (N + 2)) b13_0 [some (.ref m), some (tx v), some (.ref S.length), some (.int 1)] (S ++ [.lst []]) = .ok .nx [some (.ref m), some (tx v), some (.ref S.length), some (.int 2)] (S ++ [.lst [d]]) := by
      refine (x_exp (w := .val .non) (S' := S ++ [.lst [d]]) (by simp [hk, c1, ap])).trans ?_
      rw [x_aug (x := .int 1) (d := .int 2) (w := .val (.int 1)) (S' := S ++ [.lst [d]]) rfl (by simp) rfl, x_nil]
      rfl
    refine Rt.go (x_whl (n := 2) (whileF_go (S1 := S ++ [O.lst []]) ?_ turn (whileF_end (S1 := S ++ [O.lst [d]]) ?_))) ?_
    · simp [a1, ne_q, k3]
    · simp [a2, ne_q]
    refine Rt.go (y_if0 (by simp [ln, lt_ii, gt_ii])) (Rt.fin (y_ret (by simp [tp, sz2, whW])))
end
end Mi.L

namespace Mi.L
open PySem Mi
/-! ### questions -/
structure Qu where
  w : Wh
  t : List Nat
  c : Option Cn
def cnD : Option Cn → D
  | none => .non
  | some c => enc c
def cnC : Option Cn → List Cl
  | none => []
  | some c => csC c
def quD (x : Qu) : D := .tup [whD x.w, tx x.t, .non, cnD x.c, .non, .non]
def beW : Option Cn → List (List Nat)
  | none => []
  | some c => q "where" :: wds c
def quW (x : Qu) : List (List Nat) := q "show" :: (whW x.w ++ q "of" :: x.t :: beW x.c)
theorem und_cnD (k : Nat) (c : Option Cn) : (cnD c).und k = true := by
  cases c with
  | none => simp [cnD]
  | some c => exact und_enc k c
theorem und_whD (k : Nat) (w : Wh) : (whD w).und k = true := by
  cases w <;> simp [whD, dcl]
theorem r_csin_non {N : Nat} {S : Store} : run tab (N + 1) 17 [.non] S = .ok (.ref S.length) (S ++ [.lst []]) := by
  refine r_run (F := ⟨1, 3, b17⟩) rfl rfl ?_ (pack_new (by show D.unds S.length [] = true; simp))
  exact Rt.fin (x_if1 (S' := S) (by simp [isN_non]) (by simp))
theorem r_csO {N : Nat} {S : Store} (c : Option Cn) (h : ∀ x, c = some x → dp x < 5 ∧ fc x ≤ N) (hN : 1 ≤ N) : run tab N 17 [cnD c] S = .ok (.ref S.length) (S ++ [.lst ((cnC c).map dcl)]) := by
  cases c with
  | none =>
    obtain ⟨n, rfl⟩ : ∃ n, N = n + 1 := ⟨N - 1, by omega⟩
    exact r_csin_non
  | some x => exact r_csin x (h x rfl).1 (h x rfl).2
theorem r_tasked {N : Nat} {S : Store} {x : Qu} : run tab (N + 1) 19 [quD x] S = .ok (.ref S.length) (S ++ [.lst [tx x.t]]) := by
  have i1 : ∀ T, p2 .ix (.val (quD x)) (.val (.int 1)) T = .ok (.val (tx x.t)) T := fun T => ix_tup rfl
  have i2 : ∀ T, p2 .ix (.val (quD x)) (.val (.int 2)) T = .ok (.val .non) T := fun T => ix_tup rfl
  obtain ⟨d, hd⟩ : ∃ d, d = quD x := ⟨_, rfl⟩
  rw [← hd] at i1 i2 ⊢
  refine r_run (F := ⟨1, 1, b19⟩) rfl rfl ?_ (pack_new (by show D.unds S.length [tx x.t] = true; simp))
  exact Rt.fin (x_if1 (S' := S) (by simp [i2, isN_non]) (by simp [i1, sz1]))
theorem whC_len (w : Wh) : (whC w).length ≤ 1 := by cases w <;> simp [whC]
theorem colsN : decide (("count" : Str) = ("columns" : Str)) = false ∧ decide (("sum" : Str) = ("columns" : Str)) = false ∧ decide (("most" : Str) = ("columns" : Str)) = false := by decide +kernel
theorem r_casked {N : Nat} {S : Store} {x : Qu} (h : ∀ c, x.c = some c → dp c < 5 ∧ fc c ≤ N) (hN : 1 ≤ N) : run tab (N + 1) 18 [quD x] S = .ok (.ref S.length) (S ++ [.lst ((whC x.w ++ cnC x.c).map dcl)]) := by
  have hcl : (cnC x.c).length ≤ 162 := by
    cases e : x.c with
    | none => simp [cnC]
    | some c => exact csC_short (h c e).1
  have hwl := whC_len x.w
  have cs := r_csO (S := S ++ [O.lst ((whC x.w).map dcl)]) x.c h hN
  obtain ⟨wd, hwd⟩ : ∃ d, d = whD x.w := ⟨_, rfl⟩
  obtain ⟨cd, hcd⟩ : ∃ d, d = cnD x.c := ⟨_, rfl⟩
  rw [← hcd] at cs
  obtain ⟨Q, hQ⟩ : ∃ Q, Q = quD x := ⟨_, rfl⟩
  have hQe : Q = .tup [wd, tx x.t, .non, cd, .non, .non] := by rw [hQ, hwd, hcd]; rfl
  obtain ⟨xs, hxs⟩ : ∃ xs, xs = (whC x.w).map dcl := ⟨_, rfl⟩
  obtain ⟨ys, hys⟩ : ∃ ys, ys = (cnC x.c).map dcl := ⟨_, rfl⟩
  have hall : ((whC x.w ++ cnC x.c).map dcl) = xs ++ ys := by rw [hxs, hys, List.map_append]
  have hu : D.unds S.length (xs ++ ys) = true := by rw [← hall]; exact unds_dcl _
  have hxl : xs.length ≤ 1 := by rw [hxs, List.length_map]; exact hwl
  have hyl : ys.length ≤ 162 := by rw [hys, List.length_map]; exact hcl
  rw [← hxs, ← hys] at cs
  rw [hall, ← hQ]
  refine r_run (F := ⟨1, 8, b18⟩) (d := .ref S.length) (S' := S ++ [.lst (xs ++ ys), .lst ys]) rfl rfl ?_ (pack_fresh (Nat.le_refl _) (by simp) hu)
  show Rt (exSs (run tab N) b18 [some Q, none, none, none, none, none, none, none] S) _ _
  refine Rt.go (y_tp (ρ' := [some Q, some wd, some (tx x.t), some .non, some cd, some .non, some .non, none]) [wd, tx x.t, .non, cd, .non, .non] (by rw [hQe]; simp) rfl) ?_
  refine Rt.go (x_set (d := .ref S.length) (S' := S ++ [O.lst []]) (by simp)) ?_
  -- the columns shown
  have mid : ∀ r, exSs (run tab N) ((b18.drop 2).take 1 ++ r) [some Q, some wd, some (tx x.t), some .non, some cd, some .non, some .non, some (.ref S.length)] (S ++ [O.lst []]) = exSs (run tab N) r [some Q, some wd, some (tx x.t), some .non, some cd, some .non, some .non, some (.ref S.length)] (S ++ [O.lst xs]) := by
    intro r
    have hS1 : (S ++ [O.lst []])[S.length]? = some (.lst []) := at_new
    have hk := isK_at hS1
    cases e : x.w with
    | cnt =>
      rw [e] at hwd hxs
      have hx : xs = [] := hxs
      have hw : wd = .tup [.str "count"] := hwd
      rw [hx]
      have i0 : ∀ T, p2 .ix (.val wd) (.val (.int 0)) T = .ok (.val (.str "count")) T := fun T => by rw [hw]; exact ix_tup rfl
      have ln : ∀ T, p1 .len (.val wd) T = .ok (.val (.int 1)) T := fun T => by rw [hw]; rfl
      refine (y_iff (by simp [i0, eqs false colsN.1])).trans ?_
      rw [y_if0 (by simp [ln, gt_ii]), x_nil]; rfl
    | cols c =>
      rw [e] at hwd hxs
      have hx : xs = [dcl c] := hxs
      have hw : wd = .tup [.str "columns", .tup [dcl c]] := hwd
      obtain ⟨d, hd⟩ : ∃ d, d = dcl c := ⟨_, rfl⟩
      rw [← hd] at hx hw
      rw [hx]
      have i0 : ∀ T, p2 .ix (.val wd) (.val (.int 0)) T = .ok (.val (.str "columns")) T := fun T => by rw [hw]; exact ix_tup rfl
      have i1 : ∀ T, p2 .ix (.val wd) (.val (.int 1)) T = .ok (.val (.tup [d])) T := fun T => by rw [hw]; exact ix_tup rfl
      have ex := ext_tup (es := [d]) hS1 (by show 0 + 1 ≤ sizeLine; decide)
      rw [set_new] at ex
      have ex : p2 .extend (.val (.ref S.length)) (.val (.tup [d])) (S ++ [O.lst []]) = .ok (.val .non) (S ++ [O.lst [d]]) := ex
      refine (y_ift (by simp [i0, eqs true (decide_eq_true rfl)])).trans ?_
      rw [x_exp (w := .val .non) (S' := S ++ [O.lst [d]]) (by simp [hk, i1, ex]), x_nil]; rfl
    | sum c =>
      rw [e] at hwd hxs
      have hx : xs = [dcl c] := hxs
      have hw : wd = .tup [.str "sum", dcl c] := hwd
      obtain ⟨d, hd⟩ : ∃ d, d = dcl c := ⟨_, rfl⟩
      rw [← hd] at hx hw
      rw [hx]
      have i0 : ∀ T, p2 .ix (.val wd) (.val (.int 0)) T = .ok (.val (.str "sum")) T := fun T => by rw [hw]; exact ix_tup rfl
      have i1 : ∀ T, p2 .ix (.val wd) (.val (.int 1)) T = .ok (.val d) T := fun T => by rw [hw]; exact ix_tup rfl
      have ln : ∀ T, p1 .len (.val wd) T = .ok (.val (.int 2)) T := fun T => by rw [hw]; rfl
      have ap := app_at (w := d) hS1 (by show 0 < sizeLine; decide)
      rw [set_new] at ap
      have ap : p2 .append (.val (.ref S.length)) (.val d) (S ++ [O.lst []]) = .ok (.val .non) (S ++ [O.lst [d]]) := ap
      refine (y_iff (by simp [i0, eqs false colsN.2.1])).trans ?_
      rw [y_ift (by simp [ln, gt_ii]), x_exp (w := .val .non) (S' := S ++ [O.lst [d]]) (by simp [hk, i1, ap]), x_nil, sq_nx, x_nil]; rfl
    | most c =>
      rw [e] at hwd hxs
      have hx : xs = [dcl c] := hxs
      have hw : wd = .tup [.str "most", dcl c] := hwd
      obtain ⟨d, hd⟩ : ∃ d, d = dcl c := ⟨_, rfl⟩
      rw [← hd] at hx hw
      rw [hx]
      have i0 : ∀ T, p2 .ix (.val wd) (.val (.int 0)) T = .ok (.val (.str "most")) T := fun T => by rw [hw]; exact ix_tup rfl
      have i1 : ∀ T, p2 .ix (.val wd) (.val (.int 1)) T = .ok (.val d) T := fun T => by rw [hw]; exact ix_tup rfl
      have ln : ∀ T, p1 .len (.val wd) T = .ok (.val (.int 2)) T := fun T => by rw [hw]; rfl
      have ap := app_at (w := d) hS1 (by show 0 < sizeLine; decide)
      rw [set_new] at ap
      have ap : p2 .append (.val (.ref S.length)) (.val d) (S ++ [O.lst []]) = .ok (.val .non) (S ++ [O.lst [d]]) := ap
      refine (y_iff (by simp [i0, eqs false colsN.2.2])).trans ?_
      rw [y_ift (by simp [ln, gt_ii]), x_exp (w := .val .non) (S' := S ++ [O.lst [d]]) (by simp [hk, i1, ap]), x_nil, sq_nx, x_nil]; rfl
  refine Rt.go (mid (b18.drop 3)) ?_
  refine Rt.go (y_if0 (by simp [nN_non])) ?_
  have hS2 : (S ++ [O.lst xs])[S.length]? = some (.lst xs) := at_new
  have hk2 := isK_at hS2
  obtain ⟨T, hT⟩ : ∃ T, T = S ++ [O.lst xs] := ⟨_, rfl⟩
  have hTl : T.length = S.length + 1 := by rw [hT]; simp
  rw [← hT] at cs hS2 hk2 ⊢
  have ex := ext_at (S := T ++ [O.lst ys]) (k := S.length) (ds := xs) (m := T.length) (es := ys) (by rw [List.getElem?_append_left (by omega)]; exact hS2) at_new (Nat.le_trans (by omega : _ ≤ 200) (by decide))
  have st : (T ++ [O.lst ys]).set S.length (.lst (xs ++ ys)) = S ++ [O.lst (xs ++ ys), .lst ys] := by rw [hT]; simp
  rw [st] at ex
  refine Rt.go (x_exp (w := .val .non) (S' := S ++ [O.lst (xs ++ ys), .lst ys]) (by simp [hk2, cs, ex])) ?_
  refine Rt.go (y_if0 (by simp [nN_non])) (Rt.fin (y_ret (by simp)))
end Mi.L

namespace Mi.L
open PySem Mi
theorem nin_at {S : Store} {m : Nat} {x : List Nat} {ws : List (List Nat)} (hS : S[m]? = some (.lst (ws.map tx))) : p2 .nin (.val (tx x)) (.val (.ref m)) S = .ok (.val (.bl (!decide (x ∈ ws)))) S := by
  show ob ((isIn (.val (tx x)) (.val (.ref m)) S).map (!·)) S = _
  have e : isIn (.val (tx x)) (.val (.ref m)) S = some (decide (x ∈ ws)) := by
    show (match W.seq S (.val (.ref m)) with
      | some (_, ds) => ((W.val (tx x)).py S).bind fun p => (mapO (toPy S deepest) ds).map fun (ys : List PyData) => ys.any fun y => PyData.eqv y p
      | none => _) = _
    rw [seq_at hS]
    show ((some (PyData.str (SX.S x))).bind fun p => (mapO (toPy S deepest) (ws.map tx)).map fun (ys : List PyData) => ys.any fun y => PyData.eqv y p) = _
    rw [show deepest = 39 + 1 from rfl, py_strs ws]
    exact congrArg some (any_strs x ws)
  rw [e]; rfl
/-- a question that is good -/
structure gq (x : Qu) : Prop where
  w : ∀ c ∈ whC x.w, gc c
  t : x.t ∈ TAB
  c : ∀ c, x.c = some c → gd c ∧ dp c < 5
  own : ∀ c ∈ whC x.w ++ cnC x.c, c.1 = x.t
theorem tab_ok : (TAB.all fun t => nmB t && decide (t.length ≤ 8) && !decide (t = q "and")) = true := by decide +kernel
theorem tab_at {t : List Nat} (h : t ∈ TAB) : nmB t = true ∧ t.length ≤ 8 := by
  have := List.all_eq_true.mp tab_ok t h
  simp only [Bool.and_eq_true, decide_eq_true_eq] at this
  exact this.1
theorem wa : q "where" ≠ q "and" := by decide +kernel
theorem loopQ {N : Nat} {T V : Store} {x : Qu} {es : List (Option D)} (he : es.length = 9) : ∀ (l : List Cl) (y : Option D) (P : Nat) (ds : List D), T[P]? = some (.lst ds) → (∀ c ∈ l, c.1 = x.t) →
    ∃ y' V', forL [(P, ds)] (fun d ρ S => exSs (run tab (N + 1)) b20_0 (ρ.set 10 (some d)) S) (l.map dcl) (es ++ [some (quD x), y]) (T ++ V) = .ok .nx (es ++ [some (quD x), y']) (T ++ V') := by
  intro l y P ds hP hl
  obtain ⟨ρ', S', h1, ⟨y', hy'⟩, ⟨V', hV'⟩⟩ : ∃ ρ' S', forL [(P, ds)] (fun d ρ S => exSs (run tab (N + 1)) b20_0 (ρ.set 10 (some d)) S) (l.map dcl) (es ++ [some (quD x), y]) (T ++ V) = .ok .nx ρ' S' ∧ (∃ y, ρ' = es ++ [some (quD x), y]) ∧ ∃ V, S' = T ++ V := by
    have g := forL_J (live := [(P, ds)]) (turn := fun d ρ S => exSs (run tab (N + 1)) b20_0 (ρ.set 10 (some d)) S) (g := dcl) (step := fun (s : Unit) (_ : Cl) => s) (J := fun l _ ρ S => (∀ c ∈ l, c.1 = x.t) ∧ (∃ y, ρ = es ++ [some (quD x), y]) ∧ ∃ V, S = T ++ V)
      (fun l _ ρ S ⟨_, _, V, hV⟩ => live_at (by rw [hV, List.getElem?_append_left (List.getElem?_eq_some_iff.mp hP).1]; exact hP)) ?_ l () (es ++ [some (quD x), y]) (T ++ V) ⟨hl, ⟨y, rfl⟩, V, rfl⟩
    · obtain ⟨ρ', S', g1, _, g2, g3⟩ := g
      exact ⟨ρ', S', g1, g2, g3⟩
    · rintro c r _ ρ S ⟨hc, ⟨y, rfl⟩, V, rfl⟩
      have hset : (es ++ [some (quD x), y]).set 10 (some (dcl c)) = es ++ [some (quD x), some (dcl c)] := by
        rw [List.set_append_right _ _ (by omega), he]; rfl
      have hr := r_tasked (N := N) (S := T ++ V) (x := x)
      obtain ⟨U, hU⟩ : ∃ U, U = T ++ V := ⟨_, rfl⟩
      have hn := nin_at (S := U ++ [O.lst [tx x.t]]) (m := U.length) (x := c.1) (ws := [x.t]) at_new
      have hin : decide (c.1 ∈ [x.t]) = true := decide_eq_true (by rw [hc c List.mem_cons_self]; exact List.mem_cons_self)
      rw [hin] at hn
      refine ⟨es ++ [some (quD x), some (dcl c)], T ++ (V ++ [O.lst [tx x.t]]), ?_, fun e hm => hc e (List.mem_cons_of_mem _ hm), ⟨_, rfl⟩, _, rfl⟩
      rw [hset, ← List.append_assoc, ← hU]
      rw [← hU] at hr
      have v9 : ∀ T, evK (run tab (N + 1)) (.v 9) (es ++ [some (quD x), some (dcl c)]) T = .ok (.val (quD x)) T := fun T => e_v (by rw [List.getElem?_append_right (by omega), he]; rfl)
      have v10 : ∀ T, evK (run tab (N + 1)) (.v 10) (es ++ [some (quD x), some (dcl c)]) T = .ok (.val (dcl c)) T := fun T => e_v (by rw [List.getElem?_append_right (by omega), he]; rfl)
      have i0 : ∀ T, p2 .ix (.val (dcl c)) (.val (.int 0)) T = .ok (.val (tx c.1)) T := fun T => ix_tup rfl
      refine (x_if0 (S' := U ++ [O.lst [tx x.t]]) ?_).trans x_nil
      simp only [e_B, e_p2, e_call, e_ds, e_ds0, e_c, v9, v10, i0, bd_ok', toD_val, hr, vv_ok', hn, toB_bl, Bool.not_true]
  subst hy' hV'
  exact ⟨y', V', h1⟩
theorem r_question {N : Nat} {S : Store} {l : List Nat} {x : Qu} (hz : l.length < 1000000) (hw : wordsO l = some (quW x)) (g : gq x) (hf : ∀ c, x.c = some c → fu c ≤ N + 3 ∧ fc c ≤ N + 2) : run tab (N + 4) 20 [tx l] S = .ok (quD x) S := by
  have rw2 := r_words (n := N + 2) (S := S) hz hw
  obtain ⟨T, hT⟩ : ∃ T, T = S ++ [O.lst ((quW x).map tx)] := ⟨_, rfl⟩
  have hm : T[S.length]? = some (.lst ((quW x).map tx)) := by rw [hT]; exact at_new
  rw [← hT] at rw2
  obtain ⟨ws, hws⟩ : ∃ ws, ws = quW x := ⟨_, rfl⟩
  obtain ⟨k0, hk0⟩ : ∃ k0, k0 = 1 + (whW x.w).length := ⟨_, rfl⟩
  rw [← hws] at hm
  have d0 : ws.drop 0 = q "show" :: (whW x.w ++ q "of" :: x.t :: beW x.c) := by rw [hws]; rfl
  have d1 := drop_one d0
  have d1 : ws.drop 1 = whW x.w ++ q "of" :: (x.t :: beW x.c) := d1
  have dk := drop_app d1
  rw [← hk0] at dk
  have dk1 := drop_one dk
  have dk2 := drop_one dk1
  have g0 : ws[0]? = some (q "show") := by have := get_drop d0 0; exact this
  have gk : ws[k0]? = some (q "of") := by have := get_drop dk 0; exact this
  have gk1 : ws[k0 + 1]? = some x.t := by have := get_drop dk1 0; exact this
  have tb := tab_at g.t
  have e6a := r_need (n := N + 1) (x := "show") (j := 0) (k := 0) hm rfl g0
  have e13 := r_what (N := N) hm d1 g.w
  rw [← hk0] at e13
  have e6b := r_need (n := N + 1) (x := "of") (j := (k0 : Int)) (k := k0) hm rfl gk
  have e7 := r_name_at (n := N + 1) (j := (k0 : Int) + 1) (k := k0 + 1) hm (by omega) gk1 tb.1 (by omega)
  have hlen : ws.length = k0 + 2 + (beW x.c).length := by
    have := congrArg List.length dk2
    rw [List.length_drop] at this
    have h1 := (List.getElem?_eq_some_iff.mp gk1).1
    omega
  have e14 := r_second (N := N + 2) (j := (k0 : Int) + 2) (k := k0 + 2) (t := tx x.t) hm (by omega) (by simp) (by
    cases e : x.c with
    | none => rw [e] at hlen; exact .inl (by rw [hlen]; simp [beW])
    | some c => exact .inr ⟨q "where", by have := get_drop dk2 0; rw [e] at this; exact this, wa⟩)
  have ln := len_at hm
  rw [List.length_map] at ln
  obtain ⟨wd, hwd⟩ : ∃ d, d = whD x.w := ⟨_, rfl⟩
  obtain ⟨cd, hcd⟩ : ∃ d, d = cnD x.c := ⟨_, rfl⟩
  have hQ : quD x = .tup [wd, tx x.t, .non, cd, .non, .non] := by rw [hwd, hcd]; rfl
  have hQu : (quD x).und S.length = true := by rw [hQ, hwd, hcd]; simp [und_whD, und_cnD]
  rw [← hwd] at e13
  -- the condition
  have cnd : ∀ r, exSs (run tab (N + 3)) ((b20.drop 7).take 1 ++ r) [some (tx l), some (.ref S.length), some wd, some (.int ((k0 : Int) + 2)), some (tx x.t), some .non, some .non, none, none, none, none] T =
      exSs (run tab (N + 3)) r [some (tx l), some (.ref S.length), some wd, some (.int (ws.length : Nat)), some (tx x.t), some .non, some cd, none, none, none, none] T := by
    intro r
    obtain ⟨ρ, hρ⟩ : ∃ ρ : Env, ρ = [some (tx l), some (.ref S.length), some wd, some (.int ((k0 : Int) + 2)), some (tx x.t), some .non, some .non, none, none, none, none] := ⟨_, rfl⟩
    have v1 : ∀ T, evK (run tab (N + 3)) (.v 1) ρ T = .ok (.val (.ref S.length)) T := fun T => e_v (by rw [hρ]; rfl)
    have v3 : ∀ T, evK (run tab (N + 3)) (.v 3) ρ T = .ok (.val (.int ((k0 : Int) + 2))) T := fun T => e_v (by rw [hρ]; rfl)
    cases e : x.c with
    | none =>
      rw [e] at hlen hcd
      have hl : ws.length = k0 + 2 := by rw [hlen]; simp [beW]
      have hlt : ¬ ((k0 : Int) + 2 < (ws.length : Int)) := by omega
      rw [← hρ]
      refine (y_if0 ?_).trans ?_
      · simp only [e_B, e_and, e_p2, e_p1, v1, v3, bd_ok', ln, lt_ii, toB_bl, decide_eq_false hlt, Bool.false_eq_true, if_false, vv_ok']
      · rw [hρ, hcd, hl]; rfl
    | some c =>
      rw [e] at hlen hcd dk2
      have dk2 : ws.drop (k0 + 2) = q "where" :: wds c := dk2
      have gk2 : ws[k0 + 2]? = some (q "where") := by have := get_drop dk2 0; exact this
      have dk3 : ws.drop (k0 + 3) = wds c ++ [] := by rw [List.append_nil]; exact drop_one dk2
      have hl : ws.length = k0 + 3 + (wds c).length := by rw [hlen]; simp [beW]; omega
      have hlt : ((k0 : Int) + 2 < (ws.length : Int)) := by omega
      have ix := ix_k hm gk2
      have ix : p2 .ix (.val (.ref S.length)) (.val (.int ((k0 : Int) + 2))) T = .ok (.val (tx (q "where"))) T := ix
      have rc := r_cond c (N := N + 3) (j := (k0 : Int) + 2 + 1) (d := 0) hm dk3 (by omega) (Int.le_refl _) (by have := (g.c c e).2; omega) (g.c c e).1 (hf c e).1
      rw [← hl] at rc
      have hcd : cd = enc c := hcd
      rw [← hcd] at rc
      rw [← hρ]
      refine (y_ift ?_).trans ?_
      · simp only [e_B, e_and, e_p2, e_p1, e_c, v1, v3, bd_ok', ln, lt_ii, toB_bl, decide_eq_true hlt, if_true, ix, eq_q, decide_true]
      · rw [y_tp (ρ' := [some (tx l), some (.ref S.length), some wd, some (.int (ws.length : Nat)), some (tx x.t), some .non, some cd, none, none, none, none]) [cd, .int (ws.length : Nat)] (by simp only [e_D, e_call, e_ds, e_ds0, e_p2, e_c, v1, v3, bd_ok', toD_val, add_ok, rc, vv_ok']) (by rw [hρ]; rfl), x_nil]
        rfl
  have cnd := cnd (b20.drop 8)
  have e15 := r_rising (N := N + 2) (j := (ws.length : Int)) (k := ws.length) hm rfl (Nat.le_refl _)
  have e16 := r_first (N := N + 2) (j := (ws.length : Int)) (k := ws.length) hm rfl (Nat.le_refl _)
  have e18 := r_casked (N := N + 2) (S := T) (x := x) (fun c e => ⟨(g.c c e).2, (hf c e).2⟩) (by omega)
  obtain ⟨cl, hcl⟩ : ∃ cl, cl = (whC x.w ++ cnC x.c) := ⟨_, rfl⟩
  have own := g.own
  rw [← hcl] at e18 own
  obtain ⟨y', V', lp⟩ := loopQ (N := N + 2) (T := T ++ [O.lst (cl.map dcl)]) (V := []) (x := x) (es := [some (tx l), some (.ref S.length), some wd, some (.int (ws.length : Nat)), some (tx x.t), some .non, some cd, some .non, some .non]) rfl cl none T.length (cl.map dcl) at_new own
  rw [List.append_nil] at lp
  refine r_run (F := ⟨1, 11, b20⟩) (d := quD x) (S' := S ++ ([O.lst ((quW x).map tx)] ++ [O.lst (cl.map dcl)] ++ V')) rfl rfl ?_ (pack_app hQu)
  show Rt (exSs (run tab (N + 3)) b20 [some (tx l), none, none, none, none, none, none, none, none, none, none] S) _ _
  refine Rt.go (x_set (d := .ref S.length) (S' := T) (by simp [rw2])) ?_
  refine Rt.go (y_exp (.val .non) (by simp [e6a])) ?_
  refine Rt.go (y_tp (ρ' := [some (tx l), some (.ref S.length), some wd, some (.int (k0 : Int)), none, none, none, none, none, none, none]) [wd, .int (k0 : Int)] (by simp [e13]) rfl) ?_
  refine Rt.go (y_exp (.val .non) (by simp [e6b])) ?_
  refine Rt.go (y_set (tx x.t) (by simp [e7, add_ok])) ?_
  refine Rt.go (y_tp (ρ' := [some (tx l), some (.ref S.length), some wd, some (.int ((k0 : Int) + 2)), some (tx x.t), some .non, none, none, none, none, none]) [.non, .int ((k0 : Int) + 2)] (by simp [e14, add_ok]) rfl) ?_
  refine Rt.go (y_set .non (by simp)) ?_
  refine Rt.go cnd ?_
  refine Rt.go (y_tp (ρ' := [some (tx l), some (.ref S.length), some wd, some (.int (ws.length : Nat)), some (tx x.t), some .non, some cd, some .non, none, none, none]) [.non, .int (ws.length : Nat)] (by simp [e15]) rfl) ?_
  refine Rt.go (y_tp (ρ' := [some (tx l), some (.ref S.length), some wd, some (.int (ws.length : Nat)), some (tx x.t), some .non, some cd, some .non, some .non, none, none]) [.non, .int (ws.length : Nat)] (by simp [e16]) rfl) ?_
  obtain ⟨wc, wr, hwc⟩ : ∃ a r, wd = .tup (.str a :: r) := by rw [hwd]; cases x.w <;> exact ⟨_, _, rfl⟩
  have i0 : ∀ T, p2 .ix (.val wd) (.val (.int 0)) T = .ok (.val (.str wc)) T := fun T => by rw [hwc]; exact ix_tup (atI_at (by decide) rfl)
  refine Rt.go (y_if0 ?_) ?_
  · have nn : ∃ b, p2 .nin (.val (.str wc)) (.val (.tup [.str "all", .str "columns"])) T = .ok (.val (.bl b)) T := by
      have := nin_tup (S := T) (x := q wc) (ws := [q "all", q "columns"])
      simp only [List.map_cons, List.map_nil, tx_q] at this
      exact ⟨_, this⟩
    obtain ⟨b, nn⟩ := nn
    cases b <;> simp [ln, ne_ii, i0, sz2, nn, nN_non]
  refine Rt.go (y_set (quD x) (by rw [hQ]; simp [sz6])) ?_
  refine Rt.go (x_for (ws := [.val (.ref T.length)]) (S' := T ++ [O.lst (cl.map dcl)]) (by simp [e18]) (its_at at_new) lp) ?_
  refine Rt.fin (x_ret ?_)
  rw [hT]
  simp [List.append_assoc]
end Mi.L

namespace Mi.L
open PySem Mi
/-! ### steps: small parts -/
section
variable {N m : Nat} {S : Store} {ws : List (List Nat)} (hS : S[m]? = some (.lst (ws.map tx)))
include hS
theorem r_many {a : Int} (h : a ≤ ws.length) : run tab (N + 1) 21 [.ref m, .int a, .non] S = .ok .non S := by
  have ln := len_at hS
  rw [List.length_map] at ln
  have h1 : ¬ ((ws.length : Int) < a) := by omega
  refine r_runN (F := ⟨3, 3, b21⟩) rfl rfl ?_ (pack_same (by simp))
  exact ⟨_, (y_if0 (by simp [ln, lt_ii, h1, nN_non])).trans x_nil⟩
theorem r_many2 {a b : Int} (h : a ≤ ws.length) (h2 : (ws.length : Int) ≤ b) : run tab (N + 1) 21 [.ref m, .int a, .int b] S = .ok .non S := by
  have ln := len_at hS
  rw [List.length_map] at ln
  have h1 : ¬ ((ws.length : Int) < a) := by omega
  have h3 : ¬ (b < (ws.length : Int)) := by omega
  refine r_runN (F := ⟨3, 3, b21⟩) rfl rfl ?_ (pack_same (by simp))
  exact ⟨_, (y_if0 (by simp [ln, lt_ii, gt_ii, h1, h3, nN_int])).trans x_nil⟩
end
theorem r_table {N : Nat} {S : Store} {w : List Nat} (h : nmB w = true) (hz : w.length ≤ 640) : run tab (N + 2) 22 [tx w] S = .ok (tx w) S := by
  have hn := r_name (n := N) (S := S) (l := w) (Nat.le_trans hz (by decide))
  refine r_run (F := ⟨1, 1, b22⟩) rfl rfl ?_ (pack_same (by simp))
  exact Rt.go (y_if0 (by simp [hn, h])) (Rt.fin (y_ret (by simp)))
theorem r_colof {N : Nat} {S : Store} {c : Cl} (hc : gc c) : run tab (N + 3) 23 [tx (wdC c)] S = .ok (dcl c) S := by
  obtain ⟨a, b⟩ := c
  have o := okC_at hc.1 hc.2
  unfold okC at o
  simp only [Bool.and_eq_true, decide_eq_true_eq] at o
  obtain ⟨⟨⟨⟨⟨⟨⟨o1, o2⟩, o3⟩, o4⟩, o5⟩, o6⟩, o7⟩, o8⟩ := o
  have e46 : D.str "." = tx [46] := by rw [← tx_q, show q "." = [46] by decide +kernel]
  have hl : (wdC (a, b)).length ≤ 640 := by simp only [wdC, List.length_append, List.length_cons]; omega
  have sp := split_tx (S := S) (a := wdC (a, b)) (c := 46) (by decide) (Nat.le_trans (by omega : (wdC (a, b)).length + 2 ≤ 700) (by decide))
  rw [o1] at sp
  obtain ⟨T, hT⟩ : ∃ T, T = S ++ [O.lst [tx a, tx b]] := ⟨_, rfl⟩
  have hTl : T[S.length]? = some (.lst [tx a, tx b]) := by rw [hT]; exact at_new
  have h1 := r_table (N := N) (S := T) (w := a) o2 (by omega)
  have h2 := r_table (N := N) (S := T) (w := b) o3 (by omega)
  have hk : MK.is S .str (.val (tx (wdC (a, b)))) = true := rfl
  obtain ⟨w, hw⟩ : ∃ w, w = wdC (a, b) := ⟨_, rfl⟩
  rw [← hw] at sp hk ⊢
  refine r_run (F := ⟨1, 2, b23⟩) (S' := T) rfl rfl ?_ (by rw [hT]; exact pack_app (by simp [dcl]))
  refine Rt.go (x_set (d := .ref S.length) (S' := T) ?_) ?_
  · simp only [e_D, e_m1, e_c, e46]
    rw [e_v (d := tx w) rfl]
    simp only [bd_ok', hk, if_true, sp, hT]
    rfl
  have i0 : p2 .ix (.val (.ref S.length)) (.val (.int 0)) T = .ok (.val (tx a)) T := ix_at hTl rfl
  have i1 : p2 .ix (.val (.ref S.length)) (.val (.int 1)) T = .ok (.val (tx b)) T := ix_at hTl rfl
  have ln := len_at hTl
  refine Rt.go (y_if0 (by simp [ln, ne_ii])) (Rt.fin (y_ret (by simp [i0, i1, h1, h2, sz2, dcl])))
/-! ### columns_within -/
theorem int_bl {S : Store} {b : Bool} : p1 .int_ (.val (.bl b)) S = .ok (.val (.int (if b then 1 else 0))) S := rfl
theorem tv_add {S : Store} {c v : D} : (p2 .mul (.lis [v]) (.val (.int 0)) S).bd (fun y S => p2 .add (.lis [c]) y S) = .ok (.lis [c]) S := by
  rw [rep_lis (by decide) (by show 1 * 0 ≤ sizeLine; decide)]
  exact add_lis (xs := [c]) (ys := []) (by show 1 + 0 ≤ sizeLine; decide)
theorem tc_add {S : Store} {c v : D} : (p2 .mul (.lis [v]) (.val (.int 1)) S).bd (fun y S => p2 .add (.lis [c]) y S) = .ok (.lis [c, v]) S := by
  rw [rep_lis (by decide) (by show 1 * 1 ≤ sizeLine; decide)]
  exact add_lis (xs := [c]) (ys := [v]) (by show 1 + 1 ≤ sizeLine; decide)
theorem r_cw_t {N : Nat} {S : Store} {c : D} {s : List Nat} {k : Str} {v : D} {b : Bool} (hk : decide (k = "column") = b) (hu : D.unds S.length (c :: (if b = true then [v] else [])) = true) :
    run tab (N + 1) 24 [.tup [.str "test", c, tx s, .tup [.str k, v]]] S = .ok (.ref S.length) (S ++ [.lst (c :: (if b = true then [v] else []))]) := by
  refine r_run (F := ⟨1, 4, b24⟩) rfl rfl ?_ (pack_new hu)
  have i0 : ∀ T, p2 .ix (.val (.tup [.str "test", c, tx s, .tup [.str k, v]])) (.val (.int 0)) T = .ok (.val (.str "test")) T := fun T => ix_tup rfl
  have i1 : ∀ T, p2 .ix (.val (.tup [.str "test", c, tx s, .tup [.str k, v]])) (.val (.int 1)) T = .ok (.val c) T := fun T => ix_tup rfl
  have i3 : ∀ T, p2 .ix (.val (.tup [.str "test", c, tx s, .tup [.str k, v]])) (.val (.int 3)) T = .ok (.val (.tup [.str k, v])) T := fun T => ix_tup rfl
  have j0 : ∀ T, p2 .ix (.val (.tup [.str k, v])) (.val (.int 0)) T = .ok (.val (.str k)) T := fun T => ix_tup rfl
  have j1 : ∀ T, p2 .ix (.val (.tup [.str k, v])) (.val (.int 1)) T = .ok (.val v) T := fun T => ix_tup rfl
  refine Rt.go (y_if0 (by simp [i0, eqs false nt2])) ?_
  refine Rt.go (y_ift (by simp [i0, eqs true (decide_eq_true rfl)])) ?_
  rw [y_set (.tup [.str k, v]) (by simp [i3])]
  obtain ⟨d0, hd0⟩ : ∃ d, d = D.tup [.str "test", c, tx s, .tup [.str k, v]] := ⟨_, rfl⟩
  obtain ⟨d1, hd1⟩ : ∃ d, d = D.tup [.str k, v] := ⟨_, rfl⟩
  rw [← hd0] at i1
  rw [← hd1] at j0 j1
  show Rt ((exSs (run tab N) [.ret (.p2 .add (.disp [(.p2 .ix (.v 0) (.c (.int 1)))]) (.p2 .mul (.disp [(.p2 .ix (.v 1) (.c (.int 1)))]) (.p1 .int_ (.p2 .eq (.p2 .ix (.v 1) (.c (.int 0))) (.c (.str "column"))))))] [some (.tup [.str "test", c, tx s, .tup [.str k, v]]), some (.tup [.str k, v]), none, none] S).sq _) _ _
  rw [← hd0, ← hd1]
  cases b with
  | true =>
    rw [x_ret (d := .ref S.length) (S' := S ++ [O.lst [c, v]])]
    · exact Rt.fin rfl
    · simp [i1, j0, j1, eqs true hk, int_bl, sz1, tc_add]
  | false =>
    rw [x_ret (d := .ref S.length) (S' := S ++ [O.lst [c]])]
    · exact Rt.fin rfl
    · simp [i1, j0, j1, eqs false hk, int_bl, sz1, tv_add]
theorem turnW24 {N : Nat} {S U : Store} {xs ys : List Cl} {e d0 : D} {x r : Option D} (hc : run tab N 24 [e] (S ++ .lst (xs.map dcl) :: U) = .ok (.ref (S ++ O.lst (xs.map dcl) :: U).length) ((S ++ .lst (xs.map dcl) :: U) ++ [.lst (ys.map dcl)])) (hz : xs.length + ys.length ≤ 1000) :
    exSs (run tab N) b24_0 [some d0, r, some (.ref S.length), some e] (S ++ .lst (xs.map dcl) :: U) = .ok .nx [some d0, r, some (.ref S.length), some e] (S ++ .lst ((xs ++ ys).map dcl) :: (U ++ [.lst (ys.map dcl)])) := by
  obtain ⟨T, hT⟩ : ∃ T, T = S ++ O.lst (xs.map dcl) :: U := ⟨_, rfl⟩
  have hTl : T[S.length]? = some (.lst (xs.map dcl)) := by rw [hT]; simp
  have hlt : S.length < T.length := by rw [hT]; simp
  rw [← hT] at hc ⊢
  have hk := isK_at hTl
  have ex := ext_at (S := T ++ [.lst (ys.map dcl)]) (k := S.length) (ds := xs.map dcl) (m := T.length) (es := ys.map dcl) (by rw [List.getElem?_append_left hlt]; exact hTl) at_new (by simp only [List.length_map]; exact Nat.le_trans hz (by decide))
  have st : (T ++ [O.lst (ys.map dcl)]).set S.length (.lst (xs.map dcl ++ ys.map dcl)) = S ++ .lst ((xs ++ ys).map dcl) :: (U ++ [.lst (ys.map dcl)]) := by
    rw [hT]; simp
  rw [st] at ex
  refine (x_exp (w := .val .non) (S' := S ++ .lst ((xs ++ ys).map dcl) :: (U ++ [.lst (ys.map dcl)])) ?_).trans x_nil
  simp [hk, hc, ex]
theorem r_cwin : ∀ (c : Cn) {N : Nat} {S : Store}, dp c < 5 → fc c ≤ N → run tab N 24 [enc c] S = .ok (.ref S.length) (S ++ [.lst ((csC c).map dcl)])
  | .tv c s v, N, S, _, hN => by
    obtain ⟨n, rfl⟩ : ∃ n, N = n + 1 := ⟨N - 1, by unfold fc at hN; omega⟩
    rw [enc]
    exact r_cw_t nt3 (by show D.unds S.length [dcl c] = true; exact unds_dcl [c])
  | .tc c s c2, N, S, _, hN => by
    obtain ⟨n, rfl⟩ : ∃ n, N = n + 1 := ⟨N - 1, by unfold fc at hN; omega⟩
    rw [enc]
    exact r_cw_t (b := true) (decide_eq_true rfl) (by show D.unds S.length [dcl c, dcl c2] = true; exact unds_dcl [c, c2])
  | .no x, N, S, hd, hN => by
    unfold fc at hN
    obtain ⟨n, rfl⟩ : ∃ n, N = n + 1 := ⟨N - 1, by omega⟩
    have ih := r_cwin x (N := n) (S := S) (by unfold dp at hd; omega) (by omega)
    rw [enc, csC]
    obtain ⟨e, he⟩ : ∃ e, e = enc x := ⟨_, rfl⟩
    rw [← he] at ih ⊢
    have i0 : ∀ T, p2 .ix (.val (.tup [.str "not", e])) (.val (.int 0)) T = .ok (.val (.str "not")) T := fun T => ix_tup rfl
    have i1 : ∀ T, p2 .ix (.val (.tup [.str "not", e])) (.val (.int 1)) T = .ok (.val e) T := fun T => ix_tup rfl
    refine r_run (F := ⟨1, 4, b24⟩) rfl rfl ?_ (pack_new (unds_dcl _))
    exact Rt.fin (x_if1 (S' := S) (by simp [i0, eqs true (decide_eq_true rfl)]) (by simp [i1, ih]))
  | .g2 b x y, N, S, hd, hN => by
    unfold fc at hN
    obtain ⟨n, rfl⟩ : ∃ n, N = n + 1 := ⟨N - 1, by omega⟩
    have hdx : dp x < 5 := by unfold dp at hd; omega
    have hdy : dp y < 5 := by unfold dp at hd; omega
    have ihx := r_cwin x (N := n) (S := S ++ [.lst (([] : List Cl).map dcl)]) hdx (by omega)
    have ihy := r_cwin y (N := n) (S := S ++ .lst ((([] : List Cl) ++ csC x).map dcl) :: ([] ++ [.lst ((csC x).map dcl)])) hdy (by omega)
    have sx := csC_short hdx
    have sy := csC_short hdy
    obtain ⟨ex, hex⟩ : ∃ e, e = enc x := ⟨_, rfl⟩
    obtain ⟨ey, hey⟩ : ∃ e, e = enc y := ⟨_, rfl⟩
    rw [enc, csC]
    rw [← hex] at ihx ⊢
    rw [← hey] at ihy ⊢
    obtain ⟨d0, hd0⟩ : ∃ d, d = D.tup [tx (kw b), .tup [ex, ey]] := ⟨_, rfl⟩
    have i0 : ∀ T, p2 .ix (.val d0) (.val (.int 0)) T = .ok (.val (tx (kw b))) T := fun T => by rw [hd0]; exact ix_tup rfl
    have i1 : ∀ T, p2 .ix (.val d0) (.val (.int 1)) T = .ok (.val (.tup [ex, ey])) T := fun T => by rw [hd0]; exact ix_tup rfl
    rw [← hd0]
    have t1 := turnW24 (U := []) (xs := []) (d0 := d0) (r := none) (x := none) ihx (by simp; omega)
    have t2 := turnW24 (U := [] ++ [.lst ((csC x).map dcl)]) (xs := [] ++ csC x) (d0 := d0) (r := none) (x := some ex) ihy (by simp; omega)
    have k1 := (kw_nt b).1
    have k2 := (kw_nt b).2
    refine r_run (F := ⟨1, 4, b24⟩) (d := .ref S.length) (S' := S ++ .lst ((([] : List Cl) ++ csC x ++ csC y).map dcl) :: ([] ++ [.lst ((csC x).map dcl)] ++ [.lst ((csC y).map dcl)])) rfl rfl ?_ (pack_fresh (Nat.le_refl _) (by simp) (unds_dcl _))
    refine Rt.go (y_if0 (by simp [i0, eq_q, k2])) ?_
    refine Rt.go (y_if0 (by simp [i0, eq_q, k1])) ?_
    refine Rt.go (x_set (d := .ref S.length) (S' := S ++ [O.lst []]) (by simp)) ?_
    refine Rt.go (x_for (ws := [.val (.tup [ex, ey])]) (S' := S ++ [O.lst []]) (I := ⟨[ex, ey], []⟩) (by simp [i1]) rfl ((forL_nx isLive_nil t1).trans ((forL_nx isLive_nil t2).trans (forL_end isLive_nil)))) ?_
    exact Rt.fin (y_ret (by simp))
  | .g3 b x y z, N, S, hd, hN => by
    unfold fc at hN
    obtain ⟨n, rfl⟩ : ∃ n, N = n + 1 := ⟨N - 1, by omega⟩
    have hdx : dp x < 5 := by unfold dp at hd; omega
    have hdy : dp y < 5 := by unfold dp at hd; omega
    have hdz : dp z < 5 := by unfold dp at hd; omega
    have ihx := r_cwin x (N := n) (S := S ++ [.lst (([] : List Cl).map dcl)]) hdx (by omega)
    have ihy := r_cwin y (N := n) (S := S ++ .lst ((([] : List Cl) ++ csC x).map dcl) :: ([] ++ [.lst ((csC x).map dcl)])) hdy (by omega)
    have ihz := r_cwin z (N := n) (S := S ++ .lst ((([] : List Cl) ++ csC x ++ csC y).map dcl) :: ([] ++ [.lst ((csC x).map dcl)] ++ [.lst ((csC y).map dcl)])) hdz (by omega)
    have sx := csC_short hdx
    have sy := csC_short hdy
    have sz := csC_short hdz
    obtain ⟨ex, hex⟩ : ∃ e, e = enc x := ⟨_, rfl⟩
    obtain ⟨ey, hey⟩ : ∃ e, e = enc y := ⟨_, rfl⟩
    obtain ⟨ez, hez⟩ : ∃ e, e = enc z := ⟨_, rfl⟩
    rw [enc, csC]
    rw [← hex] at ihx ⊢
    rw [← hey] at ihy ⊢
    rw [← hez] at ihz ⊢
    obtain ⟨d0, hd0⟩ : ∃ d, d = D.tup [tx (kw b), .tup [ex, ey, ez]] := ⟨_, rfl⟩
    have i0 : ∀ T, p2 .ix (.val d0) (.val (.int 0)) T = .ok (.val (tx (kw b))) T := fun T => by rw [hd0]; exact ix_tup rfl
    have i1 : ∀ T, p2 .ix (.val d0) (.val (.int 1)) T = .ok (.val (.tup [ex, ey, ez])) T := fun T => by rw [hd0]; exact ix_tup rfl
    rw [← hd0]
    have t1 := turnW24 (U := []) (xs := []) (d0 := d0) (r := none) (x := none) ihx (by simp; omega)
    have t2 := turnW24 (U := [] ++ [.lst ((csC x).map dcl)]) (xs := [] ++ csC x) (d0 := d0) (r := none) (x := some ex) ihy (by simp; omega)
    have t3 := turnW24 (U := [] ++ [.lst ((csC x).map dcl)] ++ [.lst ((csC y).map dcl)]) (xs := [] ++ csC x ++ csC y) (d0 := d0) (r := none) (x := some ey) ihz (by simp; omega)
    have k1 := (kw_nt b).1
    have k2 := (kw_nt b).2
    refine r_run (F := ⟨1, 4, b24⟩) (d := .ref S.length) (S' := S ++ .lst ((([] : List Cl) ++ csC x ++ csC y ++ csC z).map dcl) :: ([] ++ [.lst ((csC x).map dcl)] ++ [.lst ((csC y).map dcl)] ++ [.lst ((csC z).map dcl)])) rfl rfl ?_ (pack_fresh (Nat.le_refl _) (by simp) (unds_dcl _))
    refine Rt.go (y_if0 (by simp [i0, eq_q, k2])) ?_
    refine Rt.go (y_if0 (by simp [i0, eq_q, k1])) ?_
    refine Rt.go (x_set (d := .ref S.length) (S' := S ++ [O.lst []]) (by simp)) ?_
    refine Rt.go (x_for (ws := [.val (.tup [ex, ey, ez])]) (S' := S ++ [O.lst []]) (I := ⟨[ex, ey, ez], []⟩) (by simp [i1]) rfl ((forL_nx isLive_nil t1).trans ((forL_nx isLive_nil t2).trans ((forL_nx isLive_nil t3).trans (forL_end isLive_nil))))) ?_
    exact Rt.fin (y_ret (by simp))
end Mi.L

namespace Mi.L
open PySem Mi
abbrev jn (ws : List (List Nat)) : List Nat := TL.joinL [32] ws
theorem sp_tx : D.str " " = tx [32] := by rw [← tx_q, q32]
theorem join_sp {S : Store} {ys : List (List Nat)} (hz : ys.flatten.length + ys.length ≤ 16777216) : p2 .join (.val (.str " ")) (.lis (ys.map tx)) S = .ok (.val (tx (jn ys))) S := by
  rw [sp_tx]
  show (match strsOf (ys.map tx) with | some ys => if joinFits (SX.S [32]) ys = true then vv (.str (Txt.join (SX.S [32]) ys)) S else .bad | none => .bad) = _
  rw [strsOf_tx]
  show (if joinFits (SX.S [32]) (ys.map SX.S) = true then _ else _) = _
  rw [if_pos]
  · rw [SX.join_S]; rfl
  · unfold joinFits
    refine decide_eq_true ?_
    rw [SX.lens, SX.S_len]
    rw [List.length_flatten] at hz
    have hz : (ys.map fun x => x.length).sum + ys.length ≤ 16777216 := hz
    simp only [List.length_cons, List.length_nil, List.length_map]
    omega
theorem eq_nil {S : Store} {m : Nat} {ws : List (List Nat)} (hS : S[m]? = some (.lst (ws.map tx))) : p2 .eq (.val (.ref m)) (.lis []) S = .ok (.val (.bl (decide (ws = [])))) S := by
  have e : W.py S (.val (.ref m)) = some (.list (ws.map fun w => PyData.str (SX.S w))) := by
    show toPy S (39 + 1) (.ref m) = _
    unfold toPy
    rw [hS]
    show (mapO (toPy S (38 + 1)) (ws.map tx)).map PyData.list = _
    rw [py_strs ws]; rfl
  show (match W.py S (.val (.ref m)), W.py S (.lis []) with
    | some a, some b => vv (.bl (PyData.eqv a b)) S
    | _, _ => .bad) = _
  rw [e]
  show vv (.bl (PyData.eqv (.list (ws.map fun w => PyData.str (SX.S w))) (.list []))) S = _
  cases ws with
  | nil => rfl
  | cons a r =>
    have : PyData.eqv (.list (((a :: r) : List (List Nat)).map fun w => PyData.str (SX.S w))) (.list []) = false := by
      simp [PyData.eqv, PyData.eqvAll]
    rw [this]; simp
theorem sl_from {C : CF} {ρ : Env} {S : Store} {m i : Nat} {k : Nat} {ws : List (List Nat)} (hS : S[m]? = some (.lst (ws.map tx))) (hv : ρ[i]? = some (some (.ref m))) : evK C (.sl (.v i) [(.c (.int (k : Nat)))] []) ρ S = .ok (.lis ((ws.drop k).map tx)) S := by
  rw [e_sl, e_v hv]
  simp only [bd_ok', e_ws, e_ws0, e_c, partI1, partI0, cut_at hS, cutD_from, List.map_drop]
theorem r_behind {N m : Nat} {S : Store} {t : List Nat} (c : Option Cn) (hS : S[m]? = some (.lst ((beW c).map tx))) (hc : ∀ x, c = some x → gd x ∧ dp x < 5 ∧ fu x ≤ N ∧ fc x ≤ N + 1 ∧ ∀ y ∈ csC x, y.1 = t) : run tab (N + 2) 25 [.ref m, tx t] S = .ok (cnD c) S := by
  have en := eq_nil hS
  cases c with
  | none =>
    refine r_run (F := ⟨2, 4, b25⟩) rfl rfl ?_ (pack_same (by simp [cnD]))
    have en : p2 .eq (.val (.ref m)) (.lis []) S = .ok (.val (.bl true)) S := en
    exact Rt.fin (y_if1 (by simp [en]) (by simp [cnD]))
  | some x =>
    obtain ⟨g1, g2, g3, g4, g5⟩ := hc x rfl
    have en : p2 .eq (.val (.ref m)) (.lis []) S = .ok (.val (.bl false)) S := en
    have i0 := ix_k (k := 0) hS (w := q "where") rfl
    have i0 : p2 .ix (.val (.ref m)) (.val (.int 0)) S = .ok (.val (tx (q "where"))) S := i0
    have hT : (S ++ [O.lst ((wds x).map tx)])[S.length]? = some (.lst ((wds x).map tx)) := at_new
    have rc := r_readc (N := N) hT g1 g2 g3
    have cw := r_cwin x (N := N + 1) (S := S ++ [O.lst ((wds x).map tx)]) g2 g4
    obtain ⟨e, he⟩ : ∃ e, e = enc x := ⟨_, rfl⟩
    have hu : e.und S.length = true := by rw [he]; exact und_enc _ _
    show run tab (N + 2) 25 [.ref m, tx t] S = .ok (enc x) S
    rw [← he] at rc cw ⊢
    obtain ⟨T, hTe⟩ : ∃ T, T = S ++ [O.lst ((wds x).map tx)] := ⟨_, rfl⟩
    rw [← hTe] at rc cw
    refine r_run (F := ⟨2, 4, b25⟩) (d := e) (S' := S ++ ([O.lst ((wds x).map tx)] ++ [O.lst ((csC x).map dcl)])) rfl rfl ?_ (pack_app hu)
    refine Rt.go (y_if0 (by simp [en])) ?_
    refine Rt.go (y_if0 (by simp [i0, ne_q])) ?_
    refine Rt.go (x_set (d := e) (S' := T) ?_) ?_
    · have sl := sl_from (C := run tab (N + 1)) (k := 1) (i := 0) (ρ := List.map some [.ref m, tx t] ++ List.replicate (4 - 2) none) hS rfl
      have sl : evK (run tab (N + 1)) (.sl (.v 0) [(.c (.int 1))] []) (List.map some [.ref m, tx t] ++ List.replicate (4 - 2) none) S = .ok (.lis ((wds x).map tx)) S := sl
      simp only [e_D, e_call, e_ds, e_ds0]
      rw [sl]
      simp only [bd_ok', toD_lis, ← hTe, rc, vv_ok', toD_val]
    have lp := forL_inv (live := [(T.length, (csC x).map dcl)]) (S := T ++ [O.lst ((csC x).map dcl)]) (live_at at_new) (turn := fun d ρ S => exSs (run tab (N + 1)) b25_0 (ρ.set 3 (some d)) S) (I := fun ρ => ∃ y, ρ = [some (.ref m), some (tx t), some e, y]) ((csC x).map dcl) [some (.ref m), some (tx t), some e, none] ?_ ⟨none, rfl⟩
    · obtain ⟨ρ', l1, y, rfl⟩ := lp
      refine Rt.go (x_for (ws := [.val (.ref T.length)]) (S' := T ++ [O.lst ((csC x).map dcl)]) (by simp [cw]) (its_at at_new) l1) ?_
      refine Rt.fin (x_ret ?_)
      rw [hTe]
      simp [List.append_assoc]
    · rintro d hd ρ ⟨y, rfl⟩
      obtain ⟨c, hc, rfl⟩ := List.mem_map.mp hd
      have ht := g5 c hc
      have j0 : ∀ T, p2 .ix (.val (dcl c)) (.val (.int 0)) T = .ok (.val (tx c.1)) T := fun T => ix_tup rfl
      refine ⟨_, (y_if0 ?_).trans x_nil, ⟨some (dcl c), rfl⟩⟩
      show evB (run tab (N + 1)) (.p2 .ne (.p2 .ix (.v 3) (.c (.int 0))) (.v 1)) [some (.ref m), some (tx t), some e, some (dcl c)] _ = _
      simp [j0, ne_tx, ht]
end Mi.L

namespace Mi.L
open PySem Mi
/-! ### texts of words are parted again -/
def wok (w : List Nat) : Bool := match foldO stepW ([], [], false, false) w with
  | some (i, c, qt, _) => decide (i = []) && decide (c = w) && !qt && !decide (w = [])
  | none => false
theorem stepW_pre (a i : List (List Nat)) (c : List Nat) (qt cl : Bool) (x : Nat) : stepW (a ++ i, c, qt, cl) x = (stepW (i, c, qt, cl) x).map fun s => (a ++ s.1, s.2) := by
  unfold stepW
  dsimp only
  split
  · simp
  · split
    · rfl
    · split <;> rfl
theorem foldW_pre (a : List (List Nat)) : ∀ (l : List Nat) (i : List (List Nat)) (c : List Nat) (qt cl : Bool), foldO stepW (a ++ i, c, qt, cl) l = (foldO stepW (i, c, qt, cl) l).map fun s => (a ++ s.1, s.2)
  | [], i, c, qt, cl => rfl
  | x :: r, i, c, qt, cl => by
    rw [foldO, foldO, stepW_pre]
    cases e : stepW (i, c, qt, cl) x with
    | none => rfl
    | some s =>
      obtain ⟨i2, c2, q2, l2⟩ := s
      exact foldW_pre a r i2 c2 q2 l2
theorem wok_scan {w : List Nat} (h : wok w = true) (a : List (List Nat)) : w ≠ [] ∧ ∃ cl, foldO stepW (a, [], false, false) w = some (a, w, false, cl) := by
  unfold wok at h
  split at h
  · rename_i i c qt cl hf
    simp only [Bool.and_eq_true, decide_eq_true_eq, Bool.not_eq_true', decide_eq_false_iff_not] at h
    obtain ⟨⟨⟨rfl, rfl⟩, rfl⟩, h4⟩ := h
    refine ⟨h4, cl, ?_⟩
    have := foldW_pre a c [] [] false false
    rw [List.append_nil] at this
    rw [this, hf]
    simp
  · cases h
theorem scan_join : ∀ (ws : List (List Nat)) (a : List (List Nat)), ws ≠ [] → (∀ w ∈ ws, wok w = true) → ∃ i c cl, foldO stepW (a, [], false, false) (jn ws) = some (i, c, false, cl) ∧ i ++ [c] = a ++ ws
  | [], _, h, _ => absurd rfl h
  | [p], a, _, h => by
    obtain ⟨_, cl, e⟩ := wok_scan (h p List.mem_cons_self) a
    refine ⟨a, p, cl, ?_, rfl⟩
    show foldO stepW (a, [], false, false) p = _
    exact e
  | p :: r1 :: r, a, _, h => by
    obtain ⟨_, cl, e⟩ := wok_scan (h p List.mem_cons_self) a
    obtain ⟨i, c, cl2, e2, e3⟩ := scan_join (r1 :: r) (a ++ [p]) (by simp) (fun w hw => h w (List.mem_cons_of_mem _ hw))
    refine ⟨i, c, cl2, ?_, by rw [e3]; simp⟩
    show foldO stepW (a, [], false, false) (p ++ ([32] ++ jn (r1 :: r))) = _
    rw [foldO_app e]
    show (match stepW (a, p, false, cl) 32 with | some s' => foldO stepW s' (jn (r1 :: r)) | none => none) = _
    have : stepW (a, p, false, cl) 32 = some (a ++ [p], [], false, false) := by simp [stepW]
    rw [this]
    exact e2
theorem words_join {ws : List (List Nat)} (hne : ws ≠ []) (h : ∀ w ∈ ws, wok w = true) : wordsO (jn ws) = some ws := by
  obtain ⟨i, c, cl, e, e2⟩ := scan_join ws [] hne h
  have e2 : i ++ [c] = ws := e2
  unfold wordsO
  rw [e]
  dsimp only
  have : ¬ ([] ∈ i ++ [c]) := fun hm => by
    rw [e2] at hm
    exact (wok_scan (h [] hm) []).1 rfl
  rw [decide_eq_false this, e2]
  rfl
def KW2 : List (List Nat) := [q "not", q "(", q ")", q "and", q "or", q "where", q "of", q "show", q "is", q "=", q "count", q "sum", q "most", q "make", q "drop", q "order", q "unorder", q "put", q "cut", q "set", q "need"]
theorem wok_all : (KW2.all wok && TAB.all wok && NAM.all wok && SIG.all wok && (MENU.all fun v => wok (wdV v)) && (TAB.all fun a => NAM.all fun b => wok (wdC (a, b)))) = true := by decide +kernel
theorem wok_k {w : List Nat} (h : w ∈ KW2) : wok w = true := by
  have := wok_all
  simp only [Bool.and_eq_true] at this
  exact List.all_eq_true.mp this.1.1.1.1.1 w h
theorem wok_t {w : List Nat} (h : w ∈ TAB) : wok w = true := by
  have := wok_all
  simp only [Bool.and_eq_true] at this
  exact List.all_eq_true.mp this.1.1.1.1.2 w h
theorem wok_n {w : List Nat} (h : w ∈ NAM) : wok w = true := by
  have := wok_all
  simp only [Bool.and_eq_true] at this
  exact List.all_eq_true.mp this.1.1.1.2 w h
theorem wok_s {w : List Nat} (h : w ∈ SIG) : wok w = true := by
  have := wok_all
  simp only [Bool.and_eq_true] at this
  exact List.all_eq_true.mp this.1.1.2 w h
theorem wok_v {v : Vl} (h : v ∈ MENU) : wok (wdV v) = true := by
  have := wok_all
  simp only [Bool.and_eq_true] at this
  exact List.all_eq_true.mp this.1.2 v h
theorem wok_c {c : Cl} (h : gc c) : wok (wdC c) = true := by
  have := wok_all
  simp only [Bool.and_eq_true] at this
  exact List.all_eq_true.mp (List.all_eq_true.mp this.2 c.1 h.1) c.2 h.2
theorem wok_kw (k : Bool) : wok (kw k) = true := by cases k <;> exact wok_k (by simp [KW2, kw])
theorem wok_wds : ∀ c : Cn, gd c → ∀ w ∈ wds c, wok w = true
  | .tv c s v, g, w, h => by
    unfold wds at h
    simp only [List.mem_cons, List.not_mem_nil, or_false] at h
    rcases h with rfl | rfl | rfl
    · exact wok_c g.1
    · exact wok_s g.2.1
    · exact wok_v g.2.2
  | .tc c s c2, g, w, h => by
    unfold wds at h
    simp only [List.mem_cons, List.not_mem_nil, or_false] at h
    rcases h with rfl | rfl | rfl
    · exact wok_c g.1
    · exact wok_s g.2.1
    · exact wok_c g.2.2
  | .no x, g, w, h => by
    rw [wds] at h
    rcases List.mem_cons.mp h with rfl | h
    · exact wok_k (by simp [KW2])
    · exact wok_wds x g w h
  | .g2 k x y, g, w, h => by
    rw [wds] at h
    simp only [List.mem_cons, List.mem_append, List.not_mem_nil, or_false] at h
    rcases h with rfl | h | rfl | h | rfl
    · exact wok_k (by simp [KW2])
    · exact wok_wds x g.1 w h
    · exact wok_kw k
    · exact wok_wds y g.2 w h
    · exact wok_k (by simp [KW2])
  | .g3 k x y z, g, w, h => by
    rw [wds] at h
    simp only [List.mem_cons, List.mem_append, List.not_mem_nil, or_false] at h
    rcases h with rfl | h | rfl | h | rfl | h | rfl
    · exact wok_k (by simp [KW2])
    · exact wok_wds x g.1 w h
    · exact wok_kw k
    · exact wok_wds y g.2.1 w h
    · exact wok_kw k
    · exact wok_wds z g.2.2 w h
    · exact wok_k (by simp [KW2])
theorem wok_be {c : Option Cn} (g : ∀ x, c = some x → gd x) : ∀ w ∈ beW c, wok w = true := by
  intro w h
  cases c with
  | none => cases h
  | some x =>
    rcases List.mem_cons.mp h with rfl | h
    · exact wok_k (by simp [KW2])
    · exact wok_wds x (g x rfl) w h
theorem wok_qu {x : Qu} (g : gq x) : ∀ w ∈ quW x, wok w = true := by
  intro w h
  unfold quW at h
  simp only [List.mem_cons, List.mem_append] at h
  rcases h with rfl | h | rfl | rfl | h
  · exact wok_k (by simp [KW2])
  · have gw := g.w
    cases e : x.w with
    | cnt =>
      rw [e] at h
      simp only [whW, List.mem_cons, List.not_mem_nil, or_false] at h
      subst h
      exact wok_k (by simp [KW2])
    | sum c =>
      rw [e] at h gw
      simp only [whW, List.mem_cons, List.not_mem_nil, or_false] at h
      rcases h with rfl | rfl
      · exact wok_k (by simp [KW2])
      · exact wok_c (gw c List.mem_cons_self)
    | most c =>
      rw [e] at h gw
      simp only [whW, List.mem_cons, List.not_mem_nil, or_false] at h
      rcases h with rfl | rfl
      · exact wok_k (by simp [KW2])
      · exact wok_c (gw c List.mem_cons_self)
    | cols c =>
      rw [e] at h gw
      simp only [whW, List.mem_cons, List.not_mem_nil, or_false] at h
      subst h
      exact wok_c (gw c List.mem_cons_self)
  · exact wok_k (by simp [KW2])
  · exact wok_t g.t
  · exact wok_be (fun y e => (g.c y e).1) w h
end Mi.L

namespace Mi.L
open PySem Mi
/-! ### steps -/
inductive Sp where
  | make (t : List Nat) (cs : List (List Nat)) | drop (t : List Nat) | ord (u : Bool) (c : Cl) | put (t : List Nat) (vs : List Vl) | cut (t : List Nat) (c : Option Cn) | set (c : Cl) (v : Vl) (b : Option Cn) | need (v : Vl) (x : Qu)
def oS (u : Bool) : Str := if u = true then "order" else "unorder"
def spD : Sp → D
  | .make t cs => .tup [.str "make", tx t, .tup (cs.map tx)]
  | .drop t => .tup [.str "drop", tx t]
  | .ord u c => .tup [.str (oS u), dcl c]
  | .put t vs => .tup [.str "put", tx t, .tup (vs.map dv)]
  | .cut t c => .tup [.str "cut", tx t, cnD c]
  | .set c v b => .tup [.str "set", dcl c, dv v, cnD b]
  | .need v x => .tup [.str "need", dv v, quD x]
def spW : Sp → List (List Nat)
  | .make t cs => q "make" :: t :: cs
  | .drop t => [q "drop", t]
  | .ord u c => [q (oS u), wdC c]
  | .put t vs => q "put" :: t :: vs.map wdV
  | .cut t c => q "cut" :: t :: beW c
  | .set c v b => q "set" :: wdC c :: q "=" :: wdV v :: beW b
  | .need v x => q "need" :: wdV v :: q "is" :: quW x
def gO (t : List Nat) (c : Option Cn) : Prop := ∀ x, c = some x → gd x ∧ dp x < 5 ∧ ∀ y ∈ csC x, y.1 = t
def gs : Sp → Prop
  | .make t cs => t ∈ TAB ∧ cs ≠ [] ∧ cs.length ≤ 10 ∧ ∀ c ∈ cs, c ∈ NAM
  | .drop t => t ∈ TAB
  | .ord _ c => gc c
  | .put t vs => t ∈ TAB ∧ vs ≠ [] ∧ vs.length ≤ 10 ∧ ∀ v ∈ vs, v ∈ MENU
  | .cut t c => t ∈ TAB ∧ gO t c
  | .set c v b => gc c ∧ v ∈ MENU ∧ gO c.1 b
  | .need v x => v ∈ MENU ∧ gq x
theorem fu_le : ∀ c : Cn, fu c ≤ 4 + 2 * dp c
  | .tv _ _ _ => by simp [fu]
  | .tc _ _ _ => by simp [fu]
  | .no x => by have := fu_le x; simp only [fu, dp]; omega
  | .g2 _ x y => by have := fu_le x; have := fu_le y; simp only [fu, dp]; omega
  | .g3 _ x y z => by have := fu_le x; have := fu_le y; have := fu_le z; simp only [fu, dp]; omega
theorem fc_le : ∀ c : Cn, fc c ≤ 1 + dp c
  | .tv _ _ _ => by simp [fc]
  | .tc _ _ _ => by simp [fc]
  | .no x => by have := fc_le x; simp only [fc, dp]; omega
  | .g2 _ x y => by have := fc_le x; have := fc_le y; simp only [fc, dp]; omega
  | .g3 _ x y z => by have := fc_le x; have := fc_le y; have := fc_le z; simp only [fc, dp]; omega
theorem und_dv (k : Nat) (v : Vl) : (dv v).und k = true := by cases v <;> simp [dv]
theorem unds_dv (k : Nat) : ∀ vs : List Vl, D.unds k (vs.map dv) = true
  | [] => by simp
  | v :: r => by rw [List.map_cons, unds_cons, und_dv, unds_dv k r]; rfl
theorem und_quD (k : Nat) (x : Qu) : (quD x).und k = true := by simp [quD, und_whD, und_cnD]
theorem und_spD (k : Nat) (p : Sp) : (spD p).und k = true := by
  cases p <;> simp [spD, dcl, und_dv, unds_dv, und_cnD, und_quD]
theorem r_valM {N : Nat} {S : Store} {v : Vl} (h : v ∈ MENU) : run tab (N + 2) 4 [tx (wdV v)] S = .ok (dv v) S := by
  have o := okV_at h
  unfold okV at o
  simp only [Bool.and_eq_true, decide_eq_true_eq, Bool.or_eq_true, Bool.not_eq_true'] at o
  obtain ⟨⟨⟨⟨o1, o2⟩, o3⟩, o4⟩, o5⟩ := o
  have ev := r_value (n := N) (S := S) (l := wdV v) (by omega) (fun h => by
    rcases o4 with q | q
    · rw [h] at q; cases q
    · exact Option.isSome_iff_exists.mp q)
  rw [valW_of, o1] at ev
  exact ev
def fV (d : D) : D := match d with
  | .str x => (match valV (q x) with
    | some v => dv v
    | none => .non)
  | d => d
theorem q_S (l : List Nat) : q (SX.S l) = l := by simp [q]
theorem fV_wd {v : Vl} (h : v ∈ MENU) : fV (tx (wdV v)) = dv v := by
  have o := okV_at h
  unfold okV at o
  simp only [Bool.and_eq_true, decide_eq_true_eq] at o
  show (match valV (q (SX.S (wdV v))) with | some v => dv v | none => .non) = _
  rw [q_S, o.1.1.1.1]
theorem fV_map : ∀ {vs : List Vl}, (∀ v ∈ vs, v ∈ MENU) → ((vs.map wdV).map tx).map fV = vs.map dv
  | [], _ => rfl
  | v :: r, h => by
    rw [List.map_cons, List.map_cons, List.map_cons, List.map_cons, fV_map fun w hw => h w (List.mem_cons_of_mem _ hw), fV_wd (h v List.mem_cons_self)]
theorem sp_kw : q "cut" ≠ q "put" ∧ q "set" ≠ q "put" ∧ q "set" ≠ q "cut" ∧ q "need" ≠ q "put" ∧ q "need" ≠ q "cut" ∧ q "need" ≠ q "set" := by decide +kernel
theorem sz10 : (10 : Nat) ≤ sizeLine := by decide
section
variable {N m : Nat} {S : Store} {ws : List (List Nat)}
/-- the first word is compared -/
theorem w0_ev {C : CF} {ρ : Env} {i : Nat} {w : List Nat} {x : Str} (hS : S[m]? = some (.lst (ws.map tx))) (hv : ρ[i]? = some (some (.ref m))) (h : ws[0]? = some w) : evB C (.p2 .eq (.p2 .ix (.v i) (.c (.int 0))) (.c (.str x))) ρ S = .ok (decide (w = q x)) S := by
  have i0 := ix_k (k := 0) hS h
  have i0 : p2 .ix (.val (.ref m)) (.val (.int 0)) S = .ok (.val (tx w)) S := i0
  simp only [e_B, e_p2, e_v hv, e_c, bd_ok', i0, eq_q, toB_bl]
theorem r_put {t : List Nat} {vs : List Vl} (hS : S[m]? = some (.lst ((spW (.put t vs)).map tx))) (g : gs (.put t vs)) : run tab (N + 31) 26 [.ref m] S = .ok (spD (.put t vs)) S := by
  obtain ⟨g1, g2, g3, g4⟩ := g
  obtain ⟨ws, hws⟩ : ∃ ws, ws = spW (.put t vs) := ⟨_, rfl⟩
  rw [← hws] at hS
  have h0 : ws[0]? = some (q "put") := by rw [hws]; rfl
  have h1 : ws[1]? = some t := by rw [hws]; rfl
  have hd : ws.drop 2 = vs.map wdV := by rw [hws]; rfl
  have hl : (3 : Int) ≤ ws.length := by
    rw [hws]
    show (3 : Int) ≤ ((q "put" :: t :: vs.map wdV).length : Nat)
    cases vs with
    | nil => exact absurd rfl g2
    | cons v r => simp; omega
  have many := r_many (N := N + 29) hS hl
  have tab1 := r_table (N := N + 28) (S := S) (w := t) (tab_at g1).1 (by have := (tab_at g1).2; omega)
  have i1 := ix_k (k := 1) hS h1
  have i1 : p2 .ix (.val (.ref m)) (.val (.int 1)) S = .ok (.val (tx t)) S := i1
  have hvl : (vs.map dv).length ≤ sizeLine := by rw [List.length_map]; exact Nat.le_trans g3 sz10
  refine r_run (F := ⟨1, 3, b26⟩) rfl rfl ?_ (pack_same (und_spD _ _))
  obtain ⟨ρ, hρ⟩ : ∃ ρ : Env, ρ = [some (.ref m), none, none] := ⟨_, rfl⟩
  show Rt (exSs (run tab (N + 30)) b26 [some (.ref m), none, none] S) _ _
  rw [← hρ]
  have hv : ρ[0]? = some (some (.ref m)) := by rw [hρ]; rfl
  have v0 : ∀ T, evK (run tab (N + 30)) (.v 0) ρ T = .ok (.val (.ref m)) T := fun T => e_v hv
  refine Rt.go (y_ift (by rw [w0_ev hS hv h0]; simp)) ?_
  rw [y_exp (.val .non) (by simp only [e_call, e_ds, e_ds0, e_c, v0, bd_ok', toD_val, many, vv_ok'])]
  have cp : evK (run tab (N + 30)) (.comp (.nm 1) .it [(.sl (.v 0) [(.c (.int 2))] [])] [] (.call 4 [(.v 1)]) [1]) ρ S = .ok (.lis (vs.map dv)) S := by
    have sl := sl_from (C := run tab (N + 30)) (k := 2) hS hv
    rw [hd] at sl
    have sl : evK (run tab (N + 30)) (.sl (.v 0) [(.c (.int 2))] []) ρ S = .ok (.lis ((vs.map wdV).map tx)) S := sl
    have := comp_pure (C := run tab (N + 30)) (ρ := ρ) (S := S) (S' := S) (i := 1) (k := .it) (is := [(.sl (.v 0) [(.c (.int 2))] [])]) (e := .call 4 [(.v 1)]) (own := [1]) (ws := [.lis ((vs.map wdV).map tx)]) (I := ⟨(vs.map wdV).map tx, []⟩) (f := fV) (by simp only [e_ws, e_ws0, sl, bd_ok']) rfl isLive_nil (by simp only [List.length_map]; exact Nat.le_trans g3 sz10) (fun d hd => ?_)
    · rw [this, fV_map g4]
    · obtain ⟨w, hw, rfl⟩ := List.mem_map.mp hd
      obtain ⟨v, hv2, rfl⟩ := List.mem_map.mp hw
      have rv := r_valM (N := N + 28) (S := S) (g4 v hv2)
      rw [fV_wd (g4 v hv2), hρ]
      have v1 : evK (run tab (N + 30)) (.v 1) ((wipeD [some (.ref m), none, none] [1]).set 1 (some (tx (wdV v)))) S = .ok (.val (tx (wdV v))) S := e_v rfl
      simp only [e_D, e_call, e_ds, e_ds0, v1, bd_ok', toD_val, rv, vv_ok']
  have tp : p1 .tuple_ (.lis (vs.map dv)) S = .ok (.val (.tup (vs.map dv))) S := rfl
  rw [x_ret (d := spD (.put t vs)) (S' := S)]
  · exact Rt.fin rfl
  · simp only [e_D, e_tup, e_ds, e_ds0, e_c, e_call, e_p1, e_p2, v0, bd_ok', toD_val, i1, tab1, vv_ok', cp, tp, List.length_cons, List.length_nil]
    rw [if_pos (by decide)]
    rfl
theorem r_cut {t : List Nat} {c : Option Cn} (hS : S[m]? = some (.lst ((spW (.cut t c)).map tx))) (g : gs (.cut t c)) : run tab (N + 31) 26 [.ref m] S = .ok (spD (.cut t c)) S := by
  obtain ⟨g1, g2⟩ := g
  obtain ⟨ws, hws⟩ : ∃ ws, ws = spW (.cut t c) := ⟨_, rfl⟩
  rw [← hws] at hS
  have h0 : ws[0]? = some (q "cut") := by rw [hws]; rfl
  have h1 : ws[1]? = some t := by rw [hws]; rfl
  have hd : ws.drop 2 = beW c := by rw [hws]; rfl
  have hl : (2 : Int) ≤ ws.length := by
    rw [hws]
    show (2 : Int) ≤ ((q "cut" :: t :: beW c).length : Nat)
    simp; omega
  have many := r_many (N := N + 29) hS hl
  have tab1 := r_table (N := N + 28) (S := S) (w := t) (tab_at g1).1 (by have := (tab_at g1).2; omega)
  have i1 := fun T => ix_k (S := S ++ T) (m := m) (k := 1) (by rw [List.getElem?_append_left (List.getElem?_eq_some_iff.mp hS).1]; exact hS) h1
  have i1 : ∀ T, p2 .ix (.val (.ref m)) (.val (.int 1)) (S ++ T) = .ok (.val (tx t)) (S ++ T) := i1
  have i10 := i1 []
  rw [List.append_nil] at i10
  have bh := r_behind (N := N + 28) (S := S ++ [O.lst ((beW c).map tx)]) (m := S.length) (t := t) c at_new (fun x e => by
    obtain ⟨a1, a2, a3⟩ := g2 x e
    have := fu_le x
    have := fc_le x
    exact ⟨a1, a2, by omega, by omega, a3⟩)
  refine r_run (F := ⟨1, 3, b26⟩) (S' := S ++ [O.lst ((beW c).map tx)]) rfl rfl ?_ (pack_app (und_spD _ _))
  obtain ⟨ρ, hρ⟩ : ∃ ρ : Env, ρ = [some (.ref m), none, none] := ⟨_, rfl⟩
  show Rt (exSs (run tab (N + 30)) b26 [some (.ref m), none, none] S) _ _
  rw [← hρ]
  have hv : ρ[0]? = some (some (.ref m)) := by rw [hρ]; rfl
  have v0 : ∀ T, evK (run tab (N + 30)) (.v 0) ρ T = .ok (.val (.ref m)) T := fun T => e_v hv
  have sl := sl_from (C := run tab (N + 30)) (k := 2) hS hv
  rw [hd] at sl
  have sl : evK (run tab (N + 30)) (.sl (.v 0) [(.c (.int 2))] []) ρ S = .ok (.lis ((beW c).map tx)) S := sl
  refine Rt.go (y_if0 (by rw [w0_ev hS hv h0, decide_eq_false sp_kw.1])) ?_
  refine Rt.go (y_ift (by rw [w0_ev hS hv h0]; simp)) ?_
  rw [y_exp (.val .non) (by simp only [e_call, e_ds, e_ds0, e_c, v0, bd_ok', toD_val, many, vv_ok'])]
  rw [x_ret (d := spD (.cut t c)) (S' := S ++ [O.lst ((beW c).map tx)])]
  · exact Rt.fin rfl
  · simp only [e_D, e_tup, e_ds, e_ds0, e_c, e_call, e_p1, e_p2, v0, bd_ok', toD_val, toD_lis, i10, i1, tab1, vv_ok', sl, bh, List.length_cons, List.length_nil]
    rw [if_pos (by decide)]
    rfl
end
end Mi.L

namespace Mi.L
open PySem Mi
theorem qu_len {x : Qu} (h : (quW x).flatten.length + (quW x).length ≤ 900000) : (jn (quW x)).length < 1000000 := by
  have : ∀ l : List (List Nat), (jn l).length ≤ l.flatten.length + l.length := by
    intro l
    induction l with
    | nil => simp [TL.joinL]
    | cons p r ih =>
      cases r with
      | nil => simp [TL.joinL]
      | cons p2 r =>
        show (p ++ ([32] ++ jn (p2 :: r))).length ≤ _
        simp only [List.length_append, List.flatten_cons, List.length_cons, List.length_nil] at ih ⊢
        omega
  have := this (quW x)
  omega
section
variable {N m : Nat} {S : Store} {ws : List (List Nat)}
theorem r_set {c : Cl} {v : Vl} {b : Option Cn} (hS : S[m]? = some (.lst ((spW (.set c v b)).map tx))) (g : gs (.set c v b)) : run tab (N + 31) 26 [.ref m] S = .ok (spD (.set c v b)) S := by
  obtain ⟨g1, g2, g3⟩ := g
  obtain ⟨ws, hws⟩ : ∃ ws, ws = spW (.set c v b) := ⟨_, rfl⟩
  rw [← hws] at hS
  have h0 : ws[0]? = some (q "set") := by rw [hws]; rfl
  have h1 : ws[1]? = some (wdC c) := by rw [hws]; rfl
  have h2 : ws[2]? = some (q "=") := by rw [hws]; rfl
  have h3 : ws[3]? = some (wdV v) := by rw [hws]; rfl
  have hd : ws.drop 4 = beW b := by rw [hws]; rfl
  have hl : (4 : Int) ≤ ws.length := by
    rw [hws]
    show (4 : Int) ≤ ((q "set" :: wdC c :: q "=" :: wdV v :: beW b).length : Nat)
    simp; omega
  have many := r_many (N := N + 29) hS hl
  have i1 : p2 .ix (.val (.ref m)) (.val (.int 1)) S = .ok (.val (tx (wdC c))) S := ix_k (k := 1) hS h1
  have i2 : p2 .ix (.val (.ref m)) (.val (.int 2)) S = .ok (.val (tx (q "="))) S := ix_k (k := 2) hS h2
  have i3 : p2 .ix (.val (.ref m)) (.val (.int 3)) S = .ok (.val (tx (wdV v))) S := ix_k (k := 3) hS h3
  have cf := r_colof (N := N + 27) (S := S) g1
  have rv := r_valM (N := N + 28) (S := S) g2
  have bh := r_behind (N := N + 28) (S := S ++ [O.lst ((beW b).map tx)]) (m := S.length) (t := c.1) b at_new (fun x e => by
    obtain ⟨a1, a2, a3⟩ := g3 x e
    have := fu_le x
    have := fc_le x
    exact ⟨a1, a2, by omega, by omega, a3⟩)
  obtain ⟨w1, hw1⟩ : ∃ w, w = wdC c := ⟨_, rfl⟩
  obtain ⟨w3, hw3⟩ : ∃ w, w = wdV v := ⟨_, rfl⟩
  rw [← hw1] at i1 cf
  rw [← hw3] at i3 rv
  have j0 : ∀ T, p2 .ix (.val (dcl c)) (.val (.int 0)) T = .ok (.val (tx c.1)) T := fun T => ix_tup rfl
  refine r_run (F := ⟨1, 3, b26⟩) (S' := S ++ [O.lst ((beW b).map tx)]) rfl rfl ?_ (pack_app (und_spD _ _))
  obtain ⟨ρ, hρ⟩ : ∃ ρ : Env, ρ = [some (.ref m), none, none] := ⟨_, rfl⟩
  show Rt (exSs (run tab (N + 30)) b26 [some (.ref m), none, none] S) _ _
  rw [← hρ]
  have hv : ρ[0]? = some (some (.ref m)) := by rw [hρ]; rfl
  have v0 : ∀ T, evK (run tab (N + 30)) (.v 0) ρ T = .ok (.val (.ref m)) T := fun T => e_v hv
  refine Rt.go (y_if0 (by rw [w0_ev hS hv h0, decide_eq_false sp_kw.2.1])) ?_
  refine Rt.go (y_if0 (by rw [w0_ev hS hv h0, decide_eq_false sp_kw.2.2.1])) ?_
  refine Rt.go (y_ift (by rw [w0_ev hS hv h0]; simp)) ?_
  rw [y_exp (.val .non) (by simp only [e_call, e_ds, e_ds0, e_c, v0, bd_ok', toD_val, many, vv_ok'])]
  rw [y_set (dcl c) (by simp only [e_D, e_call, e_ds, e_ds0, e_p2, e_c, v0, bd_ok', toD_val, i1, cf, vv_ok'])]
  obtain ⟨σ, hσ⟩ : ∃ σ : Env, σ = [some (.ref m), none, some (dcl c)] := ⟨_, rfl⟩
  have hsg : ρ.set 2 (some (dcl c)) = σ := by rw [hρ, hσ]; rfl
  rw [hsg]
  have hv' : σ[0]? = some (some (.ref m)) := by rw [hσ]; rfl
  have v0' : ∀ T, evK (run tab (N + 30)) (.v 0) σ T = .ok (.val (.ref m)) T := fun T => e_v hv'
  have v2' : ∀ T, evK (run tab (N + 30)) (.v 2) σ T = .ok (.val (dcl c)) T := fun T => e_v (by rw [hσ]; rfl)
  have sl := sl_from (C := run tab (N + 30)) (k := 4) hS hv'
  rw [hd] at sl
  have sl : evK (run tab (N + 30)) (.sl (.v 0) [(.c (.int 4))] []) σ S = .ok (.lis ((beW b).map tx)) S := sl
  rw [y_if0 (by simp only [e_B, e_p2, e_c, v0', bd_ok', i2, ne_q, toB_bl, decide_true, Bool.not_true])]
  rw [x_ret (d := spD (.set c v b)) (S' := S ++ [O.lst ((beW b).map tx)])]
  · exact Rt.fin rfl
  · simp only [e_D, e_tup, e_ds, e_ds0, e_c, e_call, e_p1, e_p2, v0', v2', bd_ok', toD_val, toD_lis, i3, rv, vv_ok', sl, j0, bh, List.length_cons, List.length_nil]
    rw [if_pos (by decide)]
    rfl
theorem r_needS {v : Vl} {x : Qu} (hS : S[m]? = some (.lst ((spW (.need v x)).map tx))) (g : gs (.need v x)) (hz : (quW x).flatten.length + (quW x).length ≤ 900000) : run tab (N + 31) 26 [.ref m] S = .ok (spD (.need v x)) S := by
  obtain ⟨g1, g2⟩ := g
  obtain ⟨ws, hws⟩ : ∃ ws, ws = spW (.need v x) := ⟨_, rfl⟩
  rw [← hws] at hS
  have h0 : ws[0]? = some (q "need") := by rw [hws]; rfl
  have h1 : ws[1]? = some (wdV v) := by rw [hws]; rfl
  have h2 : ws[2]? = some (q "is") := by rw [hws]; rfl
  have hd : ws.drop 3 = quW x := by rw [hws]; rfl
  have hl : ¬ ((ws.length : Int) < 4) := by
    rw [hws]
    show ¬ (((q "need" :: wdV v :: q "is" :: quW x).length : Nat) : Int) < 4
    unfold quW
    simp; omega
  have ln := len_at hS
  rw [List.length_map] at ln
  have i0 : p2 .ix (.val (.ref m)) (.val (.int 0)) S = .ok (.val (tx (q "need"))) S := ix_k (k := 0) hS h0
  have i1 : p2 .ix (.val (.ref m)) (.val (.int 1)) S = .ok (.val (tx (wdV v))) S := ix_k (k := 1) hS h1
  have i2 : p2 .ix (.val (.ref m)) (.val (.int 2)) S = .ok (.val (tx (q "is"))) S := ix_k (k := 2) hS h2
  have rv := r_valM (N := N + 28) (S := S) g1
  have jo := join_sp (S := S) (ys := quW x) (by omega)
  have rq := r_question (N := N + 26) (S := S) (l := jn (quW x)) (qu_len hz) (words_join (by simp [quW]) (wok_qu g2)) g2 (fun c e => by
    have := fu_le c
    have := fc_le c
    have := (g2.c c e).2
    exact ⟨by omega, by omega⟩)
  obtain ⟨w1, hw1⟩ : ∃ w, w = wdV v := ⟨_, rfl⟩
  obtain ⟨jj, hjj⟩ : ∃ w, w = jn (quW x) := ⟨_, rfl⟩
  rw [← hw1] at i1 rv
  rw [← hjj] at jo rq
  have hk : MK.is S .str (.val (.str " ")) = true := rfl
  refine r_run (F := ⟨1, 3, b26⟩) rfl rfl ?_ (pack_same (und_spD _ _))
  obtain ⟨ρ, hρ⟩ : ∃ ρ : Env, ρ = [some (.ref m), none, none] := ⟨_, rfl⟩
  show Rt (exSs (run tab (N + 30)) b26 [some (.ref m), none, none] S) _ _
  rw [← hρ]
  have hv : ρ[0]? = some (some (.ref m)) := by rw [hρ]; rfl
  have v0 : ∀ T, evK (run tab (N + 30)) (.v 0) ρ T = .ok (.val (.ref m)) T := fun T => e_v hv
  have sl := sl_from (C := run tab (N + 30)) (k := 3) hS hv
  rw [hd] at sl
  have sl : evK (run tab (N + 30)) (.sl (.v 0) [(.c (.int 3))] []) ρ S = .ok (.lis ((quW x).map tx)) S := sl
  refine Rt.go (y_if0 (by rw [w0_ev hS hv h0, decide_eq_false sp_kw.2.2.2.1])) ?_
  refine Rt.go (y_if0 (by rw [w0_ev hS hv h0, decide_eq_false sp_kw.2.2.2.2.1])) ?_
  refine Rt.go (y_if0 (by rw [w0_ev hS hv h0, decide_eq_false sp_kw.2.2.2.2.2])) ?_
  refine Rt.go (y_if0 ?_) ?_
  · simp only [e_B, e_or, e_p2, e_p1, e_c, v0, bd_ok', i0, i2, ln, ne_q, lt_ii, toB_bl, decide_true, Bool.not_true, Bool.false_eq_true, if_false, decide_eq_false hl]
  refine Rt.fin (y_ret ?_)
  simp only [e_D, e_tup, e_ds, e_ds0, e_c, e_call, e_m1, e_p2, v0, bd_ok', toD_val, i1, rv, vv_ok', hk, if_true, sl, jo, rq, List.length_cons, List.length_nil]
  rw [if_pos (by decide)]
  rfl
end
end Mi.L

namespace Mi
open PySem
theorem x_thru {C : CF} {ρ ρ1 ρ2 : Env} {S S1 S2 : Store} {b e r : List Stm} {d : D} (h : exSs C b ρ S = .ok .nx ρ1 S1) (h2 : exSs C e ρ1 S1 = .ok (.rt d) ρ2 S2) : exSs C (.thru b e :: r) ρ S = .ok (.rt d) ρ2 S2 := by
  rw [exSs, exS, h]
  show ((exSs C e ρ1 S1)).sq _ = _
  rw [h2]; rfl
end Mi
namespace Mi.L
open PySem Mi
theorem in_ord {S : Store} {w : List Nat} : p2 .inn (.val (tx w)) (.val (.tup [.str "order", .str "unorder"])) S = .ok (.val (.bl (decide (w ∈ [q "order", q "unorder"])))) S := by
  have := inn_tup (S := S) (x := w) (ws := [q "order", q "unorder"])
  simpa only [List.map_cons, List.map_nil, tx_q] using this
theorem ord_ev {C : CF} {ρ : Env} {S : Store} {m : Nat} {ws : List (List Nat)} {w : List Nat} (hS : S[m]? = some (.lst (ws.map tx))) (hv : ρ[1]? = some (some (.ref m))) (h : ws[0]? = some w) : evB C (.p2 .inn (.p2 .ix (.v 1) (.c (.int 0))) (.tup [(.c (.str "order")), (.c (.str "unorder"))])) ρ S = .ok (decide (w ∈ [q "order", q "unorder"])) S := by
  have i0 : p2 .ix (.val (.ref m)) (.val (.int 0)) S = .ok (.val (tx w)) S := ix_k (k := 0) hS h
  have t2 : evK C (.tup [(.c (.str "order")), (.c (.str "unorder"))]) ρ S = .ok (.val (.tup [.str "order", .str "unorder"])) S := by simp [sz2]
  simp only [e_B, e_p2, e_v hv, e_c, bd_ok', i0, t2, in_ord, toB_bl]
theorem st_kw : q "make" ≠ q "drop" ∧ q "drop" ≠ q "make" ∧ (∀ u, q (oS u) ≠ q "make" ∧ q (oS u) ≠ q "drop" ∧ q (oS u) ∈ [q "order", q "unorder"]) ∧ (∀ w ∈ [q "put", q "cut", q "set", q "need"], w ≠ q "make" ∧ w ≠ q "drop" ∧ w ∉ [q "order", q "unorder"]) := by decide +kernel
theorem nam_ok : (NAM.all fun t => nmB t && decide (t.length ≤ 8)) = true := by decide +kernel
theorem nam_at {t : List Nat} (h : t ∈ NAM) : nmB t = true ∧ t.length ≤ 8 := by
  have := List.all_eq_true.mp nam_ok t h
  simp only [Bool.and_eq_true, decide_eq_true_eq] at this
  exact this
theorem wok_sp {p : Sp} (g : gs p) : ∀ w ∈ spW p, wok w = true := by
  intro w h
  cases p with
  | make t cs =>
    simp only [spW, List.mem_cons] at h
    rcases h with rfl | rfl | h
    · exact wok_k (by simp [KW2])
    · exact wok_t g.1
    · exact wok_n (g.2.2.2 w h)
  | drop t =>
    simp only [spW, List.mem_cons, List.not_mem_nil, or_false] at h
    rcases h with rfl | rfl
    · exact wok_k (by simp [KW2])
    · exact wok_t g
  | ord u c =>
    simp only [spW, List.mem_cons, List.not_mem_nil, or_false] at h
    rcases h with rfl | rfl
    · cases u <;> exact wok_k (by simp [KW2, oS])
    · exact wok_c g
  | put t vs =>
    simp only [spW, List.mem_cons, List.mem_map] at h
    rcases h with rfl | rfl | ⟨v, hv, rfl⟩
    · exact wok_k (by simp [KW2])
    · exact wok_t g.1
    · exact wok_v (g.2.2.2 v hv)
  | cut t c =>
    simp only [spW, List.mem_cons] at h
    rcases h with rfl | rfl | h
    · exact wok_k (by simp [KW2])
    · exact wok_t g.1
    · exact wok_be (fun x e => (g.2 x e).1) w h
  | set c v b =>
    simp only [spW, List.mem_cons] at h
    rcases h with rfl | rfl | rfl | rfl | h
    · exact wok_k (by simp [KW2])
    · exact wok_c g.1
    · exact wok_k (by simp [KW2])
    · exact wok_v g.2.1
    · exact wok_be (fun x e => (g.2.2 x e).1) w h
  | need v x =>
    simp only [spW, List.mem_cons] at h
    rcases h with rfl | rfl | rfl | h
    · exact wok_k (by simp [KW2])
    · exact wok_v g.1
    · exact wok_k (by simp [KW2])
    · exact wok_qu g.2 w h
theorem jn_len (l : List (List Nat)) : (jn l).length ≤ l.flatten.length + l.length := by
  induction l with
  | nil => simp [TL.joinL]
  | cons p r ih =>
    cases r with
    | nil => simp [TL.joinL]
    | cons p2 r =>
      show (p ++ ([32] ++ jn (p2 :: r))).length ≤ _
      simp only [List.length_append, List.flatten_cons, List.length_cons, List.length_nil] at ih ⊢
      omega
theorem sp_ne (p : Sp) : spW p ≠ [] := by cases p <;> simp [spW]
theorem r_stepin {N : Nat} {S : Store} {p : Sp} (g : gs p) (hz : (spW p).flatten.length + (spW p).length ≤ 900000) : run tab (N + 32) 27 [tx (jn (spW p))] S = .ok (spD p) S := by
  have hjl := jn_len (spW p)
  have rw2 := r_words (n := N + 30) (S := S) (l := jn (spW p)) (by omega) (words_join (sp_ne p) (wok_sp g))
  obtain ⟨T, hT⟩ : ∃ T, T = S ++ [O.lst ((spW p).map tx)] := ⟨_, rfl⟩
  have hm : T[S.length]? = some (.lst ((spW p).map tx)) := by rw [hT]; exact at_new
  rw [← hT] at rw2
  obtain ⟨l, hl⟩ : ∃ l, l = jn (spW p) := ⟨_, rfl⟩
  rw [← hl] at rw2 ⊢
  obtain ⟨ρ, hρ⟩ : ∃ ρ : Env, ρ = [some (tx l), some (.ref S.length), none] := ⟨_, rfl⟩
  have hv : ρ[1]? = some (some (.ref S.length)) := by rw [hρ]; rfl
  have v1 : ∀ T, evK (run tab (N + 31)) (.v 1) ρ T = .ok (.val (.ref S.length)) T := fun T => e_v hv
  have head : Rt (exSs (run tab (N + 31)) (b27.drop 1) ρ T) (spD p) T → run tab (N + 32) 27 [tx l] S = .ok (spD p) S := by
    intro h
    refine r_run (F := ⟨1, 3, b27⟩) (S' := T) rfl rfl ?_ (by rw [hT]; exact pack_app (und_spD _ _))
    refine Rt.go (x_set (d := .ref S.length) (S' := T) (by simp [rw2])) ?_
    rw [hρ] at h
    exact h
  -- the steps on rows
  have chg : ∀ w, (spW p)[0]? = some w → w ∈ [q "put", q "cut", q "set", q "need"] → run tab (N + 31) 26 [.ref S.length] T = .ok (spD p) T → run tab (N + 32) 27 [tx l] S = .ok (spD p) S := by
    intro w h0 hw hr
    obtain ⟨k1, k2, k3⟩ := st_kw.2.2.2 w hw
    refine head ?_
    refine Rt.go (y_if0 (by rw [w0_ev hm hv h0, decide_eq_false k1])) ?_
    refine Rt.go (y_if0 (by rw [w0_ev hm hv h0, decide_eq_false k2])) ?_
    refine Rt.go (y_if0 (by rw [ord_ev hm hv h0, decide_eq_false k3])) ?_
    refine Rt.fin (y_ret (by simp only [e_D, e_call, e_ds, e_ds0, v1, bd_ok', toD_val, hr, vv_ok']))
  cases p with
  | put t vs => exact chg (q "put") rfl (by simp) (r_put hm g)
  | cut t c => exact chg (q "cut") rfl (by simp) (r_cut hm g)
  | set c v b => exact chg (q "set") rfl (by simp) (r_set hm g)
  | need v x =>
    refine chg (q "need") rfl (by simp) (r_needS hm g ?_)
    simp only [spW, List.flatten_cons, List.length_append, List.length_cons] at hz
    omega
  | make t cs =>
    obtain ⟨g1, g2, g3, g4⟩ := g
    obtain ⟨ws, hws⟩ : ∃ ws, ws = spW (.make t cs) := ⟨_, rfl⟩
    rw [← hws] at hm
    have h0 : ws[0]? = some (q "make") := by rw [hws]; rfl
    have h1 : ws[1]? = some t := by rw [hws]; rfl
    have hd : ws.drop 2 = cs := by rw [hws]; rfl
    have hln : (3 : Int) ≤ ws.length := by
      rw [hws]
      show (3 : Int) ≤ ((q "make" :: t :: cs).length : Nat)
      cases cs with
      | nil => exact absurd rfl g2
      | cons v r => simp; omega
    have many := r_many (N := N + 30) hm hln
    have tab1 := r_table (N := N + 29) (S := T) (w := t) (tab_at g1).1 (by have := (tab_at g1).2; omega)
    have i1 : p2 .ix (.val (.ref S.length)) (.val (.int 1)) T = .ok (.val (tx t)) T := ix_k (k := 1) hm h1
    refine head ?_
    refine Rt.go (y_ift (by rw [w0_ev hm hv h0]; simp)) ?_
    rw [y_exp (.val .non) (by simp only [e_call, e_ds, e_ds0, e_c, v1, bd_ok', toD_val, many, vv_ok'])]
    have cp : evK (run tab (N + 31)) (.comp (.nm 2) .it [(.sl (.v 1) [(.c (.int 2))] [])] [] (.call 22 [(.v 2)]) [2]) ρ T = .ok (.lis (cs.map tx)) T := by
      have sl := sl_from (C := run tab (N + 31)) (k := 2) hm hv
      rw [hd] at sl
      have sl : evK (run tab (N + 31)) (.sl (.v 1) [(.c (.int 2))] []) ρ T = .ok (.lis (cs.map tx)) T := sl
      have := comp_pure (C := run tab (N + 31)) (ρ := ρ) (S := T) (S' := T) (i := 2) (k := .it) (is := [(.sl (.v 1) [(.c (.int 2))] [])]) (e := .call 22 [(.v 2)]) (own := [2]) (ws := [.lis (cs.map tx)]) (I := ⟨cs.map tx, []⟩) (f := id) (by simp only [e_ws, e_ws0, sl, bd_ok']) rfl isLive_nil (by simp only [List.length_map]; exact Nat.le_trans g3 sz10) (fun d hd => ?_)
      · rw [this, List.map_id]
      · obtain ⟨w, hw, rfl⟩ := List.mem_map.mp hd
        have nm := nam_at (g4 w hw)
        have rv := r_table (N := N + 29) (S := T) (w := w) nm.1 (by have := nm.2; omega)
        rw [hρ]
        have v2 : evK (run tab (N + 31)) (.v 2) ((wipeD [some (tx l), some (.ref S.length), none] [2]).set 2 (some (tx w))) T = .ok (.val (tx w)) T := e_v rfl
        simp only [e_D, e_call, e_ds, e_ds0, v2, bd_ok', toD_val, rv, vv_ok', id]
    have tp : p1 .tuple_ (.lis (cs.map tx)) T = .ok (.val (.tup (cs.map tx))) T := rfl
    rw [x_ret (d := spD (.make t cs)) (S' := T)]
    · exact Rt.fin rfl
    · simp only [e_D, e_tup, e_ds, e_ds0, e_c, e_call, e_p1, e_p2, v1, bd_ok', toD_val, i1, tab1, vv_ok', cp, tp, List.length_cons, List.length_nil]
      rw [if_pos (by decide)]
      rfl
  | drop t =>
    obtain ⟨ws, hws⟩ : ∃ ws, ws = spW (.drop t) := ⟨_, rfl⟩
    rw [← hws] at hm
    have h0 : ws[0]? = some (q "drop") := by rw [hws]; rfl
    have h1 : ws[1]? = some t := by rw [hws]; rfl
    have hln : ws.length = 2 := by rw [hws]; rfl
    have many := r_many2 (N := N + 30) (a := 2) (b := 2) hm (by omega) (by omega)
    have tb := tab_at (show t ∈ TAB from g)
    have tab1 := r_table (N := N + 29) (S := T) (w := t) tb.1 (by omega)
    have i1 : p2 .ix (.val (.ref S.length)) (.val (.int 1)) T = .ok (.val (tx t)) T := ix_k (k := 1) hm h1
    refine head ?_
    refine Rt.go (y_if0 (by rw [w0_ev hm hv h0, decide_eq_false st_kw.2.1])) ?_
    refine Rt.go (y_ift (by rw [w0_ev hm hv h0]; simp)) ?_
    rw [y_exp (.val .non) (by simp only [e_call, e_ds, e_ds0, e_c, v1, bd_ok', toD_val, many, vv_ok'])]
    rw [x_ret (d := spD (.drop t)) (S' := T)]
    · exact Rt.fin rfl
    · simp only [e_D, e_tup, e_ds, e_ds0, e_c, e_call, e_p1, e_p2, v1, bd_ok', toD_val, i1, tab1, vv_ok', List.length_cons, List.length_nil]
      rw [if_pos (by decide)]
      rfl
  | ord u c =>
    obtain ⟨ws, hws⟩ : ∃ ws, ws = spW (.ord u c) := ⟨_, rfl⟩
    rw [← hws] at hm
    have h0 : ws[0]? = some (q (oS u)) := by rw [hws]; rfl
    have h1 : ws[1]? = some (wdC c) := by rw [hws]; rfl
    have hln : ws.length = 2 := by rw [hws]; rfl
    have many := r_many2 (N := N + 30) (a := 2) (b := 2) hm (by omega) (by omega)
    have cf := r_colof (N := N + 28) (S := T) (show gc c from g)
    have i0 : p2 .ix (.val (.ref S.length)) (.val (.int 0)) T = .ok (.val (tx (q (oS u)))) T := ix_k (k := 0) hm h0
    have i1 : p2 .ix (.val (.ref S.length)) (.val (.int 1)) T = .ok (.val (tx (wdC c))) T := ix_k (k := 1) hm h1
    obtain ⟨w1, hw1⟩ : ∃ w, w = wdC c := ⟨_, rfl⟩
    rw [← hw1] at i1 cf
    obtain ⟨k1, k2, k3⟩ := st_kw.2.2.1 u
    rw [tx_q] at i0
    refine head ?_
    refine Rt.go (y_if0 (by rw [w0_ev hm hv h0, decide_eq_false k1])) ?_
    refine Rt.go (y_if0 (by rw [w0_ev hm hv h0, decide_eq_false k2])) ?_
    refine Rt.go (y_ift (by rw [ord_ev hm hv h0, decide_eq_true k3])) ?_
    rw [y_exp (.val .non) (by simp only [e_call, e_ds, e_ds0, e_c, v1, bd_ok', toD_val, many, vv_ok'])]
    rw [x_ret (d := spD (.ord u c)) (S' := T)]
    · exact Rt.fin rfl
    · simp only [e_D, e_tup, e_ds, e_ds0, e_c, e_call, e_p1, e_p2, v1, bd_ok', toD_val, i0, i1, cf, vv_ok', List.length_cons, List.length_nil]
      rw [if_pos (by decide)]
      rfl
theorem r_readstep {N : Nat} {S : Store} {p : Sp} (g : gs p) (hz : (spW p).flatten.length + (spW p).length ≤ 900000) : run tab (N + 33) 28 [tx (jn (spW p))] S = .ok (spD p) S := by
  have hs := r_stepin (N := N) (S := S) g hz
  obtain ⟨l, hl⟩ : ∃ l, l = jn (spW p) := ⟨_, rfl⟩
  obtain ⟨d, hd⟩ : ∃ d, d = spD p := ⟨_, rfl⟩
  have hu : d.und S.length = true := by rw [hd]; exact und_spD _ _
  rw [← hl, ← hd] at hs ⊢
  refine r_run (F := ⟨1, 2, b28⟩) rfl rfl ?_ (pack_same hu)
  refine Rt.fin (x_thru (ρ1 := [some (tx l), some d]) (S1 := S) ?_ (y_ret (by simp)))
  refine (y_set d (by simp [hs])).trans x_nil
end Mi.L

namespace Mi.L
open PySem Mi
/-! ### steps are written -/
theorem q_ne : q "'" = [39] ∧ q "." = [46] ∧ q " " = [32] ∧ q "not " = q "not" ++ [32] ∧ q "( " = q "(" ++ [32] ∧ q " )" = 32 :: q ")" ∧ q " where " = 32 :: (q "where" ++ [32]) ∧ q "show " = q "show" ++ [32] ∧ q " of " = 32 :: (q "of" ++ [32]) ∧ q "drop " = q "drop" ++ [32] ∧ q "cut " = q "cut" ++ [32] ∧ q "set " = q "set" ++ [32] ∧ q " = " = 32 :: (q "=" ++ [32]) ∧ q "need " = q "need" ++ [32] ∧ q " is " = 32 :: (q "is" ++ [32]) := by decide +kernel
theorem add_q1 {S : Store} {x : Str} {b : List Nat} (h : (q x).length + b.length ≤ sizeLine) : p2 .add (.val (.str x)) (.val (tx b)) S = .ok (.val (tx (q x ++ b))) S := by
  have := add_tx (S := S) h
  rwa [tx_q] at this
theorem add_q2 {S : Store} {x : Str} {a : List Nat} (h : a.length + (q x).length ≤ sizeLine) : p2 .add (.val (tx a)) (.val (.str x)) S = .ok (.val (tx (a ++ q x))) S := by
  have := add_tx (S := S) h
  rwa [tx_q] at this
theorem jn_app {a b : List (List Nat)} (ha : a ≠ []) (hb : b ≠ []) : jn (a ++ b) = jn a ++ 32 :: jn b := by
  induction a with
  | nil => exact absurd rfl ha
  | cons p r ih =>
    cases r with
    | nil =>
      cases b with
      | nil => exact absurd rfl hb
      | cons x y => rfl
    | cons p2 r =>
      have := ih (by simp)
      show p ++ ([32] ++ jn ((p2 :: r) ++ b)) = p ++ ([32] ++ jn (p2 :: r)) ++ 32 :: jn b
      rw [this]; simp
theorem jn_one (a : List Nat) : jn [a] = a := rfl
theorem jn_cons {a : List Nat} {b : List (List Nat)} (hb : b ≠ []) : jn (a :: b) = a ++ 32 :: jn b := jn_app (a := [a]) (by simp) hb
theorem menu_log : (MENU.all fun v => match v with | .inl i => decide (i.natAbs.log2 < 1920) | .inr x => decide ((q x).length ≤ 18)) = true := by decide +kernel
theorem big {n : Nat} (h : n ≤ 900000) : n ≤ sizeLine := Nat.le_trans h (by decide)
theorem r_word {N : Nat} {S : Store} {v : Vl} (h : v ∈ MENU) : run tab (N + 1) 32 [dv v] S = .ok (tx (wdV v)) S := by
  have m := List.all_eq_true.mp menu_log v h
  refine r_run (F := ⟨1, 1, b32⟩) rfl rfl ?_ (pack_same (by simp))
  cases v with
  | inl i =>
    have m : i.natAbs.log2 < 1920 := of_decide_eq_true m
    refine Rt.go (y_if0 (by simp [dv, isi_str_int])) (Rt.fin (y_ret ?_))
    have s : p1 .str_ (.val (.int i)) S = .ok (.val (tx (wdV (.inl i)))) S := by
      show (if i.natAbs.log2 < 1920 then vv (.str (toString i)) S else .bad) = _
      rw [if_pos m]
      show R.ok _ S = _
      unfold wdV
      rw [tx_q]
    obtain ⟨w, hw⟩ : ∃ w, w = wdV (.inl i) := ⟨_, rfl⟩
    rw [← hw] at s ⊢
    simp [dv, s]
  | inr x =>
    have m : (q x).length ≤ 18 := of_decide_eq_true m
    have a1 := add_q1 (S := S) (x := "'") (b := q x) (big (by rw [q_ne.1]; simp only [List.length_cons, List.length_nil]; omega))
    rw [q_ne.1, tx_q] at a1
    have a2 := add_q2 (S := S) (x := "'") (a := [39] ++ q x) (big (by rw [q_ne.1]; simp only [List.length_cons, List.length_nil, List.length_append]; omega))
    rw [q_ne.1] at a2
    refine Rt.fin (y_if1 (by simp [dv, isi_str_str]) ?_)
    obtain ⟨w, hw⟩ : ∃ w, w = wdV (.inr x) := ⟨_, rfl⟩
    have hw2 : [39] ++ q x ++ [39] = w := by rw [hw]; simp [wdV]
    rw [hw2] at a2
    rw [← hw]
    have v0 : ∀ T, evK (run tab N) (.v 0) (List.map some [D.str x] ++ List.replicate (1 - 1) none) T = .ok (.val (.str x)) T := fun T => e_v rfl
    simp only [e_D, e_p2, e_c, dv, v0, bd_ok', a1, a2, toD_val]
theorem gc_len {c : Cl} (h : gc c) : (wdC c).length ≤ 20 ∧ c.1.length ≤ 8 ∧ c.2.length ≤ 8 := by
  obtain ⟨a, b⟩ := c
  have o := okC_at h.1 h.2
  unfold okC at o
  simp only [Bool.and_eq_true, decide_eq_true_eq] at o
  obtain ⟨⟨⟨⟨⟨⟨⟨o1, o2⟩, o3⟩, o4⟩, o5⟩, o6⟩, o7⟩, o8⟩ := o
  refine ⟨?_, o5, o6⟩
  simp only [wdC, List.length_append, List.length_cons]; omega
theorem r_colw {N : Nat} {S : Store} {c : Cl} (h : gc c) : run tab (N + 1) 35 [dcl c] S = .ok (tx (wdC c)) S := by
  obtain ⟨l1, l2, l3⟩ := gc_len h
  have a1 := add_q2 (S := S) (x := ".") (a := c.1) (big (by rw [q_ne.2.1]; simp only [List.length_cons, List.length_nil]; omega))
  rw [q_ne.2.1] at a1
  have a2 := add_tx (S := S) (a := c.1 ++ [46]) (b := c.2) (big (by simp only [List.length_append, List.length_cons, List.length_nil]; omega))
  have e : c.1 ++ [46] ++ c.2 = wdC c := by simp [wdC]
  rw [e] at a2
  have i0 : p2 .ix (.val (dcl c)) (.val (.int 0)) S = .ok (.val (tx c.1)) S := ix_tup rfl
  have i1 : p2 .ix (.val (dcl c)) (.val (.int 1)) S = .ok (.val (tx c.2)) S := ix_tup rfl
  obtain ⟨d, hd⟩ : ∃ d, d = dcl c := ⟨_, rfl⟩
  rw [← hd] at i0 i1 ⊢
  refine r_run (F := ⟨1, 1, b35⟩) rfl rfl ?_ (pack_same (by simp))
  refine Rt.fin (y_ret ?_)
  have v0 : ∀ T, evK (run tab N) (.v 0) (List.map some [d] ++ List.replicate (1 - 1) none) T = .ok (.val d) T := fun T => e_v rfl
  simp only [e_D, e_p2, e_c, v0, bd_ok', i0, i1, a1, a2, toD_val]
/-! ### lengths -/
theorem wds_many : ∀ c : Cn, (wds c).length + 2 ≤ 5 * 3 ^ dp c
  | .tv _ _ _ => by simp [wds, dp]
  | .tc _ _ _ => by simp [wds, dp]
  | .no x => by
    have := wds_many x
    have p := Nat.one_le_pow (dp x) 3 (by decide)
    rw [wds]; simp only [dp, Nat.pow_succ, List.length_cons]; omega
  | .g2 _ x y => by
    have h1 := wds_many x
    have h2 := wds_many y
    have p1 := Nat.pow_le_pow_right (n := 3) (by decide) (Nat.le_max_left (dp x) (dp y))
    have p2 := Nat.pow_le_pow_right (n := 3) (by decide) (Nat.le_max_right (dp x) (dp y))
    have p := Nat.one_le_pow (max (dp x) (dp y)) 3 (by decide)
    rw [wds]; simp only [dp, Nat.pow_succ, List.length_cons, List.length_append, List.length_nil]; omega
  | .g3 _ x y z => by
    have h1 := wds_many x
    have h2 := wds_many y
    have h3 := wds_many z
    have p1 := Nat.pow_le_pow_right (n := 3) (by decide) (Nat.le_max_left (dp x) (max (dp y) (dp z)))
    have p2 := Nat.pow_le_pow_right (n := 3) (by decide) (Nat.le_trans (Nat.le_max_left (dp y) (dp z)) (Nat.le_max_right (dp x) (max (dp y) (dp z))))
    have p3 := Nat.pow_le_pow_right (n := 3) (by decide) (Nat.le_trans (Nat.le_max_right (dp y) (dp z)) (Nat.le_max_right (dp x) (max (dp y) (dp z))))
    have p := Nat.one_le_pow (max (dp x) (max (dp y) (dp z))) 3 (by decide)
    rw [wds]; simp only [dp, Nat.pow_succ, List.length_cons, List.length_append, List.length_nil]; omega
theorem len_all : (KW2.all fun w => decide (w.length ≤ 20)) = true ∧ (SIG.all fun w => decide (w.length ≤ 20)) = true := by decide +kernel
theorem len_k {w : List Nat} (h : w ∈ KW2) : w.length ≤ 20 := of_decide_eq_true (List.all_eq_true.mp len_all.1 w h)
theorem len_v {v : Vl} (h : v ∈ MENU) : (wdV v).length ≤ 20 := by
  have o := okV_at h
  unfold okV at o
  simp only [Bool.and_eq_true, decide_eq_true_eq] at o
  exact o.1.1.2
theorem len_kw (k : Bool) : (kw k).length ≤ 20 := by cases k <;> exact len_k (by simp [KW2, kw])
theorem wds_len : ∀ c : Cn, gd c → ∀ w ∈ wds c, w.length ≤ 20
  | .tv c s v, g, w, h => by
    unfold wds at h
    simp only [List.mem_cons, List.not_mem_nil, or_false] at h
    rcases h with rfl | rfl | rfl
    · exact (gc_len g.1).1
    · exact of_decide_eq_true (List.all_eq_true.mp len_all.2 _ g.2.1)
    · exact len_v g.2.2
  | .tc c s c2, g, w, h => by
    unfold wds at h
    simp only [List.mem_cons, List.not_mem_nil, or_false] at h
    rcases h with rfl | rfl | rfl
    · exact (gc_len g.1).1
    · exact of_decide_eq_true (List.all_eq_true.mp len_all.2 _ g.2.1)
    · exact (gc_len g.2.2).1
  | .no x, g, w, h => by
    rw [wds] at h
    rcases List.mem_cons.mp h with rfl | h
    · exact len_k (by simp [KW2])
    · exact wds_len x g w h
  | .g2 k x y, g, w, h => by
    rw [wds] at h
    simp only [List.mem_cons, List.mem_append, List.not_mem_nil, or_false] at h
    rcases h with rfl | h | rfl | h | rfl
    · exact len_k (by simp [KW2])
    · exact wds_len x g.1 w h
    · exact len_kw k
    · exact wds_len y g.2 w h
    · exact len_k (by simp [KW2])
  | .g3 k x y z, g, w, h => by
    rw [wds] at h
    simp only [List.mem_cons, List.mem_append, List.not_mem_nil, or_false] at h
    rcases h with rfl | h | rfl | h | rfl | h | rfl
    · exact len_k (by simp [KW2])
    · exact wds_len x g.1 w h
    · exact len_kw k
    · exact wds_len y g.2.1 w h
    · exact len_kw k
    · exact wds_len z g.2.2 w h
    · exact len_k (by simp [KW2])
theorem flat_len : ∀ {l : List (List Nat)}, (∀ w ∈ l, w.length ≤ 20) → l.flatten.length ≤ 20 * l.length
  | [], _ => by simp
  | a :: r, h => by
    have := flat_len (l := r) fun w hw => h w (List.mem_cons_of_mem _ hw)
    have := h a List.mem_cons_self
    simp only [List.flatten_cons, List.length_append, List.length_cons]; omega
theorem jn_small {l : List (List Nat)} {n : Nat} (h : ∀ w ∈ l, w.length ≤ 20) (hl : l.length ≤ n) : (jn l).length ≤ 21 * n := by
  have := jn_len l
  have := flat_len h
  omega
theorem wds_short {c : Cn} (g : gd c) (h : dp c < 5) : (jn (wds c)).length ≤ 8505 := by
  have := wds_many c
  have p := Nat.pow_le_pow_right (n := 3) (by decide) (show dp c ≤ 4 by omega)
  exact jn_small (n := 405) (wds_len c g) (by omega)
theorem wds_ne (c : Cn) : wds c ≠ [] := by cases c <;> simp [wds]
end Mi.L

namespace Mi.L
open PySem Mi
theorem join_g {S : Store} {a : List Nat} {ys : List (List Nat)} (hz : ys.flatten.length + ys.length * a.length ≤ 16777216) : p2 .join (.val (tx a)) (.lis (ys.map tx)) S = .ok (.val (tx (TL.joinL a ys))) S := by
  show (match strsOf (ys.map tx) with | some ys => if joinFits (SX.S a) ys = true then vv (.str (Txt.join (SX.S a) ys)) S else .bad | none => .bad) = _
  rw [strsOf_tx]
  show (if joinFits (SX.S a) (ys.map SX.S) = true then _ else _) = _
  rw [if_pos]
  · rw [SX.join_S]; rfl
  · unfold joinFits
    refine decide_eq_true ?_
    rw [SX.lens, SX.S_len]
    rw [List.length_flatten] at hz
    have hz : (ys.map fun x => x.length).sum + ys.length * a.length ≤ 16777216 := hz
    simp only [List.length_map]
    omega
theorem ct_test {N : Nat} {S : Store} {c : Cl} {s w : List Nat} {k : Str} {v : D} {b : Bool} (hc : gc c) (hs : s.length ≤ 20) (hw : w.length ≤ 20) (hk : decide (k = "column") = b)
    (hr : if b = true then run tab N 35 [v] S = .ok (tx w) S else run tab N 32 [v] S = .ok (tx w) S) (hc35 : run tab N 35 [dcl c] S = .ok (tx (wdC c)) S) :
    run tab (N + 1) 36 [.tup [.str "test", dcl c, tx s, .tup [.str k, v]]] S = .ok (tx (jn [wdC c, s, w])) S := by
  have gl := (gc_len hc).1
  have e : jn [wdC c, s, w] = wdC c ++ q " " ++ s ++ q " " ++ w := by
    rw [q_ne.2.2.1]
    show wdC c ++ ([32] ++ (s ++ ([32] ++ w))) = _
    simp
  obtain ⟨d, hd⟩ : ∃ d, d = dcl c := ⟨_, rfl⟩
  obtain ⟨cw, hcw⟩ : ∃ w, w = wdC c := ⟨_, rfl⟩
  rw [← hcw] at e hc35 gl
  rw [← hd] at hc35
  have q1 : (q " ").length = 1 := by rw [q_ne.2.2.1]; rfl
  have a1 := add_q2 (S := S) (x := " ") (a := cw) (big (by omega))
  have a2 := add_tx (S := S) (a := cw ++ q " ") (b := s) (big (by simp only [List.length_append]; omega))
  have a3 := add_q2 (S := S) (x := " ") (a := cw ++ q " " ++ s) (big (by simp only [List.length_append]; omega))
  have a4 := add_tx (S := S) (a := cw ++ q " " ++ s ++ q " ") (b := w) (big (by simp only [List.length_append]; omega))
  obtain ⟨l1, hl1⟩ : ∃ l, l = cw ++ q " " := ⟨_, rfl⟩
  rw [← hl1] at a1 a2 a3 a4
  obtain ⟨l2, hl2⟩ : ∃ l, l = l1 ++ s := ⟨_, rfl⟩
  rw [← hl2] at a2 a3 a4
  obtain ⟨l3, hl3⟩ : ∃ l, l = l2 ++ q " " := ⟨_, rfl⟩
  rw [← hl3] at a3 a4
  have hf : l3 ++ w = jn [cw, s, w] := by rw [e, hl3, hl2, hl1]
  rw [hf] at a4
  rw [← hd, ← hcw]
  obtain ⟨lf, hlf⟩ : ∃ l, l = jn [cw, s, w] := ⟨_, rfl⟩
  rw [← hlf] at a4 ⊢
  obtain ⟨D0, hD0⟩ : ∃ D0, D0 = D.tup [.str "test", d, tx s, .tup [.str k, v]] := ⟨_, rfl⟩
  have i0 : ∀ T, p2 .ix (.val D0) (.val (.int 0)) T = .ok (.val (.str "test")) T := fun T => by rw [hD0]; exact ix_tup rfl
  have i1 : ∀ T, p2 .ix (.val D0) (.val (.int 1)) T = .ok (.val d) T := fun T => by rw [hD0]; exact ix_tup rfl
  have i2 : ∀ T, p2 .ix (.val D0) (.val (.int 2)) T = .ok (.val (tx s)) T := fun T => by rw [hD0]; exact ix_tup rfl
  have i3 : ∀ T, p2 .ix (.val D0) (.val (.int 3)) T = .ok (.val (.tup [.str k, v])) T := fun T => by rw [hD0]; exact ix_tup rfl
  have j0 : ∀ T, p2 .ix (.val (.tup [.str k, v])) (.val (.int 0)) T = .ok (.val (.str k)) T := fun T => ix_tup rfl
  have j1 : ∀ T, p2 .ix (.val (.tup [.str k, v])) (.val (.int 1)) T = .ok (.val v) T := fun T => ix_tup rfl
  rw [← hD0]
  refine r_run (F := ⟨1, 5, b36⟩) rfl rfl ?_ (pack_same (by simp))
  show Rt (exSs (run tab N) b36 [some D0, none, none, none, none] S) _ _
  refine Rt.go (y_if0 (by simp [i0, eqs false nt2])) ?_
  refine Rt.go (y_ift (by simp [i0, eqs true (decide_eq_true rfl)])) ?_
  rw [y_set v (by simp [i3, j1])]
  have v0 : ∀ T, evK (run tab N) (.v 0) [some D0, some v, none, none, none] T = .ok (.val D0) T := fun T => e_v rfl
  show Rt ((exSs (run tab N) (.set (.nm 2) _ :: _) [some D0, some v, none, none, none] S).sq _) _ _
  rw [y_set (tx l3) (by simp only [e_D, e_p2, e_c, e_call, e_ds, e_ds0, v0, bd_ok', i1, i2, toD_val, hc35, vv_ok', a1, a2, a3])]
  have v0' : ∀ T, evK (run tab N) (.v 0) [some D0, some v, some (tx l3), none, none] T = .ok (.val D0) T := fun T => e_v rfl
  have v1' : ∀ T, evK (run tab N) (.v 1) [some D0, some v, some (tx l3), none, none] T = .ok (.val v) T := fun T => e_v rfl
  have v2' : ∀ T, evK (run tab N) (.v 2) [some D0, some v, some (tx l3), none, none] T = .ok (.val (tx l3)) T := fun T => e_v rfl
  show Rt ((exSs (run tab N) (.iff _ _ _ :: _) [some D0, some v, some (tx l3), none, none] S).sq _) _ _
  cases b with
  | true =>
    rw [if_pos rfl] at hr
    rw [y_if1 (d := tx lf) (by simp only [e_B, e_p2, e_c, v0', bd_ok', i3, j0, eqs true hk, toB_bl]) (by simp only [e_D, e_p2, e_call, e_ds, e_ds0, v1', v2', bd_ok', toD_val, hr, vv_ok', a4])]
    exact Rt.fin rfl
  | false =>
    rw [if_neg Bool.false_ne_true] at hr
    rw [y_if0 (by simp only [e_B, e_p2, e_c, v0', bd_ok', i3, j0, eqs false hk, toB_bl]), y_ret (d := tx lf) (by simp only [e_D, e_p2, e_call, e_ds, e_ds0, v1', v2', bd_ok', toD_val, hr, vv_ok', a4])]
    exact Rt.fin rfl
/-- a bracket's text -/
theorem ct_grp {N : Nat} {S : Store} {k : Bool} {es : List D} {ys : List (List Nat)} (f : D → D) (hf : es.map f = ys.map tx) (he : ∀ e ∈ es, run tab N 36 [e] S = .ok (f e) S) (hl : es.length ≤ 3) (hy : ys.flatten.length ≤ 100000) (hyl : ys.length ≤ 3) :
    run tab (N + 1) 36 [.tup [tx (kw k), .tup es]] S = .ok (tx (q "( " ++ TL.joinL (q " " ++ kw k ++ q " ") ys ++ q " )")) S := by
  have kl := len_kw k
  have q1 : (q " ").length = 1 := by rw [q_ne.2.2.1]; rfl
  have q2 : (q "( ").length = 2 ∧ (q " )").length = 2 := by decide +kernel
  have a1 := add_q1 (S := S) (x := " ") (b := kw k) (big (by omega))
  have a2 := add_q2 (S := S) (x := " ") (a := q " " ++ kw k) (big (by simp only [List.length_append]; omega))
  obtain ⟨jt, hjt⟩ : ∃ l, l = q " " ++ kw k ++ q " " := ⟨_, rfl⟩
  rw [← hjt] at a2 ⊢
  have hjl : jt.length ≤ 22 := by rw [hjt]; simp only [List.length_append]; omega
  have hm : ys.length * jt.length ≤ 3 * 22 := Nat.mul_le_mul hyl hjl
  have jo := join_g (S := S) (a := jt) (ys := ys) (by omega)
  have jl : (TL.joinL jt ys).length ≤ ys.flatten.length + ys.length * jt.length := by
    clear jo a2 a1 hf he hy hyl hm
    induction ys with
    | nil => simp [TL.joinL]
    | cons p r ih =>
      cases r with
      | nil => simp [TL.joinL]
      | cons p2 r =>
        show (p ++ (jt ++ TL.joinL jt (p2 :: r))).length ≤ _
        simp only [List.length_append, List.flatten_cons, List.length_cons, Nat.succ_mul] at ih ⊢
        omega
  obtain ⟨J, hJ⟩ : ∃ l, l = TL.joinL jt ys := ⟨_, rfl⟩
  rw [← hJ] at jo jl ⊢
  have a3 := add_q1 (S := S) (x := "( ") (b := J) (big (by omega))
  have a4 := add_q2 (S := S) (x := " )") (a := q "( " ++ J) (big (by simp only [List.length_append]; omega))
  obtain ⟨D0, hD0⟩ : ∃ D0, D0 = D.tup [tx (kw k), .tup es] := ⟨_, rfl⟩
  have i0 : ∀ T, p2 .ix (.val D0) (.val (.int 0)) T = .ok (.val (tx (kw k))) T := fun T => by rw [hD0]; exact ix_tup rfl
  have i1 : ∀ T, p2 .ix (.val D0) (.val (.int 1)) T = .ok (.val (.tup es)) T := fun T => by rw [hD0]; exact ix_tup rfl
  rw [← hD0]
  obtain ⟨l4, hl4⟩ : ∃ l, l = q "( " ++ J ++ q " )" := ⟨_, rfl⟩
  rw [← hl4] at a4 ⊢
  obtain ⟨l3, hl3⟩ : ∃ l, l = q "( " ++ J := ⟨_, rfl⟩
  rw [← hl3] at a3 a4
  refine r_run (F := ⟨1, 5, b36⟩) rfl rfl ?_ (pack_same (by simp))
  show Rt (exSs (run tab N) b36 [some D0, none, none, none, none] S) _ _
  have k1 := (kw_nt k).1
  have k2 := (kw_nt k).2
  have v0 : ∀ T, evK (run tab N) (.v 0) [some D0, none, none, none, none] T = .ok (.val D0) T := fun T => e_v rfl
  refine Rt.go (y_if0 (by simp only [e_B, e_p2, e_c, v0, bd_ok', i0, eq_q, toB_bl, decide_eq_false k2])) ?_
  refine Rt.go (y_if0 (by simp only [e_B, e_p2, e_c, v0, bd_ok', i0, eq_q, toB_bl, decide_eq_false k1])) ?_
  refine Rt.go (y_set (tx jt) (by simp only [e_D, e_p2, e_c, v0, bd_ok', i0, a1, a2, toD_val])) ?_
  obtain ⟨σ, hσ⟩ : ∃ σ : Env, σ = [some D0, none, none, some (tx jt), none] := ⟨_, rfl⟩
  show Rt (exSs (run tab N) (b36.drop 3) [some D0, none, none, some (tx jt), none] S) _ _
  rw [← hσ]
  have v0' : ∀ T, evK (run tab N) (.v 0) σ T = .ok (.val D0) T := fun T => e_v (by rw [hσ]; rfl)
  have v3' : ∀ T, evK (run tab N) (.v 3) σ T = .ok (.val (tx jt)) T := fun T => e_v (by rw [hσ]; rfl)
  have cp : evK (run tab N) (.comp (.nm 4) .it [(.p2 .ix (.v 0) (.c (.int 1)))] [] (.call 36 [(.v 4)]) [4]) σ S = .ok (.lis (ys.map tx)) S := by
    have := comp_pure (C := run tab N) (ρ := σ) (S := S) (S' := S) (i := 4) (k := .it) (is := [(.p2 .ix (.v 0) (.c (.int 1)))]) (e := .call 36 [(.v 4)]) (own := [4]) (ws := [.val (.tup es)]) (I := ⟨es, []⟩) (f := f) (by simp only [e_ws, e_ws0, e_p2, e_c, v0', bd_ok', i1]) rfl isLive_nil (Nat.le_trans hl (by decide)) (fun d hd => ?_)
    · rw [this, hf]
    · have hr := he d hd
      rw [hσ]
      have v4 : evK (run tab N) (.v 4) ((wipeD [some D0, none, none, some (tx jt), none] [4]).set 4 (some d)) S = .ok (.val d) S := e_v rfl
      simp only [e_D, e_call, e_ds, e_ds0, v4, bd_ok', toD_val, hr, vv_ok']
  have hk : MK.is S .str (.val (tx jt)) = true := rfl
  refine Rt.fin (y_ret ?_)
  simp only [e_D, e_p2, e_m1, e_c, v3', cp, bd_ok', hk, if_true, jo, a3, a4, toD_val]
theorem r_ctext : ∀ (c : Cn) {N : Nat} {S : Store}, gd c → dp c < 5 → dp c + 2 ≤ N → run tab N 36 [enc c] S = .ok (tx (jn (wds c))) S
  | .tv c s v, N, S, g, _, hN => by
    obtain ⟨n, rfl⟩ : ∃ n, N = n + 2 := ⟨N - 2, by omega⟩
    rw [enc, wds]
    exact ct_test g.1 (of_decide_eq_true (List.all_eq_true.mp len_all.2 _ g.2.1)) (len_v g.2.2) nt3 (by rw [if_neg Bool.false_ne_true]; exact r_word g.2.2) (r_colw g.1)
  | .tc c s c2, N, S, g, _, hN => by
    obtain ⟨n, rfl⟩ : ∃ n, N = n + 2 := ⟨N - 2, by omega⟩
    rw [enc, wds]
    exact ct_test (b := true) g.1 (of_decide_eq_true (List.all_eq_true.mp len_all.2 _ g.2.1)) (gc_len g.2.2).1 (decide_eq_true rfl) (by rw [if_pos rfl]; exact r_colw g.2.2) (r_colw g.1)
  | .no x, N, S, g, hd, hN => by
    have hdx : dp x < 5 := by unfold dp at hd; omega
    obtain ⟨n, rfl⟩ : ∃ n, N = n + 1 := ⟨N - 1, by omega⟩
    have ih := r_ctext x (N := n) (S := S) g hdx (by unfold dp at hN; omega)
    have sh := wds_short (c := x) g hdx
    have qn : (q "not ").length = 4 := by decide +kernel
    have a1 := add_q1 (S := S) (x := "not ") (b := jn (wds x)) (big (by omega))
    have e : q "not " ++ jn (wds x) = jn (wds (.no x)) := by
      rw [wds, jn_cons (wds_ne x), q_ne.2.2.2.1]; simp
    rw [e] at a1
    rw [enc]
    obtain ⟨ex, hex⟩ : ∃ e, e = enc x := ⟨_, rfl⟩
    obtain ⟨jx, hjx⟩ : ∃ e, e = jn (wds x) := ⟨_, rfl⟩
    obtain ⟨jf, hjf⟩ : ∃ e, e = jn (wds (.no x)) := ⟨_, rfl⟩
    rw [← hex] at ih ⊢
    rw [← hjx] at ih a1
    rw [← hjf] at a1 ⊢
    have i0 : ∀ T, p2 .ix (.val (.tup [.str "not", ex])) (.val (.int 0)) T = .ok (.val (.str "not")) T := fun T => ix_tup rfl
    have i1 : ∀ T, p2 .ix (.val (.tup [.str "not", ex])) (.val (.int 1)) T = .ok (.val ex) T := fun T => ix_tup rfl
    refine r_run (F := ⟨1, 5, b36⟩) rfl rfl ?_ (pack_same (by simp))
    exact Rt.fin (y_if1 (by simp [i0, eqs true (decide_eq_true rfl)]) (by simp [i1, ih, a1]))
  | .g2 b x y, N, S, g, hd, hN => by
    have hdx : dp x < 5 := by unfold dp at hd; omega
    have hdy : dp y < 5 := by unfold dp at hd; omega
    obtain ⟨n, rfl⟩ : ∃ n, N = n + 1 := ⟨N - 1, by omega⟩
    have ihx := r_ctext x (N := n) (S := S) g.1 hdx (by unfold dp at hN; omega)
    have ihy := r_ctext y (N := n) (S := S) g.2 hdy (by unfold dp at hN; omega)
    have sx := wds_short g.1 hdx
    have sy := wds_short g.2 hdy
    have e : q "( " ++ TL.joinL (q " " ++ kw b ++ q " ") [jn (wds x), jn (wds y)] ++ q " )" = jn (wds (.g2 b x y)) := by
      rw [wds, jn_cons (by simp), jn_app (wds_ne x) (by simp), jn_cons (by simp), jn_app (wds_ne y) (by simp), q_ne.2.2.2.2.1, q_ne.2.2.2.2.2.1, q_ne.2.2.1]
      show _ ++ (jn (wds x) ++ (([32] ++ kw b ++ [32]) ++ jn (wds y))) ++ _ = _
      simp [TL.joinL]
    rw [enc, ← e]
    refine ct_grp (ys := [jn (wds x), jn (wds y)]) (fun d => match run tab n 36 [d] S with | .ok e _ => e | _ => .non) ?_ ?_ (by simp) (by simp only [List.flatten_cons, List.flatten_nil, List.length_append, List.length_nil]; omega) (by simp)
    · simp only [List.map_cons, List.map_nil, ihx, ihy]
    · intro d hd
      simp only [List.mem_cons, List.not_mem_nil, or_false] at hd
      rcases hd with rfl | rfl
      · simp only [ihx]
      · simp only [ihy]
  | .g3 b x y z, N, S, g, hd, hN => by
    have hdx : dp x < 5 := by unfold dp at hd; omega
    have hdy : dp y < 5 := by unfold dp at hd; omega
    have hdz : dp z < 5 := by unfold dp at hd; omega
    obtain ⟨n, rfl⟩ : ∃ n, N = n + 1 := ⟨N - 1, by omega⟩
    have ihx := r_ctext x (N := n) (S := S) g.1 hdx (by unfold dp at hN; omega)
    have ihy := r_ctext y (N := n) (S := S) g.2.1 hdy (by unfold dp at hN; omega)
    have ihz := r_ctext z (N := n) (S := S) g.2.2 hdz (by unfold dp at hN; omega)
    have sx := wds_short g.1 hdx
    have sy := wds_short g.2.1 hdy
    have sz := wds_short g.2.2 hdz
    have e : q "( " ++ TL.joinL (q " " ++ kw b ++ q " ") [jn (wds x), jn (wds y), jn (wds z)] ++ q " )" = jn (wds (.g3 b x y z)) := by
      rw [wds, jn_cons (by simp), jn_app (wds_ne x) (by simp), jn_cons (by simp), jn_app (wds_ne y) (by simp), jn_cons (by simp), jn_app (wds_ne z) (by simp), q_ne.2.2.2.2.1, q_ne.2.2.2.2.2.1, q_ne.2.2.1]
      show _ ++ (jn (wds x) ++ (([32] ++ kw b ++ [32]) ++ (jn (wds y) ++ (([32] ++ kw b ++ [32]) ++ jn (wds z))))) ++ _ = _
      simp [TL.joinL]
    rw [enc, ← e]
    refine ct_grp (ys := [jn (wds x), jn (wds y), jn (wds z)]) (fun d => match run tab n 36 [d] S with | .ok e _ => e | _ => .non) ?_ ?_ (by simp) (by simp only [List.flatten_cons, List.flatten_nil, List.length_append, List.length_nil]; omega) (by simp)
    · simp only [List.map_cons, List.map_nil, ihx, ihy, ihz]
    · intro d hd
      simp only [List.mem_cons, List.not_mem_nil, or_false] at hd
      rcases hd with rfl | rfl | rfl
      · simp only [ihx]
      · simp only [ihy]
      · simp only [ihz]
end Mi.L

namespace Mi
open PySem
theorem x_par {C : CF} {ρ : Env} {S S' : Store} {i j : Nat} {a b : Ex} {r : List Stm} {d e : D} (h : evDs C [a, b] ρ S = .ok [d, e] S') : exSs C (.par i j a b :: r) ρ S = exSs C r ((ρ.set i (some d)).set j (some e)) S' := by
  rw [exSs, exS, h]; rfl
end Mi
namespace Mi.L
open PySem Mi
def wT : Option Cn → List Nat
  | none => []
  | some c => q " where " ++ jn (wds c)
theorem wT_len {t : List Nat} {c : Option Cn} (g : gO t c) : (wT c).length ≤ 8600 := by
  cases c with
  | none => simp [wT]
  | some x =>
    obtain ⟨a1, a2, _⟩ := g x rfl
    have := wds_short a1 a2
    have qn : (q " where ").length = 7 := by decide +kernel
    simp only [wT, List.length_append]; omega
theorem r_where {N : Nat} {S : Store} {t : List Nat} {c : Option Cn} (g : gO t c) (hN : 7 ≤ N) : run tab (N + 1) 45 [cnD c] S = .ok (tx (wT c)) S := by
  cases c with
  | none =>
    refine r_run (F := ⟨1, 1, b45⟩) rfl rfl ?_ (pack_same (by simp))
    exact Rt.fin (y_if1 (by simp [cnD, isN_non]) (by simp [wT, str_nil]))
  | some x =>
    obtain ⟨a1, a2, _⟩ := g x rfl
    have ih := r_ctext x (N := N) (S := S) a1 a2 (by omega)
    have sh := wds_short a1 a2
    have qn : (q " where ").length = 7 := by decide +kernel
    have ad := add_q1 (S := S) (x := " where ") (b := jn (wds x)) (big (by omega))
    have hN : ∀ T, p1 .isN (.val (enc x)) T = .ok (.val (.bl false)) T := fun T => by cases x <;> (rw [enc]; rfl)
    show run tab (N + 1) 45 [enc x] S = .ok (tx (q " where " ++ jn (wds x))) S
    obtain ⟨e, he⟩ : ∃ e, e = enc x := ⟨_, rfl⟩
    obtain ⟨l, hl⟩ : ∃ l, l = q " where " ++ jn (wds x) := ⟨_, rfl⟩
    obtain ⟨j, hj⟩ : ∃ l, l = jn (wds x) := ⟨_, rfl⟩
    rw [← hl] at ad ⊢
    rw [← hj] at ih ad
    rw [← he] at ih hN ⊢
    refine r_run (F := ⟨1, 1, b45⟩) rfl rfl ?_ (pack_same (by simp))
    exact Rt.go (y_if0 (by simp [hN])) (Rt.fin (y_ret (by simp [ih, ad])))
theorem qu_text (x : Qu) : jn (quW x) = q "show " ++ jn (whW x.w) ++ q " of " ++ x.t ++ wT x.c := by
  have hw : whW x.w ≠ [] := by cases x.w <;> simp [whW]
  have q8 := q_ne.2.2.2.2.2.2.2.1
  have q9 := q_ne.2.2.2.2.2.2.2.2.1
  have q7 := q_ne.2.2.2.2.2.2.1
  unfold quW
  rw [jn_cons (by simp), jn_app hw (by simp), jn_cons (by simp), q8, q9]
  cases e : x.c with
  | none => simp [beW, wT, TL.joinL]
  | some c =>
    show _ = _ ++ (q " where " ++ jn (wds c))
    rw [show beW (some c) = q "where" :: wds c from rfl, jn_cons (by simp), jn_cons (wds_ne c), q7]
    simp
theorem colw_map : ∀ {N : Nat} {S : Store} {cs : List Cl}, (∀ c ∈ cs, gc c) → (cs.map dcl).map (fun d => match run tab (N + 1) 35 [d] S with | .ok e _ => e | _ => .non) = (cs.map wdC).map tx
  | _, _, [], _ => rfl
  | N, S, c :: r, h => by
    have ih := colw_map (N := N) (S := S) (cs := r) fun x hx => h x (List.mem_cons_of_mem _ hx)
    have hc := r_colw (N := N) (S := S) (h c List.mem_cons_self)
    rw [List.map_cons, List.map_cons, ih, List.map_cons, List.map_cons]
    simp only [hc]
/-- a question's text, from the words on -/
theorem qt_tail {N P : Nat} {T : Store} {x : Qu} {cs : List Cl} {pre : List (List Nat)} {wd r0 : D} (hP : T[P]? = some (.lst (pre.map tx))) (hcs : ∀ c ∈ cs, gc c) (hw : pre ++ cs.map wdC = whW x.w) (ht : x.t.length ≤ 8) (hwl : ∀ w ∈ whW x.w, w.length ≤ 20) (hwn : (whW x.w).length ≤ 2) (g : gO x.t x.c) (hN : 8 ≤ N) :
    Rt (exSs (run tab N) (b38.drop 4) [some (quD x), some wd, some (tx x.t), some .non, some (cnD x.c), some .non, some .non, some (.tup (cs.map dcl)), some (.ref P), none, none] T) (tx (jn (quW x))) (T ++ [O.lst ((whW x.w).map tx)]) := by
  obtain ⟨n, rfl⟩ : ∃ n, N = n + 1 := ⟨N - 1, by omega⟩
  have hcl : cs.length ≤ 2 := by rw [← hw] at hwn; simp only [List.length_append, List.length_map] at hwn; omega
  have hpl : pre.length + cs.length ≤ 2 := by rw [← hw] at hwn; simp only [List.length_append, List.length_map] at hwn; omega
  obtain ⟨ρ, hρ⟩ : ∃ ρ : Env, ρ = [some (quD x), some wd, some (tx x.t), some .non, some (cnD x.c), some .non, some .non, some (.tup (cs.map dcl)), some (.ref P), none, none] := ⟨_, rfl⟩
  rw [← hρ]
  have v7 : ∀ T, evK (run tab (n + 1)) (.v 7) ρ T = .ok (.val (.tup (cs.map dcl))) T := fun T => e_v (by rw [hρ]; rfl)
  have v8 : ∀ T, evK (run tab (n + 1)) (.v 8) ρ T = .ok (.val (.ref P)) T := fun T => e_v (by rw [hρ]; rfl)
  have cp : evK (run tab (n + 1)) (.comp (.nm 9) .it [(.v 7)] [] (.call 35 [(.v 9)]) [9]) ρ T = .ok (.lis ((cs.map wdC).map tx)) T := by
    have := comp_pure (C := run tab (n + 1)) (ρ := ρ) (S := T) (S' := T) (i := 9) (k := .it) (is := [(.v 7)]) (e := .call 35 [(.v 9)]) (own := [9]) (ws := [.val (.tup (cs.map dcl))]) (I := ⟨cs.map dcl, []⟩) (f := fun d => match run tab (n + 1) 35 [d] T with | .ok e _ => e | _ => .non) (by simp only [e_ws, e_ws0, v7, bd_ok']) rfl isLive_nil (by simp only [List.length_map]; exact Nat.le_trans hcl (by decide)) (fun d hd => ?_)
    · rw [this, colw_map hcs]
    · obtain ⟨c, hc, rfl⟩ := List.mem_map.mp hd
      have hr := r_colw (N := n) (S := T) (hcs c hc)
      rw [hρ]
      obtain ⟨d, hd⟩ : ∃ d, d = dcl c := ⟨_, rfl⟩
      rw [← hd] at hr ⊢
      have v9 : ∀ a b c' e f, evK (run tab (n + 1)) (.v 9) ((wipeD [some a, some wd, some (tx x.t), some .non, some b, some .non, some .non, some c', some e, none, f] [9]).set 9 (some d)) T = .ok (.val d) T := fun _ _ _ _ _ => e_v rfl
      simp only [e_D, e_call, e_ds, e_ds0, v9, bd_ok', toD_val, hr, vv_ok']
  have ad := add_at (xs := (cs.map wdC).map tx) hP (by simp only [List.length_map]; exact Nat.le_trans hpl (by decide))
  rw [← List.map_append, hw] at ad
  have hT2 : (T ++ [O.lst ((whW x.w).map tx)])[T.length]? = some (.lst ((whW x.w).map tx)) := at_new
  have hfl := flat_len hwl
  have jo : p2 .join (.val (.str " ")) (.val (.ref T.length)) (T ++ [O.lst ((whW x.w).map tx)]) = .ok (.val (tx (jn (whW x.w)))) (T ++ [O.lst ((whW x.w).map tx)]) := by
    have := join_sp (S := T ++ [O.lst ((whW x.w).map tx)]) (ys := whW x.w) (by omega)
    rw [← this]
    show (match W.seq (T ++ [O.lst ((whW x.w).map tx)]) (.val (.ref T.length)) with
      | some (_, ds) => (match strsOf ds with | some ys => if joinFits (" " : Str) ys = true then vv (.str (Txt.join " " ys)) (T ++ [O.lst ((whW x.w).map tx)]) else .bad | none => .bad)
      | none => .bad) = _
    rw [seq_at hT2]; rfl
  have jl := jn_len (whW x.w)
  have q5 : (q "show ").length = 5 := by decide +kernel
  have q4 : (q " of ").length = 4 := by decide +kernel
  have q7 : (q " where ").length = 7 := by decide +kernel
  obtain ⟨U, hU⟩ : ∃ U, U = T ++ [O.lst ((whW x.w).map tx)] := ⟨_, rfl⟩
  rw [← hU] at jo ⊢
  obtain ⟨J, hJ⟩ : ∃ J, J = jn (whW x.w) := ⟨_, rfl⟩
  have e := qu_text x
  rw [← hJ] at jo jl e
  have a1 := add_q1 (S := U) (x := "show ") (b := J) (big (by omega))
  have a2 := add_q2 (S := U) (x := " of ") (a := q "show " ++ J) (big (by simp only [List.length_append]; omega))
  have a3 := add_tx (S := U) (a := q "show " ++ J ++ q " of ") (b := x.t) (big (by simp only [List.length_append]; omega))
  obtain ⟨H, hH⟩ : ∃ H, H = q "show " ++ J ++ q " of " ++ x.t := ⟨_, rfl⟩
  have hHl : H.length ≤ 200 := by rw [hH]; simp only [List.length_append]; omega
  rw [← hH] at a3 e
  obtain ⟨h2, hh2⟩ : ∃ h2, h2 = q "show " ++ J ++ q " of " := ⟨_, rfl⟩
  rw [← hh2] at a2 a3
  obtain ⟨h1, hh1⟩ : ∃ h1, h1 = q "show " ++ J := ⟨_, rfl⟩
  rw [← hh1] at a1 a2
  refine Rt.go (x_set (d := .ref T.length) (S' := U) (by simp only [e_D, e_p2, v8, cp, bd_ok', ad, toD_lis, hU])) ?_
  obtain ⟨σ, hσ⟩ : ∃ σ : Env, σ = ρ.set 8 (some (.ref T.length)) := ⟨_, rfl⟩
  rw [← hσ]
  have w8 : ∀ T', evK (run tab (n + 1)) (.v 8) σ T' = .ok (.val (.ref T.length)) T' := fun T => e_v (by rw [hσ, hρ]; rfl)
  have w2 : ∀ T', evK (run tab (n + 1)) (.v 2) σ T' = .ok (.val (tx x.t)) T' := fun T => e_v (by rw [hσ, hρ]; rfl)
  have hk : MK.is U .str (.val (.str " ")) = true := rfl
  refine Rt.go (y_set (tx H) (by simp only [e_D, e_p2, e_m1, e_c, w8, w2, bd_ok', hk, if_true, jo, a1, a2, a3, toD_val])) ?_
  obtain ⟨τ, hτ⟩ : ∃ τ : Env, τ = σ.set 10 (some (tx H)) := ⟨_, rfl⟩
  rw [← hτ]
  have u10 : ∀ T', evK (run tab (n + 1)) (.v 10) τ T' = .ok (.val (tx H)) T' := fun T => e_v (by rw [hτ, hσ, hρ]; rfl)
  have u4 : ∀ T', evK (run tab (n + 1)) (.v 4) τ T' = .ok (.val (cnD x.c)) T' := fun T => e_v (by rw [hτ, hσ, hρ]; rfl)
  cases ec : x.c with
  | none =>
    rw [ec] at e u4
    have e : jn (quW x) = H := by rw [e]; simp [wT]
    rw [e]
    exact Rt.fin (y_if1 (by simp [u4, cnD, isN_non]) (by simp [u10]))
  | some c =>
    rw [ec] at e u4
    obtain ⟨g1, g2, _⟩ := g c ec
    have ct := r_ctext c (N := n + 1) (S := U) g1 g2 (by omega)
    have sh := wds_short g1 g2
    have hN2 : ∀ T, p1 .isN (.val (enc c)) T = .ok (.val (.bl false)) T := fun T => by cases c <;> (rw [enc]; rfl)
    have u4 : ∀ T', evK (run tab (n + 1)) (.v 4) τ T' = .ok (.val (enc c)) T' := u4
    have b1 := add_q2 (S := U) (x := " where ") (a := H) (big (by omega))
    have b2 := add_tx (S := U) (a := H ++ q " where ") (b := jn (wds c)) (big (by simp only [List.length_append]; omega))
    have e : H ++ q " where " ++ jn (wds c) = jn (quW x) := by rw [e]; simp [wT]
    rw [e] at b2
    obtain ⟨F, hF⟩ : ∃ F, F = jn (quW x) := ⟨_, rfl⟩
    obtain ⟨ee, hee⟩ : ∃ ee, ee = enc c := ⟨_, rfl⟩
    obtain ⟨jc, hjc⟩ : ∃ jc, jc = jn (wds c) := ⟨_, rfl⟩
    obtain ⟨hq, hhq⟩ : ∃ hq, hq = H ++ q " where " := ⟨_, rfl⟩
    rw [← hF] at b2 ⊢
    rw [← hee] at ct hN2 u4
    rw [← hjc] at ct b2
    rw [← hhq] at b1 b2
    exact Rt.go (y_if0 (by simp [u4, hN2])) (Rt.fin (y_ret (by simp only [e_D, e_p2, e_c, e_call, e_ds, e_ds0, u10, u4, bd_ok', toD_val, b1, ct, vv_ok', b2])))
end Mi.L

namespace Mi.L
open PySem Mi
theorem whW_len {w : Wh} (g : ∀ c ∈ whC w, gc c) : (∀ v ∈ whW w, v.length ≤ 20) ∧ (whW w).length ≤ 2 := by
  cases w with
  | cnt =>
    refine ⟨fun v h => ?_, by simp [whW]⟩
    simp only [whW, List.mem_cons, List.not_mem_nil, or_false] at h
    subst h
    exact len_k (by simp [KW2])
  | sum c =>
    refine ⟨fun v h => ?_, by simp [whW]⟩
    simp only [whW, List.mem_cons, List.not_mem_nil, or_false] at h
    rcases h with rfl | rfl
    · exact len_k (by simp [KW2])
    · exact (gc_len (g c List.mem_cons_self)).1
  | most c =>
    refine ⟨fun v h => ?_, by simp [whW]⟩
    simp only [whW, List.mem_cons, List.not_mem_nil, or_false] at h
    rcases h with rfl | rfl
    · exact len_k (by simp [KW2])
    · exact (gc_len (g c List.mem_cons_self)).1
  | cols c =>
    refine ⟨fun v h => ?_, by simp [whW]⟩
    simp only [whW, List.mem_cons, List.not_mem_nil, or_false] at h
    subst h
    exact (gc_len (g c List.mem_cons_self)).1
theorem cut_tup1 {S : Store} {a : D} {r : List D} : cutW (.val (.tup (a :: r))) (some 1) none S = .ok (.val (.tup r)) S := by
  have e : cutD (a :: r) (some 1) none = r := cutD_from (a :: r) 1
  show (if (cutD (a :: r) (some 1) none).length = (a :: r).length then R.bad else vv (.tup (cutD (a :: r) (some 1) none)) S) = _
  rw [e, if_neg (by simp)]; rfl
theorem gq_gO {x : Qu} (g : gq x) : gO x.t x.c := fun c e => ⟨(g.c c e).1, (g.c c e).2, fun y hy => g.own y (List.mem_append_right _ (by rw [e]; exact hy))⟩
/-- count, sum, most -/
theorem qt_one {N : Nat} {S : Store} {x : Qu} {k : Str} {cs : List Cl} (g : gq x) (hN : 8 ≤ N) (hk : decide (k = "columns") = false) (hw : whD x.w = .tup (.str k :: cs.map dcl)) (hc : ∀ c ∈ cs, gc c) (hW : [q k] ++ cs.map wdC = whW x.w) : run tab (N + 1) 38 [quD x] S = .ok (tx (jn (quW x))) S := by
  obtain ⟨l1, l2⟩ := whW_len g.w
  obtain ⟨wd, hwd⟩ : ∃ wd, wd = whD x.w := ⟨_, rfl⟩
  have hQ : quD x = .tup [wd, tx x.t, .non, cnD x.c, .non, .non] := by rw [hwd]; rfl
  rw [← hwd] at hw
  have tl := qt_tail (N := N) (T := S ++ [O.lst ([q k].map tx)]) (P := S.length) (x := x) (cs := cs) (pre := [q k]) (wd := wd) (r0 := .non) at_new hc hW (tab_at g.t).2 l1 l2 (gq_gO g) hN
  obtain ⟨tq, htq⟩ : ∃ tq, tq = jn (quW x) := ⟨_, rfl⟩
  rw [← htq] at tl ⊢
  obtain ⟨Q, hQe⟩ : ∃ Q, Q = quD x := ⟨_, rfl⟩
  rw [← hQe] at tl hQ ⊢
  obtain ⟨cd, hcd⟩ : ∃ cd, cd = cnD x.c := ⟨_, rfl⟩
  rw [← hcd] at tl hQ
  obtain ⟨told, htold⟩ : ∃ t, t = D.tup (cs.map dcl) := ⟨_, rfl⟩
  rw [← htold] at tl
  have i0 : ∀ T, p2 .ix (.val wd) (.val (.int 0)) T = .ok (.val (.str k)) T := fun T => by rw [hw]; exact ix_tup (atI_at (by decide) rfl)
  have ct : ∀ T, cutW (.val wd) (some 1) none T = .ok (.val told) T := fun T => by rw [hw, htold]; exact cut_tup1
  refine r_run (F := ⟨1, 11, b38⟩) (S' := S ++ ([O.lst ([q k].map tx)] ++ [O.lst ((whW x.w).map tx)])) rfl rfl ?_ (pack_app (by simp))
  show Rt (exSs (run tab N) b38 [some Q, none, none, none, none, none, none, none, none, none, none] S) _ _
  refine Rt.go (y_tp (ρ' := [some Q, some wd, some (tx x.t), some .non, some cd, some .non, some .non, none, none, none, none]) [wd, tx x.t, .non, cd, .non, .non] (by rw [hQ]; simp) rfl) ?_
  refine Rt.go (y_set told (by simp [ct])) ?_
  refine Rt.go (x_set (d := .ref S.length) (S' := S ++ [O.lst ([q k].map tx)]) (by simp only [List.map_cons, List.map_nil, tx_q]; simp [i0, sz1])) ?_
  refine Rt.go (y_if0 (by simp [i0, eqs false hk])) ?_
  rw [← List.append_assoc]
  exact tl
theorem qt_cols {N : Nat} {S : Store} {x : Qu} {c : Cl} (g : gq x) (hN : 8 ≤ N) (e : x.w = .cols c) : run tab (N + 1) 38 [quD x] S = .ok (tx (jn (quW x))) S := by
  obtain ⟨l1, l2⟩ := whW_len g.w
  obtain ⟨wd, hwd⟩ : ∃ wd, wd = whD x.w := ⟨_, rfl⟩
  have hQ : quD x = .tup [wd, tx x.t, .non, cnD x.c, .non, .non] := by rw [hwd]; rfl
  have hw : wd = .tup [.str "columns", .tup ([c].map dcl)] := by rw [hwd, e]; rfl
  have gcc : gc c := g.w c (by rw [e]; exact List.mem_cons_self)
  have tl := qt_tail (N := N) (T := S ++ [O.lst ([q "columns"].map tx)] ++ [O.lst (([] : List (List Nat)).map tx)]) (P := S.length + 1) (x := x) (cs := [c]) (pre := []) (wd := wd) (r0 := .non) (by simp) (fun y hy => by rw [List.mem_singleton.mp hy]; exact gcc) (by rw [e]; rfl) (tab_at g.t).2 l1 l2 (gq_gO g) hN
  obtain ⟨tq, htq⟩ : ∃ tq, tq = jn (quW x) := ⟨_, rfl⟩
  rw [← htq] at tl ⊢
  obtain ⟨Q, hQe⟩ : ∃ Q, Q = quD x := ⟨_, rfl⟩
  rw [← hQe] at tl hQ ⊢
  obtain ⟨cd, hcd⟩ : ∃ cd, cd = cnD x.c := ⟨_, rfl⟩
  rw [← hcd] at tl hQ
  obtain ⟨told, htold⟩ : ∃ t, t = D.tup ([c].map dcl) := ⟨_, rfl⟩
  rw [← htold] at tl hw
  have i0 : ∀ T, p2 .ix (.val wd) (.val (.int 0)) T = .ok (.val (.str "columns")) T := fun T => by rw [hw]; exact ix_tup rfl
  have i1 : ∀ T, p2 .ix (.val wd) (.val (.int 1)) T = .ok (.val told) T := fun T => by rw [hw]; exact ix_tup rfl
  have ct : ∀ T, cutW (.val wd) (some 1) none T = .ok (.val (.tup [told])) T := fun T => by rw [hw]; exact cut_tup1
  refine r_run (F := ⟨1, 11, b38⟩) (S' := S ++ ([O.lst ([q "columns"].map tx)] ++ [O.lst (([] : List (List Nat)).map tx)] ++ [O.lst ((whW x.w).map tx)])) rfl rfl ?_ (pack_app (by simp))
  show Rt (exSs (run tab N) b38 [some Q, none, none, none, none, none, none, none, none, none, none] S) _ _
  refine Rt.go (y_tp (ρ' := [some Q, some wd, some (tx x.t), some .non, some cd, some .non, some .non, none, none, none, none]) [wd, tx x.t, .non, cd, .non, .non] (by rw [hQ]; simp) rfl) ?_
  refine Rt.go (y_set (.tup [told]) (by simp [ct])) ?_
  refine Rt.go (x_set (d := .ref S.length) (S' := S ++ [O.lst ([q "columns"].map tx)]) (by simp only [List.map_cons, List.map_nil, tx_q]; simp [i0, sz1])) ?_
  refine Rt.go (y_ift (by simp [i0, eqs true (decide_eq_true rfl)])) ?_
  rw [x_par (d := told) (e := .ref (S.length + 1)) (S' := S ++ [O.lst ([q "columns"].map tx)] ++ [O.lst (([] : List (List Nat)).map tx)]) (by simp [i1]), x_nil]
  rw [← List.append_assoc, ← List.append_assoc]
  exact tl
theorem r_qtext {N : Nat} {S : Store} {x : Qu} (g : gq x) (hN : 8 ≤ N) : run tab (N + 1) 38 [quD x] S = .ok (tx (jn (quW x))) S := by
  cases e : x.w with
  | cnt => exact qt_one (cs := []) g hN colsN.1 (by rw [e]; rfl) (fun c h => by cases h) (by rw [e]; rfl)
  | sum c => exact qt_one (cs := [c]) g hN colsN.2.1 (by rw [e]; rfl) (fun y h => by rw [List.mem_singleton.mp h]; exact g.w c (by rw [e]; exact List.mem_cons_self)) (by rw [e]; rfl)
  | most c => exact qt_one (cs := [c]) g hN colsN.2.2 (by rw [e]; rfl) (fun y h => by rw [List.mem_singleton.mp h]; exact g.w c (by rw [e]; exact List.mem_cons_self)) (by rw [e]; rfl)
  | cols c => exact qt_cols g hN e
end Mi.L

namespace Mi.L
open PySem Mi
theorem be_text {l : List (List Nat)} {c : Option Cn} (hl : l ≠ []) : jn (l ++ beW c) = jn l ++ wT c := by
  cases c with
  | none => simp [beW, wT]
  | some x =>
    rw [jn_app hl (by simp [beW])]
    show jn l ++ 32 :: jn (q "where" :: wds x) = jn l ++ (q " where " ++ jn (wds x))
    rw [jn_cons (wds_ne x), q_ne.2.2.2.2.2.2.1]
    simp
theorem word_map : ∀ {N : Nat} {S : Store} {vs : List Vl}, (∀ v ∈ vs, v ∈ MENU) → (vs.map dv).map (fun d => match run tab (N + 1) 32 [d] S with | .ok e _ => e | _ => .non) = (vs.map wdV).map tx
  | _, _, [], _ => rfl
  | N, S, v :: r, h => by
    have ih := word_map (N := N) (S := S) (vs := r) fun x hx => h x (List.mem_cons_of_mem _ hx)
    have hc := r_word (N := N) (S := S) (h v List.mem_cons_self)
    rw [List.map_cons, List.map_cons, ih, List.map_cons, List.map_cons]
    simp only [hc]
theorem st2 : (∀ x ∈ [("make" : Str), "drop", "order", "unorder", "put", "cut", "set", "need"], ∀ y ∈ [("make" : Str), "drop", "order", "unorder", "put", "cut", "set", "need"], q x = q y → x = y) ∧ ("drop" : Str) ≠ "make" ∧ ("order" : Str) ≠ "make" ∧ ("order" : Str) ≠ "drop" ∧ ("unorder" : Str) ≠ "make" ∧ ("unorder" : Str) ≠ "drop" ∧ ("put" : Str) ≠ "make" ∧ ("put" : Str) ≠ "drop" ∧ ("cut" : Str) ≠ "make" ∧ ("cut" : Str) ≠ "drop" ∧ ("cut" : Str) ≠ "put" ∧ ("set" : Str) ≠ "make" ∧ ("set" : Str) ≠ "drop" ∧ ("set" : Str) ≠ "put" ∧ ("set" : Str) ≠ "cut" ∧ ("need" : Str) ≠ "make" ∧ ("need" : Str) ≠ "drop" ∧ ("need" : Str) ≠ "put" ∧ ("need" : Str) ≠ "cut" ∧ ("need" : Str) ≠ "set" := by decide +kernel
section
variable {N : Nat} {S : Store} {C : CF}
/-- the first word of a step is compared -/
theorem s0_ev {ρ : Env} {a y : Str} {r : List D} {b : Bool} (hv : ρ[0]? = some (some (.tup (.str a :: r)))) (h : decide (a = y) = b) : evB C (.p2 .eq (.p2 .ix (.v 0) (.c (.int 0))) (.c (.str y))) ρ S = .ok b S := by
  have i0 : p2 .ix (.val (.tup (.str a :: r))) (.val (.int 0)) S = .ok (.val (.str a)) S := ix_tup (atI_at (by decide) rfl)
  simp only [e_B, e_p2, e_v hv, e_c, bd_ok', i0, eqs b h, toB_bl]
theorem so_ev {ρ : Env} {a : Str} {r : List D} {b : Bool} (hv : ρ[0]? = some (some (.tup (.str a :: r)))) (h : decide (q a ∈ [q "order", q "unorder"]) = b) : evB C (.p2 .inn (.p2 .ix (.v 0) (.c (.int 0))) (.tup [(.c (.str "order")), (.c (.str "unorder"))])) ρ S = .ok b S := by
  have i0 : p2 .ix (.val (.tup (.str a :: r))) (.val (.int 0)) S = .ok (.val (.str a)) S := ix_tup (atI_at (by decide) rfl)
  have t2 : evK C (.tup [(.c (.str "order")), (.c (.str "unorder"))]) ρ S = .ok (.val (.tup [.str "order", .str "unorder"])) S := by simp [sz2]
  have io := in_ord (S := S) (w := q a)
  rw [tx_q, h] at io
  simp only [e_B, e_p2, e_v hv, e_c, bd_ok', i0, t2, io, toB_bl]
end
theorem so_no : ∀ x ∈ [("put" : Str), "cut", "set", "need"], q x ∉ [q "order", q "unorder"] := by decide +kernel
theorem lens_kw : (q "drop ").length = 5 ∧ (q "cut ").length = 4 ∧ (q "set ").length = 4 ∧ (q " = ").length = 3 ∧ (q "need ").length = 5 ∧ (q " is ").length = 4 := by decide +kernel
theorem st_make {N : Nat} {S : Store} {t : List Nat} {cs : List (List Nat)} (g : gs (.make t cs)) : run tab (N + 1) 46 [spD (.make t cs)] S = .ok (tx (jn (spW (.make t cs)))) S := by
  obtain ⟨g1, g2, g3, g4⟩ := g
  have hl : ∀ w ∈ spW (.make t cs), w.length ≤ 20 := fun w hw => by
    simp only [spW, List.mem_cons] at hw
    rcases hw with rfl | rfl | hw
    · exact len_k (by simp [KW2])
    · have := (tab_at g1).2; omega
    · have := (nam_at (g4 w hw)).2; omega
  have fl := flat_len hl
  have wl : (spW (.make t cs)).length ≤ 12 := by simp only [spW, List.length_cons]; omega
  have jo := join_sp (S := S) (ys := spW (.make t cs)) (by omega)
  have e : (spW (.make t cs)).map tx = [.str "make", tx t] ++ cs.map tx := by simp only [spW, List.map_cons, tx_q]; rfl
  rw [e] at jo
  have ad := add_lis (S := S) (xs := [.str "make", tx t]) (ys := cs.map tx) (by simp only [List.length_map, List.length_cons, List.length_nil]; exact Nat.le_trans (by omega : _ ≤ 12) (by decide))
  obtain ⟨F, hF⟩ : ∃ F, F = jn (spW (.make t cs)) := ⟨_, rfl⟩
  rw [← hF] at jo ⊢
  have i1 : ∀ T, p2 .ix (.val (.tup [.str "make", tx t, .tup (cs.map tx)])) (.val (.int 1)) T = .ok (.val (tx t)) T := fun T => ix_tup rfl
  have i2 : ∀ T, p2 .ix (.val (.tup [.str "make", tx t, .tup (cs.map tx)])) (.val (.int 2)) T = .ok (.val (.tup (cs.map tx))) T := fun T => ix_tup rfl
  have ls : ∀ T, p1 .list_ (.val (.tup (cs.map tx))) T = .ok (.lis (cs.map tx)) T := fun T => rfl
  have hk : MK.is S .str (.val (.str " ")) = true := rfl
  refine r_run (F := ⟨1, 3, b46⟩) rfl rfl ?_ (pack_same (by simp))
  show Rt (exSs (run tab N) b46 [some (.tup [.str "make", tx t, .tup (cs.map tx)]), none, none] S) _ _
  have v0 : ∀ T, evK (run tab N) (.v 0) [some (.tup [.str "make", tx t, .tup (cs.map tx)]), none, none] T = .ok (.val (.tup [.str "make", tx t, .tup (cs.map tx)])) T := fun T => e_v rfl
  refine Rt.fin (y_if1 (s0_ev rfl (decide_eq_true rfl)) ?_)
  have dp : evK (run tab N) (.disp [(.c (.str "make")), (.p2 .ix (.v 0) (.c (.int 1)))]) [some (.tup [.str "make", tx t, .tup (cs.map tx)]), none, none] S = .ok (.lis [.str "make", tx t]) S := by
    simp only [e_disp, e_ds, e_ds0, e_p2, e_c, v0, bd_ok', toD_val, i1, List.length_cons, List.length_nil]
    rw [if_pos (by decide)]
  simp only [e_D, e_m1, e_c, bd_ok', hk, if_true, e_p2, dp, e_p1, v0, i2, ls, ad, jo, toD_val]
theorem st_put {N : Nat} {S : Store} {t : List Nat} {vs : List Vl} (g : gs (.put t vs)) : run tab (N + 2) 46 [spD (.put t vs)] S = .ok (tx (jn (spW (.put t vs)))) S := by
  obtain ⟨g1, g2, g3, g4⟩ := g
  have hl : ∀ w ∈ spW (.put t vs), w.length ≤ 20 := fun w hw => by
    simp only [spW, List.mem_cons, List.mem_map] at hw
    rcases hw with rfl | rfl | ⟨v, hv, rfl⟩
    · exact len_k (by simp [KW2])
    · have := (tab_at g1).2; omega
    · exact len_v (g4 v hv)
  have fl := flat_len hl
  have wl : (spW (.put t vs)).length ≤ 12 := by simp only [spW, List.length_cons, List.length_map]; omega
  have jo := join_sp (S := S) (ys := spW (.put t vs)) (by omega)
  have e : (spW (.put t vs)).map tx = [.str "put", tx t] ++ (vs.map wdV).map tx := by simp only [spW, List.map_cons, tx_q]; rfl
  rw [e] at jo
  have ad := add_lis (S := S) (xs := [.str "put", tx t]) (ys := (vs.map wdV).map tx) (by simp only [List.length_map, List.length_cons, List.length_nil]; exact Nat.le_trans (by omega : _ ≤ 12) (by decide))
  obtain ⟨F, hF⟩ : ∃ F, F = jn (spW (.put t vs)) := ⟨_, rfl⟩
  rw [← hF] at jo ⊢
  obtain ⟨D0, hD0⟩ : ∃ D0, D0 = D.tup [.str "put", tx t, .tup (vs.map dv)] := ⟨_, rfl⟩
  have i1 : ∀ T, p2 .ix (.val D0) (.val (.int 1)) T = .ok (.val (tx t)) T := fun T => by rw [hD0]; exact ix_tup rfl
  have i2 : ∀ T, p2 .ix (.val D0) (.val (.int 2)) T = .ok (.val (.tup (vs.map dv))) T := fun T => by rw [hD0]; exact ix_tup rfl
  have hk : MK.is S .str (.val (.str " ")) = true := rfl
  refine r_run (F := ⟨1, 3, b46⟩) rfl rfl ?_ (pack_same (by simp))
  show Rt (exSs (run tab (N + 1)) b46 [some (.tup [.str "put", tx t, .tup (vs.map dv)]), none, none] S) _ _
  rw [← hD0]
  have hv : ([some D0, none, none] : Env)[0]? = some (some (.tup (.str "put" :: [tx t, .tup (vs.map dv)]))) := by rw [hD0]; rfl
  have v0 : ∀ T, evK (run tab (N + 1)) (.v 0) [some D0, none, none] T = .ok (.val D0) T := fun T => e_v rfl
  refine Rt.go (y_if0 (s0_ev hv (decide_eq_false st2.2.2.2.2.2.2.1))) ?_
  refine Rt.go (y_if0 (s0_ev hv (decide_eq_false st2.2.2.2.2.2.2.2.1))) ?_
  refine Rt.go (y_if0 (so_ev hv (decide_eq_false (so_no _ (by simp))))) ?_
  refine Rt.fin (y_if1 (s0_ev hv (decide_eq_true rfl)) ?_)
  have dp : evK (run tab (N + 1)) (.disp [(.c (.str "put")), (.p2 .ix (.v 0) (.c (.int 1)))]) [some D0, none, none] S = .ok (.lis [.str "put", tx t]) S := by
    simp only [e_disp, e_ds, e_ds0, e_p2, e_c, v0, bd_ok', toD_val, i1, List.length_cons, List.length_nil]
    rw [if_pos (by decide)]
  have cp : evK (run tab (N + 1)) (.comp (.nm 1) .it [(.p2 .ix (.v 0) (.c (.int 2)))] [] (.call 32 [(.v 1)]) [1]) [some D0, none, none] S = .ok (.lis ((vs.map wdV).map tx)) S := by
    have := comp_pure (C := run tab (N + 1)) (ρ := [some D0, none, none]) (S := S) (S' := S) (i := 1) (k := .it) (is := [(.p2 .ix (.v 0) (.c (.int 2)))]) (e := .call 32 [(.v 1)]) (own := [1]) (ws := [.val (.tup (vs.map dv))]) (I := ⟨vs.map dv, []⟩) (f := fun d => match run tab (N + 1) 32 [d] S with | .ok e _ => e | _ => .non) (by simp only [e_ws, e_ws0, e_p2, e_c, v0, bd_ok', i2]) rfl isLive_nil (by simp only [List.length_map]; exact Nat.le_trans g3 (by decide)) (fun d hd => ?_)
    · rw [this, word_map g4]
    · obtain ⟨v, hv, rfl⟩ := List.mem_map.mp hd
      have hr := r_word (N := N) (S := S) (g4 v hv)
      obtain ⟨d, hd⟩ : ∃ d, d = dv v := ⟨_, rfl⟩
      rw [← hd] at hr ⊢
      have v1 : evK (run tab (N + 1)) (.v 1) ((wipeD [some D0, none, none] [1]).set 1 (some d)) S = .ok (.val d) S := e_v rfl
      simp only [e_D, e_call, e_ds, e_ds0, v1, bd_ok', toD_val, hr, vv_ok']
  simp only [e_D, e_m1, e_c, bd_ok', hk, if_true, e_p2, dp, cp, ad, jo, toD_val]
end Mi.L

namespace Mi.L
open PySem Mi
theorem st_drop {N : Nat} {S : Store} {t : List Nat} (g : t ∈ TAB) : run tab (N + 1) 46 [spD (.drop t)] S = .ok (tx (jn (spW (.drop t)))) S := by
  have tl := (tab_at g).2
  have a1 := add_q1 (S := S) (x := "drop ") (b := t) (big (by have := lens_kw.1; omega))
  have e : q "drop " ++ t = jn (spW (.drop t)) := by
    rw [q_ne.2.2.2.2.2.2.2.2.2.1]
    show _ = q "drop" ++ ([32] ++ t)
    simp
  rw [e] at a1
  obtain ⟨F, hF⟩ : ∃ F, F = jn (spW (.drop t)) := ⟨_, rfl⟩
  rw [← hF] at a1 ⊢
  obtain ⟨D0, hD0⟩ : ∃ D0, D0 = D.tup [.str "drop", tx t] := ⟨_, rfl⟩
  have i1 : ∀ T, p2 .ix (.val D0) (.val (.int 1)) T = .ok (.val (tx t)) T := fun T => by rw [hD0]; exact ix_tup rfl
  refine r_run (F := ⟨1, 3, b46⟩) rfl rfl ?_ (pack_same (by simp))
  show Rt (exSs (run tab N) b46 [some (.tup [.str "drop", tx t]), none, none] S) _ _
  rw [← hD0]
  have hv : ([some D0, none, none] : Env)[0]? = some (some (.tup (.str "drop" :: [tx t]))) := by rw [hD0]; rfl
  have v0 : ∀ T, evK (run tab N) (.v 0) [some D0, none, none] T = .ok (.val D0) T := fun T => e_v rfl
  refine Rt.go (y_if0 (s0_ev hv (decide_eq_false st2.2.1))) ?_
  refine Rt.fin (y_if1 (s0_ev hv (decide_eq_true rfl)) ?_)
  simp only [e_D, e_p2, e_c, v0, bd_ok', i1, a1, toD_val]
theorem os_no (u : Bool) : decide (oS u = "make") = false ∧ decide (oS u = "drop") = false ∧ decide (q (oS u) ∈ [q "order", q "unorder"]) = true ∧ (q (oS u)).length ≤ 8 := by cases u <;> decide +kernel
theorem st_ord {N : Nat} {S : Store} {u : Bool} {c : Cl} (g : gc c) : run tab (N + 2) 46 [spD (.ord u c)] S = .ok (tx (jn (spW (.ord u c)))) S := by
  obtain ⟨o1, o2, o3, o4⟩ := os_no u
  have gl := (gc_len g).1
  have q1 : (q " ").length = 1 := by rw [q_ne.2.2.1]; rfl
  have a1 := add_q2 (S := S) (x := " ") (a := q (oS u)) (big (by omega))
  rw [tx_q] at a1
  have a2 := add_tx (S := S) (a := q (oS u) ++ q " ") (b := wdC c) (big (by simp only [List.length_append]; omega))
  have e : q (oS u) ++ q " " ++ wdC c = jn (spW (.ord u c)) := by
    rw [q_ne.2.2.1]
    show _ = q (oS u) ++ ([32] ++ wdC c)
    simp
  rw [e] at a2
  have cw := r_colw (N := N) (S := S) g
  obtain ⟨F, hF⟩ : ∃ F, F = jn (spW (.ord u c)) := ⟨_, rfl⟩
  rw [← hF] at a2 ⊢
  obtain ⟨w, hw⟩ : ∃ w, w = wdC c := ⟨_, rfl⟩
  rw [← hw] at a2 cw
  obtain ⟨h1, hh1⟩ : ∃ h1, h1 = q (oS u) ++ q " " := ⟨_, rfl⟩
  rw [← hh1] at a1 a2
  obtain ⟨D0, hD0⟩ : ∃ D0, D0 = D.tup [.str (oS u), dcl c] := ⟨_, rfl⟩
  have i0 : ∀ T, p2 .ix (.val D0) (.val (.int 0)) T = .ok (.val (.str (oS u))) T := fun T => by rw [hD0]; exact ix_tup rfl
  have i1 : ∀ T, p2 .ix (.val D0) (.val (.int 1)) T = .ok (.val (dcl c)) T := fun T => by rw [hD0]; exact ix_tup rfl
  refine r_run (F := ⟨1, 3, b46⟩) rfl rfl ?_ (pack_same (by simp))
  show Rt (exSs (run tab (N + 1)) b46 [some (.tup [.str (oS u), dcl c]), none, none] S) _ _
  rw [← hD0]
  have hv : ([some D0, none, none] : Env)[0]? = some (some (.tup (.str (oS u) :: [dcl c]))) := by rw [hD0]; rfl
  have v0 : ∀ T, evK (run tab (N + 1)) (.v 0) [some D0, none, none] T = .ok (.val D0) T := fun T => e_v rfl
  refine Rt.go (y_if0 (s0_ev hv o1)) ?_
  refine Rt.go (y_if0 (s0_ev hv o2)) ?_
  refine Rt.fin (y_if1 (so_ev hv o3) ?_)
  simp only [e_D, e_p2, e_c, e_call, e_ds, e_ds0, v0, bd_ok', i0, i1, a1, toD_val, cw, vv_ok', a2]
theorem st_cut {N : Nat} {S : Store} {t : List Nat} {c : Option Cn} (g : gs (.cut t c)) (hN : 7 ≤ N) : run tab (N + 2) 46 [spD (.cut t c)] S = .ok (tx (jn (spW (.cut t c)))) S := by
  obtain ⟨g1, g2⟩ := g
  have tl := (tab_at g1).2
  have wl := wT_len g2
  have l2 := lens_kw.2.1
  have a1 := add_q1 (S := S) (x := "cut ") (b := t) (big (by omega))
  have a2 := add_tx (S := S) (a := q "cut " ++ t) (b := wT c) (big (by simp only [List.length_append]; omega))
  have e : q "cut " ++ t ++ wT c = jn (spW (.cut t c)) := by
    show _ = jn ([q "cut", t] ++ beW c)
    rw [be_text (by simp), q_ne.2.2.2.2.2.2.2.2.2.2.1]
    show _ = q "cut" ++ ([32] ++ t) ++ wT c
    simp
  rw [e] at a2
  have rw1 := r_where (N := N) (S := S) g2 hN
  obtain ⟨F, hF⟩ : ∃ F, F = jn (spW (.cut t c)) := ⟨_, rfl⟩
  rw [← hF] at a2 ⊢
  obtain ⟨w, hw⟩ : ∃ w, w = wT c := ⟨_, rfl⟩
  rw [← hw] at a2 rw1
  obtain ⟨h1, hh1⟩ : ∃ h1, h1 = q "cut " ++ t := ⟨_, rfl⟩
  rw [← hh1] at a1 a2
  obtain ⟨cd, hcd⟩ : ∃ cd, cd = cnD c := ⟨_, rfl⟩
  rw [← hcd] at rw1
  obtain ⟨D0, hD0⟩ : ∃ D0, D0 = D.tup [.str "cut", tx t, cd] := ⟨_, rfl⟩
  have i1 : ∀ T, p2 .ix (.val D0) (.val (.int 1)) T = .ok (.val (tx t)) T := fun T => by rw [hD0]; exact ix_tup rfl
  have i2 : ∀ T, p2 .ix (.val D0) (.val (.int 2)) T = .ok (.val cd) T := fun T => by rw [hD0]; exact ix_tup rfl
  refine r_run (F := ⟨1, 3, b46⟩) rfl rfl ?_ (pack_same (by simp))
  show Rt (exSs (run tab (N + 1)) b46 [some (.tup [.str "cut", tx t, cnD c]), none, none] S) _ _
  rw [← hcd, ← hD0]
  have hv : ([some D0, none, none] : Env)[0]? = some (some (.tup (.str "cut" :: [tx t, cd]))) := by rw [hD0]; rfl
  have v0 : ∀ T, evK (run tab (N + 1)) (.v 0) [some D0, none, none] T = .ok (.val D0) T := fun T => e_v rfl
  obtain ⟨_, _, _, _, _, _, _, _, c1, c2, c3, _⟩ := st2
  refine Rt.go (y_if0 (s0_ev hv (decide_eq_false c1))) ?_
  refine Rt.go (y_if0 (s0_ev hv (decide_eq_false c2))) ?_
  refine Rt.go (y_if0 (so_ev hv (decide_eq_false (so_no _ (by simp))))) ?_
  refine Rt.go (y_if0 (s0_ev hv (decide_eq_false c3))) ?_
  refine Rt.fin (y_if1 (s0_ev hv (decide_eq_true rfl)) ?_)
  simp only [e_D, e_p2, e_c, e_call, e_ds, e_ds0, v0, bd_ok', i1, i2, a1, toD_val, rw1, vv_ok', a2]
theorem st_set {N : Nat} {S : Store} {c : Cl} {v : Vl} {b : Option Cn} (g : gs (.set c v b)) (hN : 7 ≤ N) : run tab (N + 2) 46 [spD (.set c v b)] S = .ok (tx (jn (spW (.set c v b)))) S := by
  obtain ⟨g1, g2, g3⟩ := g
  have cl := (gc_len g1).1
  have vl := len_v g2
  have wl := wT_len g3
  obtain ⟨_, _, l3, l4, _, _⟩ := lens_kw
  have a1 := add_q1 (S := S) (x := "set ") (b := wdC c) (big (by omega))
  have a2 := add_q2 (S := S) (x := " = ") (a := q "set " ++ wdC c) (big (by simp only [List.length_append]; omega))
  have a3 := add_tx (S := S) (a := q "set " ++ wdC c ++ q " = ") (b := wdV v) (big (by simp only [List.length_append]; omega))
  have a4 := add_tx (S := S) (a := q "set " ++ wdC c ++ q " = " ++ wdV v) (b := wT b) (big (by simp only [List.length_append]; omega))
  have e : q "set " ++ wdC c ++ q " = " ++ wdV v ++ wT b = jn (spW (.set c v b)) := by
    show _ = jn ([q "set", wdC c, q "=", wdV v] ++ beW b)
    obtain ⟨_, _, _, _, _, _, _, _, _, _, _, e1, e2, _, _⟩ := q_ne
    rw [be_text (by simp), e1, e2]
    show _ = q "set" ++ ([32] ++ (wdC c ++ ([32] ++ (q "=" ++ ([32] ++ wdV v))))) ++ wT b
    simp
  rw [e] at a4
  have rw1 := r_where (N := N) (S := S) g3 hN
  have cw := r_colw (N := N) (S := S) g1
  have rv := r_word (N := N) (S := S) g2
  obtain ⟨F, hF⟩ : ∃ F, F = jn (spW (.set c v b)) := ⟨_, rfl⟩
  rw [← hF] at a4 ⊢
  obtain ⟨w, hw⟩ : ∃ w, w = wT b := ⟨_, rfl⟩
  rw [← hw] at a4 rw1
  obtain ⟨w1, hw1⟩ : ∃ w, w = wdC c := ⟨_, rfl⟩
  rw [← hw1] at a1 a2 a3 a4 cw
  obtain ⟨w2, hw2⟩ : ∃ w, w = wdV v := ⟨_, rfl⟩
  rw [← hw2] at a3 a4 rv
  obtain ⟨h1, hh1⟩ : ∃ h1, h1 = q "set " ++ w1 := ⟨_, rfl⟩
  rw [← hh1] at a1 a2 a3 a4
  obtain ⟨h2, hh2⟩ : ∃ h2, h2 = h1 ++ q " = " := ⟨_, rfl⟩
  rw [← hh2] at a2 a3 a4
  obtain ⟨h3, hh3⟩ : ∃ h3, h3 = h2 ++ w2 := ⟨_, rfl⟩
  rw [← hh3] at a3 a4
  obtain ⟨cd, hcd⟩ : ∃ cd, cd = cnD b := ⟨_, rfl⟩
  obtain ⟨vd, hvd⟩ : ∃ cd, cd = dv v := ⟨_, rfl⟩
  rw [← hcd] at rw1
  rw [← hvd] at rv
  obtain ⟨D0, hD0⟩ : ∃ D0, D0 = D.tup [.str "set", dcl c, vd, cd] := ⟨_, rfl⟩
  have i1 : ∀ T, p2 .ix (.val D0) (.val (.int 1)) T = .ok (.val (dcl c)) T := fun T => by rw [hD0]; exact ix_tup rfl
  have i2 : ∀ T, p2 .ix (.val D0) (.val (.int 2)) T = .ok (.val vd) T := fun T => by rw [hD0]; exact ix_tup rfl
  have i3 : ∀ T, p2 .ix (.val D0) (.val (.int 3)) T = .ok (.val cd) T := fun T => by rw [hD0]; exact ix_tup rfl
  refine r_run (F := ⟨1, 3, b46⟩) rfl rfl ?_ (pack_same (by simp))
  show Rt (exSs (run tab (N + 1)) b46 [some (.tup [.str "set", dcl c, dv v, cnD b]), none, none] S) _ _
  rw [← hcd, ← hvd, ← hD0]
  have hv : ([some D0, none, none] : Env)[0]? = some (some (.tup (.str "set" :: [dcl c, vd, cd]))) := by rw [hD0]; rfl
  have v0 : ∀ T, evK (run tab (N + 1)) (.v 0) [some D0, none, none] T = .ok (.val D0) T := fun T => e_v rfl
  obtain ⟨_, _, _, _, _, _, _, _, _, _, _, c1, c2, c3, c4, _⟩ := st2
  refine Rt.go (y_if0 (s0_ev hv (decide_eq_false c1))) ?_
  refine Rt.go (y_if0 (s0_ev hv (decide_eq_false c2))) ?_
  refine Rt.go (y_if0 (so_ev hv (decide_eq_false (so_no _ (by simp))))) ?_
  refine Rt.go (y_if0 (s0_ev hv (decide_eq_false c3))) ?_
  refine Rt.go (y_if0 (s0_ev hv (decide_eq_false c4))) ?_
  refine Rt.go (y_ift (s0_ev hv (decide_eq_true rfl))) ?_
  rw [y_set (tx h2) (by simp only [e_D, e_p2, e_c, e_call, e_ds, e_ds0, v0, bd_ok', i1, toD_val, cw, vv_ok', a1, a2])]
  have v0' : ∀ T, evK (run tab (N + 1)) (.v 0) [some D0, none, some (tx h2)] T = .ok (.val D0) T := fun T => e_v rfl
  have v2' : ∀ T, evK (run tab (N + 1)) (.v 2) [some D0, none, some (tx h2)] T = .ok (.val (tx h2)) T := fun T => e_v rfl
  show Rt ((exSs (run tab (N + 1)) [.ret _] [some D0, none, some (tx h2)] S).sq _) _ _
  rw [y_ret (d := tx F) (by simp only [e_D, e_p2, e_c, e_call, e_ds, e_ds0, v0', v2', bd_ok', i2, i3, toD_val, rv, rw1, vv_ok', a3, a4])]
  exact Rt.fin rfl
theorem st_need {N : Nat} {S : Store} {v : Vl} {x : Qu} (g : gs (.need v x)) (hN : 8 ≤ N) : run tab (N + 2) 46 [spD (.need v x)] S = .ok (tx (jn (spW (.need v x)))) S := by
  obtain ⟨g1, g2⟩ := g
  have vl := len_v g1
  obtain ⟨_, _, _, _, l5, l6⟩ := lens_kw
  have ql : (jn (quW x)).length ≤ 9000 := by
    obtain ⟨w1, w2⟩ := whW_len g2.w
    have j1 := jn_small (n := 2) w1 w2
    have j2 := wT_len (gq_gO g2)
    have t1 := (tab_at g2.t).2
    have q5 : (q "show ").length = 5 := by decide +kernel
    have q4 : (q " of ").length = 4 := by decide +kernel
    rw [qu_text]
    simp only [List.length_append]; omega
  have a1 := add_q1 (S := S) (x := "need ") (b := wdV v) (big (by omega))
  have a2 := add_q2 (S := S) (x := " is ") (a := q "need " ++ wdV v) (big (by simp only [List.length_append]; omega))
  have a3 := add_tx (S := S) (a := q "need " ++ wdV v ++ q " is ") (b := jn (quW x)) (big (by simp only [List.length_append]; omega))
  have e : q "need " ++ wdV v ++ q " is " ++ jn (quW x) = jn (spW (.need v x)) := by
    show _ = jn ([q "need", wdV v, q "is"] ++ quW x)
    obtain ⟨_, _, _, _, _, _, _, _, _, _, _, _, _, e1, e2⟩ := q_ne
    rw [jn_app (by simp) (by simp [quW]), e1, e2]
    show _ = q "need" ++ ([32] ++ (wdV v ++ ([32] ++ q "is"))) ++ 32 :: jn (quW x)
    simp
  rw [e] at a3
  have rq := r_qtext (N := N) (S := S) g2 hN
  have rv := r_word (N := N) (S := S) g1
  obtain ⟨F, hF⟩ : ∃ F, F = jn (spW (.need v x)) := ⟨_, rfl⟩
  rw [← hF] at a3 ⊢
  obtain ⟨w, hw⟩ : ∃ w, w = jn (quW x) := ⟨_, rfl⟩
  rw [← hw] at a3 rq
  obtain ⟨w2, hw2⟩ : ∃ w, w = wdV v := ⟨_, rfl⟩
  rw [← hw2] at a1 a2 a3 rv
  obtain ⟨h1, hh1⟩ : ∃ h1, h1 = q "need " ++ w2 := ⟨_, rfl⟩
  rw [← hh1] at a1 a2 a3
  obtain ⟨h2, hh2⟩ : ∃ h2, h2 = h1 ++ q " is " := ⟨_, rfl⟩
  rw [← hh2] at a2 a3
  obtain ⟨cd, hcd⟩ : ∃ cd, cd = quD x := ⟨_, rfl⟩
  obtain ⟨vd, hvd⟩ : ∃ cd, cd = dv v := ⟨_, rfl⟩
  rw [← hcd] at rq
  rw [← hvd] at rv
  obtain ⟨D0, hD0⟩ : ∃ D0, D0 = D.tup [.str "need", vd, cd] := ⟨_, rfl⟩
  have i1 : ∀ T, p2 .ix (.val D0) (.val (.int 1)) T = .ok (.val vd) T := fun T => by rw [hD0]; exact ix_tup rfl
  have i2 : ∀ T, p2 .ix (.val D0) (.val (.int 2)) T = .ok (.val cd) T := fun T => by rw [hD0]; exact ix_tup rfl
  refine r_run (F := ⟨1, 3, b46⟩) rfl rfl ?_ (pack_same (by simp))
  show Rt (exSs (run tab (N + 1)) b46 [some (.tup [.str "need", dv v, quD x]), none, none] S) _ _
  rw [← hcd, ← hvd, ← hD0]
  have hv : ([some D0, none, none] : Env)[0]? = some (some (.tup (.str "need" :: [vd, cd]))) := by rw [hD0]; rfl
  have v0 : ∀ T, evK (run tab (N + 1)) (.v 0) [some D0, none, none] T = .ok (.val D0) T := fun T => e_v rfl
  obtain ⟨_, _, _, _, _, _, _, _, _, _, _, _, _, _, _, c1, c2, c3, c4, c5⟩ := st2
  refine Rt.go (y_if0 (s0_ev hv (decide_eq_false c1))) ?_
  refine Rt.go (y_if0 (s0_ev hv (decide_eq_false c2))) ?_
  refine Rt.go (y_if0 (so_ev hv (decide_eq_false (so_no _ (by simp))))) ?_
  refine Rt.go (y_if0 (s0_ev hv (decide_eq_false c3))) ?_
  refine Rt.go (y_if0 (s0_ev hv (decide_eq_false c4))) ?_
  refine Rt.go (y_if0 (s0_ev hv (decide_eq_false c5))) ?_
  refine Rt.go (y_set (tx h2) (by simp only [e_D, e_p2, e_c, e_call, e_ds, e_ds0, v0, bd_ok', i1, toD_val, rv, vv_ok', a1, a2])) ?_
  have v0' : ∀ T, evK (run tab (N + 1)) (.v 0) [some D0, none, some (tx h2)] T = .ok (.val D0) T := fun T => e_v rfl
  have v2' : ∀ T, evK (run tab (N + 1)) (.v 2) [some D0, none, some (tx h2)] T = .ok (.val (tx h2)) T := fun T => e_v rfl
  show Rt (exSs (run tab (N + 1)) [.ret _] [some D0, none, some (tx h2)] S) _ _
  exact Rt.fin (y_ret (by simp only [e_D, e_p2, e_c, e_call, e_ds, e_ds0, v0', v2', bd_ok', i2, toD_val, rq, vv_ok', a3]))
theorem r_steptext {N : Nat} {S : Store} {p : Sp} (g : gs p) (hN : 8 ≤ N) : run tab (N + 2) 46 [spD p] S = .ok (tx (jn (spW p))) S := by
  cases p with
  | make t cs => exact st_make g
  | drop t => exact st_drop g
  | ord u c => exact st_ord g
  | put t vs => exact st_put g
  | cut t c => exact st_cut g (by omega)
  | set c v b => exact st_set g (by omega)
  | need v x => exact st_need g hN
end Mi.L

namespace Mi.L
open PySem Mi
/-! ### alike -/
def okD : Nat → D → Bool
  | _, .non => true
  | _, .int _ => true
  | _, .str _ => true
  | n + 1, .tup ds => ds.all (okD n) && decide (ds.length ≤ 1000)
  | _, _ => false
theorem its_r1 {S : Store} {n : Nat} (h : n ≤ 1000) : its .rng1 [.val (.int (n : Nat))] S = some ⟨intsD n fun i => (i : Int), []⟩ := by
  have f : fits62 (n : Int) = true := by
    unfold fits62
    exact decide_eq_true (by omega)
  show (if fits62 (n : Int) = true then some (⟨intsD (n : Int).toNat fun i => (i : Int), []⟩ : Its) else none) = _
  rw [if_pos f, Int.toNat_natCast]
theorem eq_nn {S : Store} : p2 .eq (.lis []) (.lis []) S = .ok (.val (.bl true)) S := rfl
theorem r_alike : ∀ (n : Nat) (d : D) {S : Store}, okD n d = true → run tab (n + 1) 47 [d, d] S = .ok (.bl true) S := by
  intro n
  induction n with
  | zero =>
    intro d S h
    refine r_run (F := ⟨2, 3, b47⟩) rfl rfl ?_ (pack_same (by simp))
    cases d with
    | non =>
      have i1 : isiW [.tuple] (.val .non) S = .ok (.val (.bl false)) S := rfl
      exact Rt.go (y_if0 (by simp [i1])) (Rt.fin (y_if1 (by simp [isN_non]) (by simp [isN_non])))
    | int i =>
      have i1 : isiW [.tuple] (.val (.int i)) S = .ok (.val (.bl false)) S := rfl
      exact Rt.go (y_if0 (by simp [i1])) (Rt.go (y_if0 (by simp [isN_int])) (Rt.go (y_if0 (by simp [isi_str_int])) (Rt.fin (y_ret (by simp [isi_int_int, isi_bool_int, eq_ii])))))
    | str x =>
      have i1 : isiW [.tuple] (.val (.str x)) S = .ok (.val (.bl false)) S := rfl
      exact Rt.go (y_if0 (by simp [i1])) (Rt.go (y_if0 (by simp [isN_str])) (Rt.fin (y_if1 (by simp [isi_str_str]) (by simp [isi_str_str, eq_ss]))))
    | _ => cases h
  | succ n ih =>
    intro d S h
    refine r_run (F := ⟨2, 3, b47⟩) rfl rfl ?_ (pack_same (by simp))
    cases d with
    | non =>
      have i1 : isiW [.tuple] (.val .non) S = .ok (.val (.bl false)) S := rfl
      exact Rt.go (y_if0 (by simp [i1])) (Rt.fin (y_if1 (by simp [isN_non]) (by simp [isN_non])))
    | int i =>
      have i1 : isiW [.tuple] (.val (.int i)) S = .ok (.val (.bl false)) S := rfl
      exact Rt.go (y_if0 (by simp [i1])) (Rt.go (y_if0 (by simp [isN_int])) (Rt.go (y_if0 (by simp [isi_str_int])) (Rt.fin (y_ret (by simp [isi_int_int, isi_bool_int, eq_ii])))))
    | str x =>
      have i1 : isiW [.tuple] (.val (.str x)) S = .ok (.val (.bl false)) S := rfl
      exact Rt.go (y_if0 (by simp [i1])) (Rt.go (y_if0 (by simp [isN_str])) (Rt.fin (y_if1 (by simp [isi_str_str]) (by simp [isi_str_str, eq_ss]))))
    | tup ds =>
      unfold okD at h
      simp only [Bool.and_eq_true, decide_eq_true_eq, List.all_eq_true] at h
      obtain ⟨h1, h2⟩ := h
      have i1 : isiW [.tuple] (.val (.tup ds)) S = .ok (.val (.bl true)) S := rfl
      have ln : p1 .len (.val (.tup ds)) S = .ok (.val (.int ds.length)) S := rfl
      obtain ⟨ρ, hρ⟩ : ∃ ρ : Env, ρ = [some (.tup ds), some (.tup ds), none] := ⟨_, rfl⟩
      show Rt (exSs (run tab (n + 1)) b47 [some (.tup ds), some (.tup ds), none] S) _ _
      rw [← hρ]
      have v0 : ∀ T, evK (run tab (n + 1)) (.v 0) ρ T = .ok (.val (.tup ds)) T := fun T => e_v (by rw [hρ]; rfl)
      have v1 : ∀ T, evK (run tab (n + 1)) (.v 1) ρ T = .ok (.val (.tup ds)) T := fun T => e_v (by rw [hρ]; rfl)
      refine Rt.go (y_ift (by simp only [e_B, e_isi, v1, bd_ok', i1, toB_bl])) ?_
      rw [y_if0 (by simp only [e_B, e_or, e_not, e_isi, e_p2, e_p1, v0, v1, bd_ok', i1, toB_bl, vv_ok', Bool.not_true, Bool.false_eq_true, if_false, ln, ne_ii, decide_true])]
      have cp := comp_filter (C := run tab (n + 1)) (ρ := ρ) (S := S) (S' := S) (i := 2) (k := .rng1) (is := [(.p1 .len (.v 0))]) (c := .not_ (.call 47 [(.p2 .ix (.v 0) (.v 2)), (.p2 .ix (.v 1) (.v 2))])) (e := .v 2) (own := [2]) (ws := [.val (.int (ds.length : Nat))]) (I := ⟨intsD ds.length fun i => (i : Int), []⟩) (p := fun _ => false) (f := id) (by simp only [e_ws, e_ws0, e_p1, v0, bd_ok', ln]) (its_r1 h2) isLive_nil (by simp only [intsD, List.length_map, List.length_range]; exact Nat.le_trans h2 (by decide)) (fun d hd => ?_) (fun d hd hp => by cases hp)
      · have fe : ((intsD ds.length fun i => (i : Int)).filter fun _ => false).map id = [] := by simp
        rw [fe] at cp
        rw [y_ret (d := .bl true) (by
          have dp : evK (run tab (n + 1)) (.disp []) ρ S = .ok (.lis []) S := by simp
          simp only [e_D, e_p2, cp, bd_ok', dp, eq_nn, toD_val])]
        exact Rt.fin rfl
      · obtain ⟨i, hi, rfl⟩ := List.mem_map.mp hd
        have hi : i < ds.length := by simpa using hi
        have hr := ih ds[i] (S := S) (h1 _ (List.getElem_mem hi))
        have ix : p2 .ix (.val (.tup ds)) (.val (.int (i : Nat))) S = .ok (.val ds[i]) S := ix_tup (atI_at (by omega) (by rw [Int.toNat_natCast]; exact List.getElem?_eq_getElem hi))
        have w0 : evK (run tab (n + 1)) (.v 0) ((wipeD ρ [2]).set 2 (some (.int (i : Nat)))) S = .ok (.val (.tup ds)) S := e_v (by rw [hρ]; rfl)
        have w1 : evK (run tab (n + 1)) (.v 1) ((wipeD ρ [2]).set 2 (some (.int (i : Nat)))) S = .ok (.val (.tup ds)) S := e_v (by rw [hρ]; rfl)
        have w2 : evK (run tab (n + 1)) (.v 2) ((wipeD ρ [2]).set 2 (some (.int (i : Nat)))) S = .ok (.val (.int (i : Nat))) S := e_v (by rw [hρ]; rfl)
        simp only [e_B, e_not, e_call, e_ds, e_ds0, e_p2, w0, w1, w2, bd_ok', ix, toD_val, hr, vv_ok', toB_bl, Bool.not_true]
    | _ => cases h
theorem okD_up : ∀ {n m : Nat} {d : D}, n ≤ m → okD n d = true → okD m d = true := by
  intro n
  induction n with
  | zero =>
    intro m d _ h
    cases d <;> first | (unfold okD; rfl) | cases h
  | succ n ih =>
    intro m d hm h
    obtain ⟨m, rfl⟩ : ∃ k, m = k + 1 := ⟨m - 1, by omega⟩
    cases d with
    | tup ds =>
      unfold okD at h ⊢
      simp only [Bool.and_eq_true, decide_eq_true_eq, List.all_eq_true] at h ⊢
      exact ⟨fun d hd => ih (by omega) (h.1 d hd), h.2⟩
    | non => unfold okD; rfl
    | int i => unfold okD; rfl
    | str x => unfold okD; rfl
    | _ => cases h
theorem okD_dv (n : Nat) (v : Vl) : okD n (dv v) = true := by cases v <;> (unfold dv okD; rfl)
theorem okD_tx (n : Nat) (l : List Nat) : okD n (tx l) = true := by unfold okD; rfl
theorem okD_s (n : Nat) (l : Str) : okD n (.str l) = true := by unfold okD; rfl
theorem okD_non (n : Nat) : okD n .non = true := by unfold okD; rfl
theorem okD_dcl (n : Nat) (c : Cl) : okD (n + 1) (dcl c) = true := by unfold dcl; rw [okD]; simp [okD_tx]
theorem okD_enc : ∀ c : Cn, okD (2 * dp c + 3) (enc c) = true
  | .tv c s v => by rw [enc, dp, okD]; simp [okD_s, okD_dcl, okD_tx, okD_dv, okD]
  | .tc c s c2 => by rw [enc, dp, okD]; simp [okD_s, okD_dcl, okD_tx, okD_dv, okD]
  | .no x => by
    have h := okD_enc x
    rw [enc, dp, show 2 * (dp x + 1) + 3 = (2 * dp x + 4) + 1 by omega, okD]
    simp [okD_s, okD_up (show 2 * dp x + 3 ≤ 2 * dp x + 4 by omega) h]
  | .g2 b x y => by
    have h1 := okD_enc x
    have h2 := okD_enc y
    rw [enc, dp, show 2 * (max (dp x) (dp y) + 1) + 3 = ((2 * max (dp x) (dp y) + 3) + 1) + 1 by omega, okD]
    simp [okD, okD_tx, okD_up (show 2 * dp x + 3 ≤ 2 * max (dp x) (dp y) + 3 by omega) h1, okD_up (show 2 * dp y + 3 ≤ 2 * max (dp x) (dp y) + 3 by omega) h2]
  | .g3 b x y z => by
    have h1 := okD_enc x
    have h2 := okD_enc y
    have h3 := okD_enc z
    rw [enc, dp, show 2 * (max (dp x) (max (dp y) (dp z)) + 1) + 3 = ((2 * max (dp x) (max (dp y) (dp z)) + 3) + 1) + 1 by omega, okD]
    simp [okD, okD_tx, okD_up (show 2 * dp x + 3 ≤ 2 * max (dp x) (max (dp y) (dp z)) + 3 by omega) h1, okD_up (show 2 * dp y + 3 ≤ 2 * max (dp x) (max (dp y) (dp z)) + 3 by omega) h2, okD_up (show 2 * dp z + 3 ≤ 2 * max (dp x) (max (dp y) (dp z)) + 3 by omega) h3]
theorem okD_cn {t : List Nat} {c : Option Cn} (g : gO t c) : okD 11 (cnD c) = true := by
  cases c with
  | none => exact okD_non _
  | some x => exact okD_up (by have := (g x rfl).2.1; omega) (okD_enc x)
theorem okD_wh (n : Nat) (w : Wh) : okD (n + 3) (whD w) = true := by
  cases w <;> (unfold whD; rw [okD]; simp [okD_s, okD_dcl, okD])
theorem okD_sp {p : Sp} (g : gs p) : okD 13 (spD p) = true := by
  cases p with
  | make t cs =>
    rw [spD, okD]
    have := g.2.2.1
    simp [okD_s, okD_tx, okD]
    omega
  | drop t => rw [spD, okD]; simp [okD_s, okD_tx]
  | ord u c => rw [spD, okD]; simp [okD_s, okD_dcl]
  | put t vs =>
    rw [spD, okD]
    have := g.2.2.1
    simp [okD_s, okD_tx, okD, okD_dv]
    omega
  | cut t c =>
    rw [spD, okD]
    simp [okD_s, okD_tx, okD_up (show 11 ≤ 12 by decide) (okD_cn g.2)]
  | set c v b =>
    rw [spD, okD]
    simp [okD_s, okD_dcl, okD_dv, okD_up (show 11 ≤ 12 by decide) (okD_cn g.2.2)]
  | need v x =>
    rw [spD, okD]
    have h : okD 12 (quD x) = true := by
      unfold quD
      rw [okD]
      simp [okD_wh, okD_tx, okD_non, okD_cn (gq_gO g.2)]
    simp [okD_s, okD_dv, h]
end Mi.L

namespace Mi.L
open PySem Mi
/-! ### the deck -/
theorem r_take {n : Nat} {S : Store} {k : Nat} {a w c m : Int} (hS : S[k]? = some (.lst [.int a, .int w, .int c])) (hm : 0 < m) (hm2 : m < 2 ^ 60) (hc : 0 ≤ c) (hc2 : c < 2 ^ 40) :
    ∃ r a' c', run tab (n + 1) 30 [.ref k, .int m] S = .ok (.int r) (S.set k (.lst [.int a', .int w, .int c'])) ∧ 0 ≤ r ∧ r < m ∧ c ≤ c' ∧ c' ≤ c + 1 := by
  have hk : k < S.length := (List.getElem?_eq_some_iff.mp hS).1
  have i0 : p2 .ix (.val (.ref k)) (.val (.int 0)) S = .ok (.val (.int a)) S := ix_at hS rfl
  have i1 : p2 .ix (.val (.ref k)) (.val (.int 1)) S = .ok (.val (.int w)) S := ix_at hS rfl
  have i2 : p2 .ix (.val (.ref k)) (.val (.int 2)) S = .ok (.val (.int c)) S := ix_at hS rfl
  have pk : ∀ (r : Int) (ds : List D), D.unds S.length ds = true → pack S (.int r) (S.set k (.lst ds)) = .ok (.int r) (S.set k (.lst ds)) := fun r ds h => by
    have := pack_set (T := []) (d := .int r) (o := .lst ds) hk h und_int
    rwa [List.append_nil] at this
  rw [run_fin (F := ⟨2, 4, b30⟩) rfl rfl]
  by_cases hw : w = 0
  · refine ⟨a % m, a / m, c, ?_, Int.emod_nonneg _ (by omega), Int.emod_lt_of_pos _ hm, by omega, by omega⟩
    have s0 : ∀ d, setItem (.val (.ref k)) (.val (.int 0)) d S = some (S.set k (.lst [d, .int w, .int c])) := fun d => setItem_at (j := 0) hS rfl
    simp [b30, exSs, exS, evD, evB, evK, vv, R.bd, R.st, RS.sq, toD, toB, bindTg, fin, i0, i1, i2, eq_ii, mod_ok hm, fdiv_ok hm (by omega : m < 2 ^ 128), hw, s0, pk]
  · have s2 : ∀ d, setItem (.val (.ref k)) (.val (.int 2)) d S = some (S.set k (.lst [.int a, .int w, d])) := fun d => setItem_at (j := 2) hS rfl
    have hS2 : (S.set k (.lst [.int a, .int w, .int (c + 1)]))[k]? = some (.lst [.int a, .int w, .int (c + 1)]) := List.getElem?_set_self hk
    have j0 : p2 .ix (.val (.ref k)) (.val (.int 0)) (S.set k (.lst [.int a, .int w, .int (c + 1)])) = .ok (.val (.int a)) (S.set k (.lst [.int a, .int w, .int (c + 1)])) := ix_at hS2 rfl
    have j2 : p2 .ix (.val (.ref k)) (.val (.int 2)) (S.set k (.lst [.int a, .int w, .int (c + 1)])) = .ok (.val (.int (c + 1))) (S.set k (.lst [.int a, .int w, .int (c + 1)])) := ix_at hS2 rfl
    have q1 : 0 ≤ a % 2147483647 ∧ a % 2147483647 < 2147483647 := ⟨Int.emod_nonneg _ (by decide), Int.emod_lt_of_pos _ (by decide)⟩
    have sq0 : 0 ≤ (c + 1) * (c + 1) := Int.mul_nonneg (by omega) (by omega)
    have sq : (c + 1) * (c + 1) ≤ 2 ^ 41 * 2 ^ 41 := Int.mul_le_mul (by omega) (by omega) (by omega) (by decide)
    have m1 : ∀ T : Store, p2 .mul (.val (.int (c + 1))) (.val (.int (c + 1))) T = .ok (.val (.int ((c + 1) * (c + 1)))) T := fun T => mul_ok (by omega) (by omega)
    have m2 : ∀ T : Store, p2 .mul (.val (.int (a % 2147483647))) (.val (.int ((c + 1) * (c + 1) + 48271))) T = .ok (.val (.int (a % 2147483647 * ((c + 1) * (c + 1) + 48271)))) T := fun T => mul_ok (by omega) (by omega)
    generalize hx : (a % 2147483647 * ((c + 1) * (c + 1) + 48271) + (c + 1)) % 2147483629 = x at *
    have q2 : 0 ≤ x ∧ x < 2147483629 := by rw [← hx]; exact ⟨Int.emod_nonneg _ (by decide), Int.emod_lt_of_pos _ (by decide)⟩
    have m3 : ∀ T : Store, p2 .mul (.val (.int x)) (.val (.int x)) T = .ok (.val (.int (x * x))) T := fun T => mul_ok (by omega) (by omega)
    have q3 : 0 ≤ x * x % 2147483587 ∧ x * x % 2147483587 < 2147483587 := ⟨Int.emod_nonneg _ (by decide), Int.emod_lt_of_pos _ (by decide)⟩
    have m4 : ∀ T : Store, p2 .mul (.val (.int (x * x % 2147483587))) (.val (.int 69621)) T = .ok (.val (.int (x * x % 2147483587 * 69621))) T := fun T => mul_ok (by omega) (by decide)
    refine ⟨x * x % 2147483587 * 69621 % 2147483563 / 3 % m, a, c + 1, ?_, Int.emod_nonneg _ (by omega), Int.emod_lt_of_pos _ hm, by omega, by omega⟩
    simp [b30, exSs, exS, evD, evB, evK, vv, R.bd, R.st, RS.sq, toD, toB, bindTg, fin, i0, i1, i2, j0, j2, eq_ii, mod_ok, fdiv_ok, add_ok, mod_ok hm, hw, s2, pk, m1, m2, m3, m4, hx]
abbrev dko (a w c : Int) : O := .lst [.int a, .int w, .int c]
theorem dko_und {k : Nat} {a w c : Int} : O.und k (dko a w c) = true := by
  show D.unds k [.int a, .int w, .int c] = true
  simp
section
variable {B T : Store} {k : Nat} {a w c : Int} (hk : k < B.length)
include hk
theorem take_at {n : Nat} {m : Int} (hm : 0 < m) (hm2 : m < 2 ^ 60) (hc : 0 ≤ c) (hc2 : c < 2 ^ 40) :
    ∃ r a' c', run tab (n + 1) 30 [.ref k, .int m] (B.set k (dko a w c) ++ T) = .ok (.int r) (B.set k (dko a' w c') ++ T) ∧ 0 ≤ r ∧ r < m ∧ c ≤ c' ∧ c' ≤ c + 1 := by
  have hS : (B.set k (dko a w c) ++ T)[k]? = some (dko a w c) := by
    rw [List.getElem?_append_left (by rw [List.length_set]; exact hk), List.getElem?_set_self hk]
  obtain ⟨r, a', c', h, h1, h2, h3, h4⟩ := r_take (n := n) hS hm hm2 hc hc2
  refine ⟨r, a', c', ?_, h1, h2, h3, h4⟩
  rw [h, List.set_append_left _ _ (by rw [List.length_set]; exact hk), List.set_set]
theorem pack_dk {d : D} {a' c' : Int} (hd : D.und B.length d = true) : pack (B.set k (dko a w c)) d (B.set k (dko a' w c') ++ T) = .ok d (B.set k (dko a' w c')) := by
  have h := pack_set (S := B.set k (dko a w c)) (T := T) (d := d) (k := k) (o := dko a' w c') (by rw [List.length_set]; exact hk) dko_und (by rw [List.length_set]; exact hd)
  rwa [List.set_set] at h
end
theorem r_cell {n m : Nat} {S : Store} {xs : List Int} {i : Nat} (h : i < xs.length) : run tab (n + 1) 29 [.ls (xs.map D.int), .int (i : Nat)] S = .ok (.int (xs[i])) S := by
  have ln : p1 .len (.val (.ls (xs.map D.int))) S = .ok (.val (.int xs.length)) S := by
    show R.ok (W.val (D.int ((xs.map D.int).length : Nat))) S = _
    rw [List.length_map]
  have hlt : ((i : Int) < (xs.length : Int)) := by omega
  have ix : p2 .ix (.val (.ls (xs.map D.int))) (.val (.int (i : Nat))) S = .ok (.val (.int xs[i])) S := by
    show (match L2.atI (xs.map D.int) (i : Int) with | some d => vv d S | none => .bad) = _
    rw [atI_at (x := D.int xs[i]) (by omega) (by rw [Int.toNat_natCast, List.getElem?_map, List.getElem?_eq_getElem h]; rfl)]
    rfl
  obtain ⟨L, hL⟩ : ∃ L, L = D.ls (xs.map D.int) := ⟨_, rfl⟩
  rw [← hL] at ln ix ⊢
  refine r_run (F := ⟨2, 2, b29⟩) rfl rfl ?_ (pack_same (by simp))
  exact Rt.fin (y_if1 (by simp [ln, lt_ii, hlt]) (by simp [ix]))
def e16 : List Ex := [(.c (.int 0)), (.c (.int 1)), (.c (.int 2)), (.c (.int 3)), (.p1 .neg (.c (.int 1))), (.p1 .neg (.c (.int 20))), (.p2 .pow (.c (.int 10)) (.c (.int 12))), (.c (.str "")), (.c (.str "a")), (.c (.str "b b")), (.c (.str "Z")), (.c (.str "where")), (.c (.str "0")), (.c (.str "~ (x)")), (.c (.str "a where b")), (.c (.str " is "))]
theorem pow12 {S : Store} : p2 .pow (.val (.int 10)) (.val (.int 12)) S = .ok (.val (.int (10 ^ 12))) S := pow_ok (by decide)
theorem ev16 {C : CF} {ρ : Env} {S : Store} : evDs C e16 ρ S = .ok (MENU.map dv) S := by
  simp [e16, neg_ok, pow12, MENU, dv]
theorem at16 {r : Int} (h : 0 ≤ r) (h2 : r < 16) : ∃ v ∈ MENU, L2.atI (MENU.map dv) r = some (dv v) := at_map h (by show r < ((16 : Nat) : Int); omega)
theorem sz16 : (16 : Nat) ≤ sizeLine := by decide
/-- a value of the menu -/
theorem r_val {n : Nat} {B : Store} {k : Nat} {a w c : Int} (hk : k < B.length) (hc : 0 ≤ c) (hc2 : c < 2 ^ 40) :
    ∃ v a' c', v ∈ MENU ∧ run tab (n + 2) 31 [.ref k] (B.set k (dko a w c)) = .ok (dv v) (B.set k (dko a' w c')) ∧ c ≤ c' ∧ c' ≤ c + 1 := by
  obtain ⟨r, a', c', h1, h2, h3, h4, h5⟩ := take_at (B := B) (T := [.lst (MENU.map dv)]) (k := k) (a := a) (w := w) (c := c) hk (n := n) (m := 16) (by decide) (by decide) hc hc2
  obtain ⟨v, hv, hat⟩ := at16 h2 h3
  refine ⟨v, a', c', hv, ?_, h4, h5⟩
  have hkl : (B.set k (dko a w c)).length = B.length := List.length_set
  have hS2 : (B.set k (dko a' w c') ++ [O.lst (MENU.map dv)])[B.length]? = some (.lst (MENU.map dv)) := by
    rw [List.getElem?_append_right (by rw [List.length_set]; exact Nat.le_refl _), List.length_set, Nat.sub_self]; rfl
  have ix := ix_at hS2 hat
  refine r_run (F := ⟨1, 2, b31⟩) (S' := B.set k (dko a' w c') ++ [O.lst (MENU.map dv)]) rfl rfl ?_ (pack_dk hk (und_dv _ _))
  show Rt (exSs (run tab (n + 1)) (.set (.nm 1) (.disp e16) :: b31.drop 1) [some (.ref k), none] (B.set k (dko a w c))) _ _
  refine Rt.go (x_set (d := .ref B.length) (S' := B.set k (dko a w c) ++ [.lst (MENU.map dv)]) ?_) ?_
  · rw [e_D, e_disp, ev16]
    show ((if (MENU.map dv).length ≤ sizeLine then R.ok (W.lis (MENU.map dv)) (B.set k (dko a w c)) else .bad).bd toD) = _
    rw [if_pos (by show 16 ≤ sizeLine; exact sz16)]
    show R.ok (D.ref (B.set k (dko a w c)).length) _ = _
    rw [hkl]
  refine Rt.fin (x_ret ?_)
  simp [h1, ix]
end Mi.L

namespace Mi.L
open PySem Mi
/-! ### conditions are drawn -/
/-- the columns of x are among cols -/
def inC (cols : List Cl) (x : Cn) : Prop := ∀ c ∈ csC x, c ∈ cols
structure gC (cols : List Cl) (d : Nat) (x : Cn) : Prop where
  g : gd x
  d : dp x ≤ d
  i : inC cols x
theorem sig_at {r : Int} (h : 0 ≤ r) (h2 : r < 6) : ∃ s ∈ SIG, L2.atI (SIG.map tx) r = some (tx s) := at_map h (by show r < ((6 : Nat) : Int); omega)
def e6 : List Ex := [(.c (.str "=")), (.c (.str "#")), (.c (.str "<")), (.c (.str ">")), (.c (.str "<=")), (.c (.str ">="))]
theorem ev6 {C : CF} {ρ : Env} {S : Store} : evK C (.disp e6) ρ S = .ok (.lis (SIG.map tx)) S := by
  have : evDs C e6 ρ S = .ok (SIG.map tx) S := by
    simp only [e6, e_ds, e_ds0, e_c, bd_ok', toD_val, SIG, List.map_cons, List.map_nil, tx_q]
  rw [e_disp, this]
  show (if (SIG.map tx).length ≤ sizeLine then R.ok (W.lis (SIG.map tx)) S else .bad) = _
  rw [if_pos (by show 6 ≤ sizeLine; decide)]
theorem take0 {B : Store} {k : Nat} {a w c : Int} (hk : k < B.length) {n : Nat} {m : Int} (hm : 0 < m) (hm2 : m < 2 ^ 60) (hc : 0 ≤ c) (hc2 : c < 2 ^ 40) :
    ∃ r a' c', run tab (n + 1) 30 [.ref k, .int m] (B.set k (dko a w c)) = .ok (.int r) (B.set k (dko a' w c')) ∧ 0 ≤ r ∧ r < m ∧ c ≤ c' ∧ c' ≤ c + 1 := by
  obtain ⟨r, a', c', h1, h2⟩ := take_at (B := B) (T := []) (k := k) (a := a) (w := w) (c := c) hk (n := n) hm hm2 hc hc2
  rw [List.append_nil, List.append_nil] at h1
  exact ⟨r, a', c', h1, h2⟩
section
variable {B : Store} {k p : Nat} {cols : List Cl} {a w c : Int} {n : Nat}
theorem col_at (hp : B[p]? = some (.lst (cols.map dcl))) (hpk : p ≠ k) : (B.set k (dko a w c))[p]? = some (.lst (cols.map dcl)) := by
  rw [List.getElem?_set_ne (Ne.symm hpk)]; exact hp
/-- a column of the list -/
theorem draw_col (hk : k < B.length) (hp : B[p]? = some (.lst (cols.map dcl))) (hpk : p ≠ k) (hne : cols ≠ []) (hl : cols.length ≤ 1000) (hc : 0 ≤ c) (hc2 : c < 2 ^ 40) {ρ : Env} (h0 : ρ[0]? = some (some (.ref k))) (h1 : ρ[1]? = some (some (.ref p))) :
    ∃ x ∈ cols, ∃ a' c', evK (run tab (n + 1)) (.p2 .ix (.v 1) (.call 30 [(.v 0), (.p1 .len (.v 1))])) ρ (B.set k (dko a w c)) = .ok (.val (dcl x)) (B.set k (dko a' w c')) ∧ c ≤ c' ∧ c' ≤ c + 1 := by
  have hpos : 0 < cols.length := List.length_pos_iff.mpr hne
  obtain ⟨r, a', c', t1, t2, t3, t4, t5⟩ := take0 (B := B) (k := k) (a := a) (w := w) (c := c) hk (n := n) (m := (cols.length : Nat)) (by omega) (by omega) hc hc2
  obtain ⟨x, hx, hat⟩ := at_map (f := dcl) (l := cols) t2 t3
  refine ⟨x, hx, a', c', ?_, t4, t5⟩
  have ln := len_at (col_at (a := a) (w := w) (c := c) hp hpk)
  rw [List.length_map] at ln
  have ix := ix_at (col_at (a := a') (w := w) (c := c') hp hpk) hat
  simp only [e_p2, e_call, e_ds, e_ds0, e_p1, e_v h0, e_v h1, bd_ok', toD_val, ln, t1, vv_ok', ix]
/-- a test -/
theorem draw_test (hk : k < B.length) (hp : B[p]? = some (.lst (cols.map dcl))) (hpk : p ≠ k) (hne : cols ≠ []) (hl : cols.length ≤ 1000) (hg : ∀ c ∈ cols, gc c) (hc : 0 ≤ c) (hc2 : c < 2 ^ 39) {d r3 : D} {r4 r5 : Option D} :
    ∃ x a' c', gC cols 0 x ∧ Rt (exSs (run tab (n + 2)) (b34.drop 3) [some (.ref k), some (.ref p), some d, some r3, r4, r5, none, none] (B.set k (dko a w c))) (enc x) (B.set k (dko a' w c')) ∧ c ≤ c' ∧ c' ≤ c + 4 := by
  obtain ⟨x, hx, a1, c1, e1, e2, e3⟩ := draw_col (n := n + 1) (a := a) (w := w) (c := c) hk hp hpk hne hl hc (by omega) (ρ := [some (.ref k), some (.ref p), some d, some r3, r4, r5, none, none]) rfl rfl
  obtain ⟨r, a2, c2, t1, t2, t3, t4, t5⟩ := take0 (B := B) (k := k) (a := a1) (w := w) (c := c1) hk (n := n + 1) (m := 6) (by decide) (by decide) (by omega) (by omega)
  obtain ⟨s, hs, hat⟩ := sig_at t2 t3
  obtain ⟨r2, a3, c3, u1, u2, u3, u4, u5⟩ := take0 (B := B) (k := k) (a := a2) (w := w) (c := c2) hk (n := n + 1) (m := 5) (by decide) (by decide) (by omega) (by omega)
  have six : ∀ T, p2 .ix (.lis (SIG.map tx)) (.val (.int r)) T = .ok (.val (tx s)) T := fun T => ix_lis hat
  have s6 : exSs (run tab (n + 2)) (b34.drop 3) [some (.ref k), some (.ref p), some d, some r3, r4, r5, none, none] (B.set k (dko a w c)) = exSs (run tab (n + 2)) (b34.drop 5) [some (.ref k), some (.ref p), some d, some r3, r4, r5, some (dcl x), some (tx s)] (B.set k (dko a2 w c2)) := by
    refine (x_set (d := dcl x) (S' := B.set k (dko a1 w c1)) (by rw [e_D, e1]; rfl)).trans ?_
    refine (x_set (d := tx s) (S' := B.set k (dko a2 w c2)) ?_).trans rfl
    show (evK (run tab (n + 2)) (.p2 .ix (.disp e6) (.call 30 [(.v 0), (.c (.int 6))])) _ _).bd toD = _
    rw [e_p2, ev6]
    have v0 : ∀ T, evK (run tab (n + 2)) (.v 0) [some (.ref k), some (.ref p), some d, some r3, r4, r5, some (dcl x), none] T = .ok (.val (.ref k)) T := fun T => e_v rfl
    show ((evK (run tab (n + 2)) (.call 30 [(.v 0), (.c (.int 6))]) [some (.ref k), some (.ref p), some d, some r3, r4, r5, some (dcl x), none] (B.set k (dko a1 w c1))).bd fun y S => p2 .ix (.lis (SIG.map tx)) y S).bd toD = _
    simp only [e_call, e_ds, e_ds0, e_c, v0, bd_ok', toD_val, t1, vv_ok', six]
  obtain ⟨ρ, hρ⟩ : ∃ ρ : Env, ρ = [some (.ref k), some (.ref p), some d, some r3, r4, r5, some (dcl x), some (tx s)] := ⟨_, rfl⟩
  have h0 : ρ[0]? = some (some (.ref k)) := by rw [hρ]; rfl
  have h1 : ρ[1]? = some (some (.ref p)) := by rw [hρ]; rfl
  have v0 : ∀ T, evK (run tab (n + 2)) (.v 0) ρ T = .ok (.val (.ref k)) T := fun T => e_v h0
  have v6 : ∀ T, evK (run tab (n + 2)) (.v 6) ρ T = .ok (.val (dcl x)) T := fun T => e_v (by rw [hρ]; rfl)
  have v7 : ∀ T, evK (run tab (n + 2)) (.v 7) ρ T = .ok (.val (tx s)) T := fun T => e_v (by rw [hρ]; rfl)
  have cnd : evB (run tab (n + 2)) (.p2 .eq (.call 30 [(.v 0), (.c (.int 5))]) (.c (.int 1))) ρ (B.set k (dko a2 w c2)) = .ok (decide (r2 = 1)) (B.set k (dko a3 w c3)) := by
    simp only [e_B, e_p2, e_call, e_ds, e_ds0, e_c, v0, bd_ok', toD_val, u1, vv_ok', eq_ii, toB_bl]
  by_cases hr : r2 = 1
  · obtain ⟨y, hy, a4, c4, f1, f2, f3⟩ := draw_col (n := n + 1) (a := a3) (w := w) (c := c3) hk hp hpk hne hl (by omega) (by omega) h0 h1
    refine ⟨.tc x s y, a4, c4, ⟨⟨hg x hx, hs, hg y hy⟩, Nat.le_refl _, fun z hz => ?_⟩, ?_, by omega, by omega⟩
    · simp only [csC, List.mem_cons, List.not_mem_nil, or_false] at hz
      rcases hz with rfl | rfl <;> assumption
    · refine Rt.go s6 ?_
      rw [← hρ]
      refine Rt.go (x_ift (by rw [cnd, decide_eq_true hr])) ?_
      rw [x_ret (d := enc (.tc x s y)) (S' := B.set k (dko a4 w c4))]
      · exact Rt.fin rfl
      · rw [enc]
        simp only [e_D, e_tup, e_ds, e_ds0, e_c, v6, v7, f1, bd_ok', toD_val, vv_ok', List.length_cons, List.length_nil]
        rw [if_pos (by decide), bd_ok', toD_val, bd_ok', bd_ok', bd_ok', bd_ok', bd_ok', if_pos (by simp only [List.length_cons, List.length_nil]; decide)]
        rfl
  · obtain ⟨v, a4, c4, hv, f1, f2, f3⟩ := r_val (n := n) (B := B) (k := k) (a := a3) (w := w) (c := c3) hk (by omega) (by omega)
    refine ⟨.tv x s v, a4, c4, ⟨⟨hg x hx, hs, hv⟩, Nat.le_refl _, fun z hz => ?_⟩, ?_, by omega, by omega⟩
    · simp only [csC, List.mem_cons, List.not_mem_nil, or_false] at hz
      subst hz; exact hx
    · refine Rt.go s6 ?_
      rw [← hρ]
      refine Rt.go (x_if0 (by rw [cnd, decide_eq_false hr])) ?_
      refine Rt.fin (x_ret ?_)
      rw [enc]
      simp only [e_D, e_tup, e_ds, e_ds0, e_c, e_call, v0, v6, v7, bd_ok', toD_val, f1, vv_ok', List.length_cons, List.length_nil]
      rw [if_pos (by decide), bd_ok', toD_val, bd_ok', bd_ok', bd_ok', bd_ok', bd_ok', if_pos (by simp only [List.length_cons, List.length_nil]; decide)]
      rfl
end
end Mi.L

namespace Mi
open PySem
/-- a comprehension whose turns change the store -/
noncomputable abbrev turnC (C : CF) (i : Nat) (e : Ex) (own : List Nat) (ρ : Env) : D → Store → R (Option D) := fun d S => ((evD C e ((wipeD ρ own).set i (some d)) S).bd fun d S => .ok (some d) S).nox
theorem comp_run {C : CF} {ρ : Env} {S S' S'' : Store} {i : Nat} {k : IK} {is : List Ex} {e : Ex} {own : List Nat} {ws : List W} {items out : List D} (h1 : evWs C is ρ S = .ok ws S') (h2 : its k ws S' = some ⟨items, []⟩) (h3 : compL [] (turnC C i e own ρ) items S' [] = .ok out S'') :
    evK C (.comp (.nm i) k is [] e own) ρ S = .ok (.lis out) S'' := by
  rw [evK, h1]
  show (match its k ws S' with
    | some I => (compL I.live (fun d S => match bindTg (.nm i) d (wipeD ρ own) with
        | some ρ' => ((evCs C [] ρ' S).bd fun b S => if b = true then ((evK C e ρ' S).bd toD).bd fun d S => .ok (some d) S else .ok none S).nox
        | none => .bad) I.items S' []).bd fun ds S => .ok (W.lis ds) S
    | none => .bad) = _
  rw [h2]
  dsimp only
  have e2 : (fun (d : D) (S : Store) => match bindTg (.nm i) d (wipeD ρ own) with
        | some ρ' => ((evCs C [] ρ' S).bd fun b S => if b = true then ((evK C e ρ' S).bd toD).bd fun d S => R.ok (some d) S else .ok none S).nox
        | none => .bad) = turnC C i e own ρ := by
    funext d S
    show ((evCs C [] ((wipeD ρ own).set i (some d)) S).bd fun b S => if b = true then ((evK C e ((wipeD ρ own).set i (some d)) S).bd toD).bd fun d S => R.ok (some d) S else .ok none S).nox = _
    rw [evCs]; rfl
  rw [e2, h3]; rfl
theorem compL_nx {turn : D → Store → R (Option D)} {d x : D} {r acc : List D} {S S' : Store} (h : turn d S = .ok (some x) S') (hz : acc.length < sizeLine) : compL [] turn (d :: r) S acc = compL [] turn r S' (acc ++ [x]) := by
  rw [compL, if_pos isLive_nil, h]
  show (if acc.length < sizeLine then compL [] turn r S' (acc ++ [x]) else .bad) = _
  rw [if_pos hz]
theorem compL_end {turn : D → Store → R (Option D)} {acc : List D} {S : Store} : compL [] turn [] S acc = .ok acc S := by
  rw [compL, if_pos isLive_nil]
end Mi
namespace Mi.L
open PySem Mi
theorem tup_at {S : Store} {P : Nat} {ds : List D} (hS : S[P]? = some (.lst ds)) : p1 .tuple_ (.val (.ref P)) S = .ok (.val (.tup ds)) S := by
  show (match W.seq S (.val (.ref P)) with
    | some (_, ds) => vv (.tup ds) S
    | none => .bad) = _
  rw [seq_at hS]; rfl
theorem gC_no {cols : List Cl} {d : Nat} {x : Cn} (h : gC cols d x) : gC cols (d + 1) (.no x) := ⟨h.g, by have := h.d; simp only [dp]; omega, h.i⟩
theorem gC_g2 {cols : List Cl} {d : Nat} {b : Bool} {x y : Cn} (h : gC cols d x) (h2 : gC cols d y) : gC cols (d + 1) (.g2 b x y) := ⟨⟨h.g, h2.g⟩, by have := h.d; have := h2.d; simp only [dp]; omega, fun c hc => by
  simp only [csC, List.mem_append] at hc
  rcases hc with hc | hc
  · exact h.i c hc
  · exact h2.i c hc⟩
theorem gC_g3 {cols : List Cl} {d : Nat} {b : Bool} {x y z : Cn} (h : gC cols d x) (h2 : gC cols d y) (h3 : gC cols d z) : gC cols (d + 1) (.g3 b x y z) := ⟨⟨h.g, h2.g, h3.g⟩, by have := h.d; have := h2.d; have := h3.d; simp only [dp]; omega, fun c hc => by
  simp only [csC, List.mem_append] at hc
  rcases hc with hc | hc | hc
  · exact h.i c hc
  · exact h2.i c hc
  · exact h3.i c hc⟩
theorem gC_up {cols : List Cl} {d e : Nat} {x : Cn} (h : gC cols d x) (he : d ≤ e) : gC cols e x := ⟨h.g, Nat.le_trans h.d he, h.i⟩
theorem kw_at {S : Store} {r : Int} (h : r = 1 ∨ r = 2) : ∃ b, p2 .ix (.lis [.str "and", .str "or"]) (.val (.int (r - 1))) S = .ok (.val (tx (kw b))) S := by
  rcases h with rfl | rfl
  · exact ⟨true, by show p2 .ix (.lis [.str "and", .str "or"]) (.val (.int (1 - 1))) S = .ok (.val (tx (q "and"))) S; rw [tx_q]; exact ix_lis rfl⟩
  · exact ⟨false, by show p2 .ix (.lis [.str "and", .str "or"]) (.val (.int (2 - 1))) S = .ok (.val (tx (q "or"))) S; rw [tx_q]; exact ix_lis rfl⟩
theorem pw {d : Nat} : 1 ≤ 4 ^ d := Nat.one_le_pow d 4 (by decide)
/-- a condition is drawn -/
theorem r_drawc {k p : Nat} {cols : List Cl} {w : Int} {B : Store} (hk : k < B.length) (hp : B[p]? = some (.lst (cols.map dcl))) (hpk : p ≠ k) (hne : cols ≠ []) (hl : cols.length ≤ 1000) (hg : ∀ c ∈ cols, gc c) :
    ∀ (dd : Nat) {n : Nat} {a c : Int}, 0 ≤ c → c + 20 * (4 ^ dd : Nat) < 2 ^ 39 → ∃ x a' c', gC cols dd x ∧ run tab (n + 3 + dd) 34 [.ref k, .ref p, .int (dd : Nat)] (B.set k (dko a w c)) = .ok (enc x) (B.set k (dko a' w c')) ∧ c ≤ c' ∧ c' ≤ c + 20 * (4 ^ dd : Nat) := by
  intro dd
  induction dd with
  | zero =>
    intro n a c hc hc2
    obtain ⟨r, a1, c1, t1, t2, t3, t4, t5⟩ := take0 (B := B) (k := k) (a := a) (w := w) (c := c) hk (n := n + 1) (m := 7) (by decide) (by decide) hc (by omega)
    obtain ⟨x, a2, c2, gx, h1, h2, h3⟩ := draw_test (n := n) (a := a1) (w := w) (c := c1) hk hp hpk hne hl hg (by omega) (by omega) (d := .int 0) (r3 := .int r) (r4 := none) (r5 := none)
    refine ⟨x, a2, c2, gx, ?_, by omega, by omega⟩
    refine r_run (F := ⟨3, 8, b34⟩) (S' := B.set k (dko a2 w c2)) rfl rfl ?_ (by have := pack_dk (T := []) hk (und_enc B.length x) (a := a) (w := w) (c := c) (a' := a2) (c' := c2); rwa [List.append_nil] at this)
    refine Rt.go (x_set (d := .int r) (S' := B.set k (dko a1 w c1)) (by simp [t1])) ?_
    refine Rt.go (x_if0 (S' := B.set k (dko a1 w c1)) (by simp [gt_ii])) ?_
    refine Rt.go (x_if0 (S' := B.set k (dko a1 w c1)) (by simp [gt_ii])) ?_
    exact h1
  | succ dd ih =>
    intro n a c hc hc2
    have p4 : (4 ^ (dd + 1) : Nat) = 4 * 4 ^ dd := by rw [Nat.pow_succ]; omega
    have pw1 := pw (d := dd)
    obtain ⟨r, a1, c1, t1, t2, t3, t4, t5⟩ := take0 (B := B) (k := k) (a := a) (w := w) (c := c) hk (n := n + 2 + dd) (m := 7) (by decide) (by decide) hc (by omega)
    have t1 : run tab (n + 3 + dd) 30 [.ref k, .int 7] (B.set k (dko a w c)) = .ok (.int r) (B.set k (dko a1 w c1)) := by rw [show n + 3 + dd = n + 2 + dd + 1 by omega]; exact t1
    obtain ⟨ρ, hρ⟩ : ∃ ρ : Env, ρ = [some (.ref k), some (.ref p), some (.int ((dd + 1 : Nat) : Int)), some (.int r), none, none, none, none] := ⟨_, rfl⟩
    have v0 : ∀ T, evK (run tab (n + 3 + dd)) (.v 0) ρ T = .ok (.val (.ref k)) T := fun T => e_v (by rw [hρ]; rfl)
    have v1 : ∀ T, evK (run tab (n + 3 + dd)) (.v 1) ρ T = .ok (.val (.ref p)) T := fun T => e_v (by rw [hρ]; rfl)
    have v2 : ∀ T, evK (run tab (n + 3 + dd)) (.v 2) ρ T = .ok (.val (.int ((dd + 1 : Nat) : Int))) T := fun T => e_v (by rw [hρ]; rfl)
    have v3 : ∀ T, evK (run tab (n + 3 + dd)) (.v 3) ρ T = .ok (.val (.int r)) T := fun T => e_v (by rw [hρ]; rfl)
    have hd0 : decide ((0 : Int) < ((dd + 1 : Nat) : Int)) = true := decide_eq_true (by omega)
    have hsub : ((dd + 1 : Nat) : Int) - 1 = (dd : Nat) := by omega
    have head : ∀ {x : Cn} {a' c' : Int}, Rt (exSs (run tab (n + 3 + dd)) (b34.drop 1) ρ (B.set k (dko a1 w c1))) (enc x) (B.set k (dko a' w c')) → run tab (n + 3 + (dd + 1)) 34 [.ref k, .ref p, .int ((dd + 1 : Nat) : Int)] (B.set k (dko a w c)) = .ok (enc x) (B.set k (dko a' w c')) := by
      intro x a' c' h
      refine r_run (n := n + 3 + dd) (F := ⟨3, 8, b34⟩) (S' := B.set k (dko a' w c')) rfl rfl ?_ (by have := pack_dk (T := []) hk (und_enc B.length x) (a := a) (w := w) (c := c) (a' := a') (c' := c'); rwa [List.append_nil] at this)
      refine Rt.go (x_set (d := .int r) (S' := B.set k (dko a1 w c1)) (by simp [t1])) ?_
      rw [hρ] at h
      exact h
    have cA : ∀ T, evB (run tab (n + 3 + dd)) (.and_ (.p2 .gt (.v 2) (.c (.int 0))) (.p2 .eq (.v 3) (.c (.int 0)))) ρ T = .ok (decide (r = 0)) T := fun T => by
      simp only [e_B, e_and, e_p2, e_c, v2, v3, bd_ok', gt_ii, toB_bl, hd0, if_true, eq_ii]
    have cB : ∀ T, evB (run tab (n + 3 + dd)) (.and_ (.p2 .gt (.v 2) (.c (.int 0))) (.p2 .lt (.v 3) (.c (.int 3)))) ρ T = .ok (decide (r < 3)) T := fun T => by
      simp only [e_B, e_and, e_p2, e_c, v2, v3, bd_ok', gt_ii, toB_bl, hd0, if_true, lt_ii]
    by_cases hr0 : r = 0
    · obtain ⟨x, a2, c2, gx, h1, h2, h3⟩ := ih (n := n) (a := a1) (c := c1) (by omega) (by omega)
      refine ⟨.no x, a2, c2, gC_no gx, head ?_, by omega, by omega⟩
      obtain ⟨e, he⟩ : ∃ e, e = enc x := ⟨_, rfl⟩
      rw [enc, ← he]
      rw [← he] at h1
      refine Rt.fin (x_if1 (S' := B.set k (dko a1 w c1)) (by rw [cA, decide_eq_true hr0]) ?_)
      simp only [e_D, e_tup, e_ds, e_ds0, e_c, e_call, e_p2, v0, v1, v2, bd_ok', toD_val, sub_ok, hsub, h1, vv_ok', List.length_cons, List.length_nil]
      rw [if_pos (by decide)]; rfl
    · by_cases hr3 : r < 3
      · obtain ⟨m, a2, c2, u1, u2, u3, u4, u5⟩ := take0 (B := B) (k := k) (a := a1) (w := w) (c := c1) hk (n := n + 2 + dd) (m := 2) (by decide) (by decide) (by omega) (by omega)
        have u1 : run tab (n + 3 + dd) 30 [.ref k, .int 2] (B.set k (dko a1 w c1)) = .ok (.int m) (B.set k (dko a2 w c2)) := by rw [show n + 3 + dd = n + 2 + dd + 1 by omega]; exact u1
        obtain ⟨b, hb⟩ := kw_at (S := B) (show r = 1 ∨ r = 2 by omega)
        have hb : ∀ T, p2 .ix (.lis [.str "and", .str "or"]) (.val (.int (r - 1))) T = .ok (.val (tx (kw b))) T := fun T => by
          rcases (show r = 1 ∨ r = 2 by omega) with e | e
          · rw [e] at hb ⊢
            have h1 : p2 .ix (.lis [.str "and", .str "or"]) (.val (.int (1 - 1))) B = .ok (.val (.str "and")) B := ix_lis rfl
            rw [h1] at hb
            injection hb with hb
            injection hb with hb
            rw [← hb]; exact ix_lis rfl
          · rw [e] at hb ⊢
            have h1 : p2 .ix (.lis [.str "and", .str "or"]) (.val (.int (2 - 1))) B = .ok (.val (.str "or")) B := ix_lis rfl
            rw [h1] at hb
            injection hb with hb
            injection hb with hb
            rw [← hb]; exact ix_lis rfl
        have trn : ∀ {y x : D} {S1 S2 : Store}, run tab (n + 3 + dd) 34 [.ref k, .ref p, .int (dd : Nat)] S1 = .ok x S2 → turnC (run tab (n + 3 + dd)) 5 (.call 34 [(.v 0), (.v 1), (.p2 .sub (.v 2) (.c (.int 1)))]) [5] ρ y S1 = .ok (some x) S2 := by
          intro y x S1 S2 h
          have w0 : ∀ T, evK (run tab (n + 3 + dd)) (.v 0) ((wipeD ρ [5]).set 5 (some y)) T = .ok (.val (.ref k)) T := fun T => e_v (by rw [hρ]; rfl)
          have w1 : ∀ T, evK (run tab (n + 3 + dd)) (.v 1) ((wipeD ρ [5]).set 5 (some y)) T = .ok (.val (.ref p)) T := fun T => e_v (by rw [hρ]; rfl)
          have w2 : ∀ T, evK (run tab (n + 3 + dd)) (.v 2) ((wipeD ρ [5]).set 5 (some y)) T = .ok (.val (.int ((dd + 1 : Nat) : Int))) T := fun T => e_v (by rw [hρ]; rfl)
          show ((evD _ _ _ S1).bd fun d S => R.ok (some d) S).nox = _
          simp only [e_D, e_call, e_ds, e_ds0, e_p2, e_c, w0, w1, w2, bd_ok', toD_val, sub_ok, hsub, h, vv_ok']
          rfl
        have evw : evWs (run tab (n + 3 + dd)) [(.p2 .add (.c (.int 2)) (.call 30 [(.v 0), (.c (.int 2))]))] ρ (B.set k (dko a1 w c1)) = .ok [.val (.int (2 + m))] (B.set k (dko a2 w c2)) := by
          simp only [e_ws, e_ws0, e_p2, e_call, e_ds, e_ds0, e_c, v0, bd_ok', toD_val, u1, vv_ok', add_ok]
        obtain ⟨x, a3, c3, gx, h1, h2, h3⟩ := ih (n := n) (a := a2) (c := c2) (by omega) (by omega)
        obtain ⟨y, a4, c4, gy, i1, i2, i3⟩ := ih (n := n) (a := a3) (c := c3) (by omega) (by omega)
        have tail : ∀ {ds : List D} {a' c' : Int} {z : Cn}, enc z = .tup [tx (kw b), .tup ds] → evK (run tab (n + 3 + dd)) (.comp (.nm 5) .rng1 [(.p2 .add (.c (.int 2)) (.call 30 [(.v 0), (.c (.int 2))]))] [] (.call 34 [(.v 0), (.v 1), (.p2 .sub (.v 2) (.c (.int 1)))]) [5]) ρ (B.set k (dko a1 w c1)) = .ok (.lis ds) (B.set k (dko a' w c')) → D.unds B.length ds = true →
            run tab (n + 3 + (dd + 1)) 34 [.ref k, .ref p, .int ((dd + 1 : Nat) : Int)] (B.set k (dko a w c)) = .ok (enc z) (B.set k (dko a' w c')) := by
          intro ds a' c' z hz hcp hu
          have hbl : (B.set k (dko a' w c')).length = B.length := List.length_set
          have hT : (B.set k (dko a' w c') ++ [O.lst ds])[B.length]? = some (.lst ds) := by rw [← hbl]; exact at_new
          have tp := tup_at hT
          refine r_run (n := n + 3 + dd) (F := ⟨3, 8, b34⟩) (S' := B.set k (dko a' w c') ++ [O.lst ds]) rfl rfl ?_ (pack_dk hk (und_enc B.length z))
          refine Rt.go (x_set (d := .int r) (S' := B.set k (dko a1 w c1)) (by simp [t1])) ?_
          show Rt (exSs (run tab (n + 3 + dd)) (b34.drop 1) [some (.ref k), some (.ref p), some (.int ((dd + 1 : Nat) : Int)), some (.int r), none, none, none, none] _) _ _
          rw [← hρ, hz]
          refine Rt.go (x_if0 (S' := B.set k (dko a1 w c1)) (by rw [cA, decide_eq_false hr0])) ?_
          refine Rt.go (x_ift (S' := B.set k (dko a1 w c1)) (by rw [cB, decide_eq_true hr3])) ?_
          rw [x_set (d := .ref B.length) (S' := B.set k (dko a' w c') ++ [O.lst ds]) (by rw [e_D, hcp]; show R.ok (D.ref (B.set k (dko a' w c')).length) _ = _; rw [hbl])]
          have w3 : ∀ T, evK (run tab (n + 3 + dd)) (.v 3) (ρ.set 4 (some (.ref B.length))) T = .ok (.val (.int r)) T := fun T => e_v (by rw [hρ]; rfl)
          have w4 : ∀ T, evK (run tab (n + 3 + dd)) (.v 4) (ρ.set 4 (some (.ref B.length))) T = .ok (.val (.ref B.length)) T := fun T => e_v (by rw [hρ]; rfl)
          have dsp : ∀ T, evK (run tab (n + 3 + dd)) (.disp [(.c (.str "and")), (.c (.str "or"))]) (ρ.set 4 (some (.ref B.length))) T = .ok (.lis [.str "and", .str "or"]) T := fun T => by simp [sz2]
          rw [x_ret (d := .tup [tx (kw b), .tup ds]) (S' := B.set k (dko a' w c') ++ [O.lst ds])]
          · exact Rt.fin rfl
          · simp only [e_D, e_tup, e_ds, e_ds0, e_p2, e_p1, e_c, dsp, w3, w4, bd_ok', sub_ok, hb, toD_val, tp, List.length_cons, List.length_nil]
            rw [if_pos (by decide)]; rfl
        rcases (show m = 0 ∨ m = 1 by omega) with rfl | rfl
        · refine ⟨.g2 b x y, a4, c4, gC_g2 gx gy, tail (ds := [enc x, enc y]) (by rw [enc]) (comp_run evw (its_r1 (n := 2) (by decide)) ?_) (by simp [und_enc]), by omega, by omega⟩
          show compL [] _ [.int 0, .int 1] _ [] = _
          rw [compL_nx (trn h1) (by decide), compL_nx (trn i1) (by show 1 < sizeLine; decide), compL_end]; rfl
        · obtain ⟨z, a5, c5, gz, j1, j2, j3⟩ := ih (n := n) (a := a4) (c := c4) (by omega) (by omega)
          refine ⟨.g3 b x y z, a5, c5, gC_g3 gx gy gz, tail (ds := [enc x, enc y, enc z]) (by rw [enc]) (comp_run evw (its_r1 (n := 3) (by decide)) ?_) (by simp [und_enc]), by omega, by omega⟩
          show compL [] _ [.int 0, .int 1, .int 2] _ [] = _
          rw [compL_nx (trn h1) (by decide), compL_nx (trn i1) (by show 1 < sizeLine; decide), compL_nx (trn j1) (by show 2 < sizeLine; decide), compL_end]; rfl
      · obtain ⟨x, a2, c2, gx, h1, h2, h3⟩ := draw_test (n := n + 1 + dd) (a := a1) (w := w) (c := c1) hk hp hpk hne hl hg (by omega) (by omega) (d := .int ((dd + 1 : Nat) : Int)) (r3 := .int r) (r4 := none) (r5 := none)
        refine ⟨x, a2, c2, gC_up gx (Nat.zero_le _), head ?_, by omega, by omega⟩
        refine Rt.go (x_if0 (S' := B.set k (dko a1 w c1)) (by rw [cA, decide_eq_false hr0])) ?_
        refine Rt.go (x_if0 (S' := B.set k (dko a1 w c1)) (by rw [cB, decide_eq_false hr3])) ?_
        rw [hρ, show n + 3 + dd = n + 1 + dd + 2 by omega]
        exact h1
end Mi.L

namespace Mi.L
open PySem Mi
/-! ### the tables -/
/-- what the dict of tables tells: hd the heads of a table that is there -/
structure Tb (o : O) (hd : List Nat → Option (List (List Nat))) : Prop where
  inn : ∀ (S : Store) (P : Nat), S[P]? = some o → ∀ t ∈ TAB, p2 .inn (.val (tx t)) (.val (.ref P)) S = .ok (.val (.bl (hd t).isSome)) S
  ix : ∀ (S : Store) (P : Nat), S[P]? = some o → ∀ t ∈ TAB, ∀ hs, hd t = some hs → ∃ r q, p2 .ix (.val (.ref P)) (.val (tx t)) S = .ok (.val (.tup [.tup (hs.map tx), r, q])) S
  nam : ∀ t hs, hd t = some hs → hs ≠ [] ∧ hs.length ≤ 10 ∧ ∀ h ∈ hs, h ∈ NAM
theorem at_set {B T : Store} {k P : Nat} {o u : O} (hP : B[P]? = some o) (hne : P ≠ k) : (B.set k u ++ T)[P]? = some o := by
  have hlt := (List.getElem?_eq_some_iff.mp hP).1
  rw [List.getElem?_append_left (by rw [List.length_set]; exact hlt), List.getElem?_set_ne (Ne.symm hne)]
  exact hP
theorem azz : (q "a" ∈ NAM) ∧ q "zz" ∈ NAM := by decide +kernel
/-- a column of a table, or zz -/
theorem r_dcol {n : Nat} {B : Store} {k P : Nat} {a w c : Int} {o : O} {hd : List Nat → Option (List (List Nat))} {t : List Nat} (tb : Tb o hd) (hk : k < B.length) (hP : B[P]? = some o) (hPk : P ≠ k) (ht : t ∈ TAB) (hc : 0 ≤ c) (hc2 : c < 2 ^ 39) :
    ∃ x a' c', gc x ∧ x.1 = t ∧ run tab (n + 2) 40 [.ref k, tx t, .ref P] (B.set k (dko a w c)) = .ok (dcl x) (B.set k (dko a' w c')) ∧ c ≤ c' ∧ c' ≤ c + 1 := by
  have hbl : (B.set k (dko a w c)).length = B.length := List.length_set
  -- the end, once the list stands
  have fin : ∀ (U : Store) (P2 : Nat) (ns : List (List Nat)), (∀ S, S = B.set k (dko a w c) ++ U → S[P2]? = some (.lst (ns.map tx))) → B.length ≤ P2 → ns ≠ [] → ns.length ≤ 100 → (∀ x ∈ ns, x ∈ NAM) →
      ∃ x a' c', gc x ∧ x.1 = t ∧ Rt (exSs (run tab (n + 1)) (b40.drop 2) [some (.ref k), some (tx t), some (.ref P), some (.ref P2)] (B.set k (dko a w c) ++ U)) (dcl x) (B.set k (dko a' w c') ++ U) ∧ c ≤ c' ∧ c' ≤ c + 1 := by
    intro U P2 ns hU hP2 hne hl hN
    have hpos : 0 < ns.length := List.length_pos_iff.mpr hne
    obtain ⟨r, a', c', t1, t2, t3, t4, t5⟩ := take_at (B := B) (T := U) (k := k) (a := a) (w := w) (c := c) hk (n := n) (m := (ns.length : Nat)) (by omega) (by omega) hc (by omega)
    obtain ⟨y, hy, hat⟩ := at_map (f := tx) (l := ns) t2 t3
    have h1 := hU _ rfl
    have h2 : (B.set k (dko a' w c') ++ U)[P2]? = some (.lst (ns.map tx)) := by
      rw [List.getElem?_append_right (by rw [List.length_set]; exact hP2), List.length_set] at h1 ⊢
      exact h1
    have ln := len_at h1
    rw [List.length_map] at ln
    have ix := ix_at h2 hat
    refine ⟨(t, y), a', c', ⟨ht, hN y hy⟩, rfl, ?_, t4, t5⟩
    refine Rt.fin (x_ret ?_)
    have v0 : ∀ T, evK (run tab (n + 1)) (.v 0) [some (.ref k), some (tx t), some (.ref P), some (.ref P2)] T = .ok (.val (.ref k)) T := fun T => e_v rfl
    have v1 : ∀ T, evK (run tab (n + 1)) (.v 1) [some (.ref k), some (tx t), some (.ref P), some (.ref P2)] T = .ok (.val (tx t)) T := fun T => e_v rfl
    have v3 : ∀ T, evK (run tab (n + 1)) (.v 3) [some (.ref k), some (tx t), some (.ref P), some (.ref P2)] T = .ok (.val (.ref P2)) T := fun T => e_v rfl
    simp only [e_D, e_tup, e_ds, e_ds0, e_p2, e_call, e_p1, v0, v1, v3, bd_ok', toD_val, ln, t1, vv_ok', ix, List.length_cons, List.length_nil]
    rw [if_pos (by decide)]; rfl
  have cin := tb.inn (B.set k (dko a w c) ++ [O.lst [.str "a", .str "zz"]]) P (at_set hP hPk) t ht
  have head : ∀ {x : Cl} {a' c' : Int} {U : Store}, Rt (exSs (run tab (n + 1)) (b40.drop 1) [some (.ref k), some (tx t), some (.ref P), some (.ref B.length)] (B.set k (dko a w c) ++ [O.lst [.str "a", .str "zz"]])) (dcl x) (B.set k (dko a' w c') ++ U) → run tab (n + 2) 40 [.ref k, tx t, .ref P] (B.set k (dko a w c)) = .ok (dcl x) (B.set k (dko a' w c')) := by
    intro x a' c' U h
    refine r_run (F := ⟨3, 4, b40⟩) (S' := B.set k (dko a' w c') ++ U) rfl rfl ?_ (pack_dk hk (by simp [dcl]))
    refine Rt.go (x_set (d := .ref B.length) (S' := B.set k (dko a w c) ++ [O.lst [.str "a", .str "zz"]]) ?_) h
    simp [sz2]
  have v1 : ∀ T, evK (run tab (n + 1)) (.v 1) [some (.ref k), some (tx t), some (.ref P), some (.ref B.length)] T = .ok (.val (tx t)) T := fun T => e_v rfl
  have v2 : ∀ T, evK (run tab (n + 1)) (.v 2) [some (.ref k), some (tx t), some (.ref P), some (.ref B.length)] T = .ok (.val (.ref P)) T := fun T => e_v rfl
  cases e : hd t with
  | none =>
    rw [e] at cin
    obtain ⟨x, a', c', g1, g2, g3, g4, g5⟩ := fin [O.lst [.str "a", .str "zz"]] B.length [q "a", q "zz"] (fun S hS => by rw [hS, ← hbl]; simp only [List.map_cons, List.map_nil, tx_q]; exact at_new) (Nat.le_refl _) (by simp) (by simp) (fun x hx => by
      simp only [List.mem_cons, List.not_mem_nil, or_false] at hx
      rcases hx with rfl | rfl
      · exact azz.1
      · exact azz.2)
    refine ⟨x, a', c', g1, g2, head (U := [O.lst [.str "a", .str "zz"]]) ?_, g4, g5⟩
    refine Rt.go (x_if0 (S' := B.set k (dko a w c) ++ [O.lst [.str "a", .str "zz"]]) ?_) g3
    simp only [e_B, e_p2, v1, v2, bd_ok', cin, toB_bl]; rfl
  | some hs =>
    rw [e] at cin
    obtain ⟨n1, n2, n3⟩ := tb.nam t hs e
    obtain ⟨r, o2, ix⟩ := tb.ix (B.set k (dko a w c) ++ [O.lst [.str "a", .str "zz"]]) P (at_set hP hPk) t ht hs e
    obtain ⟨T0, hT0⟩ : ∃ T0, T0 = B.set k (dko a w c) ++ [O.lst [.str "a", .str "zz"]] := ⟨_, rfl⟩
    have hT0l : T0.length = B.length + 1 := by rw [hT0]; simp
    obtain ⟨x, a', c', g1, g2, g3, g4, g5⟩ := fin ([O.lst [.str "a", .str "zz"]] ++ [O.lst ((hs ++ hs ++ [q "zz"]).map tx)]) (B.length + 1) (hs ++ hs ++ [q "zz"]) (fun S hS => by rw [hS, ← List.append_assoc, ← hT0, ← hT0l]; exact at_new) (by omega) (by simp) (by simp only [List.length_append, List.length_cons, List.length_nil]; omega) (fun x hx => by
      simp only [List.mem_append, List.mem_cons, List.not_mem_nil, or_false] at hx
      rcases hx with (hx | hx) | rfl
      · exact n3 x hx
      · exact n3 x hx
      · exact azz.2)
    refine ⟨x, a', c', g1, g2, head (U := [O.lst [.str "a", .str "zz"]] ++ [O.lst ((hs ++ hs ++ [q "zz"]).map tx)]) ?_, g4, g5⟩
    rw [← List.append_assoc, ← hT0] at g3
    rw [← hT0] at cin ix ⊢
    refine Rt.go (x_ift (S' := T0) (by simp only [e_B, e_p2, v1, v2, bd_ok', cin, toB_bl]; rfl)) ?_
    have i0 : p2 .ix (.val (.tup [.tup (hs.map tx), r, o2])) (.val (.int 0)) T0 = .ok (.val (.tup (hs.map tx))) T0 := ix_tup rfl
    have ls : p1 .list_ (.val (.tup (hs.map tx))) T0 = .ok (.lis (hs.map tx)) T0 := rfl
    have mu := rep_lis (S := T0) (xs := hs.map tx) (n := 2) (by decide) (by rw [List.length_map]; exact Nat.le_trans (by show hs.length * 2 ≤ 20; omega) (by decide))
    have mu : p2 .mul (.lis (hs.map tx)) (.val (.int 2)) T0 = .ok (.lis (hs.map tx ++ hs.map tx)) T0 := by
      rw [mu]
      show R.ok (W.lis ((List.replicate 2 (hs.map tx)).flatten)) T0 = _
      simp [List.replicate]
    have ad := add_lis (S := T0) (xs := hs.map tx ++ hs.map tx) (ys := [.str "zz"]) (by simp only [List.length_append, List.length_map, List.length_cons, List.length_nil]; exact Nat.le_trans (by omega : _ ≤ 21) (by decide))
    have el : hs.map tx ++ hs.map tx ++ [D.str "zz"] = (hs ++ hs ++ [q "zz"]).map tx := by simp only [List.map_append, List.map_cons, List.map_nil, tx_q]
    rw [el] at ad
    have dz : evK (run tab (n + 1)) (.disp [(.c (.str "zz"))]) [some (.ref k), some (tx t), some (.ref P), some (.ref B.length)] T0 = .ok (.lis [.str "zz"]) T0 := by simp [sz1]
    rw [x_set (d := .ref (B.length + 1)) (S' := T0 ++ [O.lst ((hs ++ hs ++ [q "zz"]).map tx)]) (by simp only [e_D, e_p2, e_p1, e_c, v1, v2, bd_ok', ix, i0, ls, mu, dz, ad, toD_lis, hT0l]), x_nil]
    exact g3
end Mi.L

namespace Mi.L
open PySem Mi
/-! ### tables are made -/
def AB4 : List (List Nat) := [q "a", q "b", q "of", q "is"]
def AG : List (List Nat) := [q "a", q "b", q "c", q "d", q "e", q "f", q "g"]
theorem ab_nam : (AB4.all fun x => decide (x ∈ NAM)) = true ∧ (AG.all fun x => decide (x ∈ NAM)) = true := by decide +kernel
def fM (b : Int) (d : D) : D := match d with
  | .int i => tx (AB4.getD ((b + i) % 4).toNat [])
  | _ => .non
theorem ab_at {S : Store} {i : Int} : p2 .ix (.lis [.str "a", .str "b", .str "of", .str "is"]) (.val (.int (i % 4))) S = .ok (.val (tx (AB4.getD (i % 4).toNat []))) S := by
  have h1 := Int.emod_nonneg i (show (4 : Int) ≠ 0 by decide)
  have h2 := Int.emod_lt_of_pos i (show (0 : Int) < 4 by decide)
  have e : ([.str "a", .str "b", .str "of", .str "is"] : List D) = AB4.map tx := by simp only [AB4, List.map_cons, List.map_nil, tx_q]
  rw [e]
  refine ix_lis (atI_at h1 ?_)
  have hl : (i % 4).toNat < AB4.length := by show (i % 4).toNat < 4; omega
  rw [List.getElem?_map, List.getD_eq_getElem?_getD, List.getElem?_eq_getElem hl]
  rfl
theorem ab_in (j : Int) : AB4.getD (j % 4).toNat [] ∈ NAM := by
  have h1 := Int.emod_nonneg j (show (4 : Int) ≠ 0 by decide)
  have h2 := Int.emod_lt_of_pos j (show (0 : Int) < 4 by decide)
  have hl : (j % 4).toNat < AB4.length := by show (j % 4).toNat < 4; omega
  rw [List.getD_eq_getElem?_getD, List.getElem?_eq_getElem hl, Option.getD_some]
  exact of_decide_eq_true (List.all_eq_true.mp ab_nam.1 _ (List.getElem_mem hl))
theorem r_dmake {n : Nat} {B : Store} {k : Nat} {a w c : Int} {t : List Nat} (hk : k < B.length) (ht : t ∈ TAB) (hc : 0 ≤ c) (hc2 : c < 2 ^ 39) :
    ∃ cs a' c', gs (.make t cs) ∧ run tab (n + 2) 43 [.ref k, tx t] (B.set k (dko a w c)) = .ok (spD (.make t cs)) (B.set k (dko a' w c')) ∧ c ≤ c' ∧ c' ≤ c + 3 := by
  obtain ⟨b, a1, c1, t1, t2, t3, t4, t5⟩ := take0 (B := B) (k := k) (a := a) (w := w) (c := c) hk (n := n) (m := 4) (by decide) (by decide) hc (by omega)
  obtain ⟨r, a2, c2, u1, u2, u3, u4, u5⟩ := take0 (B := B) (k := k) (a := a1) (w := w) (c := c1) hk (n := n) (m := 3) (by decide) (by decide) (by omega) (by omega)
  obtain ⟨m, hm⟩ : ∃ m : Nat, (1 : Int) + r = (m : Nat) := ⟨(1 + r).toNat, by omega⟩
  have hm3 : 1 ≤ m ∧ m ≤ 3 := by omega
  obtain ⟨cs, hcs⟩ : ∃ cs, cs = (List.range m).map fun i => AB4.getD ((b + (i : Nat)) % 4).toNat [] := ⟨_, rfl⟩
  have hcl : cs.length = m := by rw [hcs]; simp
  have hcn : ∀ x ∈ cs, x ∈ NAM := fun x hx => by
    rw [hcs] at hx
    obtain ⟨i, _, rfl⟩ := List.mem_map.mp hx
    exact ab_in _
  obtain ⟨y, a3, c3, w1, w2, w3, w4, w5⟩ := take_at (B := B) (T := [O.lst (cs.map tx)]) (k := k) (a := a2) (w := w) (c := c2) hk (n := n) (m := 16) (by decide) (by decide) (by omega) (by omega)
  have hbl : ∀ a c, (B.set k (dko a w c)).length = B.length := fun a c => List.length_set
  obtain ⟨T, hT⟩ : ∃ T, T = B.set k (dko a3 w c3) ++ [O.lst (cs.map tx)] := ⟨_, rfl⟩
  have hTl : T[B.length]? = some (.lst (cs.map tx)) := by rw [hT, ← hbl a3 c3]; exact at_new
  have hTn : T.length = B.length + 1 := by rw [hT]; simp
  have head : Rt (exSs (run tab (n + 1)) b43 [some (.ref k), some (tx t), none, none, none, none] (B.set k (dko a w c))) = Rt (exSs (run tab (n + 1)) (b43.drop 3) [some (.ref k), some (tx t), some (.int b), some (.ref B.length), none, some (.int y)] T) := by
    refine congrArg Rt ?_
    refine (x_set (d := .int b) (S' := B.set k (dko a1 w c1)) (by simp [t1])).trans ?_
    refine (x_set (d := .ref B.length) (S' := B.set k (dko a2 w c2) ++ [O.lst (cs.map tx)]) ?_).trans ?_
    · obtain ⟨ρ, hρ⟩ : ∃ ρ : Env, ρ = [some (.ref k), some (tx t), some (.int b), none, none, none] := ⟨_, rfl⟩
      show evD (run tab (n + 1)) _ [some (.ref k), some (tx t), some (.int b), none, none, none] _ = _
      rw [← hρ]
      have v0 : ∀ T, evK (run tab (n + 1)) (.v 0) ρ T = .ok (.val (.ref k)) T := fun T => e_v (by rw [hρ]; rfl)
      have cp := comp_pure (C := run tab (n + 1)) (ρ := ρ) (S := B.set k (dko a1 w c1)) (S' := B.set k (dko a2 w c2)) (i := 4) (k := .rng1) (is := [(.p2 .add (.c (.int 1)) (.call 30 [(.v 0), (.c (.int 3))]))]) (e := .p2 .ix (.disp [(.c (.str "a")), (.c (.str "b")), (.c (.str "of")), (.c (.str "is"))]) (.p2 .mod (.p2 .add (.v 2) (.v 4)) (.c (.int 4)))) (own := [4]) (ws := [.val (.int (m : Nat))]) (I := ⟨intsD m fun i => (i : Int), []⟩) (f := fM b) (by simp only [e_ws, e_ws0, e_p2, e_call, e_ds, e_ds0, e_c, v0, bd_ok', toD_val, u1, vv_ok', add_ok, hm]) (its_r1 (by omega)) isLive_nil (by simp only [intsD, List.length_map, List.length_range]; exact Nat.le_trans hm3.2 (by decide)) (fun d hd => ?_)
      · rw [e_D, cp]
        have : (intsD m fun i => (i : Int)).map (fM b) = cs.map tx := by
          rw [hcs]
          unfold intsD
          rw [List.map_map, List.map_map]
          rfl
        rw [this]
        show R.ok (D.ref (B.set k (dko a2 w c2)).length) _ = _
        rw [hbl]
      · obtain ⟨i, _, rfl⟩ := List.mem_map.mp hd
        rw [hρ]
        have x2 : ∀ T, evK (run tab (n + 1)) (.v 2) ((wipeD [some (.ref k), some (tx t), some (.int b), none, none, none] [4]).set 4 (some (.int (i : Nat)))) T = .ok (.val (.int b)) T := fun T => e_v rfl
        have x4 : ∀ T, evK (run tab (n + 1)) (.v 4) ((wipeD [some (.ref k), some (tx t), some (.int b), none, none, none] [4]).set 4 (some (.int (i : Nat)))) T = .ok (.val (.int (i : Nat))) T := fun T => e_v rfl
        have dz : ∀ ρ T, evK (run tab (n + 1)) (.disp [(.c (.str "a")), (.c (.str "b")), (.c (.str "of")), (.c (.str "is"))]) ρ T = .ok (.lis [.str "a", .str "b", .str "of", .str "is"]) T := fun ρ T => by simp [sz4]
        simp only [e_D, e_p2, e_c, dz, x2, x4, bd_ok', add_ok, mod_ok (show (0 : Int) < 4 by decide), ab_at, toD_val]
        rfl
    refine (x_set (d := .int y) (S' := T) (by rw [hT]; simp [w1])).trans rfl
  have fin : ∀ (P : Nat) (ds : List (List Nat)) (U : Store), B.length ≤ P → (B.set k (dko a3 w c3) ++ U)[P]? = some (.lst (ds.map tx)) → y ≠ 2 ∨ True → ds ≠ [] → ds.length ≤ 10 → (∀ x ∈ ds, x ∈ NAM) →
      Rt (exSs (run tab (n + 1)) (b43.drop 5) [some (.ref k), some (tx t), some (.int b), some (.ref P), none, some (.int y)] (B.set k (dko a3 w c3) ++ U)) (spD (.make t ds)) (B.set k (dko a3 w c3) ++ U) := by
    intro P ds U hP hS _ _ _ _
    have tp := tup_at hS
    have x1 : ∀ T, evK (run tab (n + 1)) (.v 1) [some (.ref k), some (tx t), some (.int b), some (.ref P), none, some (.int y)] T = .ok (.val (tx t)) T := fun T => e_v rfl
    have x3 : ∀ T, evK (run tab (n + 1)) (.v 3) [some (.ref k), some (tx t), some (.int b), some (.ref P), none, some (.int y)] T = .ok (.val (.ref P)) T := fun T => e_v rfl
    refine Rt.fin (y_ret ?_)
    simp only [e_D, e_tup, e_ds, e_ds0, e_p1, e_c, x1, x3, bd_ok', toD_val, tp, List.length_cons, List.length_nil]
    rw [if_pos (by decide)]; rfl
  have wrap : ∀ {ds : List (List Nat)} {U : Store}, Rt (exSs (run tab (n + 1)) (b43.drop 3) [some (.ref k), some (tx t), some (.int b), some (.ref B.length), none, some (.int y)] T) (spD (.make t ds)) (B.set k (dko a3 w c3) ++ U) → run tab (n + 2) 43 [.ref k, tx t] (B.set k (dko a w c)) = .ok (spD (.make t ds)) (B.set k (dko a3 w c3)) := by
    intro ds U h
    refine r_run (F := ⟨2, 6, b43⟩) (S' := B.set k (dko a3 w c3) ++ U) rfl rfl ?_ (pack_dk hk (und_spD _ _))
    show Rt (exSs (run tab (n + 1)) b43 [some (.ref k), some (tx t), none, none, none, none] (B.set k (dko a w c))) _ _
    rw [head]; exact h
  have y5 : ∀ (z : Option D) (P : Nat) T, evK (run tab (n + 1)) (.v 5) [some (.ref k), some (tx t), some (.int b), some (.ref P), none, some (.int y)] T = .ok (.val (.int y)) T := fun z P T => e_v rfl
  by_cases hy2 : y = 2
  · refine ⟨AG, a3, c3, ⟨ht, by simp [AG], by simp [AG], fun x hx => of_decide_eq_true (List.all_eq_true.mp ab_nam.2 x hx)⟩, wrap (U := [O.lst (cs.map tx)] ++ [O.lst (AG.map tx)]) ?_, by omega, by omega⟩
    refine Rt.go (x_if0 (S' := T) (by simp [hy2, eq_ii])) ?_
    refine Rt.go (x_ift (S' := T) (by simp [hy2, eq_ii])) ?_
    have dz : ∀ ρ, evD (run tab (n + 1)) (.disp [(.c (.str "a")), (.c (.str "b")), (.c (.str "c")), (.c (.str "d")), (.c (.str "e")), (.c (.str "f")), (.c (.str "g"))]) ρ T = .ok (.ref (B.length + 1)) (T ++ [O.lst (AG.map tx)]) := fun ρ => by
      have e : AG.map tx = [.str "a", .str "b", .str "c", .str "d", .str "e", .str "f", .str "g"] := by simp only [AG, List.map_cons, List.map_nil, tx_q]
      rw [e]
      simp only [e_D, e_disp, e_ds, e_ds0, e_c, bd_ok', toD_val, List.length_cons, List.length_nil]
      rw [if_pos (by decide)]
      simp only [bd_ok', toD_lis, hTn]
    rw [x_set (dz _), x_nil]
    have := fin (B.length + 1) AG ([O.lst (cs.map tx)] ++ [O.lst (AG.map tx)]) (by omega) (by rw [← List.append_assoc, ← hT, ← hTn]; exact at_new) (.inr trivial) (by simp [AG]) (by simp [AG]) (fun x hx => of_decide_eq_true (List.all_eq_true.mp ab_nam.2 x hx))
    rw [← List.append_assoc, ← hT] at this ⊢
    exact this
  · by_cases hy1 : y = 1
    · refine ⟨cs ++ cs.take 1, a3, c3, ⟨ht, by intro h; have := congrArg List.length h; simp [hcl] at this; omega, by simp [hcl]; omega, fun x hx => ?_⟩, wrap (U := [O.lst (cs.map tx)] ++ [O.lst ((cs ++ cs.take 1).map tx)]) ?_, by omega, by omega⟩
      · rcases List.mem_append.mp hx with h | h
        · exact hcn x h
        · exact hcn x (List.mem_of_mem_take h)
      · refine Rt.go (x_ift (S' := T) (by simp [hy1, eq_ii])) ?_
        have x3 : ∀ T', evK (run tab (n + 1)) (.v 3) [some (.ref k), some (tx t), some (.int b), some (.ref B.length), none, some (.int y)] T' = .ok (.val (.ref B.length)) T' := fun T => e_v rfl
        have ct : cutW (.val (.ref B.length)) none (some 1) T = .ok (.lis ((cs.take 1).map tx)) T := by
          rw [cut_at hTl]
          have : cutD (cs.map tx) none (some 1) = (cs.take 1).map tx := by rw [List.map_take]; exact cutD_to (cs.map tx) 1
          rw [this]
        have ad := add_at (xs := (cs.take 1).map tx) hTl (by simp only [List.length_map, List.length_take]; exact Nat.le_trans (by omega : _ ≤ 6) (by decide))
        rw [← List.map_append] at ad
        rw [x_set (d := .ref (B.length + 1)) (S' := T ++ [O.lst ((cs ++ cs.take 1).map tx)]) (by simp only [e_D, e_p2, e_sl, e_ws, e_ws0, e_c, x3, bd_ok', partI0, partI1, ct, ad, toD_lis, hTn]), x_nil]
        refine Rt.go (x_if0 (S' := T ++ [O.lst ((cs ++ cs.take 1).map tx)]) (by simp [hy1, eq_ii])) ?_
        have := fin (B.length + 1) (cs ++ cs.take 1) ([O.lst (cs.map tx)] ++ [O.lst ((cs ++ cs.take 1).map tx)]) (by omega) (by rw [← List.append_assoc, ← hT, ← hTn]; exact at_new) (.inr trivial) (by intro h; have := congrArg List.length h; simp [hcl] at this; omega) (by simp [hcl]; omega) (fun x hx => by
          rcases List.mem_append.mp hx with h | h
          · exact hcn x h
          · exact hcn x (List.mem_of_mem_take h))
        rw [← List.append_assoc, ← hT] at this ⊢
        exact this
    · refine ⟨cs, a3, c3, ⟨ht, by intro h; rw [h] at hcl; simp at hcl; omega, by omega, hcn⟩, wrap (U := [O.lst (cs.map tx)]) ?_, by omega, by omega⟩
      refine Rt.go (x_if0 (S' := T) (by simp [hy1, eq_ii])) (Rt.go (x_if0 (S' := T) (by simp [hy2, eq_ii])) ?_)
      have := fin B.length cs [O.lst (cs.map tx)] (Nat.le_refl _) (by rw [← hT]; exact hTl) (.inr trivial) (by intro h; rw [h] at hcl; simp at hcl; omega) (by omega) hcn
      rw [← hT] at this ⊢
      exact this
end Mi.L

namespace Mi.L
open PySem Mi
theorem set_app {B U : Store} {k : Nat} {o : O} (hk : k < B.length) : (B ++ U).set k o = B.set k o ++ U := List.set_append_left _ _ hk
/-- a condition over the columns of a list that stands behind -/
theorem drawU {n : Nat} {B U : Store} {k P2 dd : Nat} {a w c : Int} {t : List Nat} {ns : List (List Nat)} (hk : k < B.length) (hP : (B ++ U)[P2]? = some (.lst ((ns.map fun x => ((t, x) : Cl)).map dcl))) (hP2 : P2 ≠ k) (hne : ns ≠ []) (hl : ns.length ≤ 100) (ht : t ∈ TAB) (hN : ∀ x ∈ ns, x ∈ NAM) (hc : 0 ≤ c) (hc2 : c + 20 * (4 ^ dd : Nat) < 2 ^ 39) :
    ∃ x a' c', gd x ∧ dp x ≤ dd ∧ (∀ y ∈ csC x, y.1 = t ∧ y.2 ∈ ns) ∧ run tab (n + 3 + dd) 34 [.ref k, .ref P2, .int (dd : Nat)] (B.set k (dko a w c) ++ U) = .ok (enc x) (B.set k (dko a' w c') ++ U) ∧ c ≤ c' ∧ c' ≤ c + 20 * (4 ^ dd : Nat) := by
  obtain ⟨x, a', c', gx, h1, h2, h3⟩ := r_drawc (B := B ++ U) (k := k) (p := P2) (w := w) (by rw [List.length_append]; omega) hP hP2 (by intro h; exact hne (List.map_eq_nil_iff.mp h)) (by rw [List.length_map]; omega) (fun c hc => by
    obtain ⟨x, hx, rfl⟩ := List.mem_map.mp hc
    exact ⟨ht, hN x hx⟩) dd (n := n) (a := a) (c := c) hc hc2
  rw [set_app hk, set_app hk] at h1
  refine ⟨x, a', c', gx.g, gx.d, fun y hy => ?_, h1, h2, h3⟩
  obtain ⟨z, hz, rfl⟩ := List.mem_map.mp (gx.i y hy)
  exact ⟨rfl, hz⟩
end Mi.L

namespace Mi.L
open PySem Mi
/-- a row's end: the columns of ns stand at P2; perhaps one more -/
theorem r_dbehind {n : Nat} {B : Store} {k P : Nat} {a w c : Int} {o : O} {hd : List Nat → Option (List (List Nat))} {t : List Nat} (tb : Tb o hd) (hk : k < B.length) (hP : B[P]? = some o) (hPk : P ≠ k) (ht : t ∈ TAB) (hc : 0 ≤ c) (hc2 : c + 400 < 2 ^ 39) :
    ∃ x a' c', (∀ y, x = some y → gd y ∧ dp y ≤ 2 ∧ ∀ z ∈ csC y, z.1 = t) ∧ run tab (n + 6) 41 [.ref k, tx t, .ref P] (B.set k (dko a w c)) = .ok (cnD x) (B.set k (dko a' w c')) ∧ c ≤ c' ∧ c' ≤ c + 330 := by
  have hbl : ∀ a c, (B.set k (dko a w c)).length = B.length := fun a c => List.length_set
  obtain ⟨r, a1, c1, t1, t2, t3, t4, t5⟩ := take0 (B := B) (k := k) (a := a) (w := w) (c := c) hk (n := n + 4) (m := 3) (by decide) (by decide) hc (by omega)
  by_cases hr : r = 0
  · refine ⟨none, a1, c1, fun y h => (by cases h), ?_, by omega, by omega⟩
    refine r_run (F := ⟨3, 5, b41⟩) (S' := B.set k (dko a1 w c1)) rfl rfl ?_ (by have := pack_dk (T := []) hk (show D.und B.length (cnD none) = true by simp [cnD]) (a := a) (w := w) (c := c) (a' := a1) (c' := c1); rwa [List.append_nil] at this)
    exact Rt.fin (x_if1 (S' := B.set k (dko a1 w c1)) (by simp [t1, eq_ii, hr]) (by simp [cnD]))
  -- from the list of columns on
  have tail : ∀ (ns : List (List Nat)) (U : Store) (P2 : Nat), (∀ S : Store, (S ++ U).length = S.length + U.length) → (∀ S : Store, S.length = B.length → (S ++ U)[P2]? = some (.lst ((ns.map fun x => ((t, x) : Cl)).map dcl))) → B.length ≤ P2 → ns ≠ [] → ns.length ≤ 20 → (∀ x ∈ ns, x ∈ NAM) →
      ∃ y a' c' V, (gd y ∧ dp y ≤ 2 ∧ ∀ z ∈ csC y, z.1 = t) ∧ Rt (exSs (run tab (n + 5)) (b41.drop 3) [some (.ref k), some (tx t), some (.ref P), some (.ref P2), none] (B.set k (dko a1 w c1) ++ U)) (enc y) (B.set k (dko a' w c') ++ V) ∧ c ≤ c' ∧ c' ≤ c + 330 := by
    intro ns U P2 _ hU hP2 hne hl hN
    obtain ⟨z, a2, c2, u1, u2, u3, u4, u5⟩ := take_at (B := B) (T := U) (k := k) (a := a1) (w := w) (c := c1) hk (n := n + 4) (m := 9) (by decide) (by decide) (by omega) (by omega)
    have v0 : ∀ Q T, evK (run tab (n + 5)) (.v 0) [some (.ref k), some (tx t), some (.ref P), some (.ref Q), none] T = .ok (.val (.ref k)) T := fun Q T => e_v rfl
    have v1 : ∀ Q T, evK (run tab (n + 5)) (.v 1) [some (.ref k), some (tx t), some (.ref P), some (.ref Q), none] T = .ok (.val (tx t)) T := fun Q T => e_v rfl
    have v3 : ∀ Q T, evK (run tab (n + 5)) (.v 3) [some (.ref k), some (tx t), some (.ref P), some (.ref Q), none] T = .ok (.val (.ref Q)) T := fun Q T => e_v rfl
    by_cases hz : z = 1
    · have hS := hU (B.set k (dko a2 w c2)) (hbl _ _)
      obtain ⟨W0, hW0⟩ : ∃ W0, W0 = B.set k (dko a2 w c2) ++ U := ⟨_, rfl⟩
      obtain ⟨y, a', c', g1, g2, g3, h1, h2, h3⟩ := drawU (n := n) (B := B) (U := U ++ [O.lst (((ns ++ [q "zz"]).map fun x => ((t, x) : Cl)).map dcl)]) (k := k) (P2 := B.length + U.length) (dd := 2) (a := a2) (w := w) (c := c2) (t := t) (ns := ns ++ [q "zz"]) hk (by rw [← List.append_assoc, ← List.length_append]; exact at_new) (by omega) (by simp) (by simp; omega) ht (fun x hx => by
        rcases List.mem_append.mp hx with h | h
        · exact hN x h
        · rw [List.mem_singleton.mp h]; exact azz.2) (by omega) (by omega)
      rw [← List.append_assoc, ← List.append_assoc, ← hW0] at h1
      refine ⟨y, a', c', U ++ [O.lst (((ns ++ [q "zz"]).map fun x => ((t, x) : Cl)).map dcl)], ⟨g1, g2, fun q hq => (g3 q hq).1⟩, ?_, by omega, by omega⟩
      refine Rt.go (x_ift (S' := W0) (by simp [u1, eq_ii, hz, hW0])) ?_
      rw [← hW0] at hS
      have ad := add_at (xs := [.tup [tx t, .str "zz"]]) hS (by simp only [List.length_map, List.length_cons, List.length_nil]; exact Nat.le_trans (by omega : _ ≤ 21) (by decide))
      have el : (ns.map fun x => ((t, x) : Cl)).map dcl ++ [D.tup [tx t, .str "zz"]] = ((ns ++ [q "zz"]).map fun x => ((t, x) : Cl)).map dcl := by
        simp [dcl, tx_q]
      rw [el] at ad
      have hWl : W0.length = B.length + U.length := by rw [hW0, List.length_append, hbl]
      rw [x_set (d := .ref (B.length + U.length)) (S' := W0 ++ [O.lst (((ns ++ [q "zz"]).map fun x => ((t, x) : Cl)).map dcl)]) (by
        have dz : evK (run tab (n + 5)) (.disp [(.tup [(.v 1), (.c (.str "zz"))])]) [some (.ref k), some (tx t), some (.ref P), some (.ref P2), none] W0 = .ok (.lis [.tup [tx t, .str "zz"]]) W0 := by simp [sz1, sz2]
        simp only [e_D, e_p2, v3, bd_ok', dz, ad, toD_lis, hWl]), x_nil]
      refine Rt.fin (x_ret ?_)
      have x0 : ∀ T, evK (run tab (n + 5)) (.v 0) (([some (.ref k), some (tx t), some (.ref P), some (.ref P2), none] : Env).set 3 (some (.ref (B.length + U.length)))) T = .ok (.val (.ref k)) T := fun T => e_v rfl
      have x3 : ∀ T, evK (run tab (n + 5)) (.v 3) (([some (.ref k), some (tx t), some (.ref P), some (.ref P2), none] : Env).set 3 (some (.ref (B.length + U.length)))) T = .ok (.val (.ref (B.length + U.length))) T := fun T => e_v rfl
      have h1 : run tab (n + 5) 34 [.ref k, .ref (B.length + U.length), .int 2] _ = _ := h1
      simp only [e_D, e_call, e_ds, e_ds0, e_c, x0, x3, bd_ok', toD_val, h1, vv_ok']
      rw [List.append_assoc]
    · obtain ⟨y, a', c', g1, g2, g3, h1, h2, h3⟩ := drawU (n := n) (B := B) (U := U) (k := k) (P2 := P2) (dd := 2) (a := a2) (w := w) (c := c2) (t := t) (ns := ns) hk (hU B rfl) (by omega) hne (by omega) ht hN (by omega) (by omega)
      refine ⟨y, a', c', U, ⟨g1, g2, fun q hq => (g3 q hq).1⟩, ?_, by omega, by omega⟩
      refine Rt.go (x_if0 (S' := B.set k (dko a2 w c2) ++ U) (by simp [u1, eq_ii, hz])) (Rt.fin (x_ret ?_))
      have h1 : run tab (n + 5) 34 [.ref k, .ref P2, .int 2] _ = _ := h1
      simp only [e_D, e_call, e_ds, e_ds0, e_c, v0, v3, bd_ok', toD_val, h1, vv_ok']
  obtain ⟨T0, hT0⟩ : ∃ T0, T0 = B.set k (dko a1 w c1) ++ [O.lst [.tup [tx t, .str "a"]]] := ⟨_, rfl⟩
  have hT0l : T0.length = B.length + 1 := by rw [hT0]; simp
  have cin := tb.inn T0 P (by rw [hT0]; exact at_set hP hPk) t ht
  have head : ∀ {y : Cn} {a' c' : Int} {V : Store}, Rt (exSs (run tab (n + 5)) (b41.drop 2) [some (.ref k), some (tx t), some (.ref P), some (.ref B.length), none] T0) (enc y) (B.set k (dko a' w c') ++ V) → run tab (n + 6) 41 [.ref k, tx t, .ref P] (B.set k (dko a w c)) = .ok (cnD (some y)) (B.set k (dko a' w c')) := by
    intro y a' c' V h
    refine r_run (F := ⟨3, 5, b41⟩) (S' := B.set k (dko a' w c') ++ V) rfl rfl ?_ (pack_dk hk (und_enc _ _))
    refine Rt.go (x_if0 (S' := B.set k (dko a1 w c1)) (by simp [t1, eq_ii, hr])) ?_
    refine Rt.go (x_set (d := .ref B.length) (S' := T0) ?_) h
    simp [sz1, sz2, hT0]
  have v1 : ∀ T, evK (run tab (n + 5)) (.v 1) [some (.ref k), some (tx t), some (.ref P), some (.ref B.length), none] T = .ok (.val (tx t)) T := fun T => e_v rfl
  have v2 : ∀ T, evK (run tab (n + 5)) (.v 2) [some (.ref k), some (tx t), some (.ref P), some (.ref B.length), none] T = .ok (.val (.ref P)) T := fun T => e_v rfl
  cases e : hd t with
  | none =>
    rw [e] at cin
    obtain ⟨y, a', c', V, g, h1, h2, h3⟩ := tail [q "a"] [O.lst [.tup [tx t, .str "a"]]] B.length (fun S => by simp) (fun S hS => by
      rw [← hS]
      simp only [List.map_cons, List.map_nil, dcl, tx_q]
      exact at_new) (Nat.le_refl _) (by simp) (by simp) (fun x hx => by rw [List.mem_singleton.mp hx]; exact azz.1)
    rw [← hT0] at h1
    refine ⟨some y, a', c', fun z hz => by cases hz; exact g, head (V := V) ?_, h2, h3⟩
    exact Rt.go (x_if0 (S' := T0) (by simp only [e_B, e_p2, v1, v2, bd_ok', cin, toB_bl]; rfl)) h1
  | some hs =>
    rw [e] at cin
    obtain ⟨n1, n2, n3⟩ := tb.nam t hs e
    obtain ⟨r2, o2, ix⟩ := tb.ix T0 P (by rw [hT0]; exact at_set hP hPk) t ht hs e
    have i0 : p2 .ix (.val (.tup [.tup (hs.map tx), r2, o2])) (.val (.int 0)) T0 = .ok (.val (.tup (hs.map tx))) T0 := ix_tup rfl
    obtain ⟨y, a', c', V, g, h1, h2, h3⟩ := tail hs ([O.lst [.tup [tx t, .str "a"]]] ++ [O.lst ((hs.map fun x => ((t, x) : Cl)).map dcl)]) (B.length + 1) (fun S => by simp [Nat.add_assoc]) (fun S hS => by
      rw [← List.append_assoc, show B.length + 1 = (S ++ [O.lst [.tup [tx t, .str "a"]]]).length by simp [hS]]
      exact at_new) (by omega) n1 (by omega) n3
    rw [← List.append_assoc, ← hT0] at h1
    refine ⟨some y, a', c', fun z hz => by cases hz; exact g, head (V := V) ?_, h2, h3⟩
    refine Rt.go (x_ift (S' := T0) (by simp only [e_B, e_p2, v1, v2, bd_ok', cin, toB_bl]; rfl)) ?_
    obtain ⟨ρ, hρ⟩ : ∃ ρ : Env, ρ = [some (.ref k), some (tx t), some (.ref P), some (.ref B.length), none] := ⟨_, rfl⟩
    have cp := comp_pure (C := run tab (n + 5)) (ρ := [some (.ref k), some (tx t), some (.ref P), some (.ref B.length), none]) (S := T0) (S' := T0) (i := 4) (k := .it) (is := [(.p2 .ix (.p2 .ix (.v 2) (.v 1)) (.c (.int 0)))]) (e := .tup [(.v 1), (.v 4)]) (own := [4]) (ws := [.val (.tup (hs.map tx))]) (I := ⟨hs.map tx, []⟩) (f := fun d => .tup [tx t, d]) (by simp only [e_ws, e_ws0, e_p2, e_c, v1, v2, bd_ok', ix, i0]) rfl isLive_nil (by simp only [List.length_map]; exact Nat.le_trans n2 (by decide)) (fun d hd => by
      have x1 : ∀ T, evK (run tab (n + 5)) (.v 1) ((wipeD [some (.ref k), some (tx t), some (.ref P), some (.ref B.length), none] [4]).set 4 (some d)) T = .ok (.val (tx t)) T := fun T => e_v rfl
      have x4 : ∀ T, evK (run tab (n + 5)) (.v 4) ((wipeD [some (.ref k), some (tx t), some (.ref P), some (.ref B.length), none] [4]).set 4 (some d)) T = .ok (.val d) T := fun T => e_v rfl
      simp only [e_D, e_tup, e_ds, e_ds0, x1, x4, bd_ok', toD_val, List.length_cons, List.length_nil]
      rw [if_pos (by decide)]; rfl)
    have em : (hs.map tx).map (fun d => D.tup [tx t, d]) = (hs.map fun x => ((t, x) : Cl)).map dcl := by
      rw [List.map_map, List.map_map]; rfl
    simp only [em] at cp
    rw [x_set (d := .ref (B.length + 1)) (S' := T0 ++ [O.lst ((hs.map fun x => ((t, x) : Cl)).map dcl)]) (by simp only [e_D, cp, bd_ok', toD_lis, hT0l]), x_nil]
    exact h1
end Mi.L

namespace Mi.L
open PySem Mi
/-! ### truths of conditions over a line -/
def kD : Vl → D
  | .inl i => .tup [.int 0, .int i, .str ""]
  | .inr x => .tup [.int 1, .int 0, .str x]
theorem kD_und {k : Nat} (v : Vl) : (kD v).und k = true := by cases v <;> simp [kD]
theorem r_kD {n : Nat} {S : Store} (v : Vl) : run tab (n + 1) 33 [dv v] S = .ok (kD v) S := by
  refine r_run (F := ⟨1, 1, b33⟩) rfl rfl ?_ (pack_same (kD_und v))
  cases v with
  | inl i => exact Rt.go (y_if0 (by simp [dv, isi_str_int])) (Rt.fin (y_ret (by simp [dv, kD, sz3])))
  | inr x => exact Rt.fin (y_if1 (by simp [dv, isi_str_str]) (by simp [dv, kD, sz3]))
def kP : Vl → PyData
  | .inl i => .tuple [.int 0, .int i, .str ""]
  | .inr x => .tuple [.int 1, .int 0, .str x]
theorem py_kD {S : Store} (v : Vl) : W.py S (.val (kD v)) = some (kP v) := by cases v <;> rfl
theorem kP_alike (v w : Vl) : W.alike (kP v) (kP w) = true := by
  cases v <;> cases w <;> simp [kP, W.alike, W.alikeAll]
theorem kP_none (v : Vl) : isNonePy (kP v) = false := by cases v <;> rfl
theorem kk_eq (v w : Vl) : ∃ b, ∀ S, p2 .eq (.val (kD v)) (.val (kD w)) S = .ok (.val (.bl b)) S := by
  refine ⟨PyData.eqv (kP v) (kP w), fun S => ?_⟩
  show (match W.py S (.val (kD v)), W.py S (.val (kD w)) with | some a, some b => vv (.bl (PyData.eqv a b)) S | _, _ => .bad) = _
  rw [py_kD, py_kD]
  rfl
theorem kk_ne (v w : Vl) : ∃ b, ∀ S, p2 .ne (.val (kD v)) (.val (kD w)) S = .ok (.val (.bl b)) S := by
  refine ⟨!PyData.eqv (kP v) (kP w), fun S => ?_⟩
  show (match W.py S (.val (kD v)), W.py S (.val (kD w)) with | some a, some b => vv (.bl (!PyData.eqv a b)) S | _, _ => .bad) = _
  rw [py_kD, py_kD]
  rfl
theorem kk_lt (v w : Vl) : ∃ b, ∀ S, p2 .lt (.val (kD v)) (.val (kD w)) S = .ok (.val (.bl b)) S := by
  refine ⟨W.dataLt (kP v) (kP w), fun S => ?_⟩
  show (match W.py S (.val (kD v)), W.py S (.val (kD w)) with | some a, some b => ob (cmpD .lt a b) S | _, _ => .bad) = _
  rw [py_kD, py_kD]
  show ob (if (W.alike (kP v) (kP w) && !isNonePy (kP v)) = true then some (W.dataLt (kP v) (kP w)) else none) S = _
  rw [kP_alike, kP_none]
  rfl
theorem kk_gt (v w : Vl) : ∃ b, ∀ S, p2 .gt (.val (kD v)) (.val (kD w)) S = .ok (.val (.bl b)) S := by
  refine ⟨W.dataLt (kP w) (kP v), fun S => ?_⟩
  show (match W.py S (.val (kD v)), W.py S (.val (kD w)) with | some a, some b => ob (cmpD .gt a b) S | _, _ => .bad) = _
  rw [py_kD, py_kD]
  show ob (if (W.alike (kP v) (kP w) && !isNonePy (kP v)) = true then some (W.dataLt (kP w) (kP v)) else none) S = _
  rw [kP_alike, kP_none]
  rfl
theorem eq_bb (a b : Bool) : ∃ c, ∀ S, p2 .eq (.val (.bl a)) (.val (.bl b)) S = .ok (.val (.bl c)) S := ⟨a == b, fun S => rfl⟩
/-- data that is plain -/
theorem mapO_all {α β : Type} {f : α → Option β} : ∀ l : List α, (∀ a ∈ l, (f a).isSome = true) → (mapO f l).isSome = true
  | [], _ => rfl
  | a :: r, h => by
    obtain ⟨b, hb⟩ := Option.isSome_iff_exists.mp (h a List.mem_cons_self)
    obtain ⟨bs, hbs⟩ := Option.isSome_iff_exists.mp (mapO_all r fun x hx => h x (List.mem_cons_of_mem _ hx))
    rw [mapO, hb, hbs]; rfl
theorem py_tup {S : Store} {n : Nat} {ds : List D} (h : ∀ d ∈ ds, (toPy S n d).isSome = true) : (toPy S (n + 1) (.tup ds)).isSome = true := by
  rw [toPy, Option.isSome_map]
  exact mapO_all ds h
theorem py_dv {S : Store} {n : Nat} (v : Vl) : (toPy S (n + 1) (dv v)).isSome = true := by cases v <;> rfl
theorem py_tx {S : Store} {n : Nat} (l : List Nat) : (toPy S (n + 1) (tx l)).isSome = true := rfl
theorem py_dcl {S : Store} {n : Nat} (c : Cl) : (toPy S (n + 2) (dcl c)).isSome = true := by
  refine py_tup fun d hd => ?_
  simp only [List.mem_cons, List.not_mem_nil, or_false] at hd
  rcases hd with rfl | rfl <;> exact py_tx _
theorem py_encs {S : Store} {n : Nat} {k : Bool} {ds : List D} (h : ∀ d ∈ ds, (toPy S n d).isSome = true) : (toPy S (n + 2) (.tup [tx (kw k), .tup ds])).isSome = true := by
  refine py_tup fun d hd => ?_
  simp only [List.mem_cons, List.not_mem_nil, or_false] at hd
  rcases hd with rfl | rfl
  · exact py_tx _
  · exact py_tup h
theorem py_enc {S : Store} : ∀ (x : Cn) (n : Nat), 4 + 2 * dp x ≤ n → (toPy S n (enc x)).isSome = true
  | .tv c s v, n, hn => by
    obtain ⟨n, rfl⟩ : ∃ m, n = m + 4 := ⟨n - 4, by omega⟩
    refine py_tup (n := n + 3) fun d hd => ?_
    simp only [List.mem_cons, List.not_mem_nil, or_false] at hd
    rcases hd with rfl | rfl | rfl | rfl
    · rfl
    · exact py_dcl c
    · exact py_tx _
    · refine py_tup (n := n + 2) fun d hd => ?_
      simp only [List.mem_cons, List.not_mem_nil, or_false] at hd
      rcases hd with rfl | rfl
      · rfl
      · exact py_dv v
  | .tc c s c2, n, hn => by
    obtain ⟨n, rfl⟩ : ∃ m, n = m + 4 := ⟨n - 4, by omega⟩
    refine py_tup (n := n + 3) fun d hd => ?_
    simp only [List.mem_cons, List.not_mem_nil, or_false] at hd
    rcases hd with rfl | rfl | rfl | rfl
    · rfl
    · exact py_dcl c
    · exact py_tx _
    · refine py_tup (n := n + 2) fun d hd => ?_
      simp only [List.mem_cons, List.not_mem_nil, or_false] at hd
      rcases hd with rfl | rfl
      · rfl
      · exact py_dcl c2
  | .no x, n, hn => by
    simp only [dp] at hn
    obtain ⟨n, rfl⟩ : ∃ m, n = m + 1 := ⟨n - 1, by omega⟩
    rw [enc]
    refine py_tup fun d hd => ?_
    simp only [List.mem_cons, List.not_mem_nil, or_false] at hd
    rcases hd with rfl | rfl
    · obtain ⟨n, rfl⟩ : ∃ m, n = m + 1 := ⟨n - 1, by omega⟩
      rfl
    · exact py_enc x n (by omega)
  | .g2 k x y, n, hn => by
    simp only [dp] at hn
    obtain ⟨n, rfl⟩ : ∃ m, n = m + 2 := ⟨n - 2, by omega⟩
    rw [enc]
    refine py_encs fun d hd => ?_
    simp only [List.mem_cons, List.not_mem_nil, or_false] at hd
    rcases hd with rfl | rfl
    · exact py_enc x n (by omega)
    · exact py_enc y n (by omega)
  | .g3 k x y z, n, hn => by
    simp only [dp] at hn
    obtain ⟨n, rfl⟩ : ∃ m, n = m + 2 := ⟨n - 2, by omega⟩
    rw [enc]
    refine py_encs fun d hd => ?_
    simp only [List.mem_cons, List.not_mem_nil, or_false] at hd
    rcases hd with rfl | rfl | rfl
    · exact py_enc x n (by omega)
    · exact py_enc y n (by omega)
    · exact py_enc z n (by omega)
/-- equal to nothing, or not: some truth -/
theorem eqE {S : Store} {ds : List D} (h : ∀ d ∈ ds, (toPy S 40 d).isSome = true) : (∃ b, p2 .eq (.lis ds) (.lis []) S = .ok (.val (.bl b)) S) ∧ ∃ b, p2 .ne (.lis ds) (.lis []) S = .ok (.val (.bl b)) S := by
  obtain ⟨ps, hps⟩ := Option.isSome_iff_exists.mp (mapO_all (f := toPy S 40) ds h)
  have e : W.py S (.lis ds) = some (.list ps) := by
    show (mapO (toPy S 40) ds).map PyData.list = _
    rw [hps]; rfl
  constructor
  · show ∃ b, (match W.py S (.lis ds), W.py S (.lis []) with | some a, some b => vv (.bl (PyData.eqv a b)) S | _, _ => .bad) = _
    rw [e]
    exact ⟨_, rfl⟩
  · show ∃ b, (match W.py S (.lis ds), W.py S (.lis []) with | some a, some b => vv (.bl (!PyData.eqv a b)) S | _, _ => .bad) = _
    rw [e]
    exact ⟨_, rfl⟩
/-- what a look-up in a dict of truths gives -/
def four (b0 b1 b2 b3 : Bool) : List (L2.Key × D) := [(.inr "=", .bl b0), (.inr "#", .bl b1), (.inr "<", .bl b2), (.inr ">", .bl b3)]
theorem disp4 (b0 b1 b2 b3 : Bool) : dispO [.str "=", .bl b0, .str "#", .bl b1, .str "<", .bl b2, .str ">", .bl b3] = some (.dk (four b0 b1 b2 b3)) := by kernel_rfl
theorem four_look {b0 b1 b2 b3 : Bool} (k : L2.Key) (b : Bool) : ∃ c, (lookD (four b0 b1 b2 b3) k).getD (.bl b) = .bl c := by
  unfold lookD
  cases e : (four b0 b1 b2 b3).find? fun kv => decide (kv.1 = k) with
  | none => exact ⟨b, rfl⟩
  | some kv =>
    have h := List.mem_of_find?_eq_some e
    simp only [four, List.mem_cons, List.not_mem_nil, or_false] at h
    rcases h with rfl | rfl | rfl | rfl <;> exact ⟨_, rfl⟩
theorem four_get {S : Store} {m : Nat} {b0 b1 b2 b3 : Bool} (h : S[m]? = some (.dk (four b0 b1 b2 b3))) (s : List Nat) (b : Bool) : ∃ c, p3 .get2 (.val (.ref m)) (.val (tx s)) (.val (.bl b)) S = .ok (.val (.bl c)) S := by
  obtain ⟨c, hc⟩ := four_look (b0 := b0) (b1 := b1) (b2 := b2) (b3 := b3) (.inr (SX.S s)) b
  refine ⟨c, ?_⟩
  have e : look S m (tx s) = some (lookD (four b0 b1 b2 b3) (.inr (SX.S s))) := by
    unfold look
    rw [h]; rfl
  show (match look S m (tx s) with
    | some r => vv (r.getD (.bl b)) S
    | none => .bad) = _
  rw [e]
  show vv ((lookD (four b0 b1 b2 b3) (.inr (SX.S s))).getD (.bl b)) S = _
  rw [hc]; rfl
theorem isD_at {S : Store} {m : Nat} {kvs : List (L2.Key × D)} (h : S[m]? = some (.dk kvs)) : MK.is S .dict (.val (.ref m)) = true := by
  show (match S[m]? with
    | some (.dk _) => true
    | some (.dt _) => true
    | _ => false) = _
  rw [h]
end Mi.L

namespace Mi.L
open PySem Mi
theorem e_dict {C : CF} {ρ : Env} {S : Store} {kvs : List Ex} : evK C (.dict kvs) ρ S = (evDs C kvs ρ S).bd fun ds S => match dispO ds with
    | some o => .ok (.val (.ref S.length)) (S ++ [o])
    | none => .bad := by rw [evK]; try rfl
theorem e_m2 {C : CF} {ρ : Env} {S : Store} {k : MK} {o : Mi.P3} {a b c : Ex} : evK C (.m2 k o a b c) ρ S = (evK C a ρ S).bd fun x S => if k.is S x = true then (evK C b ρ S).bd fun y S => (evK C c ρ S).bd fun z S => p3 o x y z S else .bad := by rw [evK]
theorem tru_kw : decide (("test" : Str) = "not") = false ∧ decide (("test" : Str) = "and") = false ∧ decide (("test" : Str) = "or") = false ∧ decide (("not" : Str) = "not") = true ∧ decide (("and" : Str) = "not") = false ∧ decide (("and" : Str) = "and") = true ∧ decide (("or" : Str) = "not") = false ∧ decide (("or" : Str) = "and") = false ∧ decide (("or" : Str) = "or") = true := by decide +kernel
/-- a test's truth -/
theorem r_true_test {n : Nat} {S : Store} {P : Nat} {c : Cl} {s : List Nat} {r : Str} {e : D} {v w : Vl} (hv : p2 .ix (.val (.ref P)) (.val (dcl c)) S = .ok (.val (dv v)) S)
    (hw : (r = "column" ∧ p2 .ix (.val (.ref P)) (.val e) S = .ok (.val (dv w)) S) ∨ (r ≠ "column" ∧ e = dv w)) : ∃ b, run tab (n + 2) 37 [.tup [.str "test", dcl c, tx s, .tup [.str r, e]], .ref P] S = .ok (.bl b) S := by
  obtain ⟨b0, h0⟩ := kk_eq v w
  obtain ⟨b1, h1⟩ := kk_ne v w
  obtain ⟨b2, h2⟩ := kk_lt v w
  obtain ⟨b3, h3⟩ := kk_gt v w
  obtain ⟨dc, hdc⟩ : ∃ d, d = dcl c := ⟨_, rfl⟩
  rw [← hdc] at hv ⊢
  obtain ⟨E, hE⟩ : ∃ E, E = D.tup [.str "test", dc, tx s, .tup [.str r, e]] := ⟨_, rfl⟩
  have i1 : ∀ T, p2 .ix (.val E) (.val (.int 1)) T = .ok (.val dc) T := fun T => by rw [hE]; exact ix_tup rfl
  have i2 : ∀ T, p2 .ix (.val E) (.val (.int 2)) T = .ok (.val (tx s)) T := fun T => by rw [hE]; exact ix_tup rfl
  have i3 : ∀ T, p2 .ix (.val E) (.val (.int 3)) T = .ok (.val (.tup [.str r, e])) T := fun T => by rw [hE]; exact ix_tup rfl
  have j0 : ∀ T, p2 .ix (.val (.tup [.str r, e])) (.val (.int 0)) T = .ok (.val (.str r)) T := fun T => ix_tup rfl
  have j1 : ∀ T, p2 .ix (.val (.tup [.str r, e])) (.val (.int 1)) T = .ok (.val e) T := fun T => ix_tup rfl
  obtain ⟨T, hT⟩ : ∃ T, T = S ++ [O.dk (four b0 b1 b2 b3)] := ⟨_, rfl⟩
  have hTm : T[S.length]? = some (.dk (four b0 b1 b2 b3)) := by rw [hT]; exact at_new
  obtain ⟨b5, h5⟩ : ∃ b5, ∀ T, p2 .eq (.val (tx s)) (.val (.str "<=")) T = .ok (.val (.bl b5)) T := ⟨_, fun T => eq_ss⟩
  obtain ⟨b6, h6⟩ := eq_bb b2 b5
  obtain ⟨b7, h7⟩ := four_get hTm s (if b0 = true then true else b6)
  have kv := r_kD (n := n) (S := S) v
  have kw := r_kD (n := n) (S := S) w
  have hN : p1 .isN (.val E) S = .ok (.val (.bl false)) S := by rw [hE]; rfl
  obtain ⟨k1, hk1⟩ : ∃ d, d = kD v := ⟨_, rfl⟩
  obtain ⟨k2, hk2⟩ : ∃ d, d = kD w := ⟨_, rfl⟩
  obtain ⟨w1, hw1⟩ : ∃ d, d = dv v := ⟨_, rfl⟩
  obtain ⟨w2, hw2⟩ : ∃ d, d = dv w := ⟨_, rfl⟩
  simp only [← hk1, ← hk2, ← hw1, ← hw2] at h0 h1 h2 h3 hv hw kv kw
  rw [← hE]
  refine ⟨b7, r_run (F := ⟨2, 6, b37⟩) (S' := T) rfl rfl ?_ (by rw [hT]; exact pack_app (by simp))⟩
  show Rt (exSs (run tab (n + 1)) b37 [some E, some (.ref P), none, none, none, none] S) _ _
  have hh : ([some E, some (D.ref P), none, none, none, none] : Env)[0]? = some (some (D.tup (.str "test" :: [dc, tx s, .tup [.str r, e]]))) := by rw [hE]; rfl
  refine Rt.go (y_if0 (by simp [hN])) ?_
  refine Rt.go (y_if0 (s0_ev hh tru_kw.1)) ?_
  refine Rt.go (y_if0 (s0_ev hh tru_kw.2.1)) ?_
  refine Rt.go (y_if0 (s0_ev hh tru_kw.2.2.1)) ?_
  refine Rt.go (y_set k1 (by simp [i1, hv, kv])) ?_
  refine Rt.go (y_set e (by simp [i3, j1])) ?_
  show Rt (exSs (run tab (n + 1)) (b37.drop 6) [some E, some (.ref P), none, some k1, some e, none] S) _ _
  have tail : Rt (exSs (run tab (n + 1)) (b37.drop 7) [some E, some (.ref P), none, some k1, some w2, none] S) (.bl b7) T := by
    refine Rt.go (y_set k2 (by simp [kw])) ?_
    show Rt (exSs (run tab (n + 1)) (b37.drop 8) [some E, some (.ref P), none, some k1, some k2, none] S) _ _
    have v3 : ∀ T, evK (run tab (n + 1)) (.v 3) [some E, some (.ref P), none, some k1, some k2, none] T = .ok (.val k1) T := fun T => e_v rfl
    have v4 : ∀ T, evK (run tab (n + 1)) (.v 4) [some E, some (.ref P), none, some k1, some k2, none] T = .ok (.val k2) T := fun T => e_v rfl
    refine Rt.go (x_set (d := .ref S.length) (S' := T) ?_) ?_
    · simp only [e_D, e_dict, e_ds, e_ds0, e_c, e_p2, v3, v4, bd_ok', toD_val, h0, h1, h2, h3, disp4, hT]
    · show Rt (exSs (run tab (n + 1)) (b37.drop 9) [some E, some (.ref P), none, some k1, some k2, some (.ref S.length)] T) _ _
      refine Rt.fin (x_ret (d := .bl b7) (S' := T) ?_)
      have u0 : ∀ T, evK (run tab (n + 1)) (.v 0) [some E, some (.ref P), none, some k1, some k2, some (.ref S.length)] T = .ok (.val E) T := fun T => e_v rfl
      have u3 : ∀ T, evK (run tab (n + 1)) (.v 3) [some E, some (.ref P), none, some k1, some k2, some (.ref S.length)] T = .ok (.val k1) T := fun T => e_v rfl
      have u4 : ∀ T, evK (run tab (n + 1)) (.v 4) [some E, some (.ref P), none, some k1, some k2, some (.ref S.length)] T = .ok (.val k2) T := fun T => e_v rfl
      have u5 : ∀ T, evK (run tab (n + 1)) (.v 5) [some E, some (.ref P), none, some k1, some k2, some (.ref S.length)] T = .ok (.val (.ref S.length)) T := fun T => e_v rfl
      have hor : evK (run tab (n + 1)) (.or_ (.p2 .eq (.v 3) (.v 4)) (.p2 .eq (.p2 .lt (.v 3) (.v 4)) (.p2 .eq (.p2 .ix (.v 0) (.c (.int 2))) (.c (.str "<="))))) [some E, some (.ref P), none, some k1, some k2, some (.ref S.length)] T = .ok (.val (.bl (if b0 = true then true else b6))) T := by
        cases b0 <;> simp only [e_or, e_p2, e_c, u0, u3, u4, bd_ok', h0, h2, i2, h5, h6, toB_bl, vv_ok', if_true] <;> rfl
      simp only [e_D, e_m2, u5, bd_ok', isD_at hTm, if_true, e_p2, e_c, u0, i2, hor, h7, toD_val]
  rcases hw with ⟨rfl, hx⟩ | ⟨hr, rfl⟩
  · refine Rt.go (y_ift (by simp only [e_B, e_p2, e_c, show ∀ T, evK (run tab (n + 1)) (.v 0) [some E, some (.ref P), none, some k1, some e, none] T = .ok (.val E) T from fun T => e_v rfl, bd_ok', i3, j0, eq_ss, decide_true, toB_bl])) ?_
    rw [x_set (d := w2) (S' := S) (by simp [hx]), x_nil]
    exact tail
  · exact Rt.go (y_if0 (by simp [i3, j0, eq_ss, hr])) tail
/-- and, or -/
theorem r_true_grp {n : Nat} {S : Store} {P : Nat} {b : Bool} {ds : List D} (hds : ∀ d ∈ ds, (toPy S 40 d).isSome = true) (hr : ∀ d ∈ ds, ∃ b, run tab (n + 1) 37 [d, .ref P] S = .ok (.bl b) S) (hl : ds.length ≤ 3) :
    ∃ c, run tab (n + 2) 37 [.tup [tx (kw b), .tup ds], .ref P] S = .ok (.bl c) S := by
  obtain ⟨p, hp⟩ : ∃ p : D → Bool, ∀ d ∈ ds, run tab (n + 1) 37 [d, .ref P] S = .ok (.bl (p d)) S := by
    refine ⟨fun d => match run tab (n + 1) 37 [d, .ref P] S with | .ok (.bl b) _ => b | _ => false, fun d hd => ?_⟩
    obtain ⟨b, hb⟩ := hr d hd
    rw [hb]
    dsimp only
    rw [hb]
  have key : ∀ (E : D) (c e1 : Ex) (g : D → Bool), (∀ d ∈ ds, evB (run tab (n + 1)) c ((wipeD [some E, some (.ref P), none, none, none, none] [2]).set 2 (some d)) S = .ok (g d) S) → p2 .ix (.val E) (.val (.int 1)) S = .ok (.val (.tup ds)) S →
      evK (run tab (n + 1)) (.comp (.nm 2) .it [(.p2 .ix (.v 0) (.c (.int 1)))] [c] (.v 2) [2]) [some E, some (.ref P), none, none, none, none] S = .ok (.lis ((ds.filter g).map id)) S := by
    intro E c e1 g hg hi
    refine comp_filter (ws := [.val (.tup ds)]) (I := ⟨ds, []⟩) (p := g) (f := id) ?_ rfl isLive_nil (Nat.le_trans hl sz3) hg fun d hd _ => ?_
    · simp [hi]
    · exact congrArg (fun r : R W => r.bd toD) (show evK _ (.v 2) _ S = .ok (.val d) S from e_v rfl)
  have hf : ∀ g : D → Bool, ∀ d ∈ (ds.filter g).map id, (toPy S 40 d).isSome = true := fun g d hd => by
    rw [List.map_id] at hd
    exact hds d (List.mem_filter.mp hd |>.1)
  obtain ⟨E, hE⟩ : ∃ E, E = D.tup [tx (kw b), .tup ds] := ⟨_, rfl⟩
  have hN : p1 .isN (.val E) S = .ok (.val (.bl false)) S := by rw [hE]; rfl
  have i1 : p2 .ix (.val E) (.val (.int 1)) S = .ok (.val (.tup ds)) S := by rw [hE]; exact ix_tup rfl
  rw [← hE]
  have w1 : ∀ d, evK (run tab (n + 1)) (.v 1) ((wipeD [some E, some (.ref P), none, none, none, none] [2]).set 2 (some d)) S = .ok (.val (.ref P)) S := fun d => e_v rfl
  have w2 : ∀ d, evK (run tab (n + 1)) (.v 2) ((wipeD [some E, some (.ref P), none, none, none, none] [2]).set 2 (some d)) S = .ok (.val d) S := fun d => e_v rfl
  have dz : evK (run tab (n + 1)) (.disp []) [some E, some (.ref P), none, none, none, none] S = .ok (.lis []) S := by simp
  cases b with
  | true =>
    obtain ⟨c, hc⟩ := (eqE (hf fun d => !p d)).1
    have hh : ([some E, some (D.ref P), none, none, none, none] : Env)[0]? = some (some (D.tup (.str "and" :: [.tup ds]))) := by
      rw [hE]
      show some (some (D.tup [tx (q "and"), .tup ds])) = _
      rw [tx_q]
    refine ⟨c, r_run (F := ⟨2, 6, b37⟩) (S' := S) rfl rfl ?_ (pack_same (by simp))⟩
    refine Rt.go (y_if0 (by simp [hN])) ?_
    refine Rt.go (y_if0 (s0_ev hh tru_kw.2.2.2.2.1)) ?_
    refine Rt.fin (y_if1 (s0_ev hh tru_kw.2.2.2.2.2.1) ?_)
    have cp := key E (.not_ (.call 37 [(.v 2), (.v 1)])) (.v 2) (fun d => !p d) (fun d hd => by
      simp only [e_B, e_not, e_call, e_ds, e_ds0, w1, w2, bd_ok', toD_val, hp d hd, vv_ok', toB_bl]) i1
    show evD (run tab (n + 1)) _ [some E, some (D.ref P), none, none, none, none] S = _
    simp only [e_D, e_p2, cp, dz, bd_ok', hc, toD_val]
  | false =>
    obtain ⟨c, hc⟩ := (eqE (hf p)).2
    have hh : ([some E, some (D.ref P), none, none, none, none] : Env)[0]? = some (some (D.tup (.str "or" :: [.tup ds]))) := by
      rw [hE]
      show some (some (D.tup [tx (q "or"), .tup ds])) = _
      rw [tx_q]
    refine ⟨c, r_run (F := ⟨2, 6, b37⟩) (S' := S) rfl rfl ?_ (pack_same (by simp))⟩
    refine Rt.go (y_if0 (by simp [hN])) ?_
    refine Rt.go (y_if0 (s0_ev hh tru_kw.2.2.2.2.2.2.1)) ?_
    refine Rt.go (y_if0 (s0_ev hh tru_kw.2.2.2.2.2.2.2.1)) ?_
    refine Rt.fin (y_if1 (s0_ev hh tru_kw.2.2.2.2.2.2.2.2) ?_)
    have cp := key E (.call 37 [(.v 2), (.v 1)]) (.v 2) p (fun d hd => by
      simp only [e_B, e_call, e_ds, e_ds0, w1, w2, bd_ok', toD_val, hp d hd, vv_ok', toB_bl]) i1
    show evD (run tab (n + 1)) _ [some E, some (D.ref P), none, none, none, none] S = _
    simp only [e_D, e_p2, cp, dz, bd_ok', hc, toD_val]
/-- a condition's truth over a line that tells its columns -/
theorem r_true {S : Store} {P : Nat} : ∀ (x : Cn) (n : Nat), (∀ c ∈ csC x, ∃ v, p2 .ix (.val (.ref P)) (.val (dcl c)) S = .ok (.val (dv v)) S) → dp x ≤ 10 → ∃ b, run tab (n + 2 + dp x) 37 [enc x, .ref P] S = .ok (.bl b) S
  | .tv c s w, n, h, _ => by
    obtain ⟨v, hv⟩ := h c (by simp [csC])
    exact r_true_test hv (.inr ⟨by decide +kernel, rfl⟩)
  | .tc c s c2, n, h, _ => by
    obtain ⟨v, hv⟩ := h c (by simp [csC])
    obtain ⟨w, hw⟩ := h c2 (by simp [csC])
    exact r_true_test hv (.inl ⟨rfl, hw⟩)
  | .no x, n, h, hd => by
    simp only [dp] at hd
    obtain ⟨b, hb⟩ := r_true x n h (by omega)
    obtain ⟨e, he⟩ : ∃ e, e = enc x := ⟨_, rfl⟩
    rw [← he] at hb
    refine ⟨!b, ?_⟩
    rw [enc, ← he, show n + 2 + dp (.no x) = n + 2 + dp x + 1 by simp only [dp]; omega]
    have i1 : p2 .ix (.val (.tup [.str "not", e])) (.val (.int 1)) S = .ok (.val e) S := ix_tup rfl
    refine r_run (F := ⟨2, 6, b37⟩) (S' := S) rfl rfl ?_ (pack_same (by simp))
    refine Rt.go (y_if0 (by simp [isN_tup])) ?_
    refine Rt.fin (y_if1 (s0_ev rfl tru_kw.2.2.2.1) ?_)
    simp [i1, hb]
  | .g2 k x y, n, h, hd => by
    simp only [dp] at hd
    rw [enc, show n + 2 + dp (.g2 k x y) = (n + 1 + max (dp x) (dp y)) + 2 by simp only [dp]; omega]
    refine r_true_grp (fun d hd => ?_) (fun d hd => ?_) (by simp)
    · simp only [List.mem_cons, List.not_mem_nil, or_false] at hd
      rcases hd with rfl | rfl
      · exact py_enc x 40 (by omega)
      · exact py_enc y 40 (by omega)
    · simp only [List.mem_cons, List.not_mem_nil, or_false] at hd
      rcases hd with rfl | rfl
      · have := r_true x (n + max (dp x) (dp y) - dp x) (fun c hc => h c (by simp only [csC, List.mem_append]; exact .inl hc)) (by omega)
        rwa [show n + max (dp x) (dp y) - dp x + 2 + dp x = n + 1 + max (dp x) (dp y) + 1 by omega] at this
      · have := r_true y (n + max (dp x) (dp y) - dp y) (fun c hc => h c (by simp only [csC, List.mem_append]; exact .inr hc)) (by omega)
        rwa [show n + max (dp x) (dp y) - dp y + 2 + dp y = n + 1 + max (dp x) (dp y) + 1 by omega] at this
  | .g3 k x y z, n, h, hd => by
    simp only [dp] at hd
    rw [enc, show n + 2 + dp (.g3 k x y z) = (n + 1 + max (dp x) (max (dp y) (dp z))) + 2 by simp only [dp]; omega]
    refine r_true_grp (fun d hd => ?_) (fun d hd => ?_) (by simp)
    · simp only [List.mem_cons, List.not_mem_nil, or_false] at hd
      rcases hd with rfl | rfl | rfl
      · exact py_enc x 40 (by omega)
      · exact py_enc y 40 (by omega)
      · exact py_enc z 40 (by omega)
    · simp only [List.mem_cons, List.not_mem_nil, or_false] at hd
      rcases hd with rfl | rfl | rfl
      · have := r_true x (n + max (dp x) (max (dp y) (dp z)) - dp x) (fun c hc => h c (by simp only [csC, List.mem_append]; exact .inl hc)) (by omega)
        rwa [show n + max (dp x) (max (dp y) (dp z)) - dp x + 2 + dp x = n + 1 + max (dp x) (max (dp y) (dp z)) + 1 by omega] at this
      · have := r_true y (n + max (dp x) (max (dp y) (dp z)) - dp y) (fun c hc => h c (by simp only [csC, List.mem_append]; exact .inr (.inl hc))) (by omega)
        rwa [show n + max (dp x) (max (dp y) (dp z)) - dp y + 2 + dp y = n + 1 + max (dp x) (max (dp y) (dp z)) + 1 by omega] at this
      · have := r_true z (n + max (dp x) (max (dp y) (dp z)) - dp z) (fun c hc => h c (by simp only [csC, List.mem_append]; exact .inr (.inr hc))) (by omega)
        rwa [show n + max (dp x) (max (dp y) (dp z)) - dp z + 2 + dp z = n + 1 + max (dp x) (max (dp y) (dp z)) + 1 by omega] at this
end Mi.L

namespace Mi.L
open PySem Mi
/-! ### what a question is answered: the end -/
theorem e_srt {C : CF} {ρ : Env} {S : Store} {f : Nat} {a : Ex} : evK C (.srt f false a) ρ S = (evK C a ρ S).bd fun w S => srtW (fun d S => C f [d] S) w S := by rw [evK]; try rfl
theorem srt_end0 {S : Store} : srtEnd [] [] S = .ok (.lis []) S := by
  have e : mapO (toPy S deepest) [] = some [] := rfl
  unfold srtEnd
  rw [e]
  dsimp only
  rw [if_pos ⟨fun d hd => (by cases hd), .inl fun d hd => (by cases hd)⟩]
  simp [byKeys]
theorem kP_tup (v : Vl) : ∃ x r, kP v = .tuple (x :: r) := by cases v <;> exact ⟨_, _, rfl⟩
theorem srt_end1 {S : Store} {v : Vl} : srtEnd [dv v] [kD v] S = .ok (.lis [dv v]) S := by
  have e : mapO (toPy S deepest) [kD v] = some [kP v] := by cases v <;> rfl
  unfold srtEnd
  rw [e]
  dsimp only
  have h1 : W.AllAlike [kP v] := fun d hd d' hd' => by rw [List.mem_singleton.mp hd, List.mem_singleton.mp hd']; exact kP_alike v v
  have h2 : W.Sortable [kP v] := .inl fun d hd => by rw [List.mem_singleton.mp hd]; exact kP_tup v
  rw [if_pos ⟨h1, h2⟩]
  simp [byKeys]
theorem keys1 {n : Nat} {S : Store} {v : Vl} : keysL (fun d S => run tab (n + 1) 33 [d] S) [dv v] S = .ok [kD v] S := by
  rw [keysL]
  show ((run tab (n + 1) 33 [dv v] S).nox).bd _ = _
  rw [r_kD]
  show ((keysL (fun d S => run tab (n + 1) 33 [d] S) [] S).bd fun ks S => R.ok (kD v :: ks) S) = _
  rw [keysL]; rfl
theorem srt_at {n : Nat} {S : Store} {r : Nat} {l : List Vl} (hl : l.length ≤ 1) (h : S[r]? = some (.lst (l.map dv))) : srtW (fun d S => run tab (n + 1) 33 [d] S) (.val (.ref r)) S = .ok (.lis (l.map dv)) S := by
  unfold srtW
  rw [seq_at h]
  show ((keysL (fun d S => run tab (n + 1) 33 [d] S) (l.map dv) S).bd fun ks S => srtEnd (l.map dv) ks S) = _
  match l, hl with
  | [], _ =>
    rw [List.map_nil, keysL]
    exact srt_end0
  | [v], _ =>
    rw [List.map_cons, List.map_nil, keys1]
    exact srt_end1
theorem seq_dk {S : Store} {r : Nat} {kvs : List (L2.Key × D)} (h : S[r]? = some (.dk kvs)) : W.seq S (.val (.ref r)) = none := by
  show (match S[r]? with
    | some (.lst ds) => some (false, ds)
    | _ => none) = _
  rw [h]
theorem keysD_dk {S : Store} {r : Nat} {kvs : List (L2.Key × D)} (h : S[r]? = some (.dk kvs)) : keysD S (.val (.ref r)) = some (kvs.map fun (kv : L2.Key × D) => D.ofKey kv.1) := by
  show (match S[r]? with
    | some (.dk kvs) => some (kvs.map fun (kv : L2.Key × D) => D.ofKey kv.1)
    | _ => none) = _
  rw [h]
theorem srt_dk0 {C : CF} {S : Store} {r : Nat} (h : S[r]? = some (.dk [])) : srtW (fun d S => C 33 [d] S) (.val (.ref r)) S = .ok (.lis []) S := by
  unfold srtW
  rw [seq_dk h, keysD_dk h]
  show ((keysL (fun d S => C 33 [d] S) [] S).bd fun ks S => srtEnd [] ks S) = _
  rw [keysL]
  exact srt_end0
theorem srt_dk1 {n : Nat} {S : Store} {r : Nat} {d : D} (h : S[r]? = some (.dk [(.inl 0, d)])) : srtW (fun d S => run tab (n + 1) 33 [d] S) (.val (.ref r)) S = .ok (.lis [.int 0]) S := by
  unfold srtW
  rw [seq_dk h, keysD_dk h]
  show ((keysL (fun d S => run tab (n + 1) 33 [d] S) [dv (.inl 0)] S).bd fun ks S => srtEnd [dv (.inl 0)] ks S) = _
  rw [keys1]
  exact srt_end1 (v := .inl 0)
theorem wh_no : decide (("count" : Str) = "count") = true ∧ decide (("columns" : Str) = "count") = false ∧ decide (("columns" : Str) = "columns") = true ∧ decide (("sum" : Str) = "count") = false ∧ decide (("sum" : Str) = "columns") = false ∧ decide (("sum" : Str) = "sum") = true ∧ decide (("most" : Str) = "count") = false ∧ decide (("most" : Str) = "columns") = false ∧ decide (("most" : Str) = "sum") = false := by decide +kernel
theorem s2_ev {C : CF} {S : Store} {ρ : Env} {a y : Str} {r : List D} {b : Bool} (hv : ρ[2]? = some (some (.tup (.str a :: r)))) (h : decide (a = y) = b) : evB C (.p2 .eq (.p2 .ix (.v 2) (.c (.int 0))) (.c (.str y))) ρ S = .ok b S := by
  have i0 : p2 .ix (.val (.tup (.str a :: r))) (.val (.int 0)) S = .ok (.val (.str a)) S := ix_tup (atI_at (by decide) rfl)
  simp only [e_B, e_p2, e_c, e_v hv, bd_ok', i0, eq_ss, h, toB_bl]
theorem vl0 : (.inl 0 : Vl) ∈ MENU ∧ (.inl 1 : Vl) ∈ MENU := by simp [MENU]
theorem cut1 {l : List D} (h : l.length ≤ 1) : cutD l (some (-1)) none = l := by
  match l, h with
  | [], _ => rfl
  | [_], _ => rfl
theorem cut_lis {S : Store} {l : List D} {lo hi : Option Int} : cutW (.lis l) lo hi S = .ok (.lis (cutD l lo hi)) S := rfl
/-- the end of an answer -/
theorem ans_tail {n : Nat} {T : Store} {Q : Nat} {ds : List D} {w : Wh} {x0 x1 x3 x4 x5 x6 x7 x8 x9 x10 x12 x13 x14 x15 x16 : Option D} (hQ : T[Q]? = some (.lst ds)) (hl : ds.length ≤ 1)
    (hix : ∀ c ∈ whC w, ∃ v ∈ MENU, ∀ d ∈ ds, ∀ V, p2 .ix (.val d) (.val (dcl c)) (T ++ V) = .ok (.val (dv v)) (T ++ V)) :
    ∃ (vs : List Vl) (V : Store), vs.length ≤ 1 ∧ (∀ v ∈ vs, v ∈ MENU) ∧ Rt (exSs (run tab (n + 1)) (b39.drop 4) [x0, x1, some (whD w), x3, x4, x5, x6, x7, x8, x9, x10, some (.ref Q), x12, x13, x14, x15, x16] T) (.ref (T ++ V).length) (T ++ V ++ [.lst (vs.map fun v => .tup [dv v])]) := by
  have v11 : ∀ T, evK (run tab (n + 1)) (.v 11) [x0, x1, some (whD w), x3, x4, x5, x6, x7, x8, x9, x10, some (.ref Q), x12, x13, x14, x15, x16] T = .ok (.val (.ref Q)) T := fun T => e_v rfl
  have hsz : ds.length ≤ sizeLine := Nat.le_trans hl sz1
  have hap : ∀ V : Store, (T ++ V)[Q]? = some (.lst ds) := fun V => by
    rw [List.getElem?_append_left (List.getElem?_eq_some_iff.mp hQ).1]; exact hQ
  -- what stands of a column
  have col : ∀ (c : Cl) (v : Vl) (e : Ex) (f : D), w = .sum c ∨ w = .most c ∨ w = .cols c → (∀ d ∈ ds, evD (run tab (n + 1)) e (([x0, x1, some (whD w), x3, x4, x5, x6, x7, x8, x9, x10, some (.ref Q), x12, none, x14, x15, x16] : Env).set 13 (some d)) T = .ok f T) →
      evK (run tab (n + 1)) (.comp (.nm 13) .it [(.v 11)] [] e [13]) [x0, x1, some (whD w), x3, x4, x5, x6, x7, x8, x9, x10, some (.ref Q), x12, x13, x14, x15, x16] T = .ok (.lis (ds.map fun _ => f)) T := by
    intro c v e f _ he
    exact comp_pure (ws := [.val (.ref Q)]) (I := ⟨ds, [(Q, ds)]⟩) (f := fun _ => f) (by simp only [e_ws, e_ws0, v11, bd_ok']) (its_at hQ) (live_at hQ) hsz he
  cases w with
  | cnt =>
    refine ⟨[.inl ds.length], [], by simp, fun v hv => ?_, ?_⟩
    · rw [List.mem_singleton.mp hv]
      rcases (show ds.length = 0 ∨ ds.length = 1 by omega) with h | h <;> rw [h]
      · exact vl0.1
      · exact vl0.2
    · rw [List.append_nil]
      refine Rt.fin (x_if1 (S' := T) (s2_ev rfl wh_no.1) ?_)
      have ln := len_at hQ
      simp only [e_D, e_disp, e_tup, e_ds, e_ds0, e_p1, v11, bd_ok', ln, toD_val, vv_ok', List.length_cons, List.length_nil, if_pos sz1]
      simp only [bd_ok', toD_val, List.length_cons, List.length_nil, if_pos sz1, toD_lis]
      rfl
  | cols c =>
    obtain ⟨v, hv, hx⟩ := hix c (by simp [whC])
    have cp := col c v (.tup [(.p2 .ix (.v 13) (.p2 .ix (.p2 .ix (.v 2) (.c (.int 1))) (.c (.int 0))))]) (.tup [dv v]) (.inr (.inr rfl)) (fun d hd => by
      have h1 := hx d hd []
      rw [List.append_nil] at h1
      have u13 : ∀ T, evK (run tab (n + 1)) (.v 13) (([x0, x1, some (whD (.cols c)), x3, x4, x5, x6, x7, x8, x9, x10, some (.ref Q), x12, none, x14, x15, x16] : Env).set 13 (some d)) T = .ok (.val d) T := fun T => e_v rfl
      have u2 : ∀ T, evK (run tab (n + 1)) (.v 2) (([x0, x1, some (whD (.cols c)), x3, x4, x5, x6, x7, x8, x9, x10, some (.ref Q), x12, none, x14, x15, x16] : Env).set 13 (some d)) T = .ok (.val (whD (.cols c))) T := fun T => e_v rfl
      have i1 : p2 .ix (.val (whD (.cols c))) (.val (.int 1)) T = .ok (.val (.tup [dcl c])) T := ix_tup rfl
      have i2 : p2 .ix (.val (.tup [dcl c])) (.val (.int 0)) T = .ok (.val (dcl c)) T := ix_tup rfl
      simp only [e_D, e_tup, e_ds, e_ds0, e_p2, e_c, u13, u2, bd_ok', i1, i2, h1, toD_val, List.length_cons, List.length_nil, if_pos sz1, vv_ok'])
    refine ⟨ds.map fun _ => v, [], by simpa using hl, fun u hu => ?_, ?_⟩
    · obtain ⟨_, _, rfl⟩ := List.mem_map.mp hu
      exact hv
    · rw [List.append_nil, List.map_map]
      refine Rt.go (y_if0 (s2_ev rfl wh_no.2.1)) (Rt.fin (x_if1 (S' := T) (s2_ev rfl wh_no.2.2.1) ?_))
      rw [e_D, cp]; rfl
  | sum c =>
    obtain ⟨v, hv, hx⟩ := hix c (by simp [whC])
    have cp := col c v (.p2 .ix (.v 13) (.p2 .ix (.v 2) (.c (.int 1)))) (dv v) (.inl rfl) (fun d hd => by
      have h1 := hx d hd []
      rw [List.append_nil] at h1
      have u13 : ∀ T, evK (run tab (n + 1)) (.v 13) (([x0, x1, some (whD (.sum c)), x3, x4, x5, x6, x7, x8, x9, x10, some (.ref Q), x12, none, x14, x15, x16] : Env).set 13 (some d)) T = .ok (.val d) T := fun T => e_v rfl
      have u2 : ∀ T, evK (run tab (n + 1)) (.v 2) (([x0, x1, some (whD (.sum c)), x3, x4, x5, x6, x7, x8, x9, x10, some (.ref Q), x12, none, x14, x15, x16] : Env).set 13 (some d)) T = .ok (.val (whD (.sum c))) T := fun T => e_v rfl
      have i1 : p2 .ix (.val (whD (.sum c))) (.val (.int 1)) T = .ok (.val (dcl c)) T := ix_tup rfl
      simp only [e_D, e_p2, e_c, u13, u2, bd_ok', i1, h1, toD_val])
    obtain ⟨T1, hT1⟩ : ∃ T1, T1 = T ++ [O.lst (ds.map fun _ => dv v)] := ⟨_, rfl⟩
    have hat : T1[T.length]? = some (.lst (ds.map fun _ => dv v)) := by rw [hT1]; exact at_new
    have w16 : evWs (run tab (n + 1)) [(.v 16)] [x0, x1, some (whD (.sum c)), x3, x4, x5, x6, x7, x8, x9, x10, some (.ref Q), x12, x13, x14, x15, some (.ref T.length)] T1 = .ok [.val (.ref T.length)] T1 := by
      have u : ∀ T', evK (run tab (n + 1)) (.v 16) [x0, x1, some (whD (.sum c)), x3, x4, x5, x6, x7, x8, x9, x10, some (.ref Q), x12, x13, x14, x15, some (.ref T.length)] T' = .ok (.val (.ref T.length)) T' := fun T => e_v rfl
      simp only [e_ws, e_ws0, u, bd_ok']
    have c15 : ∀ d, evD (run tab (n + 1)) (.v 15) ((wipeD [x0, x1, some (whD (.sum c)), x3, x4, x5, x6, x7, x8, x9, x10, some (.ref Q), x12, x13, x14, x15, some (.ref T.length)] [15]).set 15 (some d)) T1 = .ok d T1 := fun d => by
      have u : evK (run tab (n + 1)) (.v 15) ((wipeD [x0, x1, some (whD (.sum c)), x3, x4, x5, x6, x7, x8, x9, x10, some (.ref Q), x12, x13, x14, x15, some (.ref T.length)] [15]).set 15 (some d)) T1 = .ok (.val d) T1 := e_v rfl
      rw [e_D, u]; rfl
    have tl : ∀ (i : Int) (fs : List D), evK (run tab (n + 1)) (.comp (.nm 15) .it [(.v 16)] [(.not_ (.isi [.str] (.v 15)))] (.v 15) [15]) [x0, x1, some (whD (.sum c)), x3, x4, x5, x6, x7, x8, x9, x10, some (.ref Q), x12, x13, x14, x15, some (.ref T.length)] T1 = .ok (.lis fs) T1 → p1 .sum (.lis fs) T1 = .ok (.val (.int i)) T1 →
        Rt (exSs (run tab (n + 1)) (b39.drop 4) [x0, x1, some (whD (.sum c)), x3, x4, x5, x6, x7, x8, x9, x10, some (.ref Q), x12, x13, x14, x15, x16] T) (.ref T1.length) (T1 ++ [.lst [.tup [.int i]]]) := by
      intro i fs h1 h2
      refine Rt.go (y_if0 (s2_ev rfl wh_no.2.2.2.1)) ?_
      refine Rt.go (y_if0 (s2_ev rfl wh_no.2.2.2.2.1)) ?_
      refine Rt.go (x_set (d := .ref T.length) (S' := T1) (by rw [e_D, cp, hT1]; rfl)) ?_
      show Rt (exSs (run tab (n + 1)) (b39.drop 7) [x0, x1, some (whD (.sum c)), x3, x4, x5, x6, x7, x8, x9, x10, some (.ref Q), x12, x13, x14, x15, some (.ref T.length)] T1) _ _
      refine Rt.fin (x_if1 (S' := T1) (s2_ev rfl wh_no.2.2.2.2.2.1) ?_)
      simp only [e_D, e_disp, e_tup, e_ds, e_ds0, e_p1, h1, bd_ok', h2, toD_val, vv_ok', List.length_cons, List.length_nil, if_pos sz1]
      simp only [bd_ok', toD_val, List.length_cons, List.length_nil, if_pos sz1, toD_lis]
    have isi : ∀ (p : D → Bool), (∀ d ∈ ds.map fun _ => dv v, isiW [.str] (.val d) T1 = .ok (.val (.bl (!p d))) T1) → evK (run tab (n + 1)) (.comp (.nm 15) .it [(.v 16)] [(.not_ (.isi [.str] (.v 15)))] (.v 15) [15]) [x0, x1, some (whD (.sum c)), x3, x4, x5, x6, x7, x8, x9, x10, some (.ref Q), x12, x13, x14, x15, some (.ref T.length)] T1 = .ok (.lis (((ds.map fun _ => dv v).filter p).map id)) T1 := by
      intro p hp
      refine comp_filter (ws := [.val (.ref T.length)]) (I := ⟨ds.map fun _ => dv v, [(T.length, ds.map fun _ => dv v)]⟩) (p := p) (f := id) w16 (its_at hat) (live_at hat) (by rw [List.length_map]; exact hsz) (fun d hd => ?_) (fun d hd _ => c15 d)
      have u : evK (run tab (n + 1)) (.v 15) ((wipeD [x0, x1, some (whD (.sum c)), x3, x4, x5, x6, x7, x8, x9, x10, some (.ref Q), x12, x13, x14, x15, some (.ref T.length)] [15]).set 15 (some d)) T1 = .ok (.val d) T1 := e_v rfl
      have := hp d hd
      simp only [e_B, e_not, e_isi, u, bd_ok', this, toB_bl, vv_ok', Bool.not_not]
    match ds, hl with
    | [], _ =>
      have h1 := isi (fun _ => true) (fun d hd => by cases hd)
      refine ⟨[.inl 0], [O.lst []], by simp, fun u hu => ?_, ?_⟩
      · rw [List.mem_singleton.mp hu]; exact vl0.1
      · have := tl 0 [] h1 rfl
        rw [hT1] at this
        exact this
    | [d], _ =>
      cases v with
      | inl i =>
        have h1 := isi (fun _ => true) (fun e he => by
          rw [List.mem_singleton.mp he]; rfl)
        refine ⟨[.inl i], [O.lst [.int i]], by simp, fun u hu => ?_, ?_⟩
        · rw [List.mem_singleton.mp hu]; exact hv
        · have := tl i [.int i] h1 (by show vv (.int ([i].sum)) T1 = _; simp)
          rw [hT1] at this
          exact this
      | inr x =>
        have h1 := isi (fun _ => false) (fun e he => by
          rw [List.mem_singleton.mp he]; rfl)
        refine ⟨[.inl 0], [O.lst [.str x]], by simp, fun u hu => ?_, ?_⟩
        · rw [List.mem_singleton.mp hu]; exact vl0.1
        · have := tl 0 [] h1 rfl
          rw [hT1] at this
          exact this
  | most c =>
    obtain ⟨v, hv, hx⟩ := hix c (by simp [whC])
    have cp := col c v (.p2 .ix (.v 13) (.p2 .ix (.v 2) (.c (.int 1)))) (dv v) (.inr (.inl rfl)) (fun d hd => by
      have h1 := hx d hd []
      rw [List.append_nil] at h1
      have u13 : ∀ T, evK (run tab (n + 1)) (.v 13) (([x0, x1, some (whD (.most c)), x3, x4, x5, x6, x7, x8, x9, x10, some (.ref Q), x12, none, x14, x15, x16] : Env).set 13 (some d)) T = .ok (.val d) T := fun T => e_v rfl
      have u2 : ∀ T, evK (run tab (n + 1)) (.v 2) (([x0, x1, some (whD (.most c)), x3, x4, x5, x6, x7, x8, x9, x10, some (.ref Q), x12, none, x14, x15, x16] : Env).set 13 (some d)) T = .ok (.val (whD (.most c))) T := fun T => e_v rfl
      have i1 : p2 .ix (.val (whD (.most c))) (.val (.int 1)) T = .ok (.val (dcl c)) T := ix_tup rfl
      simp only [e_D, e_p2, e_c, u13, u2, bd_ok', i1, h1, toD_val])
    obtain ⟨T1, hT1⟩ : ∃ T1, T1 = T ++ [O.lst ((ds.map fun _ => v).map dv)] := ⟨_, rfl⟩
    have hat : T1[T.length]? = some (.lst ((ds.map fun _ => v).map dv)) := by rw [hT1]; exact at_new
    have em : (ds.map fun _ => dv v) = (ds.map fun _ => v).map dv := by rw [List.map_map]; rfl
    rw [em] at cp
    have st := srt_at (n := n) (l := ds.map fun _ => v) (by rw [List.length_map]; exact hl) hat
    have u16 : ∀ T', evK (run tab (n + 1)) (.v 16) [x0, x1, some (whD (.most c)), x3, x4, x5, x6, x7, x8, x9, x10, some (.ref Q), x12, x13, x14, x15, some (.ref T.length)] T' = .ok (.val (.ref T.length)) T' := fun T => e_v rfl
    have w16 : evWs (run tab (n + 1)) [(.sl (.srt 33 false (.v 16)) [(.p1 .neg (.c (.int 1)))] [])] [x0, x1, some (whD (.most c)), x3, x4, x5, x6, x7, x8, x9, x10, some (.ref Q), x12, x13, x14, x15, some (.ref T.length)] T1 = .ok [.lis ((ds.map fun _ => v).map dv)] T1 := by
      simp only [e_ws, e_ws0, e_sl, e_srt, u16, bd_ok', st, e_p1, e_c, neg_ok, partI1, partI0, cut_lis]
      rw [cut1 (by simpa using hl)]
    refine ⟨ds.map fun _ => v, [O.lst ((ds.map fun _ => v).map dv)], by simpa using hl, fun u hu => ?_, ?_⟩
    · obtain ⟨_, _, rfl⟩ := List.mem_map.mp hu
      exact hv
    · rw [← hT1]
      refine Rt.go (y_if0 (s2_ev rfl wh_no.2.2.2.2.2.2.1)) ?_
      refine Rt.go (y_if0 (s2_ev rfl wh_no.2.2.2.2.2.2.2.1)) ?_
      refine Rt.go (x_set (d := .ref T.length) (S' := T1) (by rw [e_D, cp, hT1]; rfl)) ?_
      show Rt (exSs (run tab (n + 1)) (b39.drop 7) [x0, x1, some (whD (.most c)), x3, x4, x5, x6, x7, x8, x9, x10, some (.ref Q), x12, x13, x14, x15, some (.ref T.length)] T1) _ _
      refine Rt.go (y_if0 (s2_ev rfl wh_no.2.2.2.2.2.2.2.2)) (Rt.fin (x_ret ?_))
      have cq := comp_pure (C := run tab (n + 1)) (ρ := [x0, x1, some (whD (.most c)), x3, x4, x5, x6, x7, x8, x9, x10, some (.ref Q), x12, x13, x14, x15, some (.ref T.length)]) (S := T1) (S' := T1) (i := 15) (k := .it) (is := [(.sl (.srt 33 false (.v 16)) [(.p1 .neg (.c (.int 1)))] [])]) (e := .tup [(.v 15)]) (own := [15]) (ws := [.lis ((ds.map fun _ => v).map dv)]) (I := ⟨(ds.map fun _ => v).map dv, []⟩) (f := fun d => .tup [d]) w16 rfl isLive_nil (by simp only [List.length_map]; exact hsz) (fun d hd => by
        have u : ∀ T', evK (run tab (n + 1)) (.v 15) ((wipeD [x0, x1, some (whD (.most c)), x3, x4, x5, x6, x7, x8, x9, x10, some (.ref Q), x12, x13, x14, x15, some (.ref T.length)] [15]).set 15 (some d)) T' = .ok (.val d) T' := fun T' => e_v rfl
        simp only [e_D, e_tup, e_ds, e_ds0, u, bd_ok', toD_val, List.length_cons, List.length_nil, if_pos sz1, vv_ok'])
      rw [e_D, cq]
      show R.ok (D.ref T1.length) (T1 ++ [O.lst (((ds.map fun _ => v).map dv).map fun d => .tup [d])]) = _
      rw [List.map_map]; rfl
end Mi.L

namespace Mi.L
open PySem Mi
/-! ### what a question is answered -/
def figH : List (List Nat) := [q "a", q "of", q "b"]
def whrH : List (List Nat) := [q "is", q "a"]
abbrev rowF : D := .tup [.int 0, .str "a", .int 1]
abbrev hdF : D := .tup [.str "a", .str "of", .str "b"]
abbrev hdW : D := .tup [.str "is", .str "a"]
abbrev oT (A : Nat) : O := .dk [(.inr "fig", .tup [hdF, .ref (A + 1), .ref (A + 2)]), (.inr "where", .tup [hdW, .ref (A + 3), .ref (A + 4)])]
/-- the tables stand -/
structure TS (S : Store) (A : Nat) : Prop where
  r1 : S[A + 1]? = some (.dk [(.inl 0, rowF)])
  r3 : S[A + 3]? = some (.dk [])
  t5 : S[A + 5]? = some (oT A)
theorem TS.app {S : Store} {A : Nat} (h : TS S A) (V : Store) : TS (S ++ V) A := by
  have g : ∀ {i : Nat} {o : O}, S[i]? = some o → (S ++ V)[i]? = some o := fun {i} {o} e => by
    rw [List.getElem?_append_left (List.getElem?_eq_some_iff.mp e).1]; exact e
  exact ⟨g h.r1, g h.r3, g h.t5⟩
theorem TS.set {S : Store} {A k : Nat} {o : O} (h : TS S A) (hk : A + 5 < k) : TS (S.set k o) A := by
  have g : ∀ {i : Nat} {u : O}, i ≤ A + 5 → S[i]? = some u → (S.set k o)[i]? = some u := fun {i} {u} hi e => by
    rw [List.getElem?_set_ne (by omega)]; exact e
  exact ⟨g (by omega) h.r1, g (by omega) h.r3, g (by omega) h.t5⟩
def lineK : List (List L2.Key × D) := [([.inr "fig", .inr "a"], .int 0), ([.inr "fig", .inr "of"], .str "a"), ([.inr "fig", .inr "b"], .int 1)]
theorem ix_dt {S : Store} {P : Nat} {kvs : List (List L2.Key × D)} {k d : D} (h : S[P]? = some (.dt kvs)) (hl : k.keyT.map (lookD kvs) = some (some d)) : p2 .ix (.val (.ref P)) (.val k) S = .ok (.val d) S := by
  have hs : W.seq S (.val (.ref P)) = none := by
    show (match S[P]? with | some (.lst ds) => some (false, ds) | _ => none) = _
    rw [h]
  have hk : look S P k = some (some d) := by
    unfold look
    rw [h]
    exact hl
  show (match W.seq S (.val (.ref P)) with
    | some (_, ds) => _
    | none => match look S P k with
      | some (some d) => vv d S
      | _ => .bad) = _
  rw [hs, hk]
  rfl
theorem ix_dk {S : Store} {P : Nat} {kvs : List (L2.Key × D)} {k d : D} (h : S[P]? = some (.dk kvs)) (hl : k.key.map (lookD kvs) = some (some d)) : p2 .ix (.val (.ref P)) (.val k) S = .ok (.val d) S := by
  have hs := seq_dk h
  have hk : look S P k = some (some d) := by
    unfold look
    rw [h]
    exact hl
  show (match W.seq S (.val (.ref P)) with
    | some (_, ds) => _
    | none => match look S P k with
      | some (some d) => vv d S
      | _ => .bad) = _
  rw [hs, hk]
  rfl
theorem line_k1 : (D.tup [.str "fig", .str "a"]).keyT.map (lookD lineK) = some (some (.int 0)) := by kernel_rfl
theorem line_k2 : (D.tup [.str "fig", .str "of"]).keyT.map (lookD lineK) = some (some (.str "a")) := by kernel_rfl
theorem line_k3 : (D.tup [.str "fig", .str "b"]).keyT.map (lookD lineK) = some (some (.int 1)) := by kernel_rfl
theorem men3 : (.inl 0 : Vl) ∈ MENU ∧ (.inr "a" : Vl) ∈ MENU ∧ (.inl 1 : Vl) ∈ MENU := by simp [MENU]
theorem line_ix {c : Cl} (h1 : c.1 = q "fig") (h2 : c.2 ∈ figH) : ∃ v ∈ MENU, ∀ (S : Store) (P : Nat), S[P]? = some (.dt lineK) → p2 .ix (.val (.ref P)) (.val (dcl c)) S = .ok (.val (dv v)) S := by
  obtain ⟨a, b⟩ := c
  dsimp only at h1 h2
  subst h1
  simp only [figH, List.mem_cons, List.not_mem_nil, or_false] at h2
  rcases h2 with rfl | rfl | rfl
  · refine ⟨_, men3.1, fun S P h => ?_⟩
    show p2 .ix (.val (.ref P)) (.val (.tup [tx (q "fig"), tx (q "a")])) S = _
    rw [tx_q, tx_q]
    exact ix_dt h line_k1
  · refine ⟨_, men3.2.1, fun S P h => ?_⟩
    show p2 .ix (.val (.ref P)) (.val (.tup [tx (q "fig"), tx (q "of")])) S = _
    rw [tx_q, tx_q]
    exact ix_dt h line_k2
  · refine ⟨_, men3.2.2, fun S P h => ?_⟩
    show p2 .ix (.val (.ref P)) (.val (.tup [tx (q "fig"), tx (q "b")])) S = _
    rw [tx_q, tx_q]
    exact ix_dt h line_k3
theorem oT_fig {A : Nat} : (D.str "fig").key.map (lookD [((.inr "fig" : L2.Key), D.tup [hdF, .ref (A + 1), .ref (A + 2)]), (.inr "where", .tup [hdW, .ref (A + 3), .ref (A + 4)])]) = some (some (.tup [hdF, .ref (A + 1), .ref (A + 2)])) := rfl
theorem oT_whr {A : Nat} : (D.str "where").key.map (lookD [((.inr "fig" : L2.Key), D.tup [hdF, .ref (A + 1), .ref (A + 2)]), (.inr "where", .tup [hdW, .ref (A + 3), .ref (A + 4)])]) = some (some (.tup [hdW, .ref (A + 3), .ref (A + 4)])) := rfl
theorem row_k : (D.int 0).key.map (lookD [((.inl 0 : L2.Key), rowF)]) = some (some rowF) := rfl
theorem dict_line : dictOf [.tup [.tup [.str "fig", .str "a"], .int 0], .tup [.tup [.str "fig", .str "of"], .str "a"], .tup [.tup [.str "fig", .str "b"], .int 1]] = some (.dt lineK) := by kernel_rfl
theorem r_cond37 {N : Nat} {S : Store} {P : Nat} (c : Option Cn) (h : ∀ y, c = some y → dp y ≤ 4 ∧ ∀ z ∈ csC y, ∃ v, p2 .ix (.val (.ref P)) (.val (dcl z)) S = .ok (.val (dv v)) S) : ∃ b, run tab (N + 6) 37 [cnD c, .ref P] S = .ok (.bl b) S := by
  cases c with
  | none =>
    refine ⟨true, r_run (F := ⟨2, 6, b37⟩) (S' := S) rfl rfl ?_ (pack_same (by simp))⟩
    exact Rt.fin (y_if1 (by simp [cnD, isN_non]) (by simp))
  | some y =>
    obtain ⟨h1, h2⟩ := h y rfl
    have := r_true (S := S) (P := P) y (N + 4 - dp y) h2 (by omega)
    rwa [show N + 4 - dp y + 2 + dp y = N + 6 by omega] at this
/-- the line of a row -/
theorem ev_line {C : CF} {S : Store} {r0 : Nat} {x0 x1 x2 x4 x5 x6 x7 x10 x11 x13 x14 x15 x16 : Option D} (hr : S[r0]? = some (.dk [(.inl 0, rowF)])) :
    evK C (.p1 .dict_ (.comp (.tp [14, 15]) .zip [(.v 8), (.p2 .ix (.v 9) (.v 12))] [] (.tup [(.tup [(.v 3), (.v 14)]), (.v 15)]) [14, 15])) [x0, x1, x2, some (.str "fig"), x4, x5, x6, x7, some hdF, some (.ref r0), x10, x11, some (.int 0), x13, x14, x15, x16] S = .ok (.val (.ref S.length)) (S ++ [.dt lineK]) := by
  obtain ⟨ρ, hρ⟩ : ∃ ρ : Env, ρ = [x0, x1, x2, some (.str "fig"), x4, x5, x6, x7, some hdF, some (.ref r0), x10, x11, some (.int 0), x13, x14, x15, x16] := ⟨_, rfl⟩
  have v8 : evK C (.v 8) ρ S = .ok (.val hdF) S := e_v (by rw [hρ]; rfl)
  have v9 : evK C (.v 9) ρ S = .ok (.val (.ref r0)) S := e_v (by rw [hρ]; rfl)
  have v12 : evK C (.v 12) ρ S = .ok (.val (.int 0)) S := e_v (by rw [hρ]; rfl)
  have ws : evWs C [(.v 8), (.p2 .ix (.v 9) (.v 12))] ρ S = .ok [.val hdF, .val rowF] S := by
    simp only [e_ws, e_ws0, e_p2, v8, v9, v12, bd_ok', ix_dk hr row_k]
  rw [← hρ, e_p1, evK, ws]
  obtain ⟨turn, hturn⟩ : ∃ turn : D → Store → R (Option D), turn = fun d S => match bindTg (.tp [14, 15]) d (wipeD ρ [14, 15]) with
        | some ρ' => ((evCs C [] ρ' S).bd fun b S => if b = true then ((evK C (.tup [(.tup [(.v 3), (.v 14)]), (.v 15)]) ρ' S).bd toD).bd fun d S => .ok (some d) S else .ok none S).nox
        | none => .bad := ⟨_, rfl⟩
  have tn : ∀ h v : D, turn (.tup [h, v]) S = .ok (some (.tup [.tup [.str "fig", h], v])) S := by
    intro h v
    obtain ⟨ρ', hρ'⟩ : ∃ ρ' : Env, ρ' = [x0, x1, x2, some (.str "fig"), x4, x5, x6, x7, some hdF, some (.ref r0), x10, x11, some (.int 0), x13, some h, some v, x16] := ⟨_, rfl⟩
    have hb : bindTg (.tp [14, 15]) (.tup [h, v]) (wipeD ρ [14, 15]) = some ρ' := by rw [hρ, hρ']; rfl
    rw [hturn]
    dsimp only
    rw [hb]
    dsimp only
    have u3 : evK C (.v 3) ρ' S = .ok (.val (.str "fig")) S := e_v (by rw [hρ']; rfl)
    have u14 : evK C (.v 14) ρ' S = .ok (.val h) S := e_v (by rw [hρ']; rfl)
    have u15 : evK C (.v 15) ρ' S = .ok (.val v) S := e_v (by rw [hρ']; rfl)
    have ev : evK C (.tup [(.tup [(.v 3), (.v 14)]), (.v 15)]) ρ' S = .ok (.val (.tup [.tup [.str "fig", h], v])) S := by
      simp only [e_tup, e_ds, e_ds0, u3, u14, u15, bd_ok', toD_val, List.length_cons, List.length_nil, if_pos sz2, vv_ok']
    rw [evCs, bd_ok', if_pos rfl, ev]; rfl
  have hI : its .zip [.val hdF, .val rowF] S = some ⟨[.tup [.str "a", .int 0], .tup [.str "of", .str "a"], .tup [.str "b", .int 1]], []⟩ := rfl
  rw [bd_ok', hI]
  dsimp only
  have cl : compL [] turn [.tup [.str "a", .int 0], .tup [.str "of", .str "a"], .tup [.str "b", .int 1]] S [] = .ok [.tup [.tup [.str "fig", .str "a"], .int 0], .tup [.tup [.str "fig", .str "of"], .str "a"], .tup [.tup [.str "fig", .str "b"], .int 1]] S := by
    rw [compL_nx (tn _ _) (by decide), compL_nx (tn _ _) (by show 1 < sizeLine; decide), compL_nx (tn _ _) (by show 2 < sizeLine; decide), compL_end]; rfl
  subst hturn
  refine (congrArg (fun r : R (List D) => (r.bd fun ds S => R.ok (W.lis ds) S).bd fun x S => p1 .dict_ x S) cl).trans ?_
  show (match dictOf [.tup [.tup [.str "fig", .str "a"], .int 0], .tup [.tup [.str "fig", .str "of"], .str "a"], .tup [.tup [.str "fig", .str "b"], .int 1]] with
    | some o => R.ok (W.val (D.ref S.length)) (S ++ [o])
    | none => .bad) = _
  rw [dict_line]
/-- answers: none, or one value of the menu -/
theorem r_ans {n : Nat} {S : Store} {A : Nat} {x : Qu} (ts : TS S A) (hx : (x.t = q "fig" ∧ ∀ c ∈ whC x.w ++ cnC x.c, c.1 = x.t ∧ c.2 ∈ figH) ∨ x.t = q "where") (hd : ∀ y, x.c = some y → dp y ≤ 4) :
    ∃ vs : List Vl, vs.length ≤ 1 ∧ (∀ v ∈ vs, v ∈ MENU) ∧ run tab (n + 7) 39 [.ref (A + 5), quD x] S = .ok (.ref S.length) (S ++ [.lst (vs.map fun v => .tup [dv v])]) := by
  obtain ⟨Q, hQ⟩ : ∃ Q, Q = quD x := ⟨_, rfl⟩
  rw [← hQ]
  obtain ⟨cd, hcd⟩ : ∃ d, d = cnD x.c := ⟨_, rfl⟩
  obtain ⟨wd, hwd⟩ : ∃ d, d = whD x.w := ⟨_, rfl⟩
  have fin : ∀ {vs : List Vl} {U V : Store}, Rt (exSs (run tab (n + 6)) b39 [some (.ref (A + 5)), some Q, none, none, none, none, none, none, none, none, none, none, none, none, none, none, none] S) (.ref (S ++ U ++ V).length) (S ++ U ++ V ++ [.lst (vs.map fun v => .tup [dv v])]) →
      run tab (n + 7) 39 [.ref (A + 5), Q] S = .ok (.ref S.length) (S ++ [.lst (vs.map fun v => .tup [dv v])]) := by
    intro vs U V h
    refine r_run (F := ⟨2, 17, b39⟩) rfl rfl h ?_
    have hu : O.und S.length (.lst (vs.map fun v => .tup [dv v])) = true := by
      show D.unds S.length (vs.map fun v => .tup [dv v]) = true
      clear h
      induction vs with
      | nil => simp
      | cons v r ih => rw [List.map_cons, unds_cons, ih, und_tup, unds_cons, und_dv, unds_nil]; rfl
    have := pack_fresh (S := S) (T := U ++ V ++ [.lst (vs.map fun v => .tup [dv v])]) (m := (S ++ U ++ V).length) (o := .lst (vs.map fun v => .tup [dv v])) (by simp [Nat.add_assoc]) (by rw [← List.append_assoc, ← List.append_assoc]; exact at_new) hu
    rw [← List.append_assoc, ← List.append_assoc] at this
    exact this
  have head : ∀ {tn hds r o : D}, Q = .tup [wd, tn, .non, cd, .non, .non] → p2 .ix (.val (.ref (A + 5))) (.val tn) S = .ok (.val (.tup [hds, r, o])) S →
      exSs (run tab (n + 6)) b39 [some (.ref (A + 5)), some Q, none, none, none, none, none, none, none, none, none, none, none, none, none, none, none] S = exSs (run tab (n + 6)) (b39.drop 3) [some (.ref (A + 5)), some Q, some wd, some tn, some .non, some cd, some .non, some .non, some hds, some r, some o, some (.ref S.length), none, none, none, none, none] (S ++ [.lst []]) := by
    intro tn hds r o hq ix
    refine (y_tp (ρ' := [some (.ref (A + 5)), some Q, some wd, some tn, some .non, some cd, some .non, some .non, none, none, none, none, none, none, none, none, none]) [wd, tn, .non, cd, .non, .non] (by simp [hq]) rfl).trans ?_
    refine (y_tp (ρ' := [some (.ref (A + 5)), some Q, some wd, some tn, some .non, some cd, some .non, some .non, some hds, some r, some o, none, none, none, none, none, none]) [hds, r, o] (by simp [ix]) rfl).trans ?_
    exact (x_set (d := .ref S.length) (S' := S ++ [.lst []]) (by simp)).trans rfl
  rcases hx with ⟨ht, hc⟩ | ht
  · -- fig
    have hq : Q = .tup [wd, .str "fig", .non, cd, .non, .non] := by rw [hQ, hwd, hcd, quD, ht, tx_q]
    have hd1 := head hq (ix_dk ts.t5 oT_fig)
    obtain ⟨T, hT⟩ : ∃ T, T = S ++ [O.lst [], O.dt lineK] := ⟨_, rfl⟩
    have hTl : ∀ V : Store, (T ++ V)[S.length + 1]? = some (.dt lineK) := fun V => by rw [hT]; simp
    have hT1 : T[S.length + 1]? = some (.dt lineK) := by have := hTl []; rwa [List.append_nil] at this
    have hT0 : T[S.length]? = some (.lst []) := by rw [hT]; simp
    obtain ⟨b, hb⟩ := r_cond37 (N := n) (S := T) (P := S.length + 1) x.c (fun y hy => ⟨hd y hy, fun z hz => by
      obtain ⟨v, _, hv⟩ := line_ix (c := z) (by rw [← ht]; exact (hc z (by rw [hy]; simp [cnC, hz])).1) (hc z (by rw [hy]; simp [cnC, hz])).2
      exact ⟨v, hv T _ hT1⟩⟩)
    rw [← hcd] at hb
    -- the loop
    have lp : ∃ ds : List D, (ds = [] ∨ ds = [.ref (S.length + 1)]) ∧ exSs (run tab (n + 6)) (b39.drop 3) [some (.ref (A + 5)), some Q, some wd, some (.str "fig"), some .non, some cd, some .non, some .non, some hdF, some (.ref (A + 1)), some (.ref (A + 2)), some (.ref S.length), none, none, none, none, none] (S ++ [.lst []]) = exSs (run tab (n + 6)) (b39.drop 4) [some (.ref (A + 5)), some Q, some wd, some (.str "fig"), some .non, some cd, some .non, some .non, some hdF, some (.ref (A + 1)), some (.ref (A + 2)), some (.ref S.length), some (.int 0), some (.ref (S.length + 1)), none, none, none] (S ++ [.lst ds, .dt lineK]) := by
      have ts1 := ts.app [.lst []]
      have st := srt_dk1 (n := n + 5) ts1.r1
      have evl := ev_line (C := run tab (n + 6)) (S := S ++ [.lst []]) (r0 := A + 1) (x0 := some (.ref (A + 5))) (x1 := some Q) (x2 := some wd) (x4 := some .non) (x5 := some cd) (x6 := some .non) (x7 := some .non) (x10 := some (.ref (A + 2))) (x11 := some (.ref S.length)) (x13 := none) (x14 := none) (x15 := none) (x16 := none) ts1.r1
      rw [show (S ++ [O.lst []]).length = S.length + 1 by simp, show S ++ [O.lst []] ++ [O.dt lineK] = T by rw [hT]; simp] at evl
      refine ⟨if b = true then [.ref (S.length + 1)] else [], by cases b <;> simp, ?_⟩
      refine x_for (ws := [.lis [.int 0]]) (I := ⟨[.int 0], []⟩) (S' := S ++ [.lst []]) ?_ rfl ?_
      · have u : evK (run tab (n + 6)) (.v 9) [some (.ref (A + 5)), some Q, some wd, some (.str "fig"), some .non, some cd, some .non, some .non, some hdF, some (.ref (A + 1)), some (.ref (A + 2)), some (.ref S.length), none, none, none, none, none] (S ++ [.lst []]) = .ok (.val (.ref (A + 1))) (S ++ [.lst []]) := e_v rfl
        simp only [e_ws, e_ws0, e_srt, u, bd_ok', st]
      · show forL [] (fun d ρ S => exSs (run tab (n + 6)) b39_0 (ρ.set 12 (some d)) S) [.int 0] _ _ = _
        rw [forL_nx isLive_nil (ρ' := [some (.ref (A + 5)), some Q, some wd, some (.str "fig"), some .non, some cd, some .non, some .non, some hdF, some (.ref (A + 1)), some (.ref (A + 2)), some (.ref S.length), some (.int 0), some (.ref (S.length + 1)), none, none, none]) (S' := S ++ [.lst (if b = true then [.ref (S.length + 1)] else []), .dt lineK]), forL_end isLive_nil]
        refine (x_set (d := .ref (S.length + 1)) (S' := T) (by
          show (evK _ _ [some (.ref (A + 5)), some Q, some wd, some (.str "fig"), some .non, some cd, some .non, some .non, some hdF, some (.ref (A + 1)), some (.ref (A + 2)), some (.ref S.length), some (.int 0), none, none, none, none] _).bd toD = _
          rw [evl]; rfl)).trans ?_
        show exSs (run tab (n + 6)) (b39_0.drop 1) [some (.ref (A + 5)), some Q, some wd, some (.str "fig"), some .non, some cd, some .non, some .non, some hdF, some (.ref (A + 1)), some (.ref (A + 2)), some (.ref S.length), some (.int 0), some (.ref (S.length + 1)), none, none, none] T = _
        obtain ⟨ρ, hρ⟩ : ∃ ρ : Env, ρ = [some (.ref (A + 5)), some Q, some wd, some (.str "fig"), some .non, some cd, some .non, some .non, some hdF, some (.ref (A + 1)), some (.ref (A + 2)), some (.ref S.length), some (.int 0), some (.ref (S.length + 1)), none, none, none] := ⟨_, rfl⟩
        rw [← hρ]
        have u5 : ∀ T, evK (run tab (n + 6)) (.v 5) ρ T = .ok (.val cd) T := fun T => e_v (by rw [hρ]; rfl)
        have u13 : ∀ T, evK (run tab (n + 6)) (.v 13) ρ T = .ok (.val (.ref (S.length + 1))) T := fun T => e_v (by rw [hρ]; rfl)
        have u11 : ∀ T, evK (run tab (n + 6)) (.v 11) ρ T = .ok (.val (.ref S.length)) T := fun T => e_v (by rw [hρ]; rfl)
        have cnd : evB (run tab (n + 6)) (.call 37 [(.v 5), (.v 13)]) ρ T = .ok b T := by
          simp only [e_B, e_call, e_ds, e_ds0, u5, u13, bd_ok', toD_val, hb, vv_ok', toB_bl]
        cases b with
        | false =>
          refine (y_if0 cnd).trans ?_
          rw [x_nil, hT]; rfl
        | true =>
          refine (y_ift cnd).trans ?_
          have ap := app_at (w := .ref (S.length + 1)) hT0 (by decide)
          have es : T.set S.length (.lst ([] ++ [D.ref (S.length + 1)])) = S ++ [.lst [.ref (S.length + 1)], .dt lineK] := by
            rw [hT, List.set_append_right _ _ (Nat.le_refl _), Nat.sub_self]; rfl
          rw [es] at ap
          rw [x_exp (w := .val .non) (S' := S ++ [.lst [.ref (S.length + 1)], .dt lineK]) (by simp only [e_m1, u11, u13, bd_ok', isK_at hT0, if_true, ap]), x_nil]
          show exSs (run tab (n + 6)) [] _ _ = _
          rw [x_nil]; rfl
    obtain ⟨ds, hds, lp⟩ := lp
    have hl : ds.length ≤ 1 := by rcases hds with rfl | rfl <;> simp
    obtain ⟨vs, V, w1, w2, w3⟩ := ans_tail (n := n + 5) (T := S ++ [.lst ds, .dt lineK]) (Q := S.length) (ds := ds) (w := x.w) (x0 := some (.ref (A + 5))) (x1 := some Q) (x3 := some (.str "fig")) (x4 := some .non) (x5 := some cd) (x6 := some .non) (x7 := some .non) (x8 := some hdF) (x9 := some (.ref (A + 1))) (x10 := some (.ref (A + 2))) (x12 := some (.int 0)) (x13 := some (.ref (S.length + 1))) (x14 := none) (x15 := none) (x16 := none) (by simp) hl (fun c hm => by
      obtain ⟨v, hv, hi⟩ := line_ix (c := c) (by rw [← ht]; exact (hc c (List.mem_append_left _ hm)).1) (hc c (List.mem_append_left _ hm)).2
      refine ⟨v, hv, fun d hd V => ?_⟩
      rcases hds with rfl | rfl
      · cases hd
      · rw [List.mem_singleton.mp hd]
        exact hi _ _ (by simp))
    refine ⟨vs, w1, w2, fin (U := [.lst ds, .dt lineK]) (V := V) ?_⟩
    rw [hd1, lp, hwd]
    exact w3
  · -- where
    have hq : Q = .tup [wd, .str "where", .non, cd, .non, .non] := by rw [hQ, hwd, hcd, quD, ht, tx_q]
    have hd1 := head hq (ix_dk ts.t5 oT_whr)
    have st := srt_dk0 (C := run tab (n + 6)) (ts.app [.lst []]).r3
    have lp : exSs (run tab (n + 6)) (b39.drop 3) [some (.ref (A + 5)), some Q, some wd, some (.str "where"), some .non, some cd, some .non, some .non, some hdW, some (.ref (A + 3)), some (.ref (A + 4)), some (.ref S.length), none, none, none, none, none] (S ++ [.lst []]) = exSs (run tab (n + 6)) (b39.drop 4) [some (.ref (A + 5)), some Q, some wd, some (.str "where"), some .non, some cd, some .non, some .non, some hdW, some (.ref (A + 3)), some (.ref (A + 4)), some (.ref S.length), none, none, none, none, none] (S ++ [.lst []]) := by
      refine x_for (ws := [.lis []]) (I := ⟨[], []⟩) (S' := S ++ [.lst []]) ?_ rfl (forL_end isLive_nil)
      have u : evK (run tab (n + 6)) (.v 9) [some (.ref (A + 5)), some Q, some wd, some (.str "where"), some .non, some cd, some .non, some .non, some hdW, some (.ref (A + 3)), some (.ref (A + 4)), some (.ref S.length), none, none, none, none, none] (S ++ [.lst []]) = .ok (.val (.ref (A + 3))) (S ++ [.lst []]) := e_v rfl
      simp only [e_ws, e_ws0, e_srt, u, bd_ok', st]
    obtain ⟨vs, V, w1, w2, w3⟩ := ans_tail (n := n + 5) (T := S ++ [.lst []]) (Q := S.length) (ds := []) (w := x.w) (x0 := some (.ref (A + 5))) (x1 := some Q) (x3 := some (.str "where")) (x4 := some .non) (x5 := some cd) (x6 := some .non) (x7 := some .non) (x8 := some hdW) (x9 := some (.ref (A + 3))) (x10 := some (.ref (A + 4))) (x12 := none) (x13 := none) (x14 := none) (x15 := none) (x16 := none) at_new (by simp) (fun c hm => ⟨_, men3.1, fun d hd => by cases hd⟩)
    refine ⟨vs, w1, w2, fin (U := [.lst []]) (V := V) ?_⟩
    rw [hd1, lp, hwd]
    exact w3
end Mi.L

namespace Mi.L
open PySem Mi
/-! ### needs are drawn -/
theorem r_valU {n : Nat} {B U : Store} {k : Nat} {a w c : Int} (hk : k < B.length) (hc : 0 ≤ c) (hc2 : c < 2 ^ 40) :
    ∃ v a' c', v ∈ MENU ∧ run tab (n + 2) 31 [.ref k] (B.set k (dko a w c) ++ U) = .ok (dv v) (B.set k (dko a' w c') ++ U) ∧ c ≤ c' ∧ c' ≤ c + 1 := by
  obtain ⟨v, a', c', h1, h2, h3⟩ := r_val (n := n) (B := B ++ U) (k := k) (a := a) (w := w) (c := c) (by rw [List.length_append]; omega) hc hc2
  rw [set_app hk, set_app hk] at h2
  exact ⟨v, a', c', h1, h2, h3⟩
/-- what a table's questions are answered -/
def Ans (N : Nat) (S : Store) (P : Nat) (t : List Nat) (hs : List (List Nat)) : Prop := ∀ x : Qu, x.t = t → (∀ c ∈ whC x.w ++ cnC x.c, c.1 = t ∧ c.2 ∈ hs) → (∀ y, x.c = some y → dp y ≤ 4) →
  ∃ vs : List Vl, vs.length ≤ 1 ∧ (∀ v ∈ vs, v ∈ MENU) ∧ run tab N 39 [.ref P, quD x] S = .ok (.ref S.length) (S ++ [.lst (vs.map fun v => .tup [dv v])])
/-- the answer is taken, or not -/
theorem need_blk {N : Nat} {S : Store} {P : Nat} {x : Qu} {v : Vl} {vs : List Vl} {x0 x1 x3 x4 x5 x6 x7 x10 : Option D} (hl : vs.length ≤ 1) (hv : v ∈ MENU) (hvs : ∀ v ∈ vs, v ∈ MENU) (hr : run tab N 39 [.ref P, quD x] S = .ok (.ref S.length) (S ++ [.lst (vs.map fun v => .tup [dv v])])) :
    ∃ u ∈ MENU, exSs (run tab N) [.set (.nm 10) (.call 39 [(.v 2), (.v 8)]), .iff (.and_ (.p2 .eq (.p1 .len (.v 10)) (.c (.int 1))) (.or_ (.isi [.str] (.p2 .ix (.p2 .ix (.v 10) (.c (.int 0))) (.c (.int 0)))) (.p2 .le (.p1 .abs (.p2 .ix (.p2 .ix (.v 10) (.c (.int 0))) (.c (.int 0)))) (.p2 .pow (.c (.int 10)) (.c (.int 12)))))) [.set (.nm 9) (.p2 .ix (.p2 .ix (.v 10) (.c (.int 0))) (.c (.int 0)))] []] [x0, x1, some (.ref P), x3, x4, x5, x6, x7, some (quD x), some (dv v), x10] S =
      .ok .nx [x0, x1, some (.ref P), x3, x4, x5, x6, x7, some (quD x), some (dv u), some (.ref S.length)] (S ++ [.lst (vs.map fun v => .tup [dv v])]) := by
  obtain ⟨T, hT⟩ : ∃ T, T = S ++ [O.lst (vs.map fun v => .tup [dv v])] := ⟨_, rfl⟩
  have hat : T[S.length]? = some (.lst (vs.map fun v => .tup [dv v])) := by rw [hT]; exact at_new
  rw [← hT] at hr ⊢
  obtain ⟨Q, hQ⟩ : ∃ Q, Q = quD x := ⟨_, rfl⟩
  rw [← hQ] at hr ⊢
  have st : exSs (run tab N) [.set (.nm 10) (.call 39 [(.v 2), (.v 8)]), .iff (.and_ (.p2 .eq (.p1 .len (.v 10)) (.c (.int 1))) (.or_ (.isi [.str] (.p2 .ix (.p2 .ix (.v 10) (.c (.int 0))) (.c (.int 0)))) (.p2 .le (.p1 .abs (.p2 .ix (.p2 .ix (.v 10) (.c (.int 0))) (.c (.int 0)))) (.p2 .pow (.c (.int 10)) (.c (.int 12)))))) [.set (.nm 9) (.p2 .ix (.p2 .ix (.v 10) (.c (.int 0))) (.c (.int 0)))] []] [x0, x1, some (.ref P), x3, x4, x5, x6, x7, some Q, some (dv v), x10] S =
      exSs (run tab N) [.iff (.and_ (.p2 .eq (.p1 .len (.v 10)) (.c (.int 1))) (.or_ (.isi [.str] (.p2 .ix (.p2 .ix (.v 10) (.c (.int 0))) (.c (.int 0)))) (.p2 .le (.p1 .abs (.p2 .ix (.p2 .ix (.v 10) (.c (.int 0))) (.c (.int 0)))) (.p2 .pow (.c (.int 10)) (.c (.int 12)))))) [.set (.nm 9) (.p2 .ix (.p2 .ix (.v 10) (.c (.int 0))) (.c (.int 0)))] []] [x0, x1, some (.ref P), x3, x4, x5, x6, x7, some Q, some (dv v), some (.ref S.length)] T := by
    have v2 : ∀ T, evK (run tab N) (.v 2) [x0, x1, some (.ref P), x3, x4, x5, x6, x7, some Q, some (dv v), x10] T = .ok (.val (.ref P)) T := fun T => e_v rfl
    have v8 : ∀ T, evK (run tab N) (.v 8) [x0, x1, some (.ref P), x3, x4, x5, x6, x7, some Q, some (dv v), x10] T = .ok (.val Q) T := fun T => e_v rfl
    exact (x_set (d := .ref S.length) (S' := T) (by simp only [e_D, e_call, e_ds, e_ds0, v2, v8, bd_ok', toD_val, hr, vv_ok'])).trans rfl
  rw [st]
  have v10 : ∀ T, evK (run tab N) (.v 10) [x0, x1, some (.ref P), x3, x4, x5, x6, x7, some Q, some (dv v), some (.ref S.length)] T = .ok (.val (.ref S.length)) T := fun T => e_v rfl
  have ln := len_at hat
  obtain rfl | ⟨u, rfl⟩ : vs = [] ∨ ∃ u, vs = [u] := by
    match vs, hl with
    | [], _ => exact .inl rfl
    | [u], _ => exact .inr ⟨u, rfl⟩
  · refine ⟨v, hv, ?_⟩
    rw [x_if0 (S' := T), x_nil]
    simp only [e_B, e_and, e_p2, e_p1, e_c, v10, bd_ok', ln]
    rfl
  · have ln1 : p1 .len (.val (.ref S.length)) T = .ok (.val (.int 1)) T := ln
    clear ln
    have i0 : p2 .ix (.val (.ref S.length)) (.val (.int 0)) T = .ok (.val (.tup [dv u])) T := ix_at hat rfl
    have i1 : p2 .ix (.val (.tup [dv u])) (.val (.int 0)) T = .ok (.val (dv u)) T := ix_tup rfl
    have take : exSs (run tab N) [.set (.nm 9) (.p2 .ix (.p2 .ix (.v 10) (.c (.int 0))) (.c (.int 0)))] [x0, x1, some (.ref P), x3, x4, x5, x6, x7, some Q, some (dv v), some (.ref S.length)] T = .ok .nx [x0, x1, some (.ref P), x3, x4, x5, x6, x7, some Q, some (dv u), some (.ref S.length)] T := by
      rw [x_set (d := dv u) (S' := T) (by simp only [e_D, e_p2, e_c, v10, bd_ok', i0, i1, toD_val]), x_nil]; rfl
    have one : p2 .eq (.val (.int 1)) (.val (.int 1)) T = .ok (.val (.bl true)) T := rfl
    have yes : evB (run tab N) (.and_ (.p2 .eq (.p1 .len (.v 10)) (.c (.int 1))) (.or_ (.isi [.str] (.p2 .ix (.p2 .ix (.v 10) (.c (.int 0))) (.c (.int 0)))) (.p2 .le (.p1 .abs (.p2 .ix (.p2 .ix (.v 10) (.c (.int 0))) (.c (.int 0)))) (.p2 .pow (.c (.int 10)) (.c (.int 12)))))) [x0, x1, some (.ref P), x3, x4, x5, x6, x7, some Q, some (dv v), some (.ref S.length)] T = .ok true T ∨
        evB (run tab N) (.and_ (.p2 .eq (.p1 .len (.v 10)) (.c (.int 1))) (.or_ (.isi [.str] (.p2 .ix (.p2 .ix (.v 10) (.c (.int 0))) (.c (.int 0)))) (.p2 .le (.p1 .abs (.p2 .ix (.p2 .ix (.v 10) (.c (.int 0))) (.c (.int 0)))) (.p2 .pow (.c (.int 10)) (.c (.int 12)))))) [x0, x1, some (.ref P), x3, x4, x5, x6, x7, some Q, some (dv v), some (.ref S.length)] T = .ok false T := by
      cases u with
      | inr y =>
        have is : isiW [.str] (.val (dv (.inr y))) T = .ok (.val (.bl true)) T := rfl
        left
        simp only [e_B, e_and, e_or, e_isi, e_p2, e_p1, e_c, v10, bd_ok', ln1, one, toB_bl, if_true, i0, i1, is, vv_ok']
      | inl j =>
        have is : isiW [.str] (.val (dv (.inl j))) T = .ok (.val (.bl false)) T := rfl
        have ab : p1 .abs (.val (dv (.inl j))) T = .ok (.val (.int (if j < 0 then -j else j))) T := rfl
        by_cases hj : (if j < 0 then -j else j) ≤ 10 ^ 12
        · left
          simp only [e_B, e_and, e_or, e_isi, e_p2, e_p1, e_c, v10, bd_ok', ln1, one, toB_bl, if_true, i0, i1, is, ab, pow12, le_ii, decide_eq_true hj, Bool.false_eq_true, if_false]
        · right
          simp only [e_B, e_and, e_or, e_isi, e_p2, e_p1, e_c, v10, bd_ok', ln1, one, toB_bl, if_true, i0, i1, is, ab, pow12, le_ii, decide_eq_false hj, Bool.false_eq_true, if_false]
    rcases yes with h | h
    · refine ⟨u, hvs u List.mem_cons_self, ?_⟩
      rw [x_ift h, take]
      show exSs (run tab N) [] _ _ = _
      rw [x_nil]
    · refine ⟨v, hv, ?_⟩
      rw [x_if0 h, x_nil]
theorem r_dneed {n : Nat} {B : Store} {k P : Nat} {a w c : Int} {o : O} {hd : List Nat → Option (List (List Nat))} {t : List Nat} (tb : Tb o hd) (hk : k < B.length) (hP : B[P]? = some o) (hPk : P ≠ k) (ht : t ∈ TAB) (hc : 0 ≤ c) (hc2 : c + 400 < 2 ^ 39)
    (hA : ∀ (a c : Int) (U : Store) (hs : List (List Nat)), hd t = some hs → Ans (n + 7) (B.set k (dko a w c) ++ U) P t hs) :
    ∃ v x a' c', gs (.need v x) ∧ run tab (n + 8) 42 [.ref k, tx t, .ref P] (B.set k (dko a w c)) = .ok (spD (.need v x)) (B.set k (dko a' w c')) ∧ c ≤ c' ∧ c' ≤ c + 200 := by
  have hbl : ∀ a c, (B.set k (dko a w c)).length = B.length := fun a c => List.length_set
  -- from the list of columns on
  have tail : ∀ (ns : List (List Nat)) (U : Store) (P2 : Nat), (∀ S : Store, S.length = B.length → (S ++ U)[P2]? = some (.lst ((ns.map fun x => ((t, x) : Cl)).map dcl))) → B.length ≤ P2 → ns ≠ [] → ns.length ≤ 20 → (∀ x ∈ ns, x ∈ NAM) → (∀ hs, hd t = some hs → ns = hs) →
      ∃ v x a' c' V, gs (.need v x) ∧ Rt (exSs (run tab (n + 7)) (b42.drop 2) [some (.ref k), some (tx t), some (.ref P), some (.ref P2), none, none, none, none, none, none, none] (B.set k (dko a w c) ++ U)) (spD (.need v x)) (B.set k (dko a' w c') ++ V) ∧ c ≤ c' ∧ c' ≤ c + 200 := by
    intro ns U P2 hU hP2 hne hl hN hhs
    have hpos : 0 < ns.length := List.length_pos_iff.mpr hne
    have em : ((ns.map fun x => ((t, x) : Cl)).map dcl) = ns.map fun x => dcl (t, x) := by rw [List.map_map]; rfl
    obtain ⟨r, a1, c1, t1, t2, t3, t4, t5⟩ := take_at (B := B) (T := U) (k := k) (a := a) (w := w) (c := c) hk (n := n + 6) (m := (ns.length : Nat)) (by omega) (by omega) hc (by omega)
    obtain ⟨y, hy, hat⟩ := at_map (f := fun x => dcl (t, x)) (l := ns) t2 t3
    have hS0 := hU _ (hbl a c)
    have hS1 := hU _ (hbl a1 c1)
    rw [em] at hS0 hS1
    have ln := len_at hS0
    rw [List.length_map] at ln
    have ix := ix_at hS1 hat
    obtain ⟨r2, a2, c2, u1, u2, u3, u4, u5⟩ := take_at (B := B) (T := U) (k := k) (a := a1) (w := w) (c := c1) hk (n := n + 6) (m := 4) (by decide) (by decide) (by omega) (by omega)
    obtain ⟨wh, hwh, hat2⟩ := at_map (f := whD) (l := [Wh.cnt, .sum (t, y), .most (t, y), .cols (t, y)]) u2 (by show r2 < ((4 : Nat) : Int); omega)
    have hwc : ∀ z ∈ whC wh, z = (t, y) := fun z hz => by
      simp only [List.mem_cons, List.not_mem_nil, or_false] at hwh
      rcases hwh with rfl | rfl | rfl | rfl
      · cases hz
      · exact List.mem_singleton.mp hz
      · exact List.mem_singleton.mp hz
      · exact List.mem_singleton.mp hz
    obtain ⟨dy, hdy⟩ : ∃ d, d = dcl (t, y) := ⟨_, rfl⟩
    have s1 : exSs (run tab (n + 7)) (b42.drop 2) [some (.ref k), some (tx t), some (.ref P), some (.ref P2), none, none, none, none, none, none, none] (B.set k (dko a w c) ++ U) = exSs (run tab (n + 7)) (b42.drop 5) [some (.ref k), some (tx t), some (.ref P), some (.ref P2), none, some dy, some (whD wh), some .non, none, none, none] (B.set k (dko a2 w c2) ++ U) := by
      refine (x_set (d := dy) (S' := B.set k (dko a1 w c1) ++ U) ?_).trans ?_
      · have v0 : ∀ T, evK (run tab (n + 7)) (.v 0) [some (.ref k), some (tx t), some (.ref P), some (.ref P2), none, none, none, none, none, none, none] T = .ok (.val (.ref k)) T := fun T => e_v rfl
        have v3 : ∀ T, evK (run tab (n + 7)) (.v 3) [some (.ref k), some (tx t), some (.ref P), some (.ref P2), none, none, none, none, none, none, none] T = .ok (.val (.ref P2)) T := fun T => e_v rfl
        simp only [e_D, e_p2, e_call, e_ds, e_ds0, e_p1, v0, v3, bd_ok', toD_val, ln, t1, vv_ok', ix, hdy]
      refine (x_set (d := whD wh) (S' := B.set k (dko a2 w c2) ++ U) ?_).trans ?_
      · show evD _ _ [some (.ref k), some (tx t), some (.ref P), some (.ref P2), none, some dy, none, none, none, none, none] _ = _
        have v0 : ∀ T, evK (run tab (n + 7)) (.v 0) [some (.ref k), some (tx t), some (.ref P), some (.ref P2), none, some dy, none, none, none, none, none] T = .ok (.val (.ref k)) T := fun T => e_v rfl
        have v5 : ∀ T, evK (run tab (n + 7)) (.v 5) [some (.ref k), some (tx t), some (.ref P), some (.ref P2), none, some dy, none, none, none, none, none] T = .ok (.val dy) T := fun T => e_v rfl
        have dz : ∀ T, evK (run tab (n + 7)) (.disp [(.tup [(.c (.str "count"))]), (.tup [(.c (.str "sum")), (.v 5)]), (.tup [(.c (.str "most")), (.v 5)]), (.tup [(.c (.str "columns")), (.tup [(.v 5)])])]) [some (.ref k), some (tx t), some (.ref P), some (.ref P2), none, some dy, none, none, none, none, none] T = .ok (.lis ([Wh.cnt, .sum (t, y), .most (t, y), .cols (t, y)].map whD)) T := fun T => by
          simp only [e_disp, e_tup, e_ds, e_ds0, e_c, v5, bd_ok', toD_val, vv_ok', List.length_cons, List.length_nil, if_pos sz1, if_pos sz2]
          rw [hdy, if_pos (show 0 + 1 + 1 + 1 + 1 ≤ sizeLine from sz4)]; rfl
        have ix2 : p2 .ix (.lis ([Wh.cnt, .sum (t, y), .most (t, y), .cols (t, y)].map whD)) (.val (.int r2)) (B.set k (dko a2 w c2) ++ U) = .ok (.val (whD wh)) (B.set k (dko a2 w c2) ++ U) := ix_lis hat2
        simp only [e_D, e_p2, e_call, e_ds, e_ds0, e_c, dz, v0, bd_ok', toD_val, u1, vv_ok', ix2]
      exact (y_set .non (by simp)).trans rfl
    obtain ⟨r3, a3, c3, p1', p2', p3', p4', p5'⟩ := take_at (B := B) (T := U) (k := k) (a := a2) (w := w) (c := c2) hk (n := n + 6) (m := 3) (by decide) (by decide) (by omega) (by omega)
    -- the condition
    have s2 : ∃ (cn : Option Cn) (a4 c4 : Int), (∀ z, cn = some z → gd z ∧ dp z ≤ 1 ∧ ∀ e ∈ csC z, e.1 = t ∧ e.2 ∈ ns) ∧ c3 ≤ c4 ∧ c4 ≤ c3 + 80 ∧ exSs (run tab (n + 7)) (b42.drop 5) [some (.ref k), some (tx t), some (.ref P), some (.ref P2), none, some dy, some (whD wh), some .non, none, none, none] (B.set k (dko a2 w c2) ++ U) = exSs (run tab (n + 7)) (b42.drop 6) [some (.ref k), some (tx t), some (.ref P), some (.ref P2), none, some dy, some (whD wh), some (cnD cn), none, none, none] (B.set k (dko a4 w c4) ++ U) := by
      have v0 : ∀ T, evK (run tab (n + 7)) (.v 0) [some (.ref k), some (tx t), some (.ref P), some (.ref P2), none, some dy, some (whD wh), some .non, none, none, none] T = .ok (.val (.ref k)) T := fun T => e_v rfl
      have v3 : ∀ T, evK (run tab (n + 7)) (.v 3) [some (.ref k), some (tx t), some (.ref P), some (.ref P2), none, some dy, some (whD wh), some .non, none, none, none] T = .ok (.val (.ref P2)) T := fun T => e_v rfl
      have cnd : evB (run tab (n + 7)) (.p2 .gt (.call 30 [(.v 0), (.c (.int 3))]) (.c (.int 0))) [some (.ref k), some (tx t), some (.ref P), some (.ref P2), none, some dy, some (whD wh), some .non, none, none, none] (B.set k (dko a2 w c2) ++ U) = .ok (decide (0 < r3)) (B.set k (dko a3 w c3) ++ U) := by
        simp only [e_B, e_p2, e_call, e_ds, e_ds0, e_c, v0, bd_ok', toD_val, p1', vv_ok', gt_ii, toB_bl]
      by_cases h0 : 0 < r3
      · obtain ⟨z, a4, c4, g1, g2, g3, h1, h2, h3⟩ := drawU (n := n + 3) (B := B) (U := U) (k := k) (P2 := P2) (dd := 1) (a := a3) (w := w) (c := c3) (t := t) (ns := ns) hk (hU B rfl) (by omega) hne (by omega) ht hN (by omega) (by omega)
        refine ⟨some z, a4, c4, (fun e he => by cases he; exact ⟨g1, g2, g3⟩), h2, by omega, ?_⟩
        rw [decide_eq_true h0] at cnd
        refine (x_ift cnd).trans ?_
        have h1 : run tab (n + 7) 34 [.ref k, .ref P2, .int 1] _ = _ := h1
        rw [x_set (d := enc z) (S' := B.set k (dko a4 w c4) ++ U) (by simp only [e_D, e_call, e_ds, e_ds0, e_c, v0, v3, bd_ok', toD_val, h1, vv_ok']), x_nil]
        rfl
      · rw [decide_eq_false h0] at cnd
        exact ⟨none, a3, c3, (fun e he => by cases he), Int.le_refl _, by omega, (x_if0 cnd).trans rfl⟩
    obtain ⟨cn, a4, c4, gcn, q1, q2, s2⟩ := s2
    obtain ⟨v, a5, c5, hv, f1, f2, f3⟩ := r_valU (n := n + 5) (B := B) (U := U) (k := k) (a := a4) (w := w) (c := c4) hk (by omega) (by omega)
    obtain ⟨x, hx⟩ : ∃ x : Qu, x = ⟨wh, t, cn⟩ := ⟨_, rfl⟩
    have hxq : D.tup [whD wh, tx t, .non, cnD cn, .non, .non] = quD x := by rw [hx]; rfl
    have gx : gq x := by
      subst hx
      refine ⟨fun c hc => ?_, ht, fun z hz => ⟨(gcn z hz).1, by have := (gcn z hz).2.1; omega⟩, fun c hc => ?_⟩
      · rw [hwc c hc]; exact ⟨ht, hN y hy⟩
      · rcases List.mem_append.mp hc with h | h
        · rw [hwc c h]
        · cases hcn : cn with
          | none => rw [hcn] at h; cases h
          | some z => rw [hcn] at h; exact ((gcn z hcn).2.2 c h).1
    obtain ⟨wd, hwd⟩ : ∃ d, d = whD wh := ⟨_, rfl⟩
    obtain ⟨cd, hcd⟩ : ∃ d, d = cnD cn := ⟨_, rfl⟩
    rw [← hwd] at s1 s2 hxq
    rw [← hcd] at s2 hxq
    have s3 : exSs (run tab (n + 7)) (b42.drop 6) [some (.ref k), some (tx t), some (.ref P), some (.ref P2), none, some dy, some wd, some cd, none, none, none] (B.set k (dko a4 w c4) ++ U) = exSs (run tab (n + 7)) (b42.drop 8) [some (.ref k), some (tx t), some (.ref P), some (.ref P2), none, some dy, some wd, some cd, some (quD x), some (dv v), none] (B.set k (dko a5 w c5) ++ U) := by
      refine (y_set (quD x) ?_).trans ?_
      · have v6 : ∀ T, evK (run tab (n + 7)) (.v 6) [some (.ref k), some (tx t), some (.ref P), some (.ref P2), none, some dy, some wd, some cd, none, none, none] T = .ok (.val wd) T := fun T => e_v rfl
        have v1 : ∀ T, evK (run tab (n + 7)) (.v 1) [some (.ref k), some (tx t), some (.ref P), some (.ref P2), none, some dy, some wd, some cd, none, none, none] T = .ok (.val (tx t)) T := fun T => e_v rfl
        have v7 : ∀ T, evK (run tab (n + 7)) (.v 7) [some (.ref k), some (tx t), some (.ref P), some (.ref P2), none, some dy, some wd, some cd, none, none, none] T = .ok (.val cd) T := fun T => e_v rfl
        simp only [e_D, e_tup, e_ds, e_ds0, e_c, v1, v6, v7, bd_ok', toD_val, vv_ok', List.length_cons, List.length_nil]
        rw [if_pos (show 0 + 1 + 1 + 1 + 1 + 1 + 1 ≤ sizeLine from sz6), hxq]; rfl
      · obtain ⟨Q, hQ⟩ : ∃ Q, Q = quD x := ⟨_, rfl⟩
        rw [← hQ]
        refine (x_set (d := dv v) (S' := B.set k (dko a5 w c5) ++ U) ?_).trans rfl
        show evD _ _ [some (.ref k), some (tx t), some (.ref P), some (.ref P2), none, some dy, some wd, some cd, some Q, none, none] _ = _
        have v0 : ∀ T, evK (run tab (n + 7)) (.v 0) [some (.ref k), some (tx t), some (.ref P), some (.ref P2), none, some dy, some wd, some cd, some Q, none, none] T = .ok (.val (.ref k)) T := fun T => e_v rfl
        simp only [e_D, e_call, e_ds, e_ds0, v0, bd_ok', toD_val, f1, vv_ok']
    have fin : ∀ (u : Vl) (z : Option D) (S : Store), Rt (exSs (run tab (n + 7)) (b42.drop 9) [some (.ref k), some (tx t), some (.ref P), some (.ref P2), none, some dy, some wd, some cd, some (quD x), some (dv u), z] S) (spD (.need u x)) S := by
      intro u z S
      obtain ⟨Q, hQ⟩ : ∃ Q, Q = quD x := ⟨_, rfl⟩
      rw [spD, ← hQ]
      refine Rt.fin (y_ret ?_)
      have v9 : ∀ T, evK (run tab (n + 7)) (.v 9) [some (.ref k), some (tx t), some (.ref P), some (.ref P2), none, some dy, some wd, some cd, some Q, some (dv u), z] T = .ok (.val (dv u)) T := fun T => e_v rfl
      have v8 : ∀ T, evK (run tab (n + 7)) (.v 8) [some (.ref k), some (tx t), some (.ref P), some (.ref P2), none, some dy, some wd, some cd, some Q, some (dv u), z] T = .ok (.val Q) T := fun T => e_v rfl
      simp only [e_D, e_tup, e_ds, e_ds0, e_c, v8, v9, bd_ok', toD_val, vv_ok', List.length_cons, List.length_nil]
      rw [if_pos (show 0 + 1 + 1 + 1 ≤ sizeLine from sz3)]; rfl
    have hPU : ∀ a c, (B.set k (dko a w c) ++ U)[P]? = some o := fun a c => at_set hP hPk
    have cin := tb.inn _ P (hPU a5 c5) t ht
    have v1 : ∀ T, evK (run tab (n + 7)) (.v 1) [some (.ref k), some (tx t), some (.ref P), some (.ref P2), none, some dy, some wd, some cd, some (quD x), some (dv v), none] T = .ok (.val (tx t)) T := fun T => e_v rfl
    have v2 : ∀ T, evK (run tab (n + 7)) (.v 2) [some (.ref k), some (tx t), some (.ref P), some (.ref P2), none, some dy, some wd, some cd, some (quD x), some (dv v), none] T = .ok (.val (.ref P)) T := fun T => e_v rfl
    have v0 : ∀ T, evK (run tab (n + 7)) (.v 0) [some (.ref k), some (tx t), some (.ref P), some (.ref P2), none, some dy, some wd, some cd, some (quD x), some (dv v), none] T = .ok (.val (.ref k)) T := fun T => e_v rfl
    cases e : hd t with
    | none =>
      rw [e] at cin
      refine ⟨v, x, a5, c5, U, ⟨hv, gx⟩, ?_, by omega, by omega⟩
      rw [s1, s2, s3]
      refine Rt.go (x_if0 (S' := B.set k (dko a5 w c5) ++ U) ?_) (fin v none _)
      simp only [e_B, e_and, e_p2, v1, v2, bd_ok', cin, toB_bl]
      rfl
    | some hs =>
      rw [e] at cin
      obtain ⟨r6, a6, c6, g1, g2, g3, g4, g5⟩ := take_at (B := B) (T := U) (k := k) (a := a5) (w := w) (c := c5) hk (n := n + 6) (m := 4) (by decide) (by decide) (by omega) (by omega)
      have cnd : evB (run tab (n + 7)) (.and_ (.p2 .inn (.v 1) (.v 2)) (.p2 .gt (.call 30 [(.v 0), (.c (.int 4))]) (.c (.int 0)))) [some (.ref k), some (tx t), some (.ref P), some (.ref P2), none, some dy, some wd, some cd, some (quD x), some (dv v), none] (B.set k (dko a5 w c5) ++ U) = .ok (decide (0 < r6)) (B.set k (dko a6 w c6) ++ U) := by
        simp only [e_B, e_and, e_p2, v1, v2, bd_ok', cin, toB_bl, Option.isSome_some, if_true, e_call, e_ds, e_ds0, e_c, v0, toD_val, g1, vv_ok', gt_ii]
      by_cases h0 : 0 < r6
      · rw [decide_eq_true h0] at cnd
        obtain ⟨vs, w1, w2, w3⟩ := hA a6 c6 U hs e x (by rw [hx]) (fun z hz => by
          have hns := hhs hs e
          subst hx
          rcases List.mem_append.mp hz with h | h
          · rw [hwc z h]; exact ⟨rfl, by rw [← hns]; exact hy⟩
          · cases hcn : cn with
            | none => rw [hcn] at h; cases h
            | some z2 => rw [hcn] at h; rw [← hns]; exact (gcn z2 hcn).2.2 z h) (fun z hz => by
          subst hx
          have := (gcn z hz).2.1
          omega)
        obtain ⟨u, hu, blk⟩ := need_blk (v := v) (vs := vs) (x0 := some (.ref k)) (x1 := some (tx t)) (x3 := some (.ref P2)) (x4 := none) (x5 := some dy) (x6 := some wd) (x7 := some cd) (x10 := none) w1 hv w2 w3
        refine ⟨u, x, a6, c6, U ++ [.lst (vs.map fun v => .tup [dv v])], ⟨hu, gx⟩, ?_, by omega, by omega⟩
        rw [s1, s2, s3, ← List.append_assoc]
        refine Rt.go (x_ift cnd) ?_
        rw [blk]
        exact fin u _ _
      · rw [decide_eq_false h0] at cnd
        refine ⟨v, x, a6, c6, U, ⟨hv, gx⟩, ?_, by omega, by omega⟩
        rw [s1, s2, s3]
        exact Rt.go (x_if0 cnd) (fin v none _)
  obtain ⟨T0, hT0⟩ : ∃ T0, T0 = B.set k (dko a w c) ++ [O.lst [.tup [tx t, .str "a"]]] := ⟨_, rfl⟩
  have hT0l : T0.length = B.length + 1 := by rw [hT0]; simp
  have cin := tb.inn T0 P (by rw [hT0]; exact at_set hP hPk) t ht
  have head : ∀ {v : Vl} {x : Qu} {a' c' : Int} {V : Store}, Rt (exSs (run tab (n + 7)) (b42.drop 1) [some (.ref k), some (tx t), some (.ref P), some (.ref B.length), none, none, none, none, none, none, none] T0) (spD (.need v x)) (B.set k (dko a' w c') ++ V) → run tab (n + 8) 42 [.ref k, tx t, .ref P] (B.set k (dko a w c)) = .ok (spD (.need v x)) (B.set k (dko a' w c')) := by
    intro v x a' c' V h
    refine r_run (F := ⟨3, 11, b42⟩) (S' := B.set k (dko a' w c') ++ V) rfl rfl ?_ (pack_dk hk (und_spD _ _))
    refine Rt.go (x_set (d := .ref B.length) (S' := T0) ?_) h
    simp [sz1, sz2, hT0]
  have v1 : ∀ T, evK (run tab (n + 7)) (.v 1) [some (.ref k), some (tx t), some (.ref P), some (.ref B.length), none, none, none, none, none, none, none] T = .ok (.val (tx t)) T := fun T => e_v rfl
  have v2 : ∀ T, evK (run tab (n + 7)) (.v 2) [some (.ref k), some (tx t), some (.ref P), some (.ref B.length), none, none, none, none, none, none, none] T = .ok (.val (.ref P)) T := fun T => e_v rfl
  cases e : hd t with
  | none =>
    rw [e] at cin
    obtain ⟨v, x, a', c', V, g, h1, h2, h3⟩ := tail [q "a"] [O.lst [.tup [tx t, .str "a"]]] B.length (fun S hS => by
      rw [← hS]
      simp only [List.map_cons, List.map_nil, dcl, tx_q]
      exact at_new) (Nat.le_refl _) (by simp) (by simp) (fun x hx => by rw [List.mem_singleton.mp hx]; exact azz.1) (fun hs h => by rw [e] at h; cases h)
    rw [← hT0] at h1
    refine ⟨v, x, a', c', g, head (V := V) ?_, h2, h3⟩
    exact Rt.go (x_if0 (S' := T0) (by simp only [e_B, e_p2, v1, v2, bd_ok', cin, toB_bl]; rfl)) h1
  | some hs =>
    rw [e] at cin
    obtain ⟨n1, n2, n3⟩ := tb.nam t hs e
    obtain ⟨r2, o2, ix⟩ := tb.ix T0 P (by rw [hT0]; exact at_set hP hPk) t ht hs e
    have i0 : p2 .ix (.val (.tup [.tup (hs.map tx), r2, o2])) (.val (.int 0)) T0 = .ok (.val (.tup (hs.map tx))) T0 := ix_tup rfl
    obtain ⟨v, x, a', c', V, g, h1, h2, h3⟩ := tail hs ([O.lst [.tup [tx t, .str "a"]]] ++ [O.lst ((hs.map fun x => ((t, x) : Cl)).map dcl)]) (B.length + 1) (fun S hS => by
      rw [← List.append_assoc, show B.length + 1 = (S ++ [O.lst [.tup [tx t, .str "a"]]]).length by simp [hS]]
      exact at_new) (by omega) n1 (by omega) n3 (fun hs2 h2 => by rw [e] at h2; injection h2)
    rw [← List.append_assoc, ← hT0] at h1
    refine ⟨v, x, a', c', g, head (V := V) ?_, h2, h3⟩
    refine Rt.go (x_ift (S' := T0) (by simp only [e_B, e_p2, v1, v2, bd_ok', cin, toB_bl]; rfl)) ?_
    have cp := comp_pure (C := run tab (n + 7)) (ρ := [some (.ref k), some (tx t), some (.ref P), some (.ref B.length), none, none, none, none, none, none, none]) (S := T0) (S' := T0) (i := 4) (k := .it) (is := [(.p2 .ix (.p2 .ix (.v 2) (.v 1)) (.c (.int 0)))]) (e := .tup [(.v 1), (.v 4)]) (own := [4]) (ws := [.val (.tup (hs.map tx))]) (I := ⟨hs.map tx, []⟩) (f := fun d => .tup [tx t, d]) (by simp only [e_ws, e_ws0, e_p2, e_c, v1, v2, bd_ok', ix, i0]) rfl isLive_nil (by simp only [List.length_map]; exact Nat.le_trans n2 (by decide)) (fun d hd => by
      have x1 : ∀ T, evK (run tab (n + 7)) (.v 1) ((wipeD [some (.ref k), some (tx t), some (.ref P), some (.ref B.length), none, none, none, none, none, none, none] [4]).set 4 (some d)) T = .ok (.val (tx t)) T := fun T => e_v rfl
      have x4 : ∀ T, evK (run tab (n + 7)) (.v 4) ((wipeD [some (.ref k), some (tx t), some (.ref P), some (.ref B.length), none, none, none, none, none, none, none] [4]).set 4 (some d)) T = .ok (.val d) T := fun T => e_v rfl
      simp only [e_D, e_tup, e_ds, e_ds0, x1, x4, bd_ok', toD_val, List.length_cons, List.length_nil]
      rw [if_pos (by decide)]; rfl)
    have em : (hs.map tx).map (fun d => D.tup [tx t, d]) = (hs.map fun x => ((t, x) : Cl)).map dcl := by
      rw [List.map_map, List.map_map]; rfl
    simp only [em] at cp
    rw [x_set (d := .ref (B.length + 1)) (S' := T0 ++ [O.lst ((hs.map fun x => ((t, x) : Cl)).map dcl)]) (by simp only [e_D, cp, bd_ok', toD_lis, hT0l]), x_nil]
    exact h1
end Mi.L

namespace Mi.L
open PySem Mi
/-! ### steps are drawn -/
theorem nin_of {S : Store} {x y : W} {b : Bool} (h : p2 .inn x y S = .ok (.val (.bl b)) S) : p2 .nin x y S = .ok (.val (.bl (!b))) S := by
  have h : ob (isIn x y S) S = .ok (.val (.bl b)) S := h
  show ob ((isIn x y S).map (!·)) S = _
  cases e : isIn x y S with
  | none => rw [e] at h; cases h
  | some c =>
    rw [e] at h
    injection h with h
    injection h with h
    injection h with h
    rw [h]; rfl
def DEL : List Int := [0, 0, 0, 0, 0, 0, 1, -1]
theorem del_ok : (DEL.all fun d => decide (-1 ≤ d) && decide (d ≤ 1)) = true := by decide +kernel
/-- values of the menu, one behind the other -/
theorem draw_vals {n : Nat} {B : Store} {k : Nat} {w : Int} {ρ : Env} (hk : k < B.length) (hρ : ∀ d, ((wipeD ρ [5]).set 5 (some d))[0]? = some (some (.ref k))) : ∀ (items acc : List D) (a c : Int), 0 ≤ c → c + items.length < 2 ^ 40 → acc.length + items.length ≤ 1000 →
    ∃ (vs : List Vl) (a' c' : Int), vs.length = items.length ∧ (∀ v ∈ vs, v ∈ MENU) ∧ compL [] (turnC (run tab (n + 2)) 5 (.call 31 [(.v 0)]) [5] ρ) items (B.set k (dko a w c)) acc = .ok (acc ++ vs.map dv) (B.set k (dko a' w c')) ∧ c ≤ c' ∧ c' ≤ c + items.length
  | [], acc, a, c, _, _, _ => ⟨[], a, c, rfl, (fun v hv => by cases hv), (by rw [compL_end]; simp), Int.le_refl _, by simp⟩
  | d :: r, acc, a, c, hc, hc2, hz => by
    rw [List.length_cons] at hc2 hz
    obtain ⟨v, a1, c1, hv, f1, f2, f3⟩ := r_val (n := n) (B := B) (k := k) (a := a) (w := w) (c := c) hk hc (by omega)
    obtain ⟨vs, a2, c2, g1, g2, g3, g4, g5⟩ := draw_vals hk hρ r (acc ++ [dv v]) a1 c1 (by omega) (by omega) (by rw [List.length_append, List.length_cons, List.length_nil]; omega)
    refine ⟨v :: vs, a2, c2, by rw [List.length_cons, List.length_cons, g1], fun u hu => ?_, ?_, by omega, by rw [List.length_cons]; omega⟩
    · rcases List.mem_cons.mp hu with rfl | hu
      · exact hv
      · exact g2 u hu
    · have tn : turnC (run tab (n + 2)) 5 (.call 31 [(.v 0)]) [5] ρ d (B.set k (dko a w c)) = .ok (some (dv v)) (B.set k (dko a1 w c1)) := by
        show ((evD _ _ _ _).bd fun d S => R.ok (some d) S).nox = _
        have u0 : ∀ T, evK (run tab (n + 2)) (.v 0) ((wipeD ρ [5]).set 5 (some d)) T = .ok (.val (.ref k)) T := fun T => e_v (hρ d)
        simp only [e_D, e_call, e_ds, e_ds0, u0, bd_ok', toD_val, f1, vv_ok']
        rfl
      rw [compL_nx tn (Nat.lt_of_lt_of_le (by omega : acc.length < 1000) (by decide)), g3]
      simp
/-- rows put -/
theorem dstep_put {n : Nat} {B : Store} {k P : Nat} {a w c : Int} {o : O} {hd : List Nat → Option (List (List Nat))} {t : List Nat} {r3 : D} (tb : Tb o hd) (h3 : ∀ hs, hd t = some hs → hs.length ≤ 5) (hk : k < B.length) (hP : B[P]? = some o) (hPk : P ≠ k) (ht : t ∈ TAB) (hc : 0 ≤ c) (hc2 : c + 100 < 2 ^ 39) :
    ∃ vs a' c', gs (.put t vs) ∧ Rt (exSs (run tab (n + 2)) [.set (.nm 4) (.c (.int 2)), .iff (.p2 .inn (.v 2) (.v 1)) [.set (.nm 4) (.p1 .len (.p2 .ix (.p2 .ix (.v 1) (.v 2)) (.c (.int 0))))] [], .set (.nm 4) (.p2 .max_ (.c (.int 1)) (.p2 .add (.v 4) (.p2 .ix (.disp [(.c (.int 0)), (.c (.int 0)), (.c (.int 0)), (.c (.int 0)), (.c (.int 0)), (.c (.int 0)), (.c (.int 1)), (.p1 .neg (.c (.int 1)))]) (.call 30 [(.v 0), (.c (.int 8))])))), .ret (.tup [(.c (.str "put")), (.v 2), (.p1 .tuple_ (.comp (.nm 5) .rng1 [(.v 4)] [] (.call 31 [(.v 0)]) [5]))])] [some (.ref k), some (.ref P), some (tx t), some r3, none, none, none] (B.set k (dko a w c))) (spD (.put t vs)) (B.set k (dko a' w c')) ∧ c ≤ c' ∧ c' ≤ c + 50 := by
  have hPS : ∀ a c, (B.set k (dko a w c))[P]? = some o := fun a c => by
    rw [List.getElem?_set_ne (Ne.symm hPk)]; exact hP
  have cin := tb.inn _ P (hPS a c) t ht
  -- how many
  obtain ⟨m, hm, s1⟩ : ∃ m : Nat, m ≤ 5 ∧ ∀ r, exSs (run tab (n + 2)) (.set (.nm 4) (.c (.int 2)) :: .iff (.p2 .inn (.v 2) (.v 1)) [.set (.nm 4) (.p1 .len (.p2 .ix (.p2 .ix (.v 1) (.v 2)) (.c (.int 0))))] [] :: r) [some (.ref k), some (.ref P), some (tx t), some r3, none, none, none] (B.set k (dko a w c)) = exSs (run tab (n + 2)) r [some (.ref k), some (.ref P), some (tx t), some r3, some (.int m), none, none] (B.set k (dko a w c)) := by
    have v1 : ∀ T, evK (run tab (n + 2)) (.v 1) [some (.ref k), some (.ref P), some (tx t), some r3, some (.int 2), none, none] T = .ok (.val (.ref P)) T := fun T => e_v rfl
    have v2 : ∀ T, evK (run tab (n + 2)) (.v 2) [some (.ref k), some (.ref P), some (tx t), some r3, some (.int 2), none, none] T = .ok (.val (tx t)) T := fun T => e_v rfl
    cases e : hd t with
    | none =>
      rw [e] at cin
      refine ⟨2, by decide, fun r => ?_⟩
      refine (y_set (.int 2) (by simp)).trans ?_
      exact (y_if0 (by
        show evB _ _ [some (.ref k), some (.ref P), some (tx t), some r3, some (.int 2), none, none] _ = _
        simp only [e_B, e_p2, v1, v2, bd_ok', cin, toB_bl]; rfl)).trans rfl
    | some hs =>
      rw [e] at cin
      obtain ⟨r2, o2, ix⟩ := tb.ix _ P (hPS a c) t ht hs e
      have i0 : p2 .ix (.val (.tup [.tup (hs.map tx), r2, o2])) (.val (.int 0)) (B.set k (dko a w c)) = .ok (.val (.tup (hs.map tx))) (B.set k (dko a w c)) := ix_tup rfl
      have ln : p1 .len (.val (.tup (hs.map tx))) (B.set k (dko a w c)) = .ok (.val (.int hs.length)) (B.set k (dko a w c)) := by
        rw [len_tup, List.length_map]
      refine ⟨hs.length, h3 hs e, fun r => ?_⟩
      refine (y_set (.int 2) (by simp)).trans ?_
      show exSs _ _ [some (.ref k), some (.ref P), some (tx t), some r3, some (.int 2), none, none] _ = _
      refine (y_ift (by simp only [e_B, e_p2, v1, v2, bd_ok', cin, toB_bl]; rfl)).trans ?_
      rw [x_set (d := .int hs.length) (S' := B.set k (dko a w c)) (by simp only [e_D, e_p1, e_p2, e_c, v1, v2, bd_ok', ix, i0, ln, toD_val]), x_nil]
      rfl
  obtain ⟨r, a1, c1, t1, t2, t3, t4, t5⟩ := take0 (B := B) (k := k) (a := a) (w := w) (c := c) hk (n := n + 1) (m := 8) (by decide) (by decide) hc (by omega)
  obtain ⟨δ, hδ, hat⟩ := at_map (f := D.int) (l := DEL) t2 (by show r < ((8 : Nat) : Int); omega)
  have hδ2 := List.all_eq_true.mp del_ok δ hδ
  simp only [Bool.and_eq_true, decide_eq_true_eq] at hδ2
  obtain ⟨j, hj, hj1, hj6⟩ : ∃ j : Nat, (if (m : Int) + δ > 1 then (m : Int) + δ else 1) = (j : Nat) ∧ 1 ≤ j ∧ j ≤ 6 := by
    by_cases h : (m : Int) + δ > 1
    · refine ⟨((m : Int) + δ).toNat, ?_, ?_, ?_⟩
      · rw [if_pos h]; omega
      · omega
      · omega
    · exact ⟨1, by rw [if_neg h]; rfl, by omega, by omega⟩
  obtain ⟨ρ, hρ⟩ : ∃ ρ : Env, ρ = [some (.ref k), some (.ref P), some (tx t), some r3, some (.int j), none, none] := ⟨_, rfl⟩
  obtain ⟨vs, a2, c2, g1, g2, g3, g4, g5⟩ := draw_vals (n := n) (B := B) (k := k) (w := w) (ρ := ρ) hk (fun d => by rw [hρ]; rfl) (intsD j fun i => (i : Int)) [] a1 c1 (by omega) (by simp only [intsD, List.length_map, List.length_range]; omega) (by simp only [intsD, List.length_map, List.length_range, List.length_nil]; omega)
  have hvl : vs.length = j := by rw [g1]; simp [intsD]
  have g5 : c2 ≤ c1 + j := by simpa [intsD] using g5
  refine ⟨vs, a2, c2, ⟨ht, fun h => by rw [h] at hvl; simp at hvl; omega, by omega, g2⟩, ?_, by omega, by omega⟩
  rw [s1]
  refine Rt.go (x_set (d := .int j) (S' := B.set k (dko a1 w c1)) ?_) ?_
  · have v0 : ∀ T, evK (run tab (n + 2)) (.v 0) [some (.ref k), some (.ref P), some (tx t), some r3, some (.int m), none, none] T = .ok (.val (.ref k)) T := fun T => e_v rfl
    have v4 : ∀ T, evK (run tab (n + 2)) (.v 4) [some (.ref k), some (.ref P), some (tx t), some r3, some (.int m), none, none] T = .ok (.val (.int m)) T := fun T => e_v rfl
    have dz : ∀ T, evK (run tab (n + 2)) (.disp [(.c (.int 0)), (.c (.int 0)), (.c (.int 0)), (.c (.int 0)), (.c (.int 0)), (.c (.int 0)), (.c (.int 1)), (.p1 .neg (.c (.int 1)))]) [some (.ref k), some (.ref P), some (tx t), some r3, some (.int m), none, none] T = .ok (.lis (DEL.map D.int)) T := fun T => by
      simp only [e_disp, e_ds, e_ds0, e_c, e_p1, neg_ok, bd_ok', toD_val, List.length_cons, List.length_nil]
      rw [if_pos (by decide)]; rfl
    have ix : ∀ T, p2 .ix (.lis (DEL.map D.int)) (.val (.int r)) T = .ok (.val (.int δ)) T := fun T => ix_lis hat
    simp only [e_D, e_p2, e_c, v0, v4, dz, bd_ok', e_call, e_ds, e_ds0, toD_val, t1, vv_ok', ix, add_ok, max_ok, hj]
  · show Rt (exSs (run tab (n + 2)) _ [some (.ref k), some (.ref P), some (tx t), some r3, some (.int j), none, none] (B.set k (dko a1 w c1))) _ _
    rw [← hρ]
    refine Rt.fin (x_ret ?_)
    have v2 : ∀ T, evK (run tab (n + 2)) (.v 2) ρ T = .ok (.val (tx t)) T := fun T => e_v (by rw [hρ]; rfl)
    have v4 : ∀ T, evK (run tab (n + 2)) (.v 4) ρ T = .ok (.val (.int j)) T := fun T => e_v (by rw [hρ]; rfl)
    have cp := comp_run (C := run tab (n + 2)) (ρ := ρ) (S := B.set k (dko a1 w c1)) (S' := B.set k (dko a1 w c1)) (S'' := B.set k (dko a2 w c2)) (i := 5) (k := .rng1) (is := [(.v 4)]) (e := .call 31 [(.v 0)]) (own := [5]) (ws := [.val (.int j)]) (items := intsD j fun i => (i : Int)) (out := vs.map dv) (by simp only [e_ws, e_ws0, v4, bd_ok']) (its_r1 (by omega)) g3
    have tp : ∀ T, p1 .tuple_ (.lis (vs.map dv)) T = .ok (.val (.tup (vs.map dv))) T := fun T => rfl
    simp only [e_D, e_tup, e_ds, e_ds0, e_c, e_p1, v2, bd_ok', toD_val, cp, tp, vv_ok', List.length_cons, List.length_nil]
    rw [if_pos (by decide)]; rfl
theorem gO2 {t : List Nat} {x : Option Cn} (h : ∀ y, x = some y → gd y ∧ dp y ≤ 2 ∧ ∀ z ∈ csC y, z.1 = t) : gO t x := fun y hy => ⟨(h y hy).1, by have := (h y hy).2.1; omega, (h y hy).2.2⟩
/-- a step -/
theorem r_dstep {n : Nat} {B : Store} {k P : Nat} {a w c : Int} {o : O} {hd : List Nat → Option (List (List Nat))} (tb : Tb o hd) (h3 : ∀ t hs, hd t = some hs → hs.length ≤ 5) (hk : k < B.length) (hP : B[P]? = some o) (hPk : P ≠ k) (hc : 0 ≤ c) (hc2 : c + 2000 < 2 ^ 39)
    (hA : ∀ t ∈ TAB, ∀ (a c : Int) (U : Store) (hs : List (List Nat)), hd t = some hs → Ans (n + 7) (B.set k (dko a w c) ++ U) P t hs) :
    ∃ p a' c', gs p ∧ run tab (n + 9) 44 [.ref k, .ref P] (B.set k (dko a w c)) = .ok (spD p) (B.set k (dko a' w c')) ∧ c ≤ c' ∧ c' ≤ c + 1000 := by
  have hPS : ∀ a c, (B.set k (dko a w c))[P]? = some o := fun a c => by
    rw [List.getElem?_set_ne (Ne.symm hPk)]; exact hP
  obtain ⟨r0, a1, c1, t1, t2, t3, t4, t5⟩ := take0 (B := B) (k := k) (a := a) (w := w) (c := c) hk (n := n + 7) (m := 3) (by decide) (by decide) hc (by omega)
  obtain ⟨t, ht, hat⟩ := at_map (f := tx) (l := TAB) t2 (by show r0 < ((3 : Nat) : Int); omega)
  have fin : ∀ {p : Sp} {a' c' : Int}, Rt (exSs (run tab (n + 8)) (b44.drop 1) [some (.ref k), some (.ref P), some (tx t), none, none, none, none] (B.set k (dko a1 w c1))) (spD p) (B.set k (dko a' w c')) → run tab (n + 9) 44 [.ref k, .ref P] (B.set k (dko a w c)) = .ok (spD p) (B.set k (dko a' w c')) := by
    intro p a' c' h
    refine r_run (F := ⟨2, 7, b44⟩) (S' := B.set k (dko a' w c')) rfl rfl ?_ (by have := pack_dk (T := []) hk (und_spD B.length p) (a := a) (w := w) (c := c) (a' := a') (c' := c'); rwa [List.append_nil] at this)
    refine Rt.go (x_set (d := tx t) (S' := B.set k (dko a1 w c1)) ?_) h
    show evD (run tab (n + 8)) _ [some (.ref k), some (.ref P), none, none, none, none, none] _ = _
    have v0 : ∀ T, evK (run tab (n + 8)) (.v 0) [some (.ref k), some (.ref P), none, none, none, none, none] T = .ok (.val (.ref k)) T := fun T => e_v rfl
    have dz : ∀ T, evK (run tab (n + 8)) (.disp [(.c (.str "fig")), (.c (.str "pear")), (.c (.str "where"))]) [some (.ref k), some (.ref P), none, none, none, none, none] T = .ok (.lis (TAB.map tx)) T := fun T => by
      simp only [e_disp, e_ds, e_ds0, e_c, bd_ok', toD_val, List.length_cons, List.length_nil]
      rw [if_pos (by decide)]
      simp only [TAB, List.map_cons, List.map_nil, tx_q]
    have ix : ∀ T, p2 .ix (.lis (TAB.map tx)) (.val (.int r0)) T = .ok (.val (tx t)) T := fun T => ix_lis hat
    simp only [e_D, e_p2, e_c, v0, dz, bd_ok', e_call, e_ds, e_ds0, toD_val, t1, vv_ok', ix]
  have h3t := h3 t
  have v0 : ∀ (x3 : Option D) T, evK (run tab (n + 8)) (.v 0) [some (.ref k), some (.ref P), some (tx t), x3, none, none, none] T = .ok (.val (.ref k)) T := fun x3 T => e_v rfl
  have v1 : ∀ (x3 : Option D) T, evK (run tab (n + 8)) (.v 1) [some (.ref k), some (.ref P), some (tx t), x3, none, none, none] T = .ok (.val (.ref P)) T := fun x3 T => e_v rfl
  have v2 : ∀ (x3 : Option D) T, evK (run tab (n + 8)) (.v 2) [some (.ref k), some (.ref P), some (tx t), x3, none, none, none] T = .ok (.val (tx t)) T := fun x3 T => e_v rfl
  have v3 : ∀ (y : Int) T, evK (run tab (n + 8)) (.v 3) [some (.ref k), some (.ref P), some (tx t), some (.int y), none, none, none] T = .ok (.val (.int y)) T := fun y T => e_v rfl
  -- from the second draw on
  have tail : ∀ (a c : Int), 0 ≤ c → c + 1500 < 2 ^ 39 → ∃ p a' c', gs p ∧ Rt (exSs (run tab (n + 8)) (b44.drop 2) [some (.ref k), some (.ref P), some (tx t), none, none, none, none] (B.set k (dko a w c))) (spD p) (B.set k (dko a' w c')) ∧ c ≤ c' ∧ c' ≤ c + 900 := by
    intro a c hc hc2
    obtain ⟨y, a1, c1, t1, t2, t3, t4, t5⟩ := take0 (B := B) (k := k) (a := a) (w := w) (c := c) hk (n := n + 7) (m := 16) (by decide) (by decide) hc (by omega)
    have s1 : exSs (run tab (n + 8)) (b44.drop 2) [some (.ref k), some (.ref P), some (tx t), none, none, none, none] (B.set k (dko a w c)) = exSs (run tab (n + 8)) (b44.drop 3) [some (.ref k), some (.ref P), some (tx t), some (.int y), none, none, none] (B.set k (dko a1 w c1)) :=
      (x_set (d := .int y) (S' := B.set k (dko a1 w c1)) (by simp only [e_D, e_call, e_ds, e_ds0, e_c, v0, bd_ok', toD_val, t1, vv_ok'])).trans rfl
    have lt_ev : ∀ (i : Int) (S : Store), evB (run tab (n + 8)) (.p2 .lt (.v 3) (.c (.int i))) [some (.ref k), some (.ref P), some (tx t), some (.int y), none, none, none] S = .ok (decide (y < i)) S := fun i S => by
      simp only [e_B, e_p2, e_c, v3, bd_ok', lt_ii, toB_bl]
    have eq_ev : ∀ (i : Int) (S : Store), evB (run tab (n + 8)) (.p2 .eq (.v 3) (.c (.int i))) [some (.ref k), some (.ref P), some (tx t), some (.int y), none, none, none] S = .ok (decide (y = i)) S := fun i S => by
      simp only [e_B, e_p2, e_c, v3, bd_ok', eq_ii, toB_bl]
    have no : ∀ {b : Bool} {S : Store}, b = false → (R.ok b S : R Bool) = .ok false S := fun h => by rw [h]
    have yes : ∀ {b : Bool} {S : Store}, b = true → (R.ok b S : R Bool) = .ok true S := fun h => by rw [h]
    by_cases h7 : y < 7
    · obtain ⟨vs, a2, c2, g, h1, h2, h3'⟩ := dstep_put (n := n + 6) (B := B) (k := k) (P := P) (a := a1) (w := w) (c := c1) (t := t) (r3 := .int y) tb (fun hs e => h3t hs e) hk hP hPk ht (by omega) (by omega)
      refine ⟨.put t vs, a2, c2, g, ?_, by omega, by omega⟩
      rw [s1]
      obtain ⟨ρ', h1⟩ := h1
      refine Rt.go (x_ift ((lt_ev 7 _).trans (yes (decide_eq_true h7)))) ?_
      rw [h1]
      exact Rt.fin rfl
    have g7 := x_if0 (C := run tab (n + 8)) (a := [.set (.nm 4) (.c (.int 2)), .iff (.p2 .inn (.v 2) (.v 1)) [.set (.nm 4) (.p1 .len (.p2 .ix (.p2 .ix (.v 1) (.v 2)) (.c (.int 0))))] [], .set (.nm 4) (.p2 .max_ (.c (.int 1)) (.p2 .add (.v 4) (.p2 .ix (.disp [(.c (.int 0)), (.c (.int 0)), (.c (.int 0)), (.c (.int 0)), (.c (.int 0)), (.c (.int 0)), (.c (.int 1)), (.p1 .neg (.c (.int 1)))]) (.call 30 [(.v 0), (.c (.int 8))])))), .ret (.tup [(.c (.str "put")), (.v 2), (.p1 .tuple_ (.comp (.nm 5) .rng1 [(.v 4)] [] (.call 31 [(.v 0)]) [5]))])]) (r := b44.drop 4) ((lt_ev 7 (B.set k (dko a1 w c1))).trans (no (decide_eq_false h7)))
    have s2 : exSs (run tab (n + 8)) (b44.drop 2) [some (.ref k), some (.ref P), some (tx t), none, none, none, none] (B.set k (dko a w c)) = exSs (run tab (n + 8)) (b44.drop 4) [some (.ref k), some (.ref P), some (tx t), some (.int y), none, none, none] (B.set k (dko a1 w c1)) := s1.trans g7
    rw [s2]
    have colr := r_dcol (n := n + 6) (B := B) (k := k) (P := P) (a := a1) (w := w) (c := c1) (t := t) tb hk hP hPk ht (by omega) (by omega)
    by_cases h9 : y < 9
    · obtain ⟨x, a2, c2, g1, g2, h1, h2, h3'⟩ := colr
      refine ⟨.ord true x, a2, c2, g1, ?_, by omega, by omega⟩
      refine Rt.fin (x_if1 ((lt_ev 9 _).trans (yes (decide_eq_true h9))) ?_)
      obtain ⟨d, hd'⟩ : ∃ d, d = dcl x := ⟨_, rfl⟩
      rw [spD, ← hd']
      rw [← hd'] at h1
      simp only [e_D, e_tup, e_ds, e_ds0, e_c, e_call, v0, v1, v2, bd_ok', toD_val, h1, vv_ok', List.length_cons, List.length_nil]
      rw [if_pos (by decide)]; rfl
    refine (fun (k : _) => by
      obtain ⟨p, a', c', k1, k2, k3, k4⟩ := k
      exact ⟨p, a', c', k1, Rt.go (x_if0 ((lt_ev 9 _).trans (no (decide_eq_false h9)))) k2, k3, k4⟩ : (∃ p a' c', gs p ∧ Rt (exSs (run tab (n + 8)) (b44.drop 5) [some (.ref k), some (.ref P), some (tx t), some (.int y), none, none, none] (B.set k (dko a1 w c1))) (spD p) (B.set k (dko a' w c')) ∧ c ≤ c' ∧ c' ≤ c + 900) → _) ?_
    by_cases h9' : y = 9
    · obtain ⟨x, a2, c2, g1, g2, h1, h2, h3'⟩ := colr
      refine ⟨.ord false x, a2, c2, g1, ?_, by omega, by omega⟩
      refine Rt.fin (x_if1 ((eq_ev 9 _).trans (yes (decide_eq_true h9'))) ?_)
      obtain ⟨d, hd'⟩ : ∃ d, d = dcl x := ⟨_, rfl⟩
      rw [spD, ← hd']
      rw [← hd'] at h1
      simp only [e_D, e_tup, e_ds, e_ds0, e_c, e_call, v0, v1, v2, bd_ok', toD_val, h1, vv_ok', List.length_cons, List.length_nil]
      rw [if_pos (by decide)]; rfl
    refine (fun (k : _) => by
      obtain ⟨p, a', c', k1, k2, k3, k4⟩ := k
      exact ⟨p, a', c', k1, Rt.go (x_if0 ((eq_ev 9 _).trans (no (decide_eq_false h9')))) k2, k3, k4⟩ : (∃ p a' c', gs p ∧ Rt (exSs (run tab (n + 8)) (b44.drop 6) [some (.ref k), some (.ref P), some (tx t), some (.int y), none, none, none] (B.set k (dko a1 w c1))) (spD p) (B.set k (dko a' w c')) ∧ c ≤ c' ∧ c' ≤ c + 900) → _) ?_
    by_cases h10 : y = 10
    · obtain ⟨x, a2, c2, g1, h1, h2, h3'⟩ := r_dbehind (n := n + 2) (B := B) (k := k) (P := P) (a := a1) (w := w) (c := c1) (t := t) tb hk hP hPk ht (by omega) (by omega)
      refine ⟨.cut t x, a2, c2, ⟨ht, gO2 g1⟩, ?_, by omega, by omega⟩
      refine Rt.fin (x_if1 ((eq_ev 10 _).trans (yes (decide_eq_true h10))) ?_)
      obtain ⟨d, hd'⟩ : ∃ d, d = cnD x := ⟨_, rfl⟩
      rw [spD, ← hd']
      rw [← hd'] at h1
      simp only [e_D, e_tup, e_ds, e_ds0, e_c, e_call, v0, v1, v2, bd_ok', toD_val, h1, vv_ok', List.length_cons, List.length_nil]
      rw [if_pos (by decide)]; rfl
    refine (fun (k : _) => by
      obtain ⟨p, a', c', k1, k2, k3, k4⟩ := k
      exact ⟨p, a', c', k1, Rt.go (x_if0 ((eq_ev 10 _).trans (no (decide_eq_false h10)))) k2, k3, k4⟩ : (∃ p a' c', gs p ∧ Rt (exSs (run tab (n + 8)) (b44.drop 7) [some (.ref k), some (.ref P), some (tx t), some (.int y), none, none, none] (B.set k (dko a1 w c1))) (spD p) (B.set k (dko a' w c')) ∧ c ≤ c' ∧ c' ≤ c + 900) → _) ?_
    by_cases h13 : y < 13
    · obtain ⟨x, a2, c2, g1, g2, h1, h2, h3'⟩ := colr
      obtain ⟨v, a3, c3, hv, f1, f2, f3⟩ := r_val (n := n + 6) (B := B) (k := k) (a := a2) (w := w) (c := c2) hk (by omega) (by omega)
      obtain ⟨z, a4, c4, e1, e2, e3, e4⟩ := r_dbehind (n := n + 2) (B := B) (k := k) (P := P) (a := a3) (w := w) (c := c3) (t := t) tb hk hP hPk ht (by omega) (by omega)
      refine ⟨.set x v z, a4, c4, ⟨g1, hv, by rw [g2]; exact gO2 e1⟩, ?_, by omega, by omega⟩
      refine Rt.go (x_ift ((lt_ev 13 _).trans (yes (decide_eq_true h13)))) ?_
      obtain ⟨d, hd'⟩ : ∃ d, d = dcl x := ⟨_, rfl⟩
      obtain ⟨d2, hd2⟩ : ∃ d, d = cnD z := ⟨_, rfl⟩
      obtain ⟨d3, hd3⟩ : ∃ d, d = dv v := ⟨_, rfl⟩
      rw [spD, ← hd', ← hd2, ← hd3]
      rw [← hd'] at h1
      rw [← hd2] at e2
      rw [← hd3] at f1
      rw [x_set (d := d) (S' := B.set k (dko a2 w c2)) (by simp only [e_D, e_call, e_ds, e_ds0, v0, v1, v2, bd_ok', toD_val, h1, vv_ok'])]
      have u0 : ∀ T, evK (run tab (n + 8)) (.v 0) (([some (.ref k), some (.ref P), some (tx t), some (.int y), none, none, none] : Env).set 6 (some d)) T = .ok (.val (.ref k)) T := fun T => e_v rfl
      have u1 : ∀ T, evK (run tab (n + 8)) (.v 1) (([some (.ref k), some (.ref P), some (tx t), some (.int y), none, none, none] : Env).set 6 (some d)) T = .ok (.val (.ref P)) T := fun T => e_v rfl
      have u2 : ∀ T, evK (run tab (n + 8)) (.v 2) (([some (.ref k), some (.ref P), some (tx t), some (.int y), none, none, none] : Env).set 6 (some d)) T = .ok (.val (tx t)) T := fun T => e_v rfl
      have u6 : ∀ T, evK (run tab (n + 8)) (.v 6) (([some (.ref k), some (.ref P), some (tx t), some (.int y), none, none, none] : Env).set 6 (some d)) T = .ok (.val d) T := fun T => e_v rfl
      rw [x_ret (d := .tup [.str "set", d, d3, d2]) (S' := B.set k (dko a4 w c4)) (by
        simp only [e_D, e_tup, e_ds, e_ds0, e_c, e_call, u0, u1, u2, u6, bd_ok', toD_val, f1, e2, vv_ok', List.length_cons, List.length_nil]
        rw [if_pos (by decide)]; rfl)]
      exact Rt.fin rfl
    refine (fun (k : _) => by
      obtain ⟨p, a', c', k1, k2, k3, k4⟩ := k
      exact ⟨p, a', c', k1, Rt.go (x_if0 ((lt_ev 13 _).trans (no (decide_eq_false h13)))) k2, k3, k4⟩ : (∃ p a' c', gs p ∧ Rt (exSs (run tab (n + 8)) (b44.drop 8) [some (.ref k), some (.ref P), some (tx t), some (.int y), none, none, none] (B.set k (dko a1 w c1))) (spD p) (B.set k (dko a' w c')) ∧ c ≤ c' ∧ c' ≤ c + 900) → _) ?_
    by_cases h15 : y < 15
    · obtain ⟨v, x, a2, c2, g1, h1, h2, h3'⟩ := r_dneed (n := n) (B := B) (k := k) (P := P) (a := a1) (w := w) (c := c1) (t := t) tb hk hP hPk ht (by omega) (by omega) (hA t ht)
      refine ⟨.need v x, a2, c2, g1, ?_, by omega, by omega⟩
      refine Rt.fin (x_if1 ((lt_ev 15 _).trans (yes (decide_eq_true h15))) ?_)
      simp only [e_D, e_call, e_ds, e_ds0, v0, v1, v2, bd_ok', toD_val, h1, vv_ok']
    refine (fun (k : _) => by
      obtain ⟨p, a', c', k1, k2, k3, k4⟩ := k
      exact ⟨p, a', c', k1, Rt.go (x_if0 ((lt_ev 15 _).trans (no (decide_eq_false h15)))) k2, k3, k4⟩ : (∃ p a' c', gs p ∧ Rt (exSs (run tab (n + 8)) (b44.drop 9) [some (.ref k), some (.ref P), some (tx t), some (.int y), none, none, none] (B.set k (dko a1 w c1))) (spD p) (B.set k (dko a' w c')) ∧ c ≤ c' ∧ c' ≤ c + 900) → _) ?_
    obtain ⟨z, a2, c2, u1, u2, u3, u4, u5⟩ := take0 (B := B) (k := k) (a := a1) (w := w) (c := c1) hk (n := n + 7) (m := 2) (by decide) (by decide) (by omega) (by omega)
    have cz : evB (run tab (n + 8)) (.p2 .eq (.call 30 [(.v 0), (.c (.int 2))]) (.c (.int 0))) [some (.ref k), some (.ref P), some (tx t), some (.int y), none, none, none] (B.set k (dko a1 w c1)) = .ok (decide (z = 0)) (B.set k (dko a2 w c2)) := by
      simp only [e_B, e_p2, e_call, e_ds, e_ds0, e_c, v0, bd_ok', toD_val, u1, vv_ok', eq_ii, toB_bl]
    by_cases h0 : z = 0
    · refine ⟨.drop t, a2, c2, ht, ?_, by omega, by omega⟩
      refine Rt.fin (x_if1 (cz.trans (yes (decide_eq_true h0))) ?_)
      simp only [e_D, e_tup, e_ds, e_ds0, e_c, v2, bd_ok', toD_val, List.length_cons, List.length_nil]
      rw [if_pos (by decide)]; rfl
    · obtain ⟨cs, a3, c3, g1, h1, h2, h3'⟩ := r_dmake (n := n + 6) (B := B) (k := k) (a := a2) (w := w) (c := c2) (t := t) hk ht (by omega) (by omega)
      refine ⟨.make t cs, a3, c3, g1, ?_, by omega, by omega⟩
      refine Rt.go (x_if0 (cz.trans (no (decide_eq_false h0)))) (Rt.fin (x_ret ?_))
      simp only [e_D, e_call, e_ds, e_ds0, v0, v2, bd_ok', toD_val, h1, vv_ok']
  have cin := nin_of (tb.inn _ P (hPS a1 c1) t ht)
  cases e : (hd t).isSome with
  | true =>
    rw [e] at cin
    obtain ⟨p, a', c', g1, g2, g3, g4⟩ := tail a1 c1 (by omega) (by omega)
    refine ⟨p, a', c', g1, fin ?_, by omega, by omega⟩
    refine Rt.go (x_if0 (S' := B.set k (dko a1 w c1)) ?_) g2
    simp only [e_B, e_and, e_p2, v1, v2, bd_ok', cin, toB_bl]
    rfl
  | false =>
    rw [e] at cin
    obtain ⟨r5, a2, c2, u1, u2, u3, u4, u5⟩ := take0 (B := B) (k := k) (a := a1) (w := w) (c := c1) hk (n := n + 7) (m := 5) (by decide) (by decide) (by omega) (by omega)
    have cnd : evB (run tab (n + 8)) (.and_ (.p2 .nin (.v 2) (.v 1)) (.p2 .gt (.call 30 [(.v 0), (.c (.int 5))]) (.c (.int 0)))) [some (.ref k), some (.ref P), some (tx t), none, none, none, none] (B.set k (dko a1 w c1)) = .ok (decide (0 < r5)) (B.set k (dko a2 w c2)) := by
      simp only [e_B, e_and, e_p2, v1, v2, bd_ok', cin, toB_bl, Bool.not_false, if_true, e_call, e_ds, e_ds0, e_c, v0, toD_val, u1, vv_ok', gt_ii]
    by_cases h0 : 0 < r5
    · obtain ⟨cs, a3, c3, g1, h1, h2, h3'⟩ := r_dmake (n := n + 6) (B := B) (k := k) (a := a2) (w := w) (c := c2) (t := t) hk ht (by omega) (by omega)
      refine ⟨.make t cs, a3, c3, g1, fin ?_, by omega, by omega⟩
      rw [decide_eq_true h0] at cnd
      refine Rt.fin (x_if1 cnd ?_)
      simp only [e_D, e_call, e_ds, e_ds0, v0, v2, bd_ok', toD_val, h1, vv_ok']
    · obtain ⟨p, a', c', g1, g2, g3, g4⟩ := tail a2 c2 (by omega) (by omega)
      rw [decide_eq_false h0] at cnd
      exact ⟨p, a', c', g1, fin (Rt.go (x_if0 cnd) g2), by omega, by omega⟩
end Mi.L

namespace Mi.L
open PySem Mi
/-! ### the law -/
theorem be_many {t : List Nat} {c : Option Cn} (g : gO t c) : (beW c).length ≤ 410 ∧ ∀ w ∈ beW c, w.length ≤ 20 := by
  cases c with
  | none => exact ⟨by simp [beW], fun w hw => by cases hw⟩
  | some x =>
    obtain ⟨a1, a2, _⟩ := g x rfl
    have h := wds_many x
    have p := Nat.pow_le_pow_right (n := 3) (by decide) (show dp x ≤ 4 by omega)
    refine ⟨by simp only [beW, List.length_cons]; omega, fun w hw => ?_⟩
    rcases List.mem_cons.mp hw with rfl | hw
    · exact len_k (by simp [KW2])
    · exact wds_len x a1 w hw
theorem wh_many {w : Wh} (g : ∀ c ∈ whC w, gc c) : (whW w).length ≤ 2 ∧ ∀ e ∈ whW w, e.length ≤ 20 := by
  cases w with
  | cnt =>
    refine ⟨by simp [whW], fun e he => ?_⟩
    rw [List.mem_singleton.mp he]
    exact len_k (by simp [KW2])
  | sum c =>
    refine ⟨by simp [whW], fun e he => ?_⟩
    simp only [whW, List.mem_cons, List.not_mem_nil, or_false] at he
    rcases he with rfl | rfl
    · exact len_k (by simp [KW2])
    · exact (gc_len (g c (by simp [whC]))).1
  | most c =>
    refine ⟨by simp [whW], fun e he => ?_⟩
    simp only [whW, List.mem_cons, List.not_mem_nil, or_false] at he
    rcases he with rfl | rfl
    · exact len_k (by simp [KW2])
    · exact (gc_len (g c (by simp [whC]))).1
  | cols c =>
    refine ⟨by simp [whW], fun e he => ?_⟩
    rw [List.mem_singleton.mp he]
    exact (gc_len (g c (by simp [whC]))).1
theorem tab_len {t : List Nat} (h : t ∈ TAB) : t.length ≤ 20 := by have := (tab_at h).2; omega
/-- a step's words are few and short -/
theorem sp_many {p : Sp} (g : gs p) : (spW p).length ≤ 430 ∧ ∀ w ∈ spW p, w.length ≤ 20 := by
  cases p with
  | make t cs =>
    obtain ⟨g1, g2, g3, g4⟩ := g
    refine ⟨by simp only [spW, List.length_cons]; omega, fun w hw => ?_⟩
    simp only [spW, List.mem_cons] at hw
    rcases hw with rfl | rfl | hw
    · exact len_k (by simp [KW2])
    · exact tab_len g1
    · have := (nam_at (g4 w hw)).2; omega
  | drop t =>
    refine ⟨by simp [spW], fun w hw => ?_⟩
    simp only [spW, List.mem_cons, List.not_mem_nil, or_false] at hw
    rcases hw with rfl | rfl
    · exact len_k (by simp [KW2])
    · exact tab_len g
  | ord u c =>
    refine ⟨by simp [spW], fun w hw => ?_⟩
    simp only [spW, List.mem_cons, List.not_mem_nil, or_false] at hw
    rcases hw with rfl | rfl
    · cases u <;> exact len_k (by simp [KW2, oS])
    · exact (gc_len g).1
  | put t vs =>
    obtain ⟨g1, g2, g3, g4⟩ := g
    refine ⟨by simp only [spW, List.length_cons, List.length_map]; omega, fun w hw => ?_⟩
    simp only [spW, List.mem_cons] at hw
    rcases hw with rfl | rfl | hw
    · exact len_k (by simp [KW2])
    · exact tab_len g1
    · obtain ⟨v, hv, rfl⟩ := List.mem_map.mp hw
      exact len_v (g4 v hv)
  | cut t c =>
    have b := be_many g.2
    refine ⟨by simp only [spW, List.length_cons]; omega, fun w hw => ?_⟩
    simp only [spW, List.mem_cons] at hw
    rcases hw with rfl | rfl | hw
    · exact len_k (by simp [KW2])
    · exact tab_len g.1
    · exact b.2 w hw
  | set c v b =>
    have h := be_many g.2.2
    refine ⟨by simp only [spW, List.length_cons]; omega, fun w hw => ?_⟩
    simp only [spW, List.mem_cons] at hw
    rcases hw with rfl | rfl | rfl | rfl | hw
    · exact len_k (by simp [KW2])
    · exact (gc_len g.1).1
    · exact len_k (by simp [KW2])
    · exact len_v g.2.1
    · exact h.2 w hw
  | need v x =>
    have h := be_many (gq_gO g.2)
    have h2 := wh_many g.2.w
    refine ⟨by simp only [spW, quW, List.length_cons, List.length_append]; omega, fun w hw => ?_⟩
    simp only [spW, quW, List.mem_cons, List.mem_append] at hw
    rcases hw with rfl | rfl | rfl | rfl | hw | rfl | rfl | hw
    · exact len_k (by simp [KW2])
    · exact len_v g.1
    · exact len_k (by simp [KW2])
    · exact len_k (by simp [KW2])
    · exact h2.2 w hw
    · exact len_k (by simp [KW2])
    · exact tab_len g.2.t
    · exact h.2 w hw
theorem sp_small {p : Sp} (g : gs p) : (spW p).flatten.length + (spW p).length ≤ 900000 := by
  obtain ⟨h1, h2⟩ := sp_many g
  have := flat_len h2
  omega
/-! the tables -/
def hd0 (t : List Nat) : Option (List (List Nat)) := none
def hd1T (t : List Nat) : Option (List (List Nat)) := if t = q "fig" then some figH else if t = q "where" then some whrH else none
theorem isIn_dk {S : Store} {P : Nat} {kvs : List (L2.Key × D)} {x : Str} {b : Bool} (h : S[P]? = some (.dk kvs)) (hl : (lookD kvs (.inr x)).isSome = b) : p2 .inn (.val (.str x)) (.val (.ref P)) S = .ok (.val (.bl b)) S := by
  have hs := seq_dk h
  have hk : look S P (.str x) = some (lookD kvs (.inr x)) := by
    unfold look
    rw [h]; rfl
  have e : isIn (.val (.str x)) (.val (.ref P)) S = some b := by
    show (match W.seq S (.val (.ref P)) with
      | some (_, ds) => ((W.val (.str x)).py S).bind fun p => (mapO (toPy S deepest) ds).map fun (ys : List PyData) => ys.any fun y => PyData.eqv y p
      | none => (look S P (.str x)).map (fun (o : Option D) => o.isSome)) = _
    rw [hs, hk]
    show some ((lookD kvs (.inr x)).isSome) = _
    rw [hl]
  show ob (isIn (.val (.str x)) (.val (.ref P)) S) S = _
  rw [e]; rfl
theorem tb0 : Tb (.dk []) hd0 where
  inn := fun S P h t ht => isIn_dk h rfl
  ix := fun S P h t ht hs e => by cases e
  nam := fun t hs e => by cases e
theorem h_fig : hd1T (q "fig") = some figH ∧ hd1T (q "pear") = none ∧ hd1T (q "where") = some whrH := by decide +kernel
theorem hd_names : (figH.all fun x => decide (x ∈ NAM)) = true ∧ (whrH.all fun x => decide (x ∈ NAM)) = true := by decide +kernel
theorem mapF : figH.map tx = [.str "a", .str "of", .str "b"] := by simp only [figH, List.map_cons, List.map_nil, tx_q]
theorem mapW : whrH.map tx = [.str "is", .str "a"] := by simp only [whrH, List.map_cons, List.map_nil, tx_q]
theorem hd1_some {t : List Nat} {hs : List (List Nat)} (e : hd1T t = some hs) : (t = q "fig" ∧ hs = figH) ∨ (t = q "where" ∧ hs = whrH) := by
  unfold hd1T at e
  by_cases h1 : t = q "fig"
  · rw [if_pos h1] at e
    injection e with e
    exact .inl ⟨h1, e.symm⟩
  · rw [if_neg h1] at e
    by_cases h2 : t = q "where"
    · rw [if_pos h2] at e
      injection e with e
      exact .inr ⟨h2, e.symm⟩
    · rw [if_neg h2] at e; cases e
theorem tb1 (A : Nat) : Tb (oT A) hd1T where
  inn := fun S P h t ht => by
    simp only [TAB, List.mem_cons, List.not_mem_nil, or_false] at ht
    rcases ht with rfl | rfl | rfl
    · rw [h_fig.1, tx_q]
      exact isIn_dk h rfl
    · rw [h_fig.2.1, tx_q]
      exact isIn_dk h rfl
    · rw [h_fig.2.2, tx_q]
      exact isIn_dk h rfl
  ix := fun S P h t ht hs e => by
    rcases hd1_some e with ⟨rfl, rfl⟩ | ⟨rfl, rfl⟩
    · rw [tx_q, mapF]
      exact ⟨_, _, ix_dk h oT_fig⟩
    · rw [tx_q, mapW]
      exact ⟨_, _, ix_dk h oT_whr⟩
  nam := fun t hs e => by
    rcases hd1_some e with ⟨rfl, rfl⟩ | ⟨rfl, rfl⟩
    · exact ⟨by simp [figH], by simp [figH], fun x hx => of_decide_eq_true (List.all_eq_true.mp hd_names.1 x hx)⟩
    · exact ⟨by simp [whrH], by simp [whrH], fun x hx => of_decide_eq_true (List.all_eq_true.mp hd_names.2 x hx)⟩
/-- the store ahead of the loop -/
def B0 : Store := [.dk [], .dk [(.inl 0, rowF)], .lst [], .dk [], .lst [], oT 0, .lst [.ref 0, .ref 5]]
theorem ts0 : TS B0 0 := ⟨rfl, rfl, rfl⟩
theorem r_cell0 {n : Nat} {S : Store} : run tab (n + 1) 29 [.ls [], .int 0] S = .ok (.int 0) S := by
  have ln : p1 .len (.val (.ls [])) S = .ok (.val (.int 0)) S := rfl
  refine r_run (F := ⟨2, 2, b29⟩) rfl rfl ?_ (pack_same (by simp))
  exact Rt.go (y_if0 (by simp [ln, lt_ii])) (Rt.fin (y_ret (by simp)))
theorem cell_first {n : Nat} {S : Store} (ns : List Int) : ∃ z, run tab (n + 1) 29 [.ls (ns.map D.int), .int 0] S = .ok (.int z) S := by
  cases ns with
  | nil => exact ⟨0, r_cell0⟩
  | cons x r => exact ⟨_, r_cell (m := 0) (xs := x :: r) (i := 0) (by simp)⟩
/-- a turn -/
theorem law_turn {V : Store} {ns : List Int} {w : Int} {i : Nat} (hi : i < ns.length) {x4 : Option D} :
    ∃ p V', exSs (run tab 39) b48_0 [some (.ls (ns.map D.int)), some (.int w), some (.ref 6), some (.int (i : Nat)), x4] (B0 ++ V) = .ok .nx [some (.ls (ns.map D.int)), some (.int w), some (.ref 6), some (.int (i : Nat)), some p] (B0 ++ V') := by
  obtain ⟨L, hL⟩ : ∃ L, L = D.ls (ns.map D.int) := ⟨_, rfl⟩
  have hi0 : ∀ S : Store, p2 .ix (.val L) (.val (.int (i : Nat))) S = .ok (.val (.int ns[i])) S := fun S => by
    rw [hL]
    show (match L2.atI (ns.map D.int) (i : Int) with | some d => vv d S | none => .bad) = _
    rw [atI_at (x := D.int ns[i]) (by omega) (by rw [Int.toNat_natCast, List.getElem?_map, List.getElem?_eq_getElem hi]; rfl)]
    rfl
  rw [← hL]
  obtain ⟨x, hx⟩ : ∃ x, x = ns[i] := ⟨_, rfl⟩
  rw [← hx] at hi0
  obtain ⟨B, hB⟩ : ∃ B, B = B0 ++ V ++ [dko x w 0] := ⟨_, rfl⟩
  obtain ⟨k, hk⟩ : ∃ k, k = (B0 ++ V).length := ⟨_, rfl⟩
  have hkB : k < B.length := by rw [hk, hB]; simp
  have hk7 : 7 ≤ k := by rw [hk, List.length_append]; exact Nat.le_add_right _ _
  have hBk : B.set k (dko x w 0) = B := by
    rw [hB, hk, List.set_append_right _ _ (Nat.le_refl _), Nat.sub_self]; rfl
  have hBe : B = B0 ++ (V ++ [dko x w 0]) := by rw [hB, List.append_assoc]
  have tsB : TS B 0 := by rw [hBe]; exact ts0.app _
  have hB0 : B[0]? = some (.dk []) := by rw [hBe]; rfl
  have hB6 : B[6]? = some (.lst [.ref 0, .ref 5]) := by rw [hBe]; rfl
  -- the step
  have stp : ∃ p a' c', gs p ∧ ∃ P, p2 .ix (.val (.ref 6)) (.val (.int ((i : Int) % 2))) B = .ok (.val (.ref P)) B ∧ run tab 39 44 [.ref k, .ref P] B = .ok (spD p) (B.set k (dko a' w c')) := by
    rcases Int.emod_two_eq (i : Int) with h | h
    · obtain ⟨p, a', c', g, h1, h2, h3⟩ := r_dstep (n := 30) (B := B) (k := k) (P := 0) (a := x) (w := w) (c := 0) tb0 (fun t hs e => by cases e) hkB hB0 (by omega) (by decide) (by decide) (fun t ht a c U hs e => by cases e)
      rw [hBk] at h1
      exact ⟨p, a', c', g, 0, by rw [h]; exact ix_at hB6 rfl, h1⟩
    · obtain ⟨p, a', c', g, h1, h2, h3⟩ := r_dstep (n := 30) (B := B) (k := k) (P := 5) (a := x) (w := w) (c := 0) (tb1 0) (fun t hs e => by
        rcases hd1_some e with ⟨rfl, rfl⟩ | ⟨rfl, rfl⟩
        · simp [figH]
        · simp [whrH]) hkB tsB.t5 (by omega) (by decide) (by decide) (fun t ht a c U hs e y hy hc hd => by
        have ts := (tsB.set (o := dko a w c) (show 0 + 5 < k by omega)).app U
        refine r_ans (n := 30) ts ?_ hd
        rcases hd1_some e with ⟨rfl, rfl⟩ | ⟨rfl, rfl⟩
        · exact .inl ⟨hy, fun c hc' => by rw [hy]; exact hc c hc'⟩
        · exact .inr hy)
      rw [hBk] at h1
      exact ⟨p, a', c', g, 5, by rw [h]; exact ix_at hB6 rfl, h1⟩
  obtain ⟨p, a', c', g, P, hix, hrun⟩ := stp
  refine ⟨spD p, V ++ [dko a' w c'], ?_⟩
  have hT : B.set k (dko a' w c') = B0 ++ (V ++ [dko a' w c']) := by
    rw [hB, hk, List.set_append_right _ _ (Nat.le_refl _), Nat.sub_self, List.append_assoc]; rfl
  rw [hT] at hrun
  obtain ⟨T, hTe⟩ : ∃ T, T = B0 ++ (V ++ [dko a' w c']) := ⟨_, rfl⟩
  rw [← hTe] at hrun ⊢
  have tx1 := r_steptext (N := 37) (S := T) g (by decide)
  have rd := r_readstep (N := 6) (S := T) g (sp_small g)
  have al := r_alike 38 (spD p) (S := T) (okD_up (by decide) (okD_sp g))
  obtain ⟨d, hd⟩ : ∃ d, d = spD p := ⟨_, rfl⟩
  obtain ⟨tt, htt⟩ : ∃ t, t = tx (jn (spW p)) := ⟨_, rfl⟩
  have tx1 : run tab 39 46 [spD p] T = .ok (tx (jn (spW p))) T := tx1
  have rd : run tab 39 28 [tx (jn (spW p))] T = .ok (spD p) T := rd
  have al : run tab 39 47 [spD p, spD p] T = .ok (.bl true) T := al
  rw [← hd] at hrun tx1 rd al ⊢
  rw [← htt] at tx1 rd
  obtain ⟨S0, hS0⟩ : ∃ S0, S0 = B0 ++ V := ⟨_, rfl⟩
  rw [← hS0] at hk hB ⊢
  refine (x_set (d := d) (S' := T) ?_).trans ?_
  · have v0 : ∀ T, evK (run tab 39) (.v 0) [some L, some (.int w), some (.ref 6), some (.int (i : Nat)), x4] T = .ok (.val L) T := fun T => e_v rfl
    have v1 : ∀ T, evK (run tab 39) (.v 1) [some L, some (.int w), some (.ref 6), some (.int (i : Nat)), x4] T = .ok (.val (.int w)) T := fun T => e_v rfl
    have v2 : ∀ T, evK (run tab 39) (.v 2) [some L, some (.int w), some (.ref 6), some (.int (i : Nat)), x4] T = .ok (.val (.ref 6)) T := fun T => e_v rfl
    have v3 : ∀ T, evK (run tab 39) (.v 3) [some L, some (.int w), some (.ref 6), some (.int (i : Nat)), x4] T = .ok (.val (.int (i : Nat))) T := fun T => e_v rfl
    have dz : evK (run tab 39) (.disp [(.p2 .ix (.v 0) (.v 3)), (.v 1), (.c (.int 0))]) [some L, some (.int w), some (.ref 6), some (.int (i : Nat)), x4] S0 = .ok (.lis [.int x, .int w, .int 0]) S0 := by
      simp only [e_disp, e_ds, e_ds0, e_p2, e_c, v0, v1, v3, bd_ok', hi0, toD_val, List.length_cons, List.length_nil]
      rw [if_pos (by decide)]
    have tdz : toD (.lis [.int x, .int w, .int 0]) S0 = .ok (.ref k) B := by rw [toD_lis, hk, hB]
    simp only [e_D, e_call, e_ds, e_ds0, dz, bd_ok', tdz, e_p2, e_c, v2, v3, mod_ok (show (0 : Int) < 2 by decide), hix, toD_val, hrun, vv_ok']
  · show exSs (run tab 39) (b48_0.drop 1) [some L, some (.int w), some (.ref 6), some (.int (i : Nat)), some d] T = _
    have v4 : ∀ T, evK (run tab 39) (.v 4) [some L, some (.int w), some (.ref 6), some (.int (i : Nat)), some d] T = .ok (.val d) T := fun T => e_v rfl
    refine (y_if0 ?_).trans x_nil
    simp only [e_B, e_not, e_call, e_ds, e_ds0, v4, bd_ok', toD_val, tx1, vv_ok', rd, al, toB_bl, Bool.not_true]
theorem d48_1 : dispO [.int 0, rowF] = some (.dk [(.inl 0, rowF)]) := by kernel_rfl
theorem d48_0 : dispO [] = some (.dk []) := by kernel_rfl
theorem d48_2 {a b c d : D} : dispO [.str "fig", .tup [hdF, a, b], .str "where", .tup [hdW, c, d]] = some (.dk [(.inr "fig", .tup [hdF, a, b]), (.inr "where", .tup [hdW, c, d])]) := rfl
theorem law86 (ns : List Int) (hl : ns.length ≤ 63) : ∃ S, run tab 40 48 [.ls (ns.map D.int)] [] = .ok (.bl true) S := by
  obtain ⟨z, hz⟩ := cell_first (n := 38) (S := []) ns
  obtain ⟨L, hL⟩ : ∃ L, L = D.ls (ns.map D.int) := ⟨_, rfl⟩
  have hln : ∀ S : Store, p1 .len (.val L) S = .ok (.val (.int ns.length)) S := fun S => by
    rw [hL]
    show R.ok (W.val (D.int ((ns.map D.int).length : Nat))) S = _
    rw [List.length_map]
  have s0 : exSs (run tab 39) b48 [some L, none, none, none, none] [] = exSs (run tab 39) (b48.drop 2) [some L, some (.int (z % 2)), some (.ref 6), none, none] B0 := by
    rw [← hL] at hz
    refine (y_set (.int (z % 2)) (by simp [hz, mod_ok])).trans ?_
    refine (x_set (d := .ref 6) (S' := B0) ?_).trans rfl
    simp only [e_D, e_disp, e_dict, e_tup, e_ds, e_ds0, e_c, bd_ok', toD_val, d48_0, d48_1, toD_lis, vv_ok', List.length_cons, List.length_nil, if_pos sz1, if_pos sz2, if_pos sz3, if_pos (show (0 : Nat) ≤ sizeLine from Nat.zero_le _), d48_2, Nat.zero_add]
    rfl
  obtain ⟨m, hm, hm2⟩ : ∃ m : Int, p2 .min_ (.val (.int ns.length)) (.val (.int 63)) B0 = .ok (.val (.int m)) B0 ∧ m ≤ ns.length := by
    refine ⟨if (63 : Int) < ns.length then 63 else ns.length, rfl, ?_⟩
    split <;> omega
  have lp : ∃ ρ' S', forL [] (fun d ρ S => exSs (run tab 39) b48_0 (ρ.set 3 (some d)) S) (intsD (m - 1).toNat fun i => 1 + (i : Int)) [some L, some (.int (z % 2)), some (.ref 6), none, none] B0 = .ok .nx ρ' S' := by
    have := forL_invS (live := []) (turn := fun d ρ S => exSs (run tab 39) b48_0 (ρ.set 3 (some d)) S) (I := fun l ρ S => (∀ d ∈ l, ∃ i : Nat, d = .int (i : Nat) ∧ i < ns.length) ∧ (∃ x3 x4, ρ = [some L, some (.int (z % 2)), some (.ref 6), x3, x4]) ∧ ∃ V, S = B0 ++ V) (fun _ _ _ _ => isLive_nil) (intsD (m - 1).toNat fun i => 1 + (i : Int)) [some L, some (.int (z % 2)), some (.ref 6), none, none] B0 ?_ ⟨fun d hd => ?_, ⟨none, none, rfl⟩, [], by simp⟩
    · obtain ⟨ρ', S', h, _⟩ := this
      exact ⟨ρ', S', h⟩
    · rintro d r ρ S ⟨h1, ⟨x3, x4, rfl⟩, V, rfl⟩
      obtain ⟨i, rfl, hi⟩ := h1 d List.mem_cons_self
      obtain ⟨p, V', h⟩ := law_turn (V := V) (w := z % 2) hi (x4 := x4)
      rw [← hL] at h
      exact ⟨_, _, h, fun e he => h1 e (List.mem_cons_of_mem _ he), ⟨_, _, rfl⟩, V', rfl⟩
    · obtain ⟨j, hj, rfl⟩ := List.mem_map.mp hd
      have hj : j < (m - 1).toNat := by simpa using hj
      exact ⟨1 + j, by show D.int (1 + (j : Int)) = _; congr 1, by omega⟩
  obtain ⟨ρ', S', lp⟩ := lp
  refine ⟨[], ?_⟩
  rw [← hL]
  have pk : pack [] (.bl true) S' = .ok (.bl true) [] := by
    have := pack_app (S := []) (T := S') (d := .bl true) (by simp)
    simpa using this
  refine r_run (F := ⟨1, 5, b48⟩) (S' := S') rfl rfl ?_ pk
  show Rt (exSs (run tab 39) b48 [some L, none, none, none, none] []) _ _
  rw [s0]
  have fits : m ≤ 63 ∧ 0 ≤ m ∨ True := .inr trivial
  have v0 : ∀ T, evK (run tab 39) (.v 0) [some L, some (.int (z % 2)), some (.ref 6), none, none] T = .ok (.val L) T := fun T => e_v rfl
  refine Rt.go (x_for (ws := [.val (.int 1), .val (.int m)]) (I := ⟨intsD (m - 1).toNat fun i => 1 + (i : Int), []⟩) (S' := B0) (by simp only [e_ws, e_ws0, e_c, e_p2, e_p1, v0, bd_ok', hln, hm]) ?_ lp) ?_
  · have f : (fits62 1 && fits62 m) = true := by
      have h : 0 ≤ m := by
        injection hm with h
        injection h with h
        injection h with h
        rw [← h]
        split <;> omega
      unfold fits62
      simp only [Bool.and_eq_true, decide_eq_true_eq]
      omega
    show (if (fits62 1 && fits62 m) = true then some (⟨intsD (m - 1).toNat fun i => 1 + (i : Int), []⟩ : Its) else none) = _
    rw [if_pos f]
  · exact Rt.fin (y_ret (by simp))
end Mi.L

namespace Mi.L
open PySem L2 Mi
set_option maxHeartbeats 0 in
theorem top_ok {K : PySem.W.Frag} {h : Heap} {mg : Str → Option Value} {fa f0 f1 f2 f3 f4 f5 f6 f7 f8 f9 f10 f11 f12 f13 f14 f15 f16 f17 f18 f19 f20 f21 f22 f23 f24 f25 f26 f27 f28 f29 f30 f31 f32 f33 f34 f35 f36 f37 f38 f39 f40 f41 f42 f43 f44 f45 f46 f47 f48 : Addr} {od0 an0 od1 an1 od2 an2 od3 an3 od4 an4 od5 an5 od6 an6 od7 an7 od8 an8 od9 an9 od10 an10 od11 an11 od12 an12 od13 an13 od14 an14 od15 an15 od16 an16 od17 an17 od18 an18 od19 an19 od20 an20 od21 an21 od22 an22 od23 an23 od24 an24 od25 an25 od26 an26 od27 an27 od28 an28 od29 an29 od30 an30 od31 an31 od32 an32 od33 an33 od34 an34 od35 an35 od36 an36 od37 an37 od38 an38 od39 an39 od40 an40 od41 an41 od42 an42 od43 an43 od44 an44 od45 an45 od46 an46 od47 an47 od48 an48 : Option Addr} {sl0 sl1 sl2 sl3 sl4 sl5 sl6 sl7 sl8 sl9 sl10 sl11 sl12 sl13 sl14 sl15 sl16 sl17 sl18 sl19 sl20 sl21 sl22 sl23 sl24 sl25 sl26 sl27 sl28 sl29 sl30 sl31 sl32 sl33 sl34 sl35 sl36 sl37 sl38 sl39 sl40 sl41 sl42 sl43 sl44 sl45 sl46 sl47 sl48 : Array (Option Value)} {oc0 kV0 dc0 pm0 cd0 ct0 oc1 kV1 dc1 pm1 cd1 ct1 oc2 kV2 dc2 pm2 cd2 ct2 oc3 kV3 dc3 pm3 cd3 ct3 oc4 kV4 dc4 pm4 cd4 ct4 oc5 kV5 dc5 pm5 cd5 ct5 oc6 kV6 dc6 pm6 cd6 ct6 oc7 kV7 dc7 pm7 cd7 ct7 oc8 kV8 dc8 pm8 cd8 ct8 oc9 kV9 dc9 pm9 cd9 ct9 oc10 kV10 dc10 pm10 cd10 ct10 oc11 kV11 dc11 pm11 cd11 ct11 oc12 kV12 dc12 pm12 cd12 ct12 oc13 kV13 dc13 pm13 cd13 ct13 oc14 kV14 dc14 pm14 cd14 ct14 oc15 kV15 dc15 pm15 cd15 ct15 oc16 kV16 dc16 pm16 cd16 ct16 oc17 kV17 dc17 pm17 cd17 ct17 oc18 kV18 dc18 pm18 cd18 ct18 oc19 kV19 dc19 pm19 cd19 ct19 oc20 kV20 dc20 pm20 cd20 ct20 oc21 kV21 dc21 pm21 cd21 ct21 oc22 kV22 dc22 pm22 cd22 ct22 oc23 kV23 dc23 pm23 cd23 ct23 oc24 kV24 dc24 pm24 cd24 ct24 oc25 kV25 dc25 pm25 cd25 ct25 oc26 kV26 dc26 pm26 cd26 ct26 oc27 kV27 dc27 pm27 cd27 ct27 oc28 kV28 dc28 pm28 cd28 ct28 oc29 kV29 dc29 pm29 cd29 ct29 oc30 kV30 dc30 pm30 cd30 ct30 oc31 kV31 dc31 pm31 cd31 ct31 oc32 kV32 dc32 pm32 cd32 ct32 oc33 kV33 dc33 pm33 cd33 ct33 oc34 kV34 dc34 pm34 cd34 ct34 oc35 kV35 dc35 pm35 cd35 ct35 oc36 kV36 dc36 pm36 cd36 ct36 oc37 kV37 dc37 pm37 cd37 ct37 oc38 kV38 dc38 pm38 cd38 ct38 oc39 kV39 dc39 pm39 cd39 ct39 oc40 kV40 dc40 pm40 cd40 ct40 oc41 kV41 dc41 pm41 cd41 ct41 oc42 kV42 dc42 pm42 cd42 ct42 oc43 kV43 dc43 pm43 cd43 ct43 oc44 kV44 dc44 pm44 cd44 ct44 oc45 kV45 dc45 pm45 cd45 ct45 oc46 kV46 dc46 pm46 cd46 ct46 oc47 kV47 dc47 pm47 cd47 ct47 oc48 kV48 dc48 pm48 cd48 ct48 : Value} {tk0 tk1 tk2 tk3 tk4 tk5 tk6 tk7 tk8_0 tk8_1 tk8_2 tk8_3 tk8_4 tk8_5 tk9_0 tk9_1 tk9_2 tk9_3 tk10 tk11 tk12 : Tok} {g8 g9 X0 X1 : Addr} {gd8 : Option Addr} {gs8 : Array (Option Value)} {gn8 : Nat} {gd9 : Option Addr} {gs9 : Array (Option Value)} {gn9 : Nat} (X : K.In h) (G : h.Ns mainGlobals mg) (hfa : mg "law" = some (.ref fa))
    (a0 : PySem.W.nsIn K mainGlobals "is_name" = some (some (.ref f0))) (l0 : K.lookup f0 = some ⟨oc0, od0, .func (PySem.W.fnOf "is_name" "is_name" (defArgs s0) (defBody s0) (defScope s0) .none kV0 dc0 pm0 an0 cd0 ct0), sl0⟩) (c0 : PySem.W.codeIn K cd0 "is_name" = true) (k0 : PySem.W.keepIn K (.ref f0) = true)
    (a1 : PySem.W.nsIn K mainGlobals "is_value" = some (some (.ref f1))) (l1 : K.lookup f1 = some ⟨oc1, od1, .func (PySem.W.fnOf "is_value" "is_value" (defArgs s1) (defBody s1) (defScope s1) .none kV1 dc1 pm1 an1 cd1 ct1), sl1⟩) (c1 : PySem.W.codeIn K cd1 "is_value" = true) (k1 : PySem.W.keepIn K (.ref f1) = true)
    (a2 : PySem.W.nsIn K mainGlobals "words_in" = some (some (.ref f2))) (l2 : K.lookup f2 = some ⟨oc2, od2, .func (PySem.W.fnOf "words_in" "words_in" (defArgs s2) (defBody s2) (defScope s2) .none kV2 dc2 pm2 an2 cd2 ct2), sl2⟩) (c2 : PySem.W.codeIn K cd2 "words_in" = true) (k2 : PySem.W.keepIn K (.ref f2) = true)
    (a3 : PySem.W.nsIn K mainGlobals "number_of" = some (some (.ref f3))) (l3 : K.lookup f3 = some ⟨oc3, od3, .func (PySem.W.fnOf "number_of" "number_of" (defArgs s3) (defBody s3) (defScope s3) .none kV3 dc3 pm3 an3 cd3 ct3), sl3⟩) (c3 : PySem.W.codeIn K cd3 "number_of" = true) (k3 : PySem.W.keepIn K (.ref f3) = true)
    (a4 : PySem.W.nsIn K mainGlobals "value_of" = some (some (.ref f4))) (l4 : K.lookup f4 = some ⟨oc4, od4, .func (PySem.W.fnOf "value_of" "value_of" (defArgs s4) (defBody s4) (defScope s4) .none kV4 dc4 pm4 an4 cd4 ct4), sl4⟩) (c4 : PySem.W.codeIn K cd4 "value_of" = true) (k4 : PySem.W.keepIn K (.ref f4) = true)
    (a5 : PySem.W.nsIn K mainGlobals "word_at" = some (some (.ref f5))) (l5 : K.lookup f5 = some ⟨oc5, od5, .func (PySem.W.fnOf "word_at" "word_at" (defArgs s5) (defBody s5) (defScope s5) .none kV5 dc5 pm5 an5 cd5 ct5), sl5⟩) (c5 : PySem.W.codeIn K cd5 "word_at" = true) (k5 : PySem.W.keepIn K (.ref f5) = true)
    (a6 : PySem.W.nsIn K mainGlobals "need_word" = some (some (.ref f6))) (l6 : K.lookup f6 = some ⟨oc6, od6, .func (PySem.W.fnOf "need_word" "need_word" (defArgs s6) (defBody s6) (defScope s6) .none kV6 dc6 pm6 an6 cd6 ct6), sl6⟩) (c6 : PySem.W.codeIn K cd6 "need_word" = true) (k6 : PySem.W.keepIn K (.ref f6) = true)
    (a7 : PySem.W.nsIn K mainGlobals "name_at" = some (some (.ref f7))) (l7 : K.lookup f7 = some ⟨oc7, od7, .func (PySem.W.fnOf "name_at" "name_at" (defArgs s7) (defBody s7) (defScope s7) .none kV7 dc7 pm7 an7 cd7 ct7), sl7⟩) (c7 : PySem.W.codeIn K cd7 "name_at" = true) (k7 : PySem.W.keepIn K (.ref f7) = true)
    (a8 : PySem.W.nsIn K mainGlobals "column_at" = some (some (.ref f8))) (l8 : K.lookup f8 = some ⟨oc8, od8, .func (PySem.W.fnOf "column_at" "column_at" (defArgs s8) (defBody s8) (defScope s8) .none kV8 dc8 pm8 an8 cd8 ct8), sl8⟩) (c8 : PySem.W.codeIn K cd8 "column_at" = true) (k8 : PySem.W.keepIn K (.ref f8) = true)
    (a9 : PySem.W.nsIn K mainGlobals "test_at" = some (some (.ref f9))) (l9 : K.lookup f9 = some ⟨oc9, od9, .func (PySem.W.fnOf "test_at" "test_at" (defArgs s9) (defBody s9) (defScope s9) .none kV9 dc9 pm9 an9 cd9 ct9), sl9⟩) (c9 : PySem.W.codeIn K cd9 "test_at" = true) (k9 : PySem.W.keepIn K (.ref f9) = true)
    (a10 : PySem.W.nsIn K mainGlobals "group_at" = some (some (.ref f10))) (l10 : K.lookup f10 = some ⟨oc10, od10, .func (PySem.W.fnOf "group_at" "group_at" (defArgs s10) (defBody s10) (defScope s10) .none kV10 dc10 pm10 an10 cd10 ct10), sl10⟩) (c10 : PySem.W.codeIn K cd10 "group_at" = true) (k10 : PySem.W.keepIn K (.ref f10) = true)
    (a11 : PySem.W.nsIn K mainGlobals "condition_at" = some (some (.ref f11))) (l11 : K.lookup f11 = some ⟨oc11, od11, .func (PySem.W.fnOf "condition_at" "condition_at" (defArgs s11) (defBody s11) (defScope s11) .none kV11 dc11 pm11 an11 cd11 ct11), sl11⟩) (c11 : PySem.W.codeIn K cd11 "condition_at" = true) (k11 : PySem.W.keepIn K (.ref f11) = true)
    (a12 : PySem.W.nsIn K mainGlobals "read_condition" = some (some (.ref f12))) (l12 : K.lookup f12 = some ⟨oc12, od12, .func (PySem.W.fnOf "read_condition" "read_condition" (defArgs s12) (defBody s12) (defScope s12) .none kV12 dc12 pm12 an12 cd12 ct12), sl12⟩) (c12 : PySem.W.codeIn K cd12 "read_condition" = true) (k12 : PySem.W.keepIn K (.ref f12) = true)
    (a13 : PySem.W.nsIn K mainGlobals "what_at" = some (some (.ref f13))) (l13 : K.lookup f13 = some ⟨oc13, od13, .func (PySem.W.fnOf "what_at" "what_at" (defArgs s13) (defBody s13) (defScope s13) .none kV13 dc13 pm13 an13 cd13 ct13), sl13⟩) (c13 : PySem.W.codeIn K cd13 "what_at" = true) (k13 : PySem.W.keepIn K (.ref f13) = true)
    (a14 : PySem.W.nsIn K mainGlobals "second_at" = some (some (.ref f14))) (l14 : K.lookup f14 = some ⟨oc14, od14, .func (PySem.W.fnOf "second_at" "second_at" (defArgs s14) (defBody s14) (defScope s14) .none kV14 dc14 pm14 an14 cd14 ct14), sl14⟩) (c14 : PySem.W.codeIn K cd14 "second_at" = true) (k14 : PySem.W.keepIn K (.ref f14) = true)
    (a15 : PySem.W.nsIn K mainGlobals "rising_at" = some (some (.ref f15))) (l15 : K.lookup f15 = some ⟨oc15, od15, .func (PySem.W.fnOf "rising_at" "rising_at" (defArgs s15) (defBody s15) (defScope s15) .none kV15 dc15 pm15 an15 cd15 ct15), sl15⟩) (c15 : PySem.W.codeIn K cd15 "rising_at" = true) (k15 : PySem.W.keepIn K (.ref f15) = true)
    (a16 : PySem.W.nsIn K mainGlobals "first_at" = some (some (.ref f16))) (l16 : K.lookup f16 = some ⟨oc16, od16, .func (PySem.W.fnOf "first_at" "first_at" (defArgs s16) (defBody s16) (defScope s16) .none kV16 dc16 pm16 an16 cd16 ct16), sl16⟩) (c16 : PySem.W.codeIn K cd16 "first_at" = true) (k16 : PySem.W.keepIn K (.ref f16) = true)
    (a17 : PySem.W.nsIn K mainGlobals "columns_in" = some (some (.ref f17))) (l17 : K.lookup f17 = some ⟨oc17, od17, .func (PySem.W.fnOf "columns_in" "columns_in" (defArgs s17) (defBody s17) (defScope s17) .none kV17 dc17 pm17 an17 cd17 ct17), sl17⟩) (c17 : PySem.W.codeIn K cd17 "columns_in" = true) (k17 : PySem.W.keepIn K (.ref f17) = true)
    (a18 : PySem.W.nsIn K mainGlobals "columns_asked" = some (some (.ref f18))) (l18 : K.lookup f18 = some ⟨oc18, od18, .func (PySem.W.fnOf "columns_asked" "columns_asked" (defArgs s18) (defBody s18) (defScope s18) .none kV18 dc18 pm18 an18 cd18 ct18), sl18⟩) (c18 : PySem.W.codeIn K cd18 "columns_asked" = true) (k18 : PySem.W.keepIn K (.ref f18) = true)
    (a19 : PySem.W.nsIn K mainGlobals "tables_asked" = some (some (.ref f19))) (l19 : K.lookup f19 = some ⟨oc19, od19, .func (PySem.W.fnOf "tables_asked" "tables_asked" (defArgs s19) (defBody s19) (defScope s19) .none kV19 dc19 pm19 an19 cd19 ct19), sl19⟩) (c19 : PySem.W.codeIn K cd19 "tables_asked" = true) (k19 : PySem.W.keepIn K (.ref f19) = true)
    (a20 : PySem.W.nsIn K mainGlobals "read_question" = some (some (.ref f20))) (l20 : K.lookup f20 = some ⟨oc20, od20, .func (PySem.W.fnOf "read_question" "read_question" (defArgs s20) (defBody s20) (defScope s20) .none kV20 dc20 pm20 an20 cd20 ct20), sl20⟩) (c20 : PySem.W.codeIn K cd20 "read_question" = true) (k20 : PySem.W.keepIn K (.ref f20) = true)
    (a21 : PySem.W.nsIn K mainGlobals "need_many" = some (some (.ref f21))) (l21 : K.lookup f21 = some ⟨oc21, od21, .func (PySem.W.fnOf "need_many" "need_many" (defArgs s21) (defBody s21) (defScope s21) .none kV21 dc21 pm21 an21 cd21 ct21), sl21⟩) (c21 : PySem.W.codeIn K cd21 "need_many" = true) (k21 : PySem.W.keepIn K (.ref f21) = true)
    (a22 : PySem.W.nsIn K mainGlobals "table_of" = some (some (.ref f22))) (l22 : K.lookup f22 = some ⟨oc22, od22, .func (PySem.W.fnOf "table_of" "table_of" (defArgs s22) (defBody s22) (defScope s22) .none kV22 dc22 pm22 an22 cd22 ct22), sl22⟩) (c22 : PySem.W.codeIn K cd22 "table_of" = true) (k22 : PySem.W.keepIn K (.ref f22) = true)
    (a23 : PySem.W.nsIn K mainGlobals "column_of" = some (some (.ref f23))) (l23 : K.lookup f23 = some ⟨oc23, od23, .func (PySem.W.fnOf "column_of" "column_of" (defArgs s23) (defBody s23) (defScope s23) .none kV23 dc23 pm23 an23 cd23 ct23), sl23⟩) (c23 : PySem.W.codeIn K cd23 "column_of" = true) (k23 : PySem.W.keepIn K (.ref f23) = true)
    (a24 : PySem.W.nsIn K mainGlobals "columns_within" = some (some (.ref f24))) (l24 : K.lookup f24 = some ⟨oc24, od24, .func (PySem.W.fnOf "columns_within" "columns_within" (defArgs s24) (defBody s24) (defScope s24) .none kV24 dc24 pm24 an24 cd24 ct24), sl24⟩) (c24 : PySem.W.codeIn K cd24 "columns_within" = true) (k24 : PySem.W.keepIn K (.ref f24) = true)
    (a25 : PySem.W.nsIn K mainGlobals "condition_behind" = some (some (.ref f25))) (l25 : K.lookup f25 = some ⟨oc25, od25, .func (PySem.W.fnOf "condition_behind" "condition_behind" (defArgs s25) (defBody s25) (defScope s25) .none kV25 dc25 pm25 an25 cd25 ct25), sl25⟩) (c25 : PySem.W.codeIn K cd25 "condition_behind" = true) (k25 : PySem.W.keepIn K (.ref f25) = true)
    (a26 : PySem.W.nsIn K mainGlobals "changing" = some (some (.ref f26))) (l26 : K.lookup f26 = some ⟨oc26, od26, .func (PySem.W.fnOf "changing" "changing" (defArgs s26) (defBody s26) (defScope s26) .none kV26 dc26 pm26 an26 cd26 ct26), sl26⟩) (c26 : PySem.W.codeIn K cd26 "changing" = true) (k26 : PySem.W.keepIn K (.ref f26) = true)
    (a27 : PySem.W.nsIn K mainGlobals "step_in" = some (some (.ref f27))) (l27 : K.lookup f27 = some ⟨oc27, od27, .func (PySem.W.fnOf "step_in" "step_in" (defArgs s27) (defBody s27) (defScope s27) .none kV27 dc27 pm27 an27 cd27 ct27), sl27⟩) (c27 : PySem.W.codeIn K cd27 "step_in" = true) (k27 : PySem.W.keepIn K (.ref f27) = true)
    (a28 : PySem.W.nsIn K mainGlobals "read_step" = some (some (.ref f28))) (l28 : K.lookup f28 = some ⟨oc28, od28, .func (PySem.W.fnOf "read_step" "read_step" (defArgs s28) (defBody s28) (defScope s28) .none kV28 dc28 pm28 an28 cd28 ct28), sl28⟩) (c28 : PySem.W.codeIn K cd28 "read_step" = true) (k28 : PySem.W.keepIn K (.ref f28) = true)
    (a29 : PySem.W.nsIn K mainGlobals "_law_cell_at" = some (some (.ref f29))) (l29 : K.lookup f29 = some ⟨oc29, od29, .func (PySem.W.fnOf "_law_cell_at" "_law_cell_at" (defArgs s29) (defBody s29) (defScope s29) .none kV29 dc29 pm29 an29 cd29 ct29), sl29⟩) (c29 : PySem.W.codeIn K cd29 "_law_cell_at" = true) (k29 : PySem.W.keepIn K (.ref f29) = true)
    (a30 : PySem.W.nsIn K mainGlobals "_law_take" = some (some (.ref f30))) (l30 : K.lookup f30 = some ⟨oc30, od30, .func (PySem.W.fnOf "_law_take" "_law_take" (defArgs s30) (defBody s30) (defScope s30) .none kV30 dc30 pm30 an30 cd30 ct30), sl30⟩) (c30 : PySem.W.codeIn K cd30 "_law_take" = true) (k30 : PySem.W.keepIn K (.ref f30) = true)
    (a31 : PySem.W.nsIn K mainGlobals "_law_value" = some (some (.ref f31))) (l31 : K.lookup f31 = some ⟨oc31, od31, .func (PySem.W.fnOf "_law_value" "_law_value" (defArgs s31) (defBody s31) (defScope s31) .none kV31 dc31 pm31 an31 cd31 ct31), sl31⟩) (c31 : PySem.W.codeIn K cd31 "_law_value" = true) (k31 : PySem.W.keepIn K (.ref f31) = true)
    (a32 : PySem.W.nsIn K mainGlobals "_law_word" = some (some (.ref f32))) (l32 : K.lookup f32 = some ⟨oc32, od32, .func (PySem.W.fnOf "_law_word" "_law_word" (defArgs s32) (defBody s32) (defScope s32) .none kV32 dc32 pm32 an32 cd32 ct32), sl32⟩) (c32 : PySem.W.codeIn K cd32 "_law_word" = true) (k32 : PySem.W.keepIn K (.ref f32) = true)
    (a33 : PySem.W.nsIn K mainGlobals "_law_key" = some (some (.ref f33))) (l33 : K.lookup f33 = some ⟨oc33, od33, .func (PySem.W.fnOf "_law_key" "_law_key" (defArgs s33) (defBody s33) (defScope s33) .none kV33 dc33 pm33 an33 cd33 ct33), sl33⟩) (c33 : PySem.W.codeIn K cd33 "_law_key" = true) (k33 : PySem.W.keepIn K (.ref f33) = true)
    (a34 : PySem.W.nsIn K mainGlobals "_law_condition" = some (some (.ref f34))) (l34 : K.lookup f34 = some ⟨oc34, od34, .func (PySem.W.fnOf "_law_condition" "_law_condition" (defArgs s34) (defBody s34) (defScope s34) .none kV34 dc34 pm34 an34 cd34 ct34), sl34⟩) (c34 : PySem.W.codeIn K cd34 "_law_condition" = true) (k34 : PySem.W.keepIn K (.ref f34) = true)
    (a35 : PySem.W.nsIn K mainGlobals "_law_column_word" = some (some (.ref f35))) (l35 : K.lookup f35 = some ⟨oc35, od35, .func (PySem.W.fnOf "_law_column_word" "_law_column_word" (defArgs s35) (defBody s35) (defScope s35) .none kV35 dc35 pm35 an35 cd35 ct35), sl35⟩) (c35 : PySem.W.codeIn K cd35 "_law_column_word" = true) (k35 : PySem.W.keepIn K (.ref f35) = true)
    (a36 : PySem.W.nsIn K mainGlobals "_law_condition_text" = some (some (.ref f36))) (l36 : K.lookup f36 = some ⟨oc36, od36, .func (PySem.W.fnOf "_law_condition_text" "_law_condition_text" (defArgs s36) (defBody s36) (defScope s36) .none kV36 dc36 pm36 an36 cd36 ct36), sl36⟩) (c36 : PySem.W.codeIn K cd36 "_law_condition_text" = true) (k36 : PySem.W.keepIn K (.ref f36) = true)
    (a37 : PySem.W.nsIn K mainGlobals "_law_true" = some (some (.ref f37))) (l37 : K.lookup f37 = some ⟨oc37, od37, .func (PySem.W.fnOf "_law_true" "_law_true" (defArgs s37) (defBody s37) (defScope s37) .none kV37 dc37 pm37 an37 cd37 ct37), sl37⟩) (c37 : PySem.W.codeIn K cd37 "_law_true" = true) (k37 : PySem.W.keepIn K (.ref f37) = true)
    (a38 : PySem.W.nsIn K mainGlobals "_law_question_text" = some (some (.ref f38))) (l38 : K.lookup f38 = some ⟨oc38, od38, .func (PySem.W.fnOf "_law_question_text" "_law_question_text" (defArgs s38) (defBody s38) (defScope s38) .none kV38 dc38 pm38 an38 cd38 ct38), sl38⟩) (c38 : PySem.W.codeIn K cd38 "_law_question_text" = true) (k38 : PySem.W.keepIn K (.ref f38) = true)
    (a39 : PySem.W.nsIn K mainGlobals "_law_answer" = some (some (.ref f39))) (l39 : K.lookup f39 = some ⟨oc39, od39, .func (PySem.W.fnOf "_law_answer" "_law_answer" (defArgs s39) (defBody s39) (defScope s39) .none kV39 dc39 pm39 an39 cd39 ct39), sl39⟩) (c39 : PySem.W.codeIn K cd39 "_law_answer" = true) (k39 : PySem.W.keepIn K (.ref f39) = true)
    (a40 : PySem.W.nsIn K mainGlobals "_law_column" = some (some (.ref f40))) (l40 : K.lookup f40 = some ⟨oc40, od40, .func (PySem.W.fnOf "_law_column" "_law_column" (defArgs s40) (defBody s40) (defScope s40) .none kV40 dc40 pm40 an40 cd40 ct40), sl40⟩) (c40 : PySem.W.codeIn K cd40 "_law_column" = true) (k40 : PySem.W.keepIn K (.ref f40) = true)
    (a41 : PySem.W.nsIn K mainGlobals "_law_behind" = some (some (.ref f41))) (l41 : K.lookup f41 = some ⟨oc41, od41, .func (PySem.W.fnOf "_law_behind" "_law_behind" (defArgs s41) (defBody s41) (defScope s41) .none kV41 dc41 pm41 an41 cd41 ct41), sl41⟩) (c41 : PySem.W.codeIn K cd41 "_law_behind" = true) (k41 : PySem.W.keepIn K (.ref f41) = true)
    (a42 : PySem.W.nsIn K mainGlobals "_law_need" = some (some (.ref f42))) (l42 : K.lookup f42 = some ⟨oc42, od42, .func (PySem.W.fnOf "_law_need" "_law_need" (defArgs s42) (defBody s42) (defScope s42) .none kV42 dc42 pm42 an42 cd42 ct42), sl42⟩) (c42 : PySem.W.codeIn K cd42 "_law_need" = true) (k42 : PySem.W.keepIn K (.ref f42) = true)
    (a43 : PySem.W.nsIn K mainGlobals "_law_make" = some (some (.ref f43))) (l43 : K.lookup f43 = some ⟨oc43, od43, .func (PySem.W.fnOf "_law_make" "_law_make" (defArgs s43) (defBody s43) (defScope s43) .none kV43 dc43 pm43 an43 cd43 ct43), sl43⟩) (c43 : PySem.W.codeIn K cd43 "_law_make" = true) (k43 : PySem.W.keepIn K (.ref f43) = true)
    (a44 : PySem.W.nsIn K mainGlobals "_law_step" = some (some (.ref f44))) (l44 : K.lookup f44 = some ⟨oc44, od44, .func (PySem.W.fnOf "_law_step" "_law_step" (defArgs s44) (defBody s44) (defScope s44) .none kV44 dc44 pm44 an44 cd44 ct44), sl44⟩) (c44 : PySem.W.codeIn K cd44 "_law_step" = true) (k44 : PySem.W.keepIn K (.ref f44) = true)
    (a45 : PySem.W.nsIn K mainGlobals "_law_where" = some (some (.ref f45))) (l45 : K.lookup f45 = some ⟨oc45, od45, .func (PySem.W.fnOf "_law_where" "_law_where" (defArgs s45) (defBody s45) (defScope s45) .none kV45 dc45 pm45 an45 cd45 ct45), sl45⟩) (c45 : PySem.W.codeIn K cd45 "_law_where" = true) (k45 : PySem.W.keepIn K (.ref f45) = true)
    (a46 : PySem.W.nsIn K mainGlobals "_law_step_text" = some (some (.ref f46))) (l46 : K.lookup f46 = some ⟨oc46, od46, .func (PySem.W.fnOf "_law_step_text" "_law_step_text" (defArgs s46) (defBody s46) (defScope s46) .none kV46 dc46 pm46 an46 cd46 ct46), sl46⟩) (c46 : PySem.W.codeIn K cd46 "_law_step_text" = true) (k46 : PySem.W.keepIn K (.ref f46) = true)
    (a47 : PySem.W.nsIn K mainGlobals "_law_alike" = some (some (.ref f47))) (l47 : K.lookup f47 = some ⟨oc47, od47, .func (PySem.W.fnOf "_law_alike" "_law_alike" (defArgs s47) (defBody s47) (defScope s47) .none kV47 dc47 pm47 an47 cd47 ct47), sl47⟩) (c47 : PySem.W.codeIn K cd47 "_law_alike" = true) (k47 : PySem.W.keepIn K (.ref f47) = true)
    (a48 : PySem.W.nsIn K mainGlobals "law" = some (some (.ref f48))) (l48 : K.lookup f48 = some ⟨oc48, od48, .func (PySem.W.fnOf "law" "law" (defArgs s48) (defBody s48) (defScope s48) .none kV48 dc48 pm48 an48 cd48 ct48), sl48⟩) (c48 : PySem.W.codeIn K cd48 "law" = true) (k48 : PySem.W.keepIn K (.ref f48) = true)
    (q0 : PySem.W.nsIn K mainGlobals "LETTERS" = some (some (.str "abcdefghijklmnopqrstuvwxyz" tk0)))
    (q1 : PySem.W.nsIn K mainGlobals "SIGNS_names" = some (some (.str " !\"#$&()*+,-./0123456789:<=>?@ABCDEFGHIJKLMNOPQRSTUVWXYZ[\\]^_`abcdefghijklmnopqrstuvwxyz{|}~" tk1)))
    (q2 : PySem.W.nsIn K mainGlobals "MOST_LETTERS" = some (some (.int 8 tk2)))
    (q3 : PySem.W.nsIn K mainGlobals "MOST_SIGNS" = some (some (.int 20 tk3)))
    (q4 : PySem.W.nsIn K mainGlobals "MOST" = some (some (.int 1000000000000 tk4)))
    (q5 : PySem.W.nsIn K mainGlobals "QUOTE" = some (some (.str "'" tk5)))
    (q6 : PySem.W.nsIn K mainGlobals "FIGURES" = some (some (.str "0123456789" tk6)))
    (q7 : PySem.W.nsIn K mainGlobals "MOST_FIGURES" = some (some (.int 13 tk7)))
    (q8 : PySem.W.nsIn K mainGlobals "SIGNS_questions" = some (some (.ref g8))) (ql8 : K.lookup g8 = some ⟨.type "tuple", gd8, .seq #[.str "=" tk8_0, .str "#" tk8_1, .str "<" tk8_2, .str ">" tk8_3, .str "<=" tk8_4, .str ">=" tk8_5] gn8, gs8⟩)
    (q9 : PySem.W.nsIn K mainGlobals "OF_ONE" = some (some (.ref g9))) (ql9 : K.lookup g9 = some ⟨.type "tuple", gd9, .seq #[.str "sum" tk9_0, .str "least" tk9_1, .str "most" tk9_2, .str "groups" tk9_3] gn9, gs9⟩)
    (q10 : PySem.W.nsIn K mainGlobals "DEEPEST" = some (some (.int 5 tk10)))
    (q11 : PySem.W.nsIn K mainGlobals "MOST_COLUMNS" = some (some (.int 12 tk11)))
    (q12 : PySem.W.nsIn K mainGlobals "MOST_FIRST" = some (some (.int 1000 tk12)))
    (e0 : PySem.W.nsIn K mainGlobals "NoQuestion" = some (some (.ref X0))) (ea0 : PySem.W.excIn K X0 [.type "ValueError", .type "Exception", .type "BaseException", .type "object"] "ValueError.__new__" = true) (ek0 : PySem.W.keepIn K (.ref X0) = true) (es0 : PySem.W.subIn K (.ref X0) (.type "BaseException") = some true) (et0 : PySem.W.typeIn K (.ref X0) = some (.type "type"))
    (e1 : PySem.W.nsIn K mainGlobals "NoStep" = some (some (.ref X1))) (ea1 : PySem.W.excIn K X1 [.type "ValueError", .type "Exception", .type "BaseException", .type "object"] "ValueError.__new__" = true) (ek1 : PySem.W.keepIn K (.ref X1) = true) (es1 : PySem.W.subIn K (.ref X1) (.type "BaseException") = some true) (et1 : PySem.W.typeIn K (.ref X1) = some (.type "type"))
    (z0 : PySem.W.nsIn K mainGlobals "len" = some none)
    (z1 : PySem.W.nsIn K mainGlobals "int" = some none)
    (z2 : PySem.W.nsIn K mainGlobals "ord" = some none)
    (z3 : PySem.W.nsIn K mainGlobals "str" = some none)
    (z4 : PySem.W.nsIn K mainGlobals "tuple" = some none)
    (z5 : PySem.W.nsIn K mainGlobals "list" = some none)
    (z6 : PySem.W.nsIn K mainGlobals "isinstance" = some none)
    (z7 : PySem.W.nsIn K mainGlobals "bool" = some none)
    (z8 : PySem.W.nsIn K mainGlobals "range" = some none)
    (z9 : PySem.W.nsIn K mainGlobals "zip" = some none)
    (z10 : PySem.W.nsIn K mainGlobals "enumerate" = some none)
    (z11 : PySem.W.nsIn K mainGlobals "reversed" = some none)
    (z12 : PySem.W.nsIn K mainGlobals "dict" = some none)
    (z13 : PySem.W.nsIn K mainGlobals "sorted" = some none)
    (z14 : PySem.W.nsIn K mainGlobals "sum" = some none)
    (z15 : PySem.W.nsIn K mainGlobals "all" = some none)
    (z16 : PySem.W.nsIn K mainGlobals "any" = some none)
    (z17 : PySem.W.nsIn K mainGlobals "max" = some none)
    (z18 : PySem.W.nsIn K mainGlobals "min" = some none)
    (z19 : PySem.W.nsIn K mainGlobals "abs" = some none)
    (z20 : PySem.W.nsIn K mainGlobals "set" = some none)
    : ∃ fd : FuncData, (∀ (s : Shared) (u : Value), BindsTo s fd ⟨[u], []⟩ [("script", u)]) ∧ TopOk (gbX exT K) tab glT mg ∧ DefOk (gbX exT K) tab glT "law" 48 fa fd ["script"] := by
  have e := hfa.symm.trans (PySem.W.mg_of X G a48)
  cases e
  have F0 := fun_mk (st := s0) l0 c0 k0
  have B0 := F0.binds (ps := P0) fun _ _ _ _ _ _ us hl => match us, hl with | [_], _ => rfl
  have D0 : DefOk (gbX exT K) tab glT "is_name" 0 _ _ P0 := ⟨s0, N0, _, F0, sc0, Mi.L.c0, rfl, rfl, rfl⟩
  have F1 := fun_mk (st := s1) l1 c1 k1
  have B1 := F1.binds (ps := P1) fun _ _ _ _ _ _ us hl => match us, hl with | [_], _ => rfl
  have D1 : DefOk (gbX exT K) tab glT "is_value" 1 _ _ P1 := ⟨s1, N1, _, F1, sc1, Mi.L.c1, rfl, rfl, rfl⟩
  have F2 := fun_mk (st := s2) l2 c2 k2
  have B2 := F2.binds (ps := P2) fun _ _ _ _ _ _ us hl => match us, hl with | [_], _ => rfl
  have D2 : DefOk (gbX exT K) tab glT "words_in" 2 _ _ P2 := ⟨s2, N2, _, F2, sc2, Mi.L.c2, rfl, rfl, rfl⟩
  have F3 := fun_mk (st := s3) l3 c3 k3
  have B3 := F3.binds (ps := P3) fun _ _ _ _ _ _ us hl => match us, hl with | [_], _ => rfl
  have D3 : DefOk (gbX exT K) tab glT "number_of" 3 _ _ P3 := ⟨s3, N3, _, F3, sc3, Mi.L.c3, rfl, rfl, rfl⟩
  have F4 := fun_mk (st := s4) l4 c4 k4
  have B4 := F4.binds (ps := P4) fun _ _ _ _ _ _ us hl => match us, hl with | [_], _ => rfl
  have D4 : DefOk (gbX exT K) tab glT "value_of" 4 _ _ P4 := ⟨s4, N4, _, F4, sc4, Mi.L.c4, rfl, rfl, rfl⟩
  have F5 := fun_mk (st := s5) l5 c5 k5
  have B5 := F5.binds (ps := P5) fun _ _ _ _ _ _ us hl => match us, hl with | [_, _], _ => rfl
  have D5 : DefOk (gbX exT K) tab glT "word_at" 5 _ _ P5 := ⟨s5, N5, _, F5, sc5, Mi.L.c5, rfl, rfl, rfl⟩
  have F6 := fun_mk (st := s6) l6 c6 k6
  have B6 := F6.binds (ps := P6) fun _ _ _ _ _ _ us hl => match us, hl with | [_, _, _], _ => rfl
  have D6 : DefOk (gbX exT K) tab glT "need_word" 6 _ _ P6 := ⟨s6, N6, _, F6, sc6, Mi.L.c6, rfl, rfl, rfl⟩
  have F7 := fun_mk (st := s7) l7 c7 k7
  have B7 := F7.binds (ps := P7) fun _ _ _ _ _ _ us hl => match us, hl with | [_, _], _ => rfl
  have D7 : DefOk (gbX exT K) tab glT "name_at" 7 _ _ P7 := ⟨s7, N7, _, F7, sc7, Mi.L.c7, rfl, rfl, rfl⟩
  have F8 := fun_mk (st := s8) l8 c8 k8
  have B8 := F8.binds (ps := P8) fun _ _ _ _ _ _ us hl => match us, hl with | [_, _], _ => rfl
  have D8 : DefOk (gbX exT K) tab glT "column_at" 8 _ _ P8 := ⟨s8, N8, _, F8, sc8, Mi.L.c8, rfl, rfl, rfl⟩
  have F9 := fun_mk (st := s9) l9 c9 k9
  have B9 := F9.binds (ps := P9) fun _ _ _ _ _ _ us hl => match us, hl with | [_, _], _ => rfl
  have D9 : DefOk (gbX exT K) tab glT "test_at" 9 _ _ P9 := ⟨s9, N9, _, F9, sc9, Mi.L.c9, rfl, rfl, rfl⟩
  have F10 := fun_mk (st := s10) l10 c10 k10
  have B10 := F10.binds (ps := P10) fun _ _ _ _ _ _ us hl => match us, hl with | [_, _, _], _ => rfl
  have D10 : DefOk (gbX exT K) tab glT "group_at" 10 _ _ P10 := ⟨s10, N10, _, F10, sc10, Mi.L.c10, rfl, rfl, rfl⟩
  have F11 := fun_mk (st := s11) l11 c11 k11
  have B11 := F11.binds (ps := P11) fun _ _ _ _ _ _ us hl => match us, hl with | [_, _, _], _ => rfl
  have D11 : DefOk (gbX exT K) tab glT "condition_at" 11 _ _ P11 := ⟨s11, N11, _, F11, sc11, Mi.L.c11, rfl, rfl, rfl⟩
  have F12 := fun_mk (st := s12) l12 c12 k12
  have B12 := F12.binds (ps := P12) fun _ _ _ _ _ _ us hl => match us, hl with | [_], _ => rfl
  have D12 : DefOk (gbX exT K) tab glT "read_condition" 12 _ _ P12 := ⟨s12, N12, _, F12, sc12, Mi.L.c12, rfl, rfl, rfl⟩
  have F13 := fun_mk (st := s13) l13 c13 k13
  have B13 := F13.binds (ps := P13) fun _ _ _ _ _ _ us hl => match us, hl with | [_], _ => rfl
  have D13 : DefOk (gbX exT K) tab glT "what_at" 13 _ _ P13 := ⟨s13, N13, _, F13, sc13, Mi.L.c13, rfl, rfl, rfl⟩
  have F14 := fun_mk (st := s14) l14 c14 k14
  have B14 := F14.binds (ps := P14) fun _ _ _ _ _ _ us hl => match us, hl with | [_, _, _], _ => rfl
  have D14 : DefOk (gbX exT K) tab glT "second_at" 14 _ _ P14 := ⟨s14, N14, _, F14, sc14, Mi.L.c14, rfl, rfl, rfl⟩
  have F15 := fun_mk (st := s15) l15 c15 k15
  have B15 := F15.binds (ps := P15) fun _ _ _ _ _ _ us hl => match us, hl with | [_, _], _ => rfl
  have D15 : DefOk (gbX exT K) tab glT "rising_at" 15 _ _ P15 := ⟨s15, N15, _, F15, sc15, Mi.L.c15, rfl, rfl, rfl⟩
  have F16 := fun_mk (st := s16) l16 c16 k16
  have B16 := F16.binds (ps := P16) fun _ _ _ _ _ _ us hl => match us, hl with | [_, _], _ => rfl
  have D16 : DefOk (gbX exT K) tab glT "first_at" 16 _ _ P16 := ⟨s16, N16, _, F16, sc16, Mi.L.c16, rfl, rfl, rfl⟩
  have F17 := fun_mk (st := s17) l17 c17 k17
  have B17 := F17.binds (ps := P17) fun _ _ _ _ _ _ us hl => match us, hl with | [_], _ => rfl
  have D17 : DefOk (gbX exT K) tab glT "columns_in" 17 _ _ P17 := ⟨s17, N17, _, F17, sc17, Mi.L.c17, rfl, rfl, rfl⟩
  have F18 := fun_mk (st := s18) l18 c18 k18
  have B18 := F18.binds (ps := P18) fun _ _ _ _ _ _ us hl => match us, hl with | [_], _ => rfl
  have D18 : DefOk (gbX exT K) tab glT "columns_asked" 18 _ _ P18 := ⟨s18, N18, _, F18, sc18, Mi.L.c18, rfl, rfl, rfl⟩
  have F19 := fun_mk (st := s19) l19 c19 k19
  have B19 := F19.binds (ps := P19) fun _ _ _ _ _ _ us hl => match us, hl with | [_], _ => rfl
  have D19 : DefOk (gbX exT K) tab glT "tables_asked" 19 _ _ P19 := ⟨s19, N19, _, F19, sc19, Mi.L.c19, rfl, rfl, rfl⟩
  have F20 := fun_mk (st := s20) l20 c20 k20
  have B20 := F20.binds (ps := P20) fun _ _ _ _ _ _ us hl => match us, hl with | [_], _ => rfl
  have D20 : DefOk (gbX exT K) tab glT "read_question" 20 _ _ P20 := ⟨s20, N20, _, F20, sc20, Mi.L.c20, rfl, rfl, rfl⟩
  have F21 := fun_mk (st := s21) l21 c21 k21
  have B21 := F21.binds (ps := P21) fun _ _ _ _ _ _ us hl => match us, hl with | [_, _, _], _ => rfl
  have D21 : DefOk (gbX exT K) tab glT "need_many" 21 _ _ P21 := ⟨s21, N21, _, F21, sc21, Mi.L.c21, rfl, rfl, rfl⟩
  have F22 := fun_mk (st := s22) l22 c22 k22
  have B22 := F22.binds (ps := P22) fun _ _ _ _ _ _ us hl => match us, hl with | [_], _ => rfl
  have D22 : DefOk (gbX exT K) tab glT "table_of" 22 _ _ P22 := ⟨s22, N22, _, F22, sc22, Mi.L.c22, rfl, rfl, rfl⟩
  have F23 := fun_mk (st := s23) l23 c23 k23
  have B23 := F23.binds (ps := P23) fun _ _ _ _ _ _ us hl => match us, hl with | [_], _ => rfl
  have D23 : DefOk (gbX exT K) tab glT "column_of" 23 _ _ P23 := ⟨s23, N23, _, F23, sc23, Mi.L.c23, rfl, rfl, rfl⟩
  have F24 := fun_mk (st := s24) l24 c24 k24
  have B24 := F24.binds (ps := P24) fun _ _ _ _ _ _ us hl => match us, hl with | [_], _ => rfl
  have D24 : DefOk (gbX exT K) tab glT "columns_within" 24 _ _ P24 := ⟨s24, N24, _, F24, sc24, Mi.L.c24, rfl, rfl, rfl⟩
  have F25 := fun_mk (st := s25) l25 c25 k25
  have B25 := F25.binds (ps := P25) fun _ _ _ _ _ _ us hl => match us, hl with | [_, _], _ => rfl
  have D25 : DefOk (gbX exT K) tab glT "condition_behind" 25 _ _ P25 := ⟨s25, N25, _, F25, sc25, Mi.L.c25, rfl, rfl, rfl⟩
  have F26 := fun_mk (st := s26) l26 c26 k26
  have B26 := F26.binds (ps := P26) fun _ _ _ _ _ _ us hl => match us, hl with | [_], _ => rfl
  have D26 : DefOk (gbX exT K) tab glT "changing" 26 _ _ P26 := ⟨s26, N26, _, F26, sc26, Mi.L.c26, rfl, rfl, rfl⟩
  have F27 := fun_mk (st := s27) l27 c27 k27
  have B27 := F27.binds (ps := P27) fun _ _ _ _ _ _ us hl => match us, hl with | [_], _ => rfl
  have D27 : DefOk (gbX exT K) tab glT "step_in" 27 _ _ P27 := ⟨s27, N27, _, F27, sc27, Mi.L.c27, rfl, rfl, rfl⟩
  have F28 := fun_mk (st := s28) l28 c28 k28
  have B28 := F28.binds (ps := P28) fun _ _ _ _ _ _ us hl => match us, hl with | [_], _ => rfl
  have D28 : DefOk (gbX exT K) tab glT "read_step" 28 _ _ P28 := ⟨s28, N28, _, F28, sc28, Mi.L.c28, rfl, rfl, rfl⟩
  have F29 := fun_mk (st := s29) l29 c29 k29
  have B29 := F29.binds (ps := P29) fun _ _ _ _ _ _ us hl => match us, hl with | [_, _], _ => rfl
  have D29 : DefOk (gbX exT K) tab glT "_law_cell_at" 29 _ _ P29 := ⟨s29, N29, _, F29, sc29, Mi.L.c29, rfl, rfl, rfl⟩
  have F30 := fun_mk (st := s30) l30 c30 k30
  have B30 := F30.binds (ps := P30) fun _ _ _ _ _ _ us hl => match us, hl with | [_, _], _ => rfl
  have D30 : DefOk (gbX exT K) tab glT "_law_take" 30 _ _ P30 := ⟨s30, N30, _, F30, sc30, Mi.L.c30, rfl, rfl, rfl⟩
  have F31 := fun_mk (st := s31) l31 c31 k31
  have B31 := F31.binds (ps := P31) fun _ _ _ _ _ _ us hl => match us, hl with | [_], _ => rfl
  have D31 : DefOk (gbX exT K) tab glT "_law_value" 31 _ _ P31 := ⟨s31, N31, _, F31, sc31, Mi.L.c31, rfl, rfl, rfl⟩
  have F32 := fun_mk (st := s32) l32 c32 k32
  have B32 := F32.binds (ps := P32) fun _ _ _ _ _ _ us hl => match us, hl with | [_], _ => rfl
  have D32 : DefOk (gbX exT K) tab glT "_law_word" 32 _ _ P32 := ⟨s32, N32, _, F32, sc32, Mi.L.c32, rfl, rfl, rfl⟩
  have F33 := fun_mk (st := s33) l33 c33 k33
  have B33 := F33.binds (ps := P33) fun _ _ _ _ _ _ us hl => match us, hl with | [_], _ => rfl
  have D33 : DefOk (gbX exT K) tab glT "_law_key" 33 _ _ P33 := ⟨s33, N33, _, F33, sc33, Mi.L.c33, rfl, rfl, rfl⟩
  have F34 := fun_mk (st := s34) l34 c34 k34
  have B34 := F34.binds (ps := P34) fun _ _ _ _ _ _ us hl => match us, hl with | [_, _, _], _ => rfl
  have D34 : DefOk (gbX exT K) tab glT "_law_condition" 34 _ _ P34 := ⟨s34, N34, _, F34, sc34, Mi.L.c34, rfl, rfl, rfl⟩
  have F35 := fun_mk (st := s35) l35 c35 k35
  have B35 := F35.binds (ps := P35) fun _ _ _ _ _ _ us hl => match us, hl with | [_], _ => rfl
  have D35 : DefOk (gbX exT K) tab glT "_law_column_word" 35 _ _ P35 := ⟨s35, N35, _, F35, sc35, Mi.L.c35, rfl, rfl, rfl⟩
  have F36 := fun_mk (st := s36) l36 c36 k36
  have B36 := F36.binds (ps := P36) fun _ _ _ _ _ _ us hl => match us, hl with | [_], _ => rfl
  have D36 : DefOk (gbX exT K) tab glT "_law_condition_text" 36 _ _ P36 := ⟨s36, N36, _, F36, sc36, Mi.L.c36, rfl, rfl, rfl⟩
  have F37 := fun_mk (st := s37) l37 c37 k37
  have B37 := F37.binds (ps := P37) fun _ _ _ _ _ _ us hl => match us, hl with | [_, _], _ => rfl
  have D37 : DefOk (gbX exT K) tab glT "_law_true" 37 _ _ P37 := ⟨s37, N37, _, F37, sc37, Mi.L.c37, rfl, rfl, rfl⟩
  have F38 := fun_mk (st := s38) l38 c38 k38
  have B38 := F38.binds (ps := P38) fun _ _ _ _ _ _ us hl => match us, hl with | [_], _ => rfl
  have D38 : DefOk (gbX exT K) tab glT "_law_question_text" 38 _ _ P38 := ⟨s38, N38, _, F38, sc38, Mi.L.c38, rfl, rfl, rfl⟩
  have F39 := fun_mk (st := s39) l39 c39 k39
  have B39 := F39.binds (ps := P39) fun _ _ _ _ _ _ us hl => match us, hl with | [_, _], _ => rfl
  have D39 : DefOk (gbX exT K) tab glT "_law_answer" 39 _ _ P39 := ⟨s39, N39, _, F39, sc39, Mi.L.c39, rfl, rfl, rfl⟩
  have F40 := fun_mk (st := s40) l40 c40 k40
  have B40 := F40.binds (ps := P40) fun _ _ _ _ _ _ us hl => match us, hl with | [_, _, _], _ => rfl
  have D40 : DefOk (gbX exT K) tab glT "_law_column" 40 _ _ P40 := ⟨s40, N40, _, F40, sc40, Mi.L.c40, rfl, rfl, rfl⟩
  have F41 := fun_mk (st := s41) l41 c41 k41
  have B41 := F41.binds (ps := P41) fun _ _ _ _ _ _ us hl => match us, hl with | [_, _, _], _ => rfl
  have D41 : DefOk (gbX exT K) tab glT "_law_behind" 41 _ _ P41 := ⟨s41, N41, _, F41, sc41, Mi.L.c41, rfl, rfl, rfl⟩
  have F42 := fun_mk (st := s42) l42 c42 k42
  have B42 := F42.binds (ps := P42) fun _ _ _ _ _ _ us hl => match us, hl with | [_, _, _], _ => rfl
  have D42 : DefOk (gbX exT K) tab glT "_law_need" 42 _ _ P42 := ⟨s42, N42, _, F42, sc42, Mi.L.c42, rfl, rfl, rfl⟩
  have F43 := fun_mk (st := s43) l43 c43 k43
  have B43 := F43.binds (ps := P43) fun _ _ _ _ _ _ us hl => match us, hl with | [_, _], _ => rfl
  have D43 : DefOk (gbX exT K) tab glT "_law_make" 43 _ _ P43 := ⟨s43, N43, _, F43, sc43, Mi.L.c43, rfl, rfl, rfl⟩
  have F44 := fun_mk (st := s44) l44 c44 k44
  have B44 := F44.binds (ps := P44) fun _ _ _ _ _ _ us hl => match us, hl with | [_, _], _ => rfl
  have D44 : DefOk (gbX exT K) tab glT "_law_step" 44 _ _ P44 := ⟨s44, N44, _, F44, sc44, Mi.L.c44, rfl, rfl, rfl⟩
  have F45 := fun_mk (st := s45) l45 c45 k45
  have B45 := F45.binds (ps := P45) fun _ _ _ _ _ _ us hl => match us, hl with | [_], _ => rfl
  have D45 : DefOk (gbX exT K) tab glT "_law_where" 45 _ _ P45 := ⟨s45, N45, _, F45, sc45, Mi.L.c45, rfl, rfl, rfl⟩
  have F46 := fun_mk (st := s46) l46 c46 k46
  have B46 := F46.binds (ps := P46) fun _ _ _ _ _ _ us hl => match us, hl with | [_], _ => rfl
  have D46 : DefOk (gbX exT K) tab glT "_law_step_text" 46 _ _ P46 := ⟨s46, N46, _, F46, sc46, Mi.L.c46, rfl, rfl, rfl⟩
  have F47 := fun_mk (st := s47) l47 c47 k47
  have B47 := F47.binds (ps := P47) fun _ _ _ _ _ _ us hl => match us, hl with | [_, _], _ => rfl
  have D47 : DefOk (gbX exT K) tab glT "_law_alike" 47 _ _ P47 := ⟨s47, N47, _, F47, sc47, Mi.L.c47, rfl, rfl, rfl⟩
  have F48 := fun_mk (st := s48) l48 c48 k48
  have B48 := F48.binds (ps := P48) fun _ _ _ _ _ _ us hl => match us, hl with | [_], _ => rfl
  have D48 : DefOk (gbX exT K) tab glT "law" 48 _ _ P48 := ⟨s48, N48, _, F48, sc48, Mi.L.c48, rfl, rfl, rfl⟩
  refine ⟨_, fun s v => .of_eq rfl, topOk_of ?_ ?_, D48⟩
  · exact List.forall_mem_cons.mpr ⟨⟨_, _, P0, PySem.W.mg_of X G a0, k0, B0, D0⟩, List.forall_mem_cons.mpr ⟨⟨_, _, P1, PySem.W.mg_of X G a1, k1, B1, D1⟩, List.forall_mem_cons.mpr ⟨⟨_, _, P2, PySem.W.mg_of X G a2, k2, B2, D2⟩, List.forall_mem_cons.mpr ⟨⟨_, _, P3, PySem.W.mg_of X G a3, k3, B3, D3⟩, List.forall_mem_cons.mpr ⟨⟨_, _, P4, PySem.W.mg_of X G a4, k4, B4, D4⟩, List.forall_mem_cons.mpr ⟨⟨_, _, P5, PySem.W.mg_of X G a5, k5, B5, D5⟩, List.forall_mem_cons.mpr ⟨⟨_, _, P6, PySem.W.mg_of X G a6, k6, B6, D6⟩, List.forall_mem_cons.mpr ⟨⟨_, _, P7, PySem.W.mg_of X G a7, k7, B7, D7⟩, List.forall_mem_cons.mpr ⟨⟨_, _, P8, PySem.W.mg_of X G a8, k8, B8, D8⟩, List.forall_mem_cons.mpr ⟨⟨_, _, P9, PySem.W.mg_of X G a9, k9, B9, D9⟩, List.forall_mem_cons.mpr ⟨⟨_, _, P10, PySem.W.mg_of X G a10, k10, B10, D10⟩, List.forall_mem_cons.mpr ⟨⟨_, _, P11, PySem.W.mg_of X G a11, k11, B11, D11⟩, List.forall_mem_cons.mpr ⟨⟨_, _, P12, PySem.W.mg_of X G a12, k12, B12, D12⟩, List.forall_mem_cons.mpr ⟨⟨_, _, P13, PySem.W.mg_of X G a13, k13, B13, D13⟩, List.forall_mem_cons.mpr ⟨⟨_, _, P14, PySem.W.mg_of X G a14, k14, B14, D14⟩, List.forall_mem_cons.mpr ⟨⟨_, _, P15, PySem.W.mg_of X G a15, k15, B15, D15⟩, List.forall_mem_cons.mpr ⟨⟨_, _, P16, PySem.W.mg_of X G a16, k16, B16, D16⟩, List.forall_mem_cons.mpr ⟨⟨_, _, P17, PySem.W.mg_of X G a17, k17, B17, D17⟩, List.forall_mem_cons.mpr ⟨⟨_, _, P18, PySem.W.mg_of X G a18, k18, B18, D18⟩, List.forall_mem_cons.mpr ⟨⟨_, _, P19, PySem.W.mg_of X G a19, k19, B19, D19⟩, List.forall_mem_cons.mpr ⟨⟨_, _, P20, PySem.W.mg_of X G a20, k20, B20, D20⟩, List.forall_mem_cons.mpr ⟨⟨_, _, P21, PySem.W.mg_of X G a21, k21, B21, D21⟩, List.forall_mem_cons.mpr ⟨⟨_, _, P22, PySem.W.mg_of X G a22, k22, B22, D22⟩, List.forall_mem_cons.mpr ⟨⟨_, _, P23, PySem.W.mg_of X G a23, k23, B23, D23⟩, List.forall_mem_cons.mpr ⟨⟨_, _, P24, PySem.W.mg_of X G a24, k24, B24, D24⟩, List.forall_mem_cons.mpr ⟨⟨_, _, P25, PySem.W.mg_of X G a25, k25, B25, D25⟩, List.forall_mem_cons.mpr ⟨⟨_, _, P26, PySem.W.mg_of X G a26, k26, B26, D26⟩, List.forall_mem_cons.mpr ⟨⟨_, _, P27, PySem.W.mg_of X G a27, k27, B27, D27⟩, List.forall_mem_cons.mpr ⟨⟨_, _, P28, PySem.W.mg_of X G a28, k28, B28, D28⟩, List.forall_mem_cons.mpr ⟨⟨_, _, P29, PySem.W.mg_of X G a29, k29, B29, D29⟩, List.forall_mem_cons.mpr ⟨⟨_, _, P30, PySem.W.mg_of X G a30, k30, B30, D30⟩, List.forall_mem_cons.mpr ⟨⟨_, _, P31, PySem.W.mg_of X G a31, k31, B31, D31⟩, List.forall_mem_cons.mpr ⟨⟨_, _, P32, PySem.W.mg_of X G a32, k32, B32, D32⟩, List.forall_mem_cons.mpr ⟨⟨_, _, P33, PySem.W.mg_of X G a33, k33, B33, D33⟩, List.forall_mem_cons.mpr ⟨⟨_, _, P34, PySem.W.mg_of X G a34, k34, B34, D34⟩, List.forall_mem_cons.mpr ⟨⟨_, _, P35, PySem.W.mg_of X G a35, k35, B35, D35⟩, List.forall_mem_cons.mpr ⟨⟨_, _, P36, PySem.W.mg_of X G a36, k36, B36, D36⟩, List.forall_mem_cons.mpr ⟨⟨_, _, P37, PySem.W.mg_of X G a37, k37, B37, D37⟩, List.forall_mem_cons.mpr ⟨⟨_, _, P38, PySem.W.mg_of X G a38, k38, B38, D38⟩, List.forall_mem_cons.mpr ⟨⟨_, _, P39, PySem.W.mg_of X G a39, k39, B39, D39⟩, List.forall_mem_cons.mpr ⟨⟨_, _, P40, PySem.W.mg_of X G a40, k40, B40, D40⟩, List.forall_mem_cons.mpr ⟨⟨_, _, P41, PySem.W.mg_of X G a41, k41, B41, D41⟩, List.forall_mem_cons.mpr ⟨⟨_, _, P42, PySem.W.mg_of X G a42, k42, B42, D42⟩, List.forall_mem_cons.mpr ⟨⟨_, _, P43, PySem.W.mg_of X G a43, k43, B43, D43⟩, List.forall_mem_cons.mpr ⟨⟨_, _, P44, PySem.W.mg_of X G a44, k44, B44, D44⟩, List.forall_mem_cons.mpr ⟨⟨_, _, P45, PySem.W.mg_of X G a45, k45, B45, D45⟩, List.forall_mem_cons.mpr ⟨⟨_, _, P46, PySem.W.mg_of X G a46, k46, B46, D46⟩, List.forall_mem_cons.mpr ⟨⟨_, _, P47, PySem.W.mg_of X G a47, k47, B47, D47⟩, List.forall_mem_cons.mpr ⟨⟨_, _, P48, PySem.W.mg_of X G a48, k48, B48, D48⟩, List.forall_mem_cons.mpr ⟨⟨.str "abcdefghijklmnopqrstuvwxyz", _, PySem.W.mg_of X G q0, ⟨_, rfl⟩, fun _ _ => by unfold Rp; rfl⟩, List.forall_mem_cons.mpr ⟨⟨.str " !\"#$&()*+,-./0123456789:<=>?@ABCDEFGHIJKLMNOPQRSTUVWXYZ[\\]^_`abcdefghijklmnopqrstuvwxyz{|}~", _, PySem.W.mg_of X G q1, ⟨_, rfl⟩, fun _ _ => by unfold Rp; rfl⟩, List.forall_mem_cons.mpr ⟨⟨.int 8, _, PySem.W.mg_of X G q2, ⟨_, rfl⟩, fun _ _ => by unfold Rp; rfl⟩, List.forall_mem_cons.mpr ⟨⟨.int 20, _, PySem.W.mg_of X G q3, ⟨_, rfl⟩, fun _ _ => by unfold Rp; rfl⟩, List.forall_mem_cons.mpr ⟨⟨.int 1000000000000, _, PySem.W.mg_of X G q4, ⟨_, rfl⟩, fun _ _ => by unfold Rp; rfl⟩, List.forall_mem_cons.mpr ⟨⟨.str "'", _, PySem.W.mg_of X G q5, ⟨_, rfl⟩, fun _ _ => by unfold Rp; rfl⟩, List.forall_mem_cons.mpr ⟨⟨.str "0123456789", _, PySem.W.mg_of X G q6, ⟨_, rfl⟩, fun _ _ => by unfold Rp; rfl⟩, List.forall_mem_cons.mpr ⟨⟨.int 13, _, PySem.W.mg_of X G q7, ⟨_, rfl⟩, fun _ _ => by unfold Rp; rfl⟩, List.forall_mem_cons.mpr ⟨⟨.ref g8, _, PySem.W.mg_of X G q8, rfl, fun _ _ => by unfold Rp; exact ⟨g8, [.str "=", .str "#", .str "<", .str ">", .str "<=", .str ">="], rfl, ⟨_, _, _, ql8, rfl, rfl, show 6 ≤ sizeLine by decide, (.cons ⟨_, rfl⟩ (.cons ⟨_, rfl⟩ (.cons ⟨_, rfl⟩ (.cons ⟨_, rfl⟩ (.cons ⟨_, rfl⟩ (.cons ⟨_, rfl⟩ .nil))))))⟩, (by unfold Rps; exact ⟨_, _, rfl, by unfold Rp; rfl, (by unfold Rps; exact ⟨_, _, rfl, by unfold Rp; rfl, (by unfold Rps; exact ⟨_, _, rfl, by unfold Rp; rfl, (by unfold Rps; exact ⟨_, _, rfl, by unfold Rp; rfl, (by unfold Rps; exact ⟨_, _, rfl, by unfold Rp; rfl, (by unfold Rps; exact ⟨_, _, rfl, by unfold Rp; rfl, (by unfold Rps; rfl)⟩)⟩)⟩)⟩)⟩)⟩)⟩⟩, List.forall_mem_cons.mpr ⟨⟨.ref g9, _, PySem.W.mg_of X G q9, rfl, fun _ _ => by unfold Rp; exact ⟨g9, [.str "sum", .str "least", .str "most", .str "groups"], rfl, ⟨_, _, _, ql9, rfl, rfl, show 4 ≤ sizeLine by decide, (.cons ⟨_, rfl⟩ (.cons ⟨_, rfl⟩ (.cons ⟨_, rfl⟩ (.cons ⟨_, rfl⟩ .nil))))⟩, (by unfold Rps; exact ⟨_, _, rfl, by unfold Rp; rfl, (by unfold Rps; exact ⟨_, _, rfl, by unfold Rp; rfl, (by unfold Rps; exact ⟨_, _, rfl, by unfold Rp; rfl, (by unfold Rps; exact ⟨_, _, rfl, by unfold Rp; rfl, (by unfold Rps; rfl)⟩)⟩)⟩)⟩)⟩⟩, List.forall_mem_cons.mpr ⟨⟨.int 5, _, PySem.W.mg_of X G q10, ⟨_, rfl⟩, fun _ _ => by unfold Rp; rfl⟩, List.forall_mem_cons.mpr ⟨⟨.int 12, _, PySem.W.mg_of X G q11, ⟨_, rfl⟩, fun _ _ => by unfold Rp; rfl⟩, List.forall_mem_cons.mpr ⟨⟨.int 1000, _, PySem.W.mg_of X G q12, ⟨_, rfl⟩, fun _ _ => by unfold Rp; rfl⟩, List.forall_mem_cons.mpr ⟨⟨X0, _, _, _, _, PySem.F.excBase_ValueError, ea0, PySem.W.mg_of X G e0, ek0, es0, et0, by simp only [gbX, exT]; show (match PySem.W.nsIn K mainGlobals "NoQuestion" with | some (some v) => some v | _ => none) = _; rw [e0]⟩, List.forall_mem_cons.mpr ⟨⟨X1, _, _, _, _, PySem.F.excBase_ValueError, ea1, PySem.W.mg_of X G e1, ek1, es1, et1, by simp only [gbX, exT]; show (match PySem.W.nsIn K mainGlobals "NoStep" with | some (some v) => some v | _ => none) = _; rw [e1]⟩, fun p hp => absurd hp List.not_mem_nil⟩⟩⟩⟩⟩⟩⟩⟩⟩⟩⟩⟩⟩⟩⟩⟩⟩⟩⟩⟩⟩⟩⟩⟩⟩⟩⟩⟩⟩⟩⟩⟩⟩⟩⟩⟩⟩⟩⟩⟩⟩⟩⟩⟩⟩⟩⟩⟩⟩⟩⟩⟩⟩⟩⟩⟩⟩⟩⟩⟩⟩⟩⟩⟩
  · exact List.forall_mem_cons.mpr ⟨PySem.W.mg_none_of X G z0, List.forall_mem_cons.mpr ⟨PySem.W.mg_none_of X G z1, List.forall_mem_cons.mpr ⟨PySem.W.mg_none_of X G z2, List.forall_mem_cons.mpr ⟨PySem.W.mg_none_of X G z3, List.forall_mem_cons.mpr ⟨PySem.W.mg_none_of X G z4, List.forall_mem_cons.mpr ⟨PySem.W.mg_none_of X G z5, List.forall_mem_cons.mpr ⟨PySem.W.mg_none_of X G z6, List.forall_mem_cons.mpr ⟨PySem.W.mg_none_of X G z7, List.forall_mem_cons.mpr ⟨PySem.W.mg_none_of X G z8, List.forall_mem_cons.mpr ⟨PySem.W.mg_none_of X G z9, List.forall_mem_cons.mpr ⟨PySem.W.mg_none_of X G z10, List.forall_mem_cons.mpr ⟨PySem.W.mg_none_of X G z11, List.forall_mem_cons.mpr ⟨PySem.W.mg_none_of X G z12, List.forall_mem_cons.mpr ⟨PySem.W.mg_none_of X G z13, List.forall_mem_cons.mpr ⟨PySem.W.mg_none_of X G z14, List.forall_mem_cons.mpr ⟨PySem.W.mg_none_of X G z15, List.forall_mem_cons.mpr ⟨PySem.W.mg_none_of X G z16, List.forall_mem_cons.mpr ⟨PySem.W.mg_none_of X G z17, List.forall_mem_cons.mpr ⟨PySem.W.mg_none_of X G z18, List.forall_mem_cons.mpr ⟨PySem.W.mg_none_of X G z19, List.forall_mem_cons.mpr ⟨PySem.W.mg_none_of X G z20, fun p hp => absurd hp List.not_mem_nil⟩⟩⟩⟩⟩⟩⟩⟩⟩⟩⟩⟩⟩⟩⟩⟩⟩⟩⟩⟩⟩
end Mi.L
open PySem PySem.W PyProof.Rows
set_option maxRecDepth 100000 in
set_option maxHeartbeats 0 in
theorem PySem.Challenge.cw_papervault_k86_steps_read_holds : PySem.Challenge.rw_papervault_k86_steps_read.Holds := by
  w_on; o_law; k_head; (case hw => w_witness2)
  k_fill
  refine Mi.walk_mi (l := PySem.Challenge.rw_papervault_k86_steps_read) (n := 63) (k := 40) (i := 48) (tab := Mi.L.tab) (gl := Mi.L.glT) (xs := Mi.L.exT) (x := "script") (y := "law") rfl (by decide) rfl ⟨rfl, by decide, by decide⟩ (fun w h Y => PySem.W.kIn_of Y) ?F ?L
  case F =>
    intro w mg fa h KX G hmg
    refine' Mi.L.top_ok KX G hmg ?a0 ?l0 ?c0 ?k0 ?a1 ?l1 ?c1 ?k1 ?a2 ?l2 ?c2 ?k2 ?a3 ?l3 ?c3 ?k3 ?a4 ?l4 ?c4 ?k4 ?a5 ?l5 ?c5 ?k5 ?a6 ?l6 ?c6 ?k6 ?a7 ?l7 ?c7 ?k7 ?a8 ?l8 ?c8 ?k8 ?a9 ?l9 ?c9 ?k9 ?a10 ?l10 ?c10 ?k10 ?a11 ?l11 ?c11 ?k11 ?a12 ?l12 ?c12 ?k12 ?a13 ?l13 ?c13 ?k13 ?a14 ?l14 ?c14 ?k14 ?a15 ?l15 ?c15 ?k15 ?a16 ?l16 ?c16 ?k16 ?a17 ?l17 ?c17 ?k17 ?a18 ?l18 ?c18 ?k18 ?a19 ?l19 ?c19 ?k19 ?a20 ?l20 ?c20 ?k20 ?a21 ?l21 ?c21 ?k21 ?a22 ?l22 ?c22 ?k22 ?a23 ?l23 ?c23 ?k23 ?a24 ?l24 ?c24 ?k24 ?a25 ?l25 ?c25 ?k25 ?a26 ?l26 ?c26 ?k26 ?a27 ?l27 ?c27 ?k27 ?a28 ?l28 ?c28 ?k28 ?a29 ?l29 ?c29 ?k29 ?a30 ?l30 ?c30 ?k30 ?a31 ?l31 ?c31 ?k31 ?a32 ?l32 ?c32 ?k32 ?a33 ?l33 ?c33 ?k33 ?a34 ?l34 ?c34 ?k34 ?a35 ?l35 ?c35 ?k35 ?a36 ?l36 ?c36 ?k36 ?a37 ?l37 ?c37 ?k37 ?a38 ?l38 ?c38 ?k38 ?a39 ?l39 ?c39 ?k39 ?a40 ?l40 ?c40 ?k40 ?a41 ?l41 ?c41 ?k41 ?a42 ?l42 ?c42 ?k42 ?a43 ?l43 ?c43 ?k43 ?a44 ?l44 ?c44 ?k44 ?a45 ?l45 ?c45 ?k45 ?a46 ?l46 ?c46 ?k46 ?a47 ?l47 ?c47 ?k47 ?a48 ?l48 ?c48 ?k48 ?q0 ?q1 ?q2 ?q3 ?q4 ?q5 ?q6 ?q7 ?q8 ?ql8 ?q9 ?ql9 ?q10 ?q11 ?q12 ?e0 ?ea0 ?ek0 ?es0 ?et0 ?e1 ?ea1 ?ek1 ?es1 ?et1 ?z0 ?z1 ?z2 ?z3 ?z4 ?z5 ?z6 ?z7 ?z8 ?z9 ?z10 ?z11 ?z12 ?z13 ?z14 ?z15 ?z16 ?z17 ?z18 ?z19 ?z20
    (case a0 => k_is); (case l0 => k_is); (case c0 => k_is); (case k0 => k_is)
    (case a1 => k_is); (case l1 => k_is); (case c1 => k_is); (case k1 => k_is)
    (case a2 => k_is); (case l2 => k_is); (case c2 => k_is); (case k2 => k_is)
    (case a3 => k_is); (case l3 => k_is); (case c3 => k_is); (case k3 => k_is)
    (case a4 => k_is); (case l4 => k_is); (case c4 => k_is); (case k4 => k_is)
    (case a5 => k_is); (case l5 => k_is); (case c5 => k_is); (case k5 => k_is)
    (case a6 => k_is); (case l6 => k_is); (case c6 => k_is); (case k6 => k_is)
    (case a7 => k_is); (case l7 => k_is); (case c7 => k_is); (case k7 => k_is)
    (case a8 => k_is); (case l8 => k_is); (case c8 => k_is); (case k8 => k_is)
    (case a9 => k_is); (case l9 => k_is); (case c9 => k_is); (case k9 => k_is)
    (case a10 => k_is); (case l10 => k_is); (case c10 => k_is); (case k10 => k_is)
    (case a11 => k_is); (case l11 => k_is); (case c11 => k_is); (case k11 => k_is)
    (case a12 => k_is); (case l12 => k_is); (case c12 => k_is); (case k12 => k_is)
    (case a13 => k_is); (case l13 => k_is); (case c13 => k_is); (case k13 => k_is)
    (case a14 => k_is); (case l14 => k_is); (case c14 => k_is); (case k14 => k_is)
    (case a15 => k_is); (case l15 => k_is); (case c15 => k_is); (case k15 => k_is)
    (case a16 => k_is); (case l16 => k_is); (case c16 => k_is); (case k16 => k_is)
    (case a17 => k_is); (case l17 => k_is); (case c17 => k_is); (case k17 => k_is)
    (case a18 => k_is); (case l18 => k_is); (case c18 => k_is); (case k18 => k_is)
    (case a19 => k_is); (case l19 => k_is); (case c19 => k_is); (case k19 => k_is)
    (case a20 => k_is); (case l20 => k_is); (case c20 => k_is); (case k20 => k_is)
    (case a21 => k_is); (case l21 => k_is); (case c21 => k_is); (case k21 => k_is)
    (case a22 => k_is); (case l22 => k_is); (case c22 => k_is); (case k22 => k_is)
    (case a23 => k_is); (case l23 => k_is); (case c23 => k_is); (case k23 => k_is)
    (case a24 => k_is); (case l24 => k_is); (case c24 => k_is); (case k24 => k_is)
    (case a25 => k_is); (case l25 => k_is); (case c25 => k_is); (case k25 => k_is)
    (case a26 => k_is); (case l26 => k_is); (case c26 => k_is); (case k26 => k_is)
    (case a27 => k_is); (case l27 => k_is); (case c27 => k_is); (case k27 => k_is)
    (case a28 => k_is); (case l28 => k_is); (case c28 => k_is); (case k28 => k_is)
    (case a29 => k_is); (case l29 => k_is); (case c29 => k_is); (case k29 => k_is)
    (case a30 => k_is); (case l30 => k_is); (case c30 => k_is); (case k30 => k_is)
    (case a31 => k_is); (case l31 => k_is); (case c31 => k_is); (case k31 => k_is)
    (case a32 => k_is); (case l32 => k_is); (case c32 => k_is); (case k32 => k_is)
    (case a33 => k_is); (case l33 => k_is); (case c33 => k_is); (case k33 => k_is)
    (case a34 => k_is); (case l34 => k_is); (case c34 => k_is); (case k34 => k_is)
    (case a35 => k_is); (case l35 => k_is); (case c35 => k_is); (case k35 => k_is)
    (case a36 => k_is); (case l36 => k_is); (case c36 => k_is); (case k36 => k_is)
    (case a37 => k_is); (case l37 => k_is); (case c37 => k_is); (case k37 => k_is)
    (case a38 => k_is); (case l38 => k_is); (case c38 => k_is); (case k38 => k_is)
    (case a39 => k_is); (case l39 => k_is); (case c39 => k_is); (case k39 => k_is)
    (case a40 => k_is); (case l40 => k_is); (case c40 => k_is); (case k40 => k_is)
    (case a41 => k_is); (case l41 => k_is); (case c41 => k_is); (case k41 => k_is)
    (case a42 => k_is); (case l42 => k_is); (case c42 => k_is); (case k42 => k_is)
    (case a43 => k_is); (case l43 => k_is); (case c43 => k_is); (case k43 => k_is)
    (case a44 => k_is); (case l44 => k_is); (case c44 => k_is); (case k44 => k_is)
    (case a45 => k_is); (case l45 => k_is); (case c45 => k_is); (case k45 => k_is)
    (case a46 => k_is); (case l46 => k_is); (case c46 => k_is); (case k46 => k_is)
    (case a47 => k_is); (case l47 => k_is); (case c47 => k_is); (case k47 => k_is)
    (case a48 => k_is); (case l48 => k_is); (case c48 => k_is); (case k48 => k_is)
    (case q0 => k_is)
    (case q1 => k_is)
    (case q2 => k_is)
    (case q3 => k_is)
    (case q4 => k_is)
    (case q5 => k_is)
    (case q6 => k_is)
    (case q7 => k_is)
    (case q8 => k_is); (case ql8 => k_is)
    (case q9 => k_is); (case ql9 => k_is)
    (case q10 => k_is)
    (case q11 => k_is)
    (case q12 => k_is)
    (case e0 => k_is); (case ea0 => k_exc); (case ek0 => k_is); (case es0 => k_is); (case et0 => k_is)
    (case e1 => k_is); (case ea1 => k_exc); (case ek1 => k_is); (case es1 => k_is); (case et1 => k_is)
    (case z0 => k_is); (case z1 => k_is); (case z2 => k_is); (case z3 => k_is); (case z4 => k_is); (case z5 => k_is)
    (case z6 => k_is); (case z7 => k_is); (case z8 => k_is); (case z9 => k_is); (case z10 => k_is); (case z11 => k_is)
    (case z12 => k_is); (case z13 => k_is); (case z14 => k_is); (case z15 => k_is); (case z16 => k_is); (case z17 => k_is)
    (case z18 => k_is); (case z19 => k_is); (case z20 => k_is)
  case L => exact fun ns hl => Mi.L.law86 ns hl

