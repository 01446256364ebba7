import PyProof.Rows.All
import Wide.All
import OpenK.AllK
import Wide.FinOn
import PySem.Challenge.RW_papervault_k91_records_read
import PyProof.EqAt
import PyProof.EqKinds
import PyProof.TupleCall
import HandS.ForMost
import HandS.ForExc
import HandS.Wide
import KE.DataEq
import KE.DataCmp
import KE.SortKeyHeap
import HandS.FStr
import HandS.ReplaceLit
import HandS.Zip
import HandS.Rev
import HandS.CallSlots
import HandS.IsInst
import KE.KDictZip
import HandS.ListItems
import HandS.Keys
import HandS.SortKw
import HandS.Small
import HandS.Codes
import HandS.ReplaceList
set_option Elab.async false
set_option linter.all false
set_option maxRecDepth 100000
/-! Mi, part A: values, stores, the small language and what it means. -/
namespace Mi
open PySem L2

/-- a value: tuples and constant lists by value, lists and dicts and instances by their place in the store -/
inductive D where
  | non | bl (b : Bool) | int (i : Int) | str (x : Str) | tup (ds : List D) | ls (ds : List D) | kt (ds : List D) | ref (n : Nat)
  deriving Inhabited

inductive O where
  | lst (ds : List D)
  | dk (kvs : List (Key × D))
  | dt (kvs : List (List Key × D))
  | ins (c : Nat) (fs : List (Str × D))

abbrev Store := List O
abbrev Env := List (Option D)

/-- a value, or a list that nobody else has -/
inductive W where
  | val (d : D) | lis (ds : List D)

inductive R (α : Type) where
  | ok (a : α) (S : Store) | ex (c : Nat) (fs : List (Str × D)) (S : Store) | bad

def R.nox {α : Type} (r : R α) : R α := match r with
  | .ex _ _ _ => .bad | r => r
def R.bd {α β : Type} (r : R α) (f : α → Store → R β) : R β := match r with
  | .ok a S => f a S | .ex c fs S => .ex c fs S | .bad => .bad
theorem R.bd_ok {α β : Type} {a : α} {S : Store} {f : α → Store → R β} : (R.ok a S).bd f = f a S := rfl
theorem R.bd_ex {α β : Type} {c : Nat} {fs : List (Str × D)} {S : Store} {f : α → Store → R β} : (R.ex c fs S : R α).bd f = .ex c fs S := rfl
theorem R.bd_bad {α β : Type} {f : α → Store → R β} : (R.bad : R α).bd f = .bad := rfl

/-- a list that is kept gets a place -/
def toD : W → Store → R D
  | .val d, S => .ok d S
  | .lis ds, S => .ok (.ref S.length) (S ++ [.lst ds])

def mapO {α β : Type} (f : α → Option β) : List α → Option (List β)
  | [] => some []
  | a :: r => match f a, mapO f r with
    | some b, some bs => some (b :: bs)
    | _, _ => none
/-! ### data as a whole -/
def toPy (S : Store) : Nat → D → Option PyData
  | 0, _ => none
  | _ + 1, .non => some .none
  | _ + 1, .bl b => some (.bool b)
  | _ + 1, .int i => some (.int i)
  | _ + 1, .str x => some (.str x)
  | n + 1, .tup ds => (mapO (toPy S n) ds).map .tuple
  | n + 1, .ls ds => (mapO (toPy S n) ds).map .list
  | n + 1, .kt ds => (mapO (toPy S n) ds).map .tuple
  | n + 1, .ref k => match S[k]? with
    | some (.lst ds) => (mapO (toPy S n) ds).map .list
    | _ => none
def deepest : Nat := 40
def W.py (S : Store) : W → Option PyData
  | .val d => toPy S deepest d
  | .lis ds => (mapO (toPy S deepest) ds).map .list
/-- the items of a list or a tuple; whether it is a tuple -/
def W.seq (S : Store) : W → Option (Bool × List D)
  | .lis ds => some (false, ds)
  | .val (.tup ds) => some (true, ds)
  | .val (.ls ds) => some (false, ds)
  | .val (.kt ds) => some (true, ds)
  | .val (.ref k) => match S[k]? with
    | some (.lst ds) => some (false, ds)
    | _ => none
  | .val _ => none

/-! ### what one does with values -/
inductive P1 where
  | neg | isN | notN | len | int_ | ord | str_ | tuple_ | list_ | sum | all_ | any_ | pop | dict_ | abs | items | keysSorted | values | fmt
  deriving DecidableEq
inductive P2 where
  | add | sub | mul | fdiv | mod | pow | eq | ne | lt | le | gt | ge | inn | nin | ix | append | extend | join | index | count | split | partition | max_ | min_ | get1 | lzip
  deriving DecidableEq
inductive P3 where
  | get2 | replace | insert
  deriving DecidableEq
/-- kinds of isinstance -/
inductive Ty where
  | int | str | bool | tuple | list
  deriving DecidableEq
def Ty.of (S : Store) : W → Ty → Bool
  | .lis _, .list => true
  | .val (.ls _), .list => true
  | .val (.tup _), .tuple => true
  | .val (.kt _), .tuple => true
  | .val (.str _), .str => true
  | .val (.int _), .int => true
  | .val (.bl _), .int => true
  | .val (.bl _), .bool => true
  | .val (.ref k), .list => match S[k]? with
    | some (.lst _) => true
    | _ => false
  | _, _ => false

def vv (d : D) (S : Store) : R W := .ok (.val d) S
def W.plain (S : Store) : W → Bool
  | .val (.ref n) => match S[n]? with
    | some (.lst _) => true
    | some (.dk _) => true
    | some (.dt _) => true
    | _ => false
  | _ => true
def isiW (ts : List Ty) (x : W) (S : Store) : R W := if x.plain S = true then vv (.bl (ts.any (Ty.of S x))) S else .bad
def lookD {κ : Type} [DecidableEq κ] (kvs : List (κ × D)) (k : κ) : Option D := (kvs.find? fun kv => decide (kv.1 = k)).map (·.2)
def putD {κ : Type} [DecidableEq κ] (kvs : List (κ × D)) (k : κ) (d : D) : List (κ × D) :=
  if (kvs.any fun kv => decide (kv.1 = k)) = true then kvs.map fun kv => if kv.1 = k then (kv.1, d) else kv else kvs ++ [(k, d)]
def D.key : D → Option Key
  | .int i => some (.inl i)
  | .str x => some (.inr x)
  | _ => none
def D.keyT : D → Option (List Key)
  | .tup ds => mapO D.key ds
  | _ => none
def D.ofKey : Key → D
  | .inl i => .int i
  | .inr x => .str x
/-- what stands at a key -/
def look (S : Store) (n : Nat) (k : D) : Option (Option D) := match S[n]? with
  | some (.dk kvs) => k.key.map (lookD kvs)
  | some (.dt kvs) => k.keyT.map (lookD kvs)
  | _ => none
/-- the dict behind a store -/
def putO (o : O) (k : D) (v : D) : Option O := match o with
  | .dk kvs => match k.key with
    | some k => if kvs.length < sizeLine then some (.dk (putD kvs k v)) else none
    | none => match k.keyT with
      | some k => if kvs.isEmpty then some (.dt [(k, v)]) else none
      | none => none
  | .dt kvs => match k.keyT with
    | some k => if kvs.length < sizeLine then some (.dt (putD kvs k v)) else none
    | none => none
  | _ => none

def fits62 (i : Int) : Bool := decide (-(2 ^ 62) ≤ i ∧ i < 2 ^ 62)
def pairK : D → Option (Key × D)
  | .tup [k, v] => k.key.map fun k => (k, v)
  | _ => none
def pairT : D → Option (List Key × D)
  | .tup [k, v] => k.keyT.map fun k => (k, v)
  | _ => none
/-- a dict of pairs -/
def dictOf : List D → Option O
  | [] => some (.dk [])
  | .tup [k, v] :: r => match k.key with
    | some k => (mapO pairK r).map fun r => .dk (((k, v) :: r).foldl (fun acc kv => putD acc kv.1 kv.2) [])
    | none => match k.keyT with
      | some k => (mapO pairT r).map fun r => .dt (((k, v) :: r).foldl (fun acc kv => putD acc kv.1 kv.2) [])
      | none => none
  | _ => none

def intsOf : List D → Option (List Int)
  | [] => some []
  | .int i :: r => (intsOf r).map (i :: ·)
  | _ => none
def strsOf : List D → Option (List Str)
  | [] => some []
  | .str i :: r => (strsOf r).map (i :: ·)
  | _ => none
def blsOf : List D → Option (List Bool)
  | [] => some []
  | .bl i :: r => (blsOf r).map (i :: ·)
  | _ => none

def p1 (o : P1) (w : W) (S : Store) : R W := match o with
  | .neg => match w with
    | .val (.int i) => vv (.int (-i)) S
    | _ => .bad
  | .isN => match w with
    | .val .non => vv (.bl true) S
    | _ => vv (.bl false) S
  | .notN => match w with
    | .val .non => vv (.bl false) S
    | _ => vv (.bl true) S
  | .len => match w with
    | .val (.str x) => if x.length ≤ sizeLine then vv (.int x.length) S else .bad
    | w => match w.seq S with
      | some (_, ds) => vv (.int ds.length) S
      | none => .bad
  | .int_ => match w with
    | .val (.int i) => vv (.int i) S
    | .val (.bl b) => vv (.int (if b then 1 else 0)) S
    | .val (.str x) => match PySem.intText? x with
      | some n => if x.length ≤ 640 then vv (.int n) S else .bad
      | none => .bad
    | _ => .bad
  | .all_ => match w.seq S with
    | some (false, ds) => match blsOf ds with
      | some bs => vv (.bl (bs.all id)) S
      | none => .bad
    | _ => .bad
  | .fmt => match w with
    | .val (.str x) => if x.length ≤ sizeLine then vv (.str x) S else .bad
    | .val (.int i) => if i.natAbs.log2 < 1920 then vv (.str (toString i)) S else .bad
    | _ => .bad
  | .ord => match w with
    | .val (.str x) => if x.length = 1 then vv (.int (x.cps.getD 0 0 : Nat)) S else .bad
    | _ => .bad
  | .str_ => match w with
    | .val (.int i) => if i.natAbs.log2 < 1920 then vv (.str (toString i)) S else .bad
    | _ => .bad
  | .tuple_ => match w.seq S with
    | some (_, ds) => match w with
      | .val (.kt _) => .bad
      | _ => vv (.tup ds) S
    | none => .bad
  | .list_ => match w.seq S with
    | some (_, ds) => .ok (.lis ds) S
    | none => .bad
  | .pop => match w with
    | .val (.ref n) => match S[n]? with
      | some (.lst ds) => match ds.getLast? with
        | some d => .ok (.val d) (S.set n (.lst ds.dropLast))
        | none => .bad
      | _ => .bad
    | _ => .bad
  | .dict_ => match w.seq S with
    | some (false, ds) => match dictOf ds with
      | some o => .ok (.val (.ref S.length)) (S ++ [o])
      | none => .bad
    | _ => .bad
  | _ => .bad

def strLt (x y : Str) : Bool := decide (x.cps.toList < y.cps.toList)

def isNonePy : PyData → Bool
  | .none => true
  | _ => false
def cmpD (o : P2) (x y : PyData) : Option Bool :=
  if (W.alike x y && !isNonePy x) = true then
    match o with
    | .lt => some (W.dataLt x y)
    | .gt => some (W.dataLt y x)
    | .le => some (!W.dataLt y x)
    | .ge => some (!W.dataLt x y)
    | _ => none
  else none
def mulFits (i j : Int) : Bool := decide (i.natAbs.log2 + j.natAbs.log2 < 900000)
def divFits (j : Int) : Bool := decide (0 < j ∧ j.natAbs.log2 < 9000)
def isIn (x y : W) (S : Store) : Option Bool := match y with
  | .val (.str t) => match x with
    | .val (.str z) => some (!(Builtin.Str.occurrences t z 0 t.length 1).isEmpty)
    | _ => none
  | y => match y.seq S with
    | some (_, ds) => (x.py S).bind fun p => (mapO (toPy S deepest) ds).map fun ys => ys.any fun y => PyData.eqv y p
    | none => match x, y with
      | .val d, .val (.ref n) => (look S n d).map (·.isSome)
      | _, _ => none
def ob (o : Option Bool) (S : Store) : R W := match o with
  | some b => vv (.bl b) S
  | none => .bad
def joinFits (a : Str) (ys : List Str) : Bool := decide ((ys.map (·.length)).sum + ys.length * a.length ≤ 16777216)

/-- a list that stands in the heap by itself -/
def isLst (S : Store) (w : W) : Bool := match w with
  | .lis _ => true
  | .val (.ref n) => match S[n]? with
    | some (.lst _) => true
    | _ => false
  | _ => false
/-- list(zip(x, y)) -/
def lzipW (x y : W) (S : Store) : R W := match x.seq S, y.seq S with
  | some p, some q => if p.1 = q.1 then .ok (.lis ((p.2.zip q.2).map fun p => .tup [p.1, p.2])) S else .bad
  | _, _ => .bad
def p2 (o : P2) (x y : W) (S : Store) : R W := match o with
  | .lzip => lzipW x y S
  | .add => match x, y with
    | .val (.int i), .val (.int j) => vv (.int (i + j)) S
    | .val (.str a), .val (.str b) => if a.length + b.length ≤ sizeLine then vv (.str (a ++ b)) S else .bad
    | x, y => match x.seq S, y.seq S with
      | some (false, xs), some (false, ys) => if (isLst S x && isLst S y && decide (xs.length + ys.length ≤ sizeLine)) = true then .ok (.lis (xs ++ ys)) S else .bad
      | some (true, xs), some (true, ys) => if (!xs.isEmpty && !ys.isEmpty && decide (xs.length + ys.length ≤ sizeLine)) = true then vv (.tup (xs ++ ys)) S else .bad
      | _, _ => .bad
  | .sub => match x, y with
    | .val (.int i), .val (.int j) => vv (.int (i - j)) S
    | _, _ => .bad
  | .mul => match x, y with
    | .val (.int i), .val (.int j) => if mulFits i j = true then vv (.int (i * j)) S else .bad
    | _, _ => .bad
  | .fdiv => match x, y with
    | .val (.int i), .val (.int j) => if divFits j = true then vv (.int (i / j)) S else .bad
    | _, _ => .bad
  | .mod => match x, y with
    | .val (.int i), .val (.int j) => if 0 < j then vv (.int (i % j)) S else .bad
    | _, _ => .bad
  | .pow => match x, y with
    | .val (.int i), .val (.int j) => if 0 ≤ j ∧ j ≤ 1000000 ∧ i.natAbs < 2 ^ 64 then vv (.int (i ^ j.toNat)) S else .bad
    | _, _ => .bad
  | .eq => match x.py S, y.py S with
    | some a, some b => vv (.bl (PyData.eqv a b)) S
    | _, _ => .bad
  | .ne => match x.py S, y.py S with
    | some a, some b => vv (.bl (!PyData.eqv a b)) S
    | _, _ => .bad
  | .lt => match x.py S, y.py S with
    | some a, some b => ob (cmpD .lt a b) S
    | _, _ => .bad
  | .le => match x.py S, y.py S with
    | some a, some b => ob (cmpD .le a b) S
    | _, _ => .bad
  | .gt => match x.py S, y.py S with
    | some a, some b => ob (cmpD .gt a b) S
    | _, _ => .bad
  | .ge => match x.py S, y.py S with
    | some a, some b => ob (cmpD .ge a b) S
    | _, _ => .bad
  | .inn => ob (isIn x y S) S
  | .nin => ob ((isIn x y S).map (!·)) S
  | .ix => match x with
    | .val (.str z) => match y with
      | .val (.int i) => match atI z.cps.toList i with
        | some c => if z.length ≤ sizeLine then vv (.str ⟨#[c]⟩) S else .bad
        | none => .bad
      | _ => .bad
    | x => match x.seq S with
      | some (_, ds) => match y with
        | .val (.int i) => match atI ds i with
          | some d => vv d S
          | none => .bad
        | _ => .bad
      | none => match x, y with
        | .val (.ref n), .val k => match look S n k with
          | some (some d) => vv d S
          | _ => .bad
        | _, _ => .bad
  | .append => (toD y S).bd fun d S => match x with
    | .val (.ref n) => match S[n]? with
      | some (.lst ds) => if ds.length < sizeLine then vv .non (S.set n (.lst (ds ++ [d]))) else .bad
      | _ => .bad
    | _ => .bad
  | .extend => match x with
    | .val (.ref n) => match S[n]? with
      | some (.lst ds) => match y.seq S with
        | some (_, es) => if (isLst S y && decide (ds.length + es.length ≤ sizeLine)) = true then vv .non (S.set n (.lst (ds ++ es))) else .bad
        | _ => .bad
      | _ => .bad
    | _ => .bad
  | .join => match x with
    | .val (.str a) => match y.seq S with
      | some (_, ds) => match strsOf ds with
        | some ys => if joinFits a ys = true then vv (.str (Txt.join a ys)) S else .bad
        | none => .bad
      | none => .bad
    | _ => .bad
  | .max_ => match x, y with
    | .val (.int i), .val (.int j) => vv (.int (if j > i then j else i)) S
    | _, _ => .bad
  | .min_ => match x, y with
    | .val (.int i), .val (.int j) => vv (.int (if j < i then j else i)) S
    | _, _ => .bad
  | .split => match x, y with
    | .val (.str a), .val (.str b) => if (b.length == 0) = false ∧ a.length + 2 ≤ sizeLine then .ok (.lis ((Txt.split a b).map .str)) S else .bad
    | _, _ => .bad
  | _ => .bad

/-- x.replace(y, z), y and z written and unlike -/
def replW (y z : Str) (x : W) (S : Store) : R W := match x with
  | .val (.str a) => if a.length + (a.length + 1) * z.length ≤ 16777216 then vv (.str (Txt.replace a y z)) S else .bad
  | _ => .bad
def p3 (_o : P3) (_x _y _z : W) (_S : Store) : R W := .bad

def optI : Option W → Option (Option Int)
  | none => some none
  | some (.val (.int i)) => some (some i)
  | _ => none
def partI (ws : List W) (S : Store) : R (Option Int) := match optI ws.head? with
  | some i => .ok i S
  | none => .bad
def cutD {α : Type} (xs : List α) (lo hi : Option Int) : List α := (xs.drop (HT.sIx xs.length 0 lo)).take (HT.sIx xs.length xs.length hi - HT.sIx xs.length 0 lo)
/-- x[lo:hi] -/
def cutW (x : W) (lo hi : Option Int) (S : Store) : R W := match x with
  | .val (.str z) => if z.length ≤ sizeLine then vv (.str (cutS z lo hi)) S else .bad
  | x => match x.seq S with
    | some (true, ds) => if (cutD ds lo hi).length = ds.length then .bad else vv (.tup (cutD ds lo hi)) S
    | some (false, ds) => .ok (.lis (cutD ds lo hi)) S
    | none => .bad

/-- x[l:p + q].replace(y, z), y and z written and unlike -/
def replC (x : W) (l : Option Int) (p q : W) (y z : Str) (S : Store) : R W := match p, q with
  | .val (.int i), .val (.int j) => (cutW x l (some (i + j)) S).bd fun x S => replW y z x S
  | _, _ => .bad
/-- the receiver of a built-in type's method -/
inductive MK where
  | list | str | dict
  deriving DecidableEq
def MK.is (S : Store) : MK → W → Bool
  | .list, .lis _ => true
  | .list, .val (.ls _) => true
  | .list, .val (.ref k) => match S[k]? with
    | some (.lst _) => true
    | _ => false
  | .str, .val (.str _) => true
  | .dict, .val (.ref k) => match S[k]? with
    | some (.dk _) => true
    | some (.dt _) => true
    | _ => false
  | _, _ => false

/-! ### the language -/
inductive Tg where
  | nm (i : Nat) | tp (is : List Nat)
/-- what is walked -/
inductive IK where
  | it | rng1 | rng2 | rng3 | zip | enm | rev
  deriving DecidableEq

inductive Ex where
  | c (d : D)
  | v (i : Nat)
  | p1 (o : P1) (a : Ex)
  | p2 (o : P2) (a b : Ex)
  | sl (a : Ex) (lo hi : List Ex)
  | isi (ts : List Ty) (a : Ex)
  | and_ (a b : Ex) | or_ (a b : Ex) | not_ (a : Ex) | ite (c a b : Ex)
  | ch (o o' : P2) (a b c : Ex)
  | tup (es : List Ex)
  | disp (es : List Ex)
  | dict (kvs : List Ex)
  | comp (t : Tg) (k : IK) (its cs : List Ex) (e : Ex) (own : List Nat)
  | call (f : Nat) (es : List Ex)
  | m0 (k : MK) (o : P1) (a : Ex)
  | m1 (k : MK) (o : P2) (a b : Ex)
  | m2 (k : MK) (o : P3) (a b c : Ex)
  | srt (key : Nat) (rev : Bool) (a : Ex)
  | repl (a : Ex) (lo : List Ex) (v w : Ex) (y z : Str)
  | fst (es : List Ex)

def bindTs : List Nat → List D → Env → Option Env
  | [], [], ρ => some ρ
  | i :: is, d :: ds, ρ => bindTs is ds (ρ.set i (some d))
  | _, _, _ => none
def bindTg : Tg → D → Env → Option Env
  | .nm i, d, ρ => some (ρ.set i (some d))
  | .tp is, .tup ds, ρ => bindTs is ds ρ
  | _, _, _ => none
def wipeD (ρ : Env) : List Nat → Env
  | [] => ρ
  | v :: vs => (wipeD ρ vs).set v none

/-- items, and the lists that must stay as they are -/
structure Its where
  items : List D
  live : List (Nat × List D)
def live1 : W → List D → List (Nat × List D)
  | .val (.ref n), ds => [(n, ds)]
  | _, _ => []
def intsD (n : Nat) (f : Nat → Int) : List D := (List.range n).map fun i => .int (f i)
/-- how many numbers from i by c below j -/
def steps (i j c : Int) : Nat := if i < j then ((j - i - 1) / c + 1).toNat else 0
def its (k : IK) (ws : List W) (S : Store) : Option Its := match k with
  | .it => match ws with
    | [w] => match w.seq S with
      | some p => some ⟨p.2, live1 w p.2⟩
      | none => match w with
        | .val (.str z) => some ⟨z.cps.toList.map fun c => .str ⟨#[c]⟩, []⟩
        | _ => none
    | _ => none
  | .rng1 => match ws with
    | [.val (.int n)] => if fits62 n = true then some ⟨intsD n.toNat fun i => (i : Int), []⟩ else none
    | _ => none
  | .rng2 => match ws with
    | [.val (.int a), .val (.int b)] => if (fits62 a && fits62 b) = true then some ⟨intsD (b - a).toNat fun i => a + i, []⟩ else none
    | _ => none
  | .rng3 => match ws with
    | [.val (.int a), .val (.int b), .val (.int c)] => if (fits62 a && fits62 b && decide (0 < c ∧ c < 1073741824)) = true then some ⟨intsD (steps a b c) fun i => a + i * c, []⟩ else none
    | _ => none
  | .zip => match ws with
    | [w, w'] => match w.seq S, w'.seq S with
      | some p, some q => if p.1 = q.1 then some ⟨(p.2.zip q.2).map fun p => .tup [p.1, p.2], live1 w p.2 ++ live1 w' q.2⟩ else none
      | _, _ => none
    | _ => none
  | .enm => match ws with
    | [w] => match w.seq S with
      | some (false, ds) => some ⟨ds.zipIdx.map fun q => .tup [.int q.2, q.1], live1 w ds⟩
      | _ => none
    | _ => none
  | .rev => match ws with
    | [w] => match w.seq S with
      | some p => some ⟨p.2.reverse, live1 w p.2⟩
      | none => none
    | _ => none
def isLive (live : List (Nat × List D)) (S : Store) : Prop := ∀ p ∈ live, S[p.1]? = some (.lst p.2)

open Classical in
/-- a comprehension's turns -/
noncomputable def compL (live : List (Nat × List D)) (turn : D → Store → R (Option D)) : List D → Store → List D → R (List D)
  | [], S, acc => if isLive live S then .ok acc S else .bad
  | d :: r, S, acc => if isLive live S then (turn d S).bd fun o S => match o with
      | none => compL live turn r S acc
      | some e => if acc.length < sizeLine then compL live turn r S (acc ++ [e]) else .bad
    else .bad

def toB (w : W) (S : Store) : R Bool := match w with
  | .val (.bl b) => .ok b S
  | _ => .bad
def toDs : List W → Store → R (List D)
  | [], S => .ok [] S
  | w :: r, S => (toD w S).bd fun d S => (toDs r S).bd fun ds S => .ok (d :: ds) S
/-- what stands in turn: key, value, key, .. -/
def unpair : List D → Option (List (Key × D))
  | [] => some []
  | k :: v :: r => match k.key with
    | some k => (unpair r).map ((k, v) :: ·)
    | none => none
  | _ => none
/-- a display's new dict -/
def dispO (ds : List D) : Option O := match unpair ds with
  | some kvs => if kvs.length ≤ 15 then some (.dk (kvs.foldl (fun acc kv => putD acc kv.1 kv.2) [])) else none
  | none => none
/-- the keys, in turn -/
def keysL (f : D → Store → R D) : List D → Store → R (List D)
  | [], S => .ok [] S
  | d :: r, S => ((f d S).nox).bd fun k S => (keysL f r S).bd fun ks S => .ok (k :: ks) S
/-- the items in the keys' order, equal keys in their old turn -/
noncomputable def byKeys {α : Type} (b : Bool) (xs : List α) (kz : List PyData) : List α := ((xs.zip kz).mergeSort (W.dataLe b (·.2))).map (·.1)
open Classical in
noncomputable def srtEnd (ds ks : List D) (S : Store) : R W := match mapO (toPy S deepest) ks with
  | some kz => if W.AllAlike kz ∧ W.Sortable kz then .ok (.lis (byKeys false ds kz)) S else .bad
  | none => .bad
noncomputable def srtW (f : D → Store → R D) (w : W) (S : Store) : R W := match w.seq S with
  | some (false, ds) => (keysL f ds S).bd fun ks S => srtEnd ds ks S
  | _ => .bad

section
variable (C : Nat → List D → Store → R D)
mutual
noncomputable def evK : Ex → Env → Store → R W
  | .c d, _, S => vv d S
  | .v i, ρ, S => match ρ[i]? with
    | some (some d) => vv d S
    | _ => .bad
  | .p1 o a, ρ, S => (evK a ρ S).bd fun x S => p1 o x S
  | .p2 o a b, ρ, S => (evK a ρ S).bd fun x S => (evK b ρ S).bd fun y S => p2 o x y S
  | .sl a lo hi, ρ, S => (evK a ρ S).bd fun x S => ((evWs lo ρ S).bd partI).bd fun l S => ((evWs hi ρ S).bd partI).bd fun h S => cutW x l h S
  | .isi ts a, ρ, S => (evK a ρ S).bd fun x S => isiW ts x S
  | .and_ a b, ρ, S => ((evK a ρ S).bd toB).bd fun c S => if c = true then evK b ρ S else vv (.bl false) S
  | .or_ a b, ρ, S => ((evK a ρ S).bd toB).bd fun c S => if c = true then vv (.bl true) S else evK b ρ S
  | .not_ a, ρ, S => ((evK a ρ S).bd toB).bd fun c S => vv (.bl (!c)) S
  | .ite c a b, ρ, S => ((evK c ρ S).bd toB).bd fun k S => if k = true then evK a ρ S else evK b ρ S
  | .ch o o' a b c, ρ, S => (evK a ρ S).bd fun x S => (evK b ρ S).bd fun y S => ((p2 o x y S).bd toB).bd fun k S =>
      if k = true then (evK c ρ S).bd fun z S => p2 o' y z S else vv (.bl false) S
  | .tup es, ρ, S => (evDs es ρ S).bd fun ds S => if ds.length ≤ sizeLine then vv (.tup ds) S else .bad
  | .disp es, ρ, S => (evDs es ρ S).bd fun ds S => if ds.length ≤ sizeLine then .ok (.lis ds) S else .bad
  | .dict kvs, ρ, S => (evDs kvs ρ S).bd fun ds S => match dispO ds with
    | some o => .ok (.val (.ref S.length)) (S ++ [o])
    | none => .bad
  | .comp t k is cs e own, ρ, S => (evWs is ρ S).bd fun ws S => match its k ws S with
    | some I => (compL I.live (fun d S => match bindTg t d (wipeD ρ own) with
        | some ρ' => ((evCs cs ρ' S).bd fun b S => if b = true then ((evK e ρ' S).bd toD).bd fun d S => .ok (some d) S else .ok none S).nox
        | none => .bad) I.items S []).bd fun ds S => .ok (.lis ds) S
    | none => .bad
  | .call f es, ρ, S => (evDs es ρ S).bd fun ds S => (C f ds S).bd fun d S => vv d S
  | .m0 k o a, ρ, S => (evK a ρ S).bd fun x S => if k.is S x = true then p1 o x S else .bad
  | .m1 k o a b, ρ, S => (evK a ρ S).bd fun x S => if k.is S x = true then (evK b ρ S).bd fun y S => p2 o x y S else .bad
  | .m2 k o a b c, ρ, S => (evK a ρ S).bd fun x S => if k.is S x = true then (evK b ρ S).bd fun y S => (evK c ρ S).bd fun z S => p3 o x y z S else .bad
  | .srt f rev a, ρ, S => (evK a ρ S).bd fun w S => if rev = true then .bad else srtW (fun d S => C f [d] S) w S
  | .repl a lo v w y z, ρ, S => (evK a ρ S).bd fun x S => ((evWs lo ρ S).bd partI).bd fun l S => (evK v ρ S).bd fun p S => (evK w ρ S).bd fun q S => replC x l p q y z S
  | .fst es, ρ, S => evJ es ρ S Str.empty
/-- texts one behind the other -/
noncomputable def evJ : List Ex → Env → Store → Str → R W
  | [], _, S, acc => vv (.str acc) S
  | e :: r, ρ, S, acc => (evK e ρ S).bd fun w S => match w with
    | .val (.str y) => if (acc ++ y).length ≤ sizeLine then evJ r ρ S (acc ++ y) else .bad
    | _ => .bad
/-- arguments: each gets a place at once -/
noncomputable def evDs : List Ex → Env → Store → R (List D)
  | [], _, S => .ok [] S
  | e :: r, ρ, S => ((evK e ρ S).bd toD).bd fun d S => (evDs r ρ S).bd fun ds S => .ok (d :: ds) S
noncomputable def evWs : List Ex → Env → Store → R (List W)
  | [], _, S => .ok [] S
  | e :: r, ρ, S => (evK e ρ S).bd fun d S => (evWs r ρ S).bd fun ds S => .ok (d :: ds) S
noncomputable def evCs : List Ex → Env → Store → R Bool
  | [], _, S => .ok true S
  | e :: r, ρ, S => ((evK e ρ S).bd toB).bd fun b S => if b = true then evCs r ρ S else .ok false S
end
noncomputable def evD (e : Ex) (ρ : Env) (S : Store) : R D := (evK C e ρ S).bd toD
noncomputable def evB (e : Ex) (ρ : Env) (S : Store) : R Bool := (evK C e ρ S).bd toB
end

/-! ### statements -/
inductive Fl where
  | nx | brk | cnt | rt (d : D)
inductive RS where
  | ok (f : Fl) (ρ : Env) (S : Store) | ex (c : Nat) (fs : List (Str × D)) (ρ : Env) (S : Store) | bad

inductive Stm where
  | set (t : Tg) (e : Ex)
  | setIx (o i e : Ex)
  | exp (e : Ex)
  | ret (e : Ex)
  | iff (c : Ex) (a b : List Stm)
  | for_ (t : Tg) (k : IK) (is : List Ex) (b : List Stm)
  | whl (c : Ex) (b : List Stm)
  | brk | cnt | pass
  | aug (i : Nat) (o : P2) (e : Ex)

def R.st {α : Type} (r : R α) (ρ : Env) (f : α → Store → RS) : RS := match r with
  | .ok a S => f a S | .ex c fs S => .ex c fs ρ S | .bad => .bad
/-- behind a statement -/
def RS.sq (r : RS) (f : Env → Store → RS) : RS := match r with
  | .ok .nx ρ S => f ρ S | r => r

/-- x op= y -/
def augV (o : P2) (x : D) (y : W) : Option D := match o, x, y with
  | .add, .int a, .val (.int b) => some (.int (a + b))
  | .sub, .int a, .val (.int b) => some (.int (a - b))
  | _, _, _ => none
/-- o[i] = d -/
def setItem (o i : W) (d : D) (S : Store) : Option Store := match o with
  | .val (.ref n) => match S[n]? with
    | some (.lst ds) => match i with
      | .val (.int k) => (ixN ds.length k).map fun j => S.set n (.lst (ds.set j d))
      | _ => none
    | some o => match i with
      | .val k => (putO o k d).map fun o => S.set n o
      | _ => none
    | none => none
  | _ => none

open Classical in
noncomputable def forL (live : List (Nat × List D)) (turn : D → Env → Store → RS) : List D → Env → Store → RS
  | [], ρ, S => if isLive live S then .ok .nx ρ S else .bad
  | d :: r, ρ, S => if isLive live S then match turn d ρ S with
      | .ok .nx ρ S => forL live turn r ρ S
      | .ok .cnt ρ S => forL live turn r ρ S
      | .ok .brk ρ S => .ok .nx ρ S
      | .ok (.rt d) ρ S => .ok (.rt d) ρ S
      | .ex c fs ρ S => .ex c fs ρ S
      | .bad => .bad
    else .bad

def whileF (c : Env → Store → R Bool) (b : Env → Store → RS) : Nat → Env → Store → Option RS
  | 0, _, _ => none
  | n + 1, ρ, S => match c ρ S with
    | .ok true S => match b ρ S with
      | .ok .nx ρ S => whileF c b n ρ S
      | .ok .cnt ρ S => whileF c b n ρ S
      | .ok .brk ρ S => some (.ok .nx ρ S)
      | .ok (.rt d) ρ S => some (.ok (.rt d) ρ S)
      | .ex c fs ρ S => some (.ex c fs ρ S)
      | .bad => some .bad
    | .ok false S => some (.ok .nx ρ S)
    | .ex c fs S => some (.ex c fs ρ S)
    | .bad => some .bad
open Classical in
noncomputable def whileR (c : Env → Store → R Bool) (b : Env → Store → RS) (ρ : Env) (S : Store) : RS :=
  if h : ∃ r n, whileF c b n ρ S = some r then Classical.choose h else .bad

section
variable (C : Nat → List D → Store → R D)
mutual
noncomputable def exS : Stm → Env → Store → RS
  | .set t e, ρ, S => (evD C e ρ S).st ρ fun d S => match bindTg t d ρ with
    | some ρ => .ok .nx ρ S
    | none => .bad
  | .setIx o i e, ρ, S => (evD C e ρ S).st ρ fun d S => (evK C o ρ S).st ρ fun x S => (evK C i ρ S).st ρ fun y S => match setItem x y d S with
    | some S => .ok .nx ρ S
    | none => .bad
  | .exp e, ρ, S => (evK C e ρ S).st ρ fun _ S => .ok .nx ρ S
  | .ret e, ρ, S => (evD C e ρ S).st ρ fun d S => .ok (.rt d) ρ S
  | .iff c a b, ρ, S => (evB C c ρ S).st ρ fun k S => if k = true then exSs a ρ S else exSs b ρ S
  | .for_ t k is b, ρ, S => (evWs C is ρ S).st ρ fun ws S => match its k ws S with
    | some I => forL I.live (fun d ρ S => match bindTg t d ρ with
      | some ρ => exSs b ρ S
      | none => .bad) I.items ρ S
    | none => .bad
  | .whl c b, ρ, S => whileR (evB C c) (exSs b) ρ S
  | .brk, ρ, S => .ok .brk ρ S
  | .cnt, ρ, S => .ok .cnt ρ S
  | .pass, ρ, S => .ok .nx ρ S
  | .aug i o e, ρ, S => match ρ[i]? with
    | some (some x) => (evK C e ρ S).st ρ fun y S => match augV o x y with
      | some d => .ok .nx (ρ.set i (some d)) S
      | none => .bad
    | _ => .bad
noncomputable def exSs : List Stm → Env → Store → RS
  | [], ρ, S => .ok .nx ρ S
  | s :: r, ρ, S => (exS s ρ S).sq fun ρ S => exSs r ρ S
end
end

/-! ### defs -/
structure Fn where
  np : Nat
  nl : Nat
  body : List Stm
mutual
def D.und (k : Nat) : D → Bool
  | .ref n => decide (n < k)
  | .tup ds => D.unds k ds
  | .ls ds => D.unds k ds
  | .kt ds => D.unds k ds
  | _ => true
def D.unds (k : Nat) : List D → Bool
  | [] => true
  | d :: r => D.und k d && D.unds k r
end
def O.und (k : Nat) : O → Bool
  | .lst ds => D.unds k ds
  | .dk kvs => D.unds k (kvs.map (·.2))
  | .dt kvs => D.unds k (kvs.map (·.2))
  | .ins _ fs => D.unds k (fs.map (·.2))
/-- what stood is as it was, or knows nothing new -/
def keeps (S S' : Store) : Prop := ∀ i o, i < S.length → S'[i]? = some o → S[i]? = some o ∨ o.und S.length = true
open Classical in
/-- a call's end: what nobody knows goes -/
noncomputable def pack (S : Store) (d : D) (S' : Store) : R D :=
  if keeps S S' then
    if d.und S.length = true then .ok d (S'.take S.length)
    else match d with
      | .ref m => match S'[m]? with
        | some o => if o.und S.length = true then .ok (.ref S.length) (S'.take S.length ++ [o]) else .ok d S'
        | none => .ok d S'
      | _ => .ok d S'
  else .ok d S'

noncomputable def run (tab : Nat → Option Fn) : Nat → Nat → List D → Store → R D
  | 0, _, _, _ => .bad
  | n + 1, f, ds, S => match tab f with
    | none => .bad
    | some F => if ds.length = F.np then
        match exSs (run tab n) F.body (ds.map some ++ List.replicate (F.nl - F.np) none) S with
        | .ok (.rt d) _ S' => pack S d S'
        | .ok .nx _ S' => pack S .non S'
        | .ok _ _ _ => .bad
        | .ex c fs _ S' => .ex c fs S'
        | .bad => .bad
      else .bad
end Mi

set_option autoImplicit false
/-! Mi, part B: how values and stores lie in the layer's heap. -/
namespace Mi
open PySem L2

/-- what is fixed through a law: the written part, the own classes' addresses, the own exceptions' classes -/
structure Gb where
  K : PySem.W.Frag
  cls : Nat → Option Addr
  exc : Nat → Option Value

def KT (K : PySem.W.Frag) (a : Addr) (xs : List V) : Prop := ∃ (o : Obj) (its : Array Value) (n : Nat), K.lookup a = some o ∧ o.cls = .type "tuple" ∧ o.data = .seq its n ∧ its.size ≤ sizeLine ∧ Vals xs its.toList
def KL (K : PySem.W.Frag) (a : Addr) (xs : List V) : Prop := ∃ (o : Obj) (its : Array Value) (n : Nat), K.lookup a = some o ∧ o.cls = .type "list" ∧ o.dict = none ∧ o.data = .seq its n ∧ its.size ≤ sizeLine ∧ Vals xs its.toList
def TupA (K : PySem.W.Frag) (H : Hp) (a : Addr) (xs : List V) : Prop := H a = some (.tup xs)
def LisA (K : PySem.W.Frag) (H : Hp) (a : Addr) (xs : List V) : Prop := (∃ o, H a = some (.frz o (.lst xs))) ∨ KL K a xs
theorem TupA.sq {K : PySem.W.Frag} {H : Hp} {a : Addr} {xs : List V} (h : TupA K H a xs) : SqT K H a xs := .inl (.inl h)
theorem KT.sq {K : PySem.W.Frag} {H : Hp} {a : Addr} {xs : List V} (h : KT K a xs) : SqT K H a xs := .inr h
theorem LisA.sq {K : PySem.W.Frag} {H : Hp} {a : Addr} {xs : List V} (h : LisA K H a xs) : SqL K H a xs := by
  rcases h with ⟨o, h⟩ | h
  · exact .inl (.inr ⟨o, h⟩)
  · exact .inr h

section
variable (G : Gb) (φ : List Addr) (H : Hp)
mutual
def Rp : D → V → Prop
  | .non, v => v = .non
  | .bl b, v => v = .bl b
  | .int i, v => v = .int i
  | .str x, v => v = .str x
  | .tup ds, v => ∃ a vs, v = .ref a ∧ TupA G.K H a vs ∧ Rps ds vs
  | .ls ds, v => ∃ a vs, v = .ref a ∧ LisA G.K H a vs ∧ Rps ds vs
  | .kt ds, v => ∃ a vs, v = .ref a ∧ KT G.K a vs ∧ Rps ds vs
  | .ref n, v => ∃ a, v = .ref a ∧ φ[n]? = some a
def Rps : List D → List V → Prop
  | [], vs => vs = []
  | d :: ds, vs => ∃ v r, vs = v :: r ∧ Rp d v ∧ Rps ds r
end
def RpW : W → V → Prop
  | .val d, v => Rp G φ H d v
  | .lis ds, v => ∃ a vs, v = .ref a ∧ H a = some (.lst vs) ∧ a ∉ φ ∧ Rps G φ H ds vs
def RpWs : List W → List V → Prop
  | [], vs => vs = []
  | w :: ws, vs => ∃ v r, vs = v :: r ∧ RpW G φ H w v ∧ RpWs ws r
def RpKV {κ : Type} : List (κ × D) → List (κ × V) → Prop
  | [], vs => vs = []
  | p :: ds, vs => ∃ v r, vs = (p.1, v) :: r ∧ Rp G φ H p.2 v ∧ RpKV ds r
def RpO : O → Addr → Prop
  | .lst ds, a => ∃ vs, H a = some (.lst vs) ∧ Rps G φ H ds vs
  | .dk kvs, a => ∃ vs, H a = some (.dK vs) ∧ RpKV G φ H kvs vs
  | .dt kvs, a => ∃ vs, H a = some (.dT vs) ∧ RpKV G φ H kvs vs
  | .ins c fs, a => ∃ C dx vs, G.cls c = some C ∧ H a = some (.ins C dx vs) ∧ RpKV G φ H fs vs
structure Rel (S : Store) : Prop where
  len : φ.length = S.length
  nd : φ.Nodup
  obj : ∀ (n : Nat) (a : Addr) (o : O), φ[n]? = some a → S[n]? = some o → RpO G φ H o a
def Sl (ρ : Env) (σ : St) : Prop := ρ.length = σ.length ∧ ∀ (i : Nat) (d : D), ρ[i]? = some (some d) → ∃ v, σ[i]? = some (some v) ∧ Rp G φ H d v
/-- an exception: its class, its own dict -/
def RpX (c : Nat) (fs : List (Str × D)) (cls : Value) (dx : Option Addr) : Prop :=
  G.exc c = some cls ∧ ((fs = [] ∧ dx = none) ∨ ∃ d vs, dx = some d ∧ H d = some (.xd vs) ∧ d ∉ φ ∧ RpKV G φ H fs vs)
end
structure Ext (φ : List Addr) (H : Hp) (φ' : List Addr) (H' : Hp) : Prop where
  pre : φ <+: φ'
  keep : ∀ a o, H a = some o → a ∉ φ → H' a = some o
  new : ∀ a, a ∈ φ' → a ∈ φ ∨ H a = none
theorem Ext.refl (φ : List Addr) (H : Hp) : Ext φ H φ H := ⟨List.prefix_refl _, fun _ _ h _ => h, fun _ h => .inl h⟩
theorem Ext.out {φ φ' : List Addr} {H H' : Hp} (e : Ext φ H φ' H') {a : Addr} {o : HO} (h : H a = some o) (n : a ∉ φ) : a ∉ φ' := fun m => by
  rcases e.new a m with q | q
  · exact n q
  · rw [h] at q; cases q
theorem Ext.trans {φ φ1 φ2 : List Addr} {H H1 H2 : Hp} (e : Ext φ H φ1 H1) (f : Ext φ1 H1 φ2 H2) : Ext φ H φ2 H2 := by
  refine ⟨e.pre.trans f.pre, fun a o h n => f.keep a o (e.keep a o h n) (e.out h n), fun a m => ?_⟩
  rcases f.new a m with q | q
  · exact e.new a q
  · by_cases hm : a ∈ φ
    · exact .inl hm
    · cases h : H a with
      | none => exact .inr rfl
      | some o => rw [e.keep a o h hm] at q; cases q
theorem Ext.get {φ φ' : List Addr} {H H' : Hp} (e : Ext φ H φ' H') {n : Nat} {a : Addr} (h : φ[n]? = some a) : φ'[n]? = some a := by
  obtain ⟨t, rfl⟩ := e.pre
  rw [List.getElem?_append_left (List.getElem?_eq_some_iff.mp h).1]
  exact h

section
variable {G : Gb} {φ φ' : List Addr} {H H' : Hp} {S : Store}
/-- what a place of the store is: a list, a dict, an instance -/
def isO : HO → Bool
  | .lst _ => true | .dK _ => true | .dT _ => true | .ins _ _ _ => true
  | _ => false
theorem Rel.at (R : Rel G φ H S) {a : Addr} (h : a ∈ φ) : ∃ o, H a = some o ∧ isO o = true := by
  obtain ⟨n, hn, e⟩ := List.getElem_of_mem h
  have hs : n < S.length := by rw [← R.len]; exact hn
  have q := R.obj n a S[n] (by rw [List.getElem?_eq_getElem hn, e]) (List.getElem?_eq_getElem hs)
  cases hO : S[n] with
  | lst ds => rw [hO] at q; obtain ⟨vs, q, _⟩ := q; exact ⟨_, q, rfl⟩
  | dk ds => rw [hO] at q; obtain ⟨vs, q, _⟩ := q; exact ⟨_, q, rfl⟩
  | dt ds => rw [hO] at q; obtain ⟨vs, q, _⟩ := q; exact ⟨_, q, rfl⟩
  | ins c ds => rw [hO] at q; obtain ⟨C, dx, vs, _, q, _⟩ := q; exact ⟨_, q, rfl⟩
theorem Rel.out (R : Rel G φ H S) {a : Addr} {o : HO} (h : H a = some o) (n : isO o = false) : a ∉ φ := fun m => by
  obtain ⟨u, h', i⟩ := R.at m
  rw [h] at h'; cases h'
  rw [n] at i; cases i
theorem Rel.unk (R : Rel G φ H S) {a : Addr} (h : H a = none) : a ∉ φ := fun m => by
  obtain ⟨u, h', _⟩ := R.at m
  rw [h] at h'; cases h'
/-- tuples and constant lists stay, places stay -/
structure Keep (φ : List Addr) (H : Hp) (φ' : List Addr) (H' : Hp) : Prop where
  get : ∀ (n : Nat) (a : Addr), φ[n]? = some a → φ'[n]? = some a
  tup : ∀ a xs, H a = some (.tup xs) → H' a = some (.tup xs)
  frz : ∀ a o u, H a = some (.frz o u) → H' a = some (.frz o u)
theorem Ext.toKeep (e : Ext φ H φ' H') (R : Rel G φ H S) : Keep φ H φ' H' :=
  ⟨fun _ _ h => e.get h, fun a xs h => e.keep a _ h (R.out h rfl), fun a o u h => e.keep a _ h (R.out h rfl)⟩
theorem Keep.refl : Keep φ H φ H := ⟨fun _ _ h => h, fun _ _ h => h, fun _ _ _ h => h⟩
theorem TupA.mono (k : Keep φ H φ' H') {a : Addr} {xs : List V} (h : TupA G.K H a xs) : TupA G.K H' a xs := k.tup _ _ h
theorem LisA.mono (k : Keep φ H φ' H') {a : Addr} {xs : List V} (h : LisA G.K H a xs) : LisA G.K H' a xs := by
  rcases h with ⟨o, h⟩ | h
  · exact .inl ⟨o, k.frz _ _ _ h⟩
  · exact .inr h
mutual
theorem Rp.mono (k : Keep φ H φ' H') : ∀ (d : D) (v : V), Rp G φ H d v → Rp G φ' H' d v
  | .non, _, h => by unfold Rp at h ⊢; exact h
  | .bl _, _, h => by unfold Rp at h ⊢; exact h
  | .int _, _, h => by unfold Rp at h ⊢; exact h
  | .str _, _, h => by unfold Rp at h ⊢; exact h
  | .tup ds, v, h => by
    unfold Rp at h ⊢
    obtain ⟨a, vs, e, t, r⟩ := h
    exact ⟨a, vs, e, t.mono k, Rps.mono k ds vs r⟩
  | .ls ds, v, h => by
    unfold Rp at h ⊢
    obtain ⟨a, vs, e, t, r⟩ := h
    exact ⟨a, vs, e, t.mono k, Rps.mono k ds vs r⟩
  | .kt ds, v, h => by
    unfold Rp at h ⊢
    obtain ⟨a, vs, e, t, r⟩ := h
    exact ⟨a, vs, e, t, Rps.mono k ds vs r⟩
  | .ref n, v, h => by
    unfold Rp at h ⊢
    obtain ⟨a, e, r⟩ := h
    exact ⟨a, e, k.get _ _ r⟩
theorem Rps.mono (k : Keep φ H φ' H') : ∀ (ds : List D) (vs : List V), Rps G φ H ds vs → Rps G φ' H' ds vs
  | [], _, h => by unfold Rps at h ⊢; exact h
  | d :: ds, _, h => by
    unfold Rps at h ⊢
    obtain ⟨v, r, e, h1, h2⟩ := h
    exact ⟨v, r, e, Rp.mono k d v h1, Rps.mono k ds r h2⟩
end
theorem RpKV.mono {κ : Type} (k : Keep φ H φ' H') : ∀ (ds : List (κ × D)) (vs : List (κ × V)), RpKV G φ H ds vs → RpKV G φ' H' ds vs
  | [], _, h => h
  | d :: ds, _, h => by
    obtain ⟨v, r, e, h1, h2⟩ := h
    exact ⟨v, r, e, Rp.mono k _ v h1, RpKV.mono k ds r h2⟩
theorem RpW.mono (e : Ext φ H φ' H') (R : Rel G φ H S) : ∀ {w : W} {v : V}, RpW G φ H w v → RpW G φ' H' w v
  | .val d, _, h => Rp.mono (e.toKeep R) _ _ h
  | .lis ds, _, h => by
    obtain ⟨a, vs, q, h1, h2, h3⟩ := h
    exact ⟨a, vs, q, e.keep _ _ h1 h2, e.out h1 h2, Rps.mono (e.toKeep R) _ _ h3⟩
theorem RpWs.mono (e : Ext φ H φ' H') (R : Rel G φ H S) : ∀ {w : List W} {v : List V}, RpWs G φ H w v → RpWs G φ' H' w v
  | [], _, h => h
  | w :: ws, _, h => by
    obtain ⟨v, r, q, h1, h2⟩ := h
    exact ⟨v, r, q, RpW.mono e R h1, RpWs.mono e R h2⟩
theorem Sl.mono {ρ : Env} {σ : St} (k : Keep φ H φ' H') (h : Sl G φ H ρ σ) : Sl G φ' H' ρ σ :=
  ⟨h.1, fun i d e => let ⟨v, h1, h2⟩ := h.2 i d e; ⟨v, h1, Rp.mono k _ _ h2⟩⟩
theorem Sl.set {ρ : Env} {σ : St} {d : D} {v : V} (h : Sl G φ H ρ σ) (i : Nat) (r : Rp G φ H d v) : Sl G φ H (ρ.set i (some d)) (σ.set i (some v)) := by
  refine ⟨by simpa using h.1, fun j e he => ?_⟩
  by_cases hj : i = j
  · subst hj
    by_cases hl : i < ρ.length
    · rw [List.getElem?_set_self hl] at he
      cases he
      exact ⟨v, List.getElem?_set_self (by rw [← h.1]; exact hl), r⟩
    · rw [List.getElem?_eq_none (by simpa using hl)] at he
      cases he
  · rw [List.getElem?_set_ne hj] at he ⊢
    exact h.2 j e he
theorem Sl.unset {ρ : Env} {σ : St} (h : Sl G φ H ρ σ) (i : Nat) : Sl G φ H (ρ.set i none) (σ.set i none) := by
  refine ⟨by simpa using h.1, fun j e he => ?_⟩
  by_cases hj : i = j
  · subst hj
    by_cases hl : i < ρ.length
    · rw [List.getElem?_set_self hl] at he
      cases he
    · rw [List.getElem?_eq_none (by simpa using hl)] at he
      cases he
  · rw [List.getElem?_set_ne hj] at he ⊢
    exact h.2 j e he

/-! ### the store changes -/
theorem RpO.mono (k : Keep φ H φ' H') {o : O} {a : Addr} (h : RpO G φ H o a) (ha : H' a = H a) : RpO G φ' H' o a := by
  cases o with
  | lst ds => obtain ⟨vs, h1, h2⟩ := h; exact ⟨vs, ha.trans h1, Rps.mono k _ _ h2⟩
  | dk ds => obtain ⟨vs, h1, h2⟩ := h; exact ⟨vs, ha.trans h1, RpKV.mono k _ _ h2⟩
  | dt ds => obtain ⟨vs, h1, h2⟩ := h; exact ⟨vs, ha.trans h1, RpKV.mono k _ _ h2⟩
  | ins c ds => obtain ⟨C, dx, vs, h0, h1, h2⟩ := h; exact ⟨C, dx, vs, h0, ha.trans h1, RpKV.mono k _ _ h2⟩
/-- a new object that no place knows -/
theorem Ext.fresh (R : Rel G φ H S) {p : Addr} (hp : H p = none) (o : HO) : Ext φ H φ (upd H p o) :=
  ⟨List.prefix_refl _, fun a u h _ => by rw [upd_ne (ne_of_none h hp)]; exact h, fun _ h => .inl h⟩
theorem Rel.fresh (R : Rel G φ H S) {p : Addr} (hp : H p = none) (o : HO) : Rel G φ (upd H p o) S := by
  refine ⟨R.len, R.nd, fun n a u h1 h2 => ?_⟩
  refine RpO.mono ((Ext.fresh R hp o).toKeep R) (R.obj n a u h1 h2) ?_
  obtain ⟨x, hx, _⟩ := R.at (List.mem_of_getElem? h1)
  exact upd_ne (ne_of_none hx hp)
/-- a place more -/
theorem Rel.more (R : Rel G φ H S) {p : Addr} {o : O} (n : p ∉ φ) (h : RpO G φ H o p) : Rel G (φ ++ [p]) H (S ++ [o]) := by
  have k : Keep φ H (φ ++ [p]) H := ⟨fun n a h => by rw [List.getElem?_append_left (List.getElem?_eq_some_iff.mp h).1]; exact h, fun _ _ h => h, fun _ _ _ h => h⟩
  refine ⟨by simp [R.len], ?_, fun m a u h1 h2 => ?_⟩
  · rw [List.nodup_append]
    refine ⟨R.nd, by simp, fun a ha b hb => ?_⟩
    simp at hb
    subst hb
    exact fun z => n (z ▸ ha)
  · by_cases hm : m < φ.length
    · rw [List.getElem?_append_left hm] at h1
      rw [List.getElem?_append_left (by rw [← R.len]; exact hm)] at h2
      exact RpO.mono k (R.obj m a u h1 h2) rfl
    · rw [List.getElem?_append_right (by omega)] at h1
      rw [List.getElem?_append_right (by rw [← R.len]; omega)] at h2
      rw [R.len] at h1
      cases e : m - S.length with
      | zero =>
        rw [e] at h1 h2
        simp at h1 h2
        subst h1; subst h2
        exact RpO.mono k h rfl
      | succ j =>
        rw [e] at h1
        simp at h1
/-- the object at a place is changed -/
theorem keep_write (R : Rel G φ H S) {n : Nat} {p : Addr} {u : HO} (hp : φ[n]? = some p) : Keep φ H φ (upd H p u) := by
  have hm : p ∈ φ := List.mem_of_getElem? hp
  refine ⟨fun _ _ h => h, fun a xs h => ?_, fun a o x h => ?_⟩
  · rw [upd_ne]
    · exact h
    · rintro rfl; exact R.out h rfl hm
  · rw [upd_ne]
    · exact h
    · rintro rfl; exact R.out h rfl hm
theorem Ext.write (R : Rel G φ H S) {n : Nat} {p : Addr} {u : HO} (hp : φ[n]? = some p) : Ext φ H φ (upd H p u) :=
  ⟨List.prefix_refl _, fun a o h hn => by
    rw [upd_ne]
    · exact h
    · rintro rfl; exact hn (List.mem_of_getElem? hp), fun _ h => .inl h⟩
theorem Rel.write (R : Rel G φ H S) {n : Nat} {p : Addr} {u : HO} {o : O} (hp : φ[n]? = some p) (h : RpO G φ (upd H p u) o p) : Rel G φ (upd H p u) (S.set n o) := by
  refine ⟨by rw [List.length_set]; exact R.len, R.nd, fun m a x h1 h2 => ?_⟩
  by_cases hm : n = m
  · subst hm
    rw [hp] at h1; cases h1
    by_cases hl : n < S.length
    · rw [List.getElem?_set_self hl] at h2
      cases h2
      exact h
    · rw [List.getElem?_eq_none (by simpa using hl)] at h2
      cases h2
  · rw [List.getElem?_set_ne hm] at h2
    have ne : a ≠ p := by
      rintro rfl
      have h1' := (List.getElem?_eq_some_iff.mp h1)
      have hp' := (List.getElem?_eq_some_iff.mp hp)
      obtain ⟨l1, e1⟩ := h1'
      obtain ⟨l2, e2⟩ := hp'
      exact hm ((List.getElem_inj R.nd).mp (e2.trans e1.symm))
    exact RpO.mono (keep_write R hp) (R.obj m a x h1 h2) (upd_ne ne)
end
end Mi

/-! Mi, part C: the bridge: what an end must be, and the rules for expressions. -/
namespace Mi
open PySem L2 PyProof.Rows

section
variable (G : Gb)
abbrev Rl (α β : Type) := Hp → List Addr → Hp → α → β → Prop
def RlW : Rl W V := fun H0 φ H w v => RpW G φ H w v ∧ ∀ (ds : List D) (a : Addr), w = W.lis ds → v = V.ref a → H0 a = none
def RlD : Rl D V := fun _ φ H d v => Rp G φ H d v
def RlDs : Rl (List D) (List V) := fun _ φ H d v => Rps G φ H d v
def RlB : Rl Bool Bool := fun _ _ _ a b => a = b
def RlWs : Rl (List W) (List V) := fun H0 φ H ws vs => RpWs G φ H ws vs ∧ ∀ (i : Nat) (ds : List D) (a : Addr), ws[i]? = some (W.lis ds) → vs[i]? = some (V.ref a) → H0 a = none
/-- what holds at every end that the small language tells -/
def Post {α β : Type} (L : Rl α β) (φ : List Addr) (H : Hp) (r : R α) (Wx : XK) (Q : β → Hp → Prop) : Prop := match r with
  | .ok a S' => ∀ b H' φ', Ext φ H φ' H' → Rel G φ' H' S' → L H φ' H' a b → Q b H'
  | .ex c fs S' => ∀ cls dx H' φ', Ext φ H φ' H' → Rel G φ' H' S' → RpX G φ' H' c fs cls dx → Wx cls dx H'
  | .bad => False
/-- the start may be later -/
def Mn {α β : Type} (L : Rl α β) : Prop := ∀ H0 H1 φ H a b, (∀ x, H1 x = none → H0 x = none) → L H1 φ H a b → L H0 φ H a b
end

section
variable {G : Gb} {φ φ1 : List Addr} {H H1 : Hp} {S S1 : Store} {Wx : XK}
theorem mnW : Mn (RlW G) := fun _ _ _ _ _ _ h r => ⟨r.1, fun ds a e1 e2 => h _ (r.2 ds a e1 e2)⟩
theorem mnD : Mn (RlD G) := fun _ _ _ _ _ _ _ r => r
theorem mnDs : Mn (RlDs G) := fun _ _ _ _ _ _ _ r => r
theorem mnB : Mn RlB := fun _ _ _ _ _ _ _ r => r
theorem mnWs : Mn (RlWs G) := fun _ _ _ _ _ _ h r => ⟨r.1, fun i ds a e1 e2 => h _ (r.2 i ds a e1 e2)⟩
variable {α β γ δ : Type} {L : Rl α β} {Lb : Rl γ δ}
theorem Post.mono {r : R α} {Q Q' : β → Hp → Prop} (h : Post G L φ H r Wx Q) (hQ : ∀ b H, Q b H → Q' b H) : Post G L φ H r Wx Q' := by
  cases r with
  | ok a S => exact fun b H' φ' e R l => hQ _ _ (h b H' φ' e R l)
  | ex c fs S => exact h
  | bad => exact h
theorem Post.bd {r : R α} {f : α → Store → R γ} {Q : δ → Hp → Prop} (h : Post G Lb φ H (r.bd f) Wx Q) :
    Post G L φ H r Wx (fun b H1 => ∃ φ1 a S1, r = .ok a S1 ∧ Ext φ H φ1 H1 ∧ Rel G φ1 H1 S1 ∧ L H φ1 H1 a b ∧ Post G Lb φ H (f a S1) Wx Q) := by
  cases r with
  | ok a S => exact fun b H' φ' e R l => ⟨φ', a, S, rfl, e, R, l, h⟩
  | ex c fs S => exact h
  | bad => exact h
theorem Ext.fr (e : Ext φ H φ1 H1) (R : Rel G φ1 H1 S1) : ∀ x, H1 x = none → H x = none := fun x h => by
  cases q : H x with
  | none => rfl
  | some o =>
    by_cases m : x ∈ φ
    · obtain ⟨u, hu, _⟩ := R.at (e.pre.subset m)
      rw [h] at hu; cases hu
    · rw [e.keep x o q m] at h; cases h
theorem Post.sh {r : R α} {Q : β → Hp → Prop} (h : Post G L φ H r Wx Q) (e : Ext φ H φ1 H1) (R : Rel G φ1 H1 S1) (m : Mn L) : Post G L φ1 H1 r Wx Q := by
  cases r with
  | ok a S => exact fun b H' φ' e' R' l => h b H' φ' (e.trans e') R' (m _ _ _ _ _ _ (e.fr R) l)
  | ex c fs S => exact fun cls dx H' φ' e' R' x => h cls dx H' φ' (e.trans e') R' x
  | bad => exact h
theorem Post.ok {a : α} {Q : β → Hp → Prop} {b : β} {H' : Hp} {φ' : List Addr} {S' : Store} (h : Post G L φ H (.ok a S') Wx Q) (e : Ext φ H φ' H') (R : Rel G φ' H' S') (l : L H φ' H' a b) : Q b H' := h b H' φ' e R l
end

abbrev AX (α : Type) := Env → Store → R α
section
variable (G : Gb) (Wx : WX)
/-- the state is told by the small language's -/
def tI {α β : Type} (L : Rl α β) (A : AX α) : L2.St → Hp → (β → Hp → Prop) → Prop := fun σ H Q => ∃ φ ρ S, Rel G φ H S ∧ Sl G φ H ρ σ ∧ Post G L φ H (A ρ S) (fun c d H' => Wx c d σ H') Q
abbrev tK (A : AX W) : TE := tI G Wx (RlW G) A
abbrev tD (A : AX D) : TE := tI G Wx (RlD G) A
abbrev tBo (A : AX Bool) : TT := tI G Wx RlB A
abbrev tDs (A : AX (List D)) : TA := tI G Wx (RlDs G) A
abbrev tWs (A : AX (List W)) : TA := tI G Wx (RlWs G) A
end

section
variable {X : Cx} {e : Expr} {t t' : TE}
theorem _root_.L2.PE.im (h : PE X e t) (hi : ∀ σ H Q, t' σ H Q → t σ H Q) : PE X e t' := ⟨fun pins s σ H Q I q => h.run pins s σ H Q I (hi _ _ _ q)⟩
theorem _root_.L2.PT.im {t t' : TT} (h : PT X e t) (hi : ∀ σ H Q, t' σ H Q → t σ H Q) : PT X e t' := ⟨fun pins s σ H Q I q => h.run pins s σ H Q I (hi _ _ _ q)⟩
theorem _root_.L2.PW.im {t t' : TT} (h : L2.PW X e t) (hi : ∀ σ H Q, t' σ H Q → t σ H Q) : L2.PW X e t' := ⟨fun wh pins s σ H Q I q => h.run wh pins s σ H Q I (hi _ _ _ q)⟩
theorem _root_.L2.PA.im {es : List Expr} {t t' : TA} (h : PA X es t) (hi : ∀ σ H Q, t' σ H Q → t σ H Q) : PA X es t' := ⟨fun pos pins s σ H Q I q => h.run pos pins s σ H Q I (hi _ _ _ q)⟩
end

section
variable {G : Gb} {Wx : WX} {X : Cx} {a b c e : Expr} {A B C : AX W} {pos : Pos} {α β γ δ : Type}
/-- one after the other: at the point behind the first -/
theorem tI.bd {L : Rl α β} {Lb : Rl γ δ} {A : AX α} {F : α → AX γ} {σ : L2.St} {H : Hp} {Q : δ → Hp → Prop} {Q' : β → Hp → Prop}
    (h : tI G Wx Lb (fun ρ S => (A ρ S).bd fun x S => F x ρ S) σ H Q)
    (k : ∀ φ ρ S b φ1 H1 x S1, Rel G φ H S → Sl G φ H ρ σ → Ext φ H φ1 H1 → Rel G φ1 H1 S1 → L H φ1 H1 x b → Post G Lb φ H (F x ρ S1) (fun c d H' => Wx c d σ H') Q → Q' b H1) : tI G Wx L A σ H Q' := by
  obtain ⟨φ, ρ, S, R, sl, h⟩ := h
  exact ⟨φ, ρ, S, R, sl, (Post.bd h).mono fun b H1 ⟨φ1, x, S1, _, e, R1, l, h1⟩ => k φ ρ S b φ1 H1 x S1 R sl e R1 l h1⟩
theorem tI.go {L : Rl α β} {A : AX α} {σ : L2.St} {H H1 : Hp} {Q : β → Hp → Prop} {φ φ1 : List Addr} {ρ : Env} {S S1 : Store} (R : Rel G φ H S) (sl : Sl G φ H ρ σ) (e : Ext φ H φ1 H1) (R1 : Rel G φ1 H1 S1) (m : Mn L)
    (h : Post G L φ H (A ρ S1) (fun c d H' => Wx c d σ H') Q) : tI G Wx L A σ H1 Q := ⟨φ1, ρ, S1, R1, sl.mono (e.toKeep R), h.sh e R1 m⟩

/-! ### values get a place; tests -/
theorem toD_post {w : W} {v : V} {φ φ1 : List Addr} {H H1 : Hp} {S1 : Store} {xk : XK} {Q : V → Hp → Prop} (e : Ext φ H φ1 H1) (R1 : Rel G φ1 H1 S1) (l : RlW G H φ1 H1 w v) (h : Post G (RlD G) φ H (toD w S1) xk Q) : Q v H1 := by
  cases w with
  | val d => exact h.ok e R1 l.1
  | lis ds =>
    obtain ⟨⟨p, vs, rfl, hp, n, r⟩, f⟩ := l
    have f := f ds p rfl rfl
    have R2 : Rel G (φ1 ++ [p]) H1 (S1 ++ [.lst ds]) := R1.more n ⟨vs, hp, r⟩
    refine h.ok (φ' := φ1 ++ [p]) ⟨e.pre.trans (List.prefix_append _ _), e.keep, fun x hx => ?_⟩ R2 ?_
    · rcases List.mem_append.mp hx with q | q
      · exact e.new x q
      · simp at q; subst q; exact .inr f
    · show Rp G _ _ (.ref S1.length) _
      unfold Rp
      exact ⟨p, rfl, by rw [← R1.len]; simp⟩
theorem k_D (h : PE X e (tK G Wx A)) : PE X e (tD G Wx fun ρ S => (A ρ S).bd toD) := h.im fun σ H Q q => tI.bd (F := fun w _ S => toD w S) q fun φ ρ S b φ1 H1 x S1 R sl e R1 l h => toD_post e R1 l h
theorem toB_post {w : W} {v : V} {φ φ1 : List Addr} {H H1 : Hp} {S1 : Store} {xk : XK} {Q : Bool → Hp → Prop} (e : Ext φ H φ1 H1) (R1 : Rel G φ1 H1 S1) (l : RlW G H φ1 H1 w v) (h : Post G RlB φ H (toB w S1) xk Q) : ∃ k, v = .bl k ∧ Q k H1 := by
  cases w with
  | lis ds => exact h.elim
  | val d =>
    cases d with
    | bl k => exact ⟨k, by have q := l.1; unfold RpW Rp at q; exact q, h.ok e R1 rfl⟩
    | _ => exact h.elim
theorem k_B (h : PE X e (tK G Wx A)) (he : ∀ whole, isTrue e X.env whole = (do let v ← whole; standAt e.pos; holding [v] (truthy v)) := by intro _; rfl) : PT X e (tBo G Wx fun ρ S => (A ρ S).bd toB) :=
  (pt_val h he).im fun σ H Q q => tI.bd (F := fun w _ S => toB w S) q fun φ ρ S b φ1 H1 x S1 R sl e R1 l h => toB_post e R1 l h
theorem k_Bcmp {r : R2} {op : CmpOp} {ta tb : TE} (ho : OpR X (compareOp op) r) (ha : PE X a ta) (hb : PE X b tb) (hm : behindInMarks op b = false) (hi : ∀ σ H Q, tK G Wx A σ H Q → tOp r ta tb σ H Q) : PT X (.Compare a [op] [b] pos) (tBo G Wx fun ρ S => (A ρ S).bd toB) :=
  (pt_cmpR ho ha hb hm).im fun σ H Q q => hi _ _ _ (tI.bd (F := fun w _ S => toB w S) q fun φ ρ S b φ1 H1 x S1 R sl e R1 l h => toB_post e R1 l h)

/-! ### constants, names -/
theorem rl_val {φ1 : List Addr} {H H1 : Hp} {d : D} {v : V} (h : Rp G φ1 H1 d v) : RlW G H φ1 H1 (.val d) v := ⟨h, fun _ _ e => nomatch e⟩
theorem k_const {d : D} {v : V} (h : PE X e (tC v)) (hd : ∀ φ H, Rp G φ H d v) : PE X e (tK G Wx fun _ S => vv d S) := h.im fun σ H Q ⟨φ, ρ, S, R, sl, q⟩ => q.ok (Ext.refl _ _) R (rl_val (hd _ _))
theorem k_var {i : Nat} {x : Str} (hN : X.N[i]? = some x) (hv : Vis X.env.scope x) (hd : (x == ("__debug__" : Str)) = false) (hcd : (x == ("__classdict__" : Str)) = false) :
    PE X (.Name x pos) (tK G Wx fun ρ S => match ρ[i]? with | some (some d) => vv d S | _ => .bad) := (pe_var hN hv hd hcd).im fun σ H Q ⟨φ, ρ, S, R, sl, q⟩ => by
  dsimp only at q
  cases h : ρ[i]? with
  | none => rw [h] at q; exact q.elim
  | some o =>
    cases o with
    | none => rw [h] at q; exact q.elim
    | some d =>
      rw [h] at q
      obtain ⟨v, h1, h2⟩ := sl.2 i d h
      exact ⟨v, h1, q.ok (Ext.refl _ _) R (rl_val h2)⟩

/-- the next part, from the place behind the one ahead -/
theorem tI.next {L : Rl α β} {Lb : Rl γ δ} {A : AX α} {F : α → Store → R γ} {σ : L2.St} {H H1 : Hp} {Q : δ → Hp → Prop} {Q' : β → Hp → Prop} {φ φ1 : List Addr} {ρ : Env} {S S1 : Store} (R : Rel G φ H S) (sl : Sl G φ H ρ σ) (e : Ext φ H φ1 H1) (R1 : Rel G φ1 H1 S1)
    (h : Post G Lb φ H ((A ρ S1).bd F) (fun c d H' => Wx c d σ H') Q)
    (k : ∀ b H2 φ2 x S2, Ext φ1 H1 φ2 H2 → Rel G φ2 H2 S2 → L H1 φ2 H2 x b → Post G Lb φ H (F x S2) (fun c d H' => Wx c d σ H') Q → Q' b H2) : tI G Wx L A σ H1 Q' := by
  refine ⟨φ1, ρ, S1, R1, sl.mono (e.toKeep R), ?_⟩
  cases q : A ρ S1 with
  | ok x S2 => exact fun b H2 φ2 e2 R2 l => k b H2 φ2 x S2 e2 R2 l (by rw [q] at h; exact h)
  | ex c fs S2 =>
    rw [q] at h
    exact fun cls dx H2 φ2 e2 R2 x => h cls dx H2 φ2 (e.trans e2) R2 x
  | bad =>
    rw [q] at h
    exact h
/-! ### operations by values -/
/-- what an operation of values is asked, at the place now -/
def rP2 (G : Gb) (o : W → W → Store → R W) : R2 := fun x y H Q => ∃ φ w1 w2 S xk, Rel G φ H S ∧ RpW G φ H w1 x ∧ RpW G φ H w2 y ∧ Post G (RlW G) φ H (o w1 w2 S) xk Q
def rP1 (G : Gb) (o : W → Store → R W) : V → Hp → VK → Prop := fun x H Q => ∃ φ w1 S xk, Rel G φ H S ∧ RpW G φ H w1 x ∧ Post G (RlW G) φ H (o w1 S) xk Q
theorem p2_im {o : W → W → Store → R W} {σ : L2.St} {H : Hp} {Q : VK} (q : tK G Wx (fun ρ S => (A ρ S).bd fun x S => (B ρ S).bd fun y S => o x y S) σ H Q) : tOp (rP2 G o) (tK G Wx A) (tK G Wx B) σ H Q := by
  refine tI.bd (F := fun x ρ S => (B ρ S).bd fun y S => o x y S) q fun φ ρ S v φ1 H1 x S1 R sl e R1 l h => ?_
  refine tI.next R sl e R1 h fun u H2 φ2 y S2 e2 R2 l2 h2 => ?_
  exact ⟨φ2, x, y, S2, _, R2, RpW.mono e2 R1 l.1, l2.1, h2.sh (e.trans e2) R2 mnW⟩
theorem p1_im {o : W → Store → R W} {σ : L2.St} {H : Hp} {Q : VK} (q : tK G Wx (fun ρ S => (A ρ S).bd fun x S => o x S) σ H Q) : tUn (rP1 G o) (tK G Wx A) σ H Q :=
  tI.bd (F := fun x _ S => o x S) q fun φ ρ S v φ1 H1 x S1 R sl e R1 l h => ⟨φ1, x, S1, _, R1, l.1, h.sh e R1 mnW⟩
theorem k_bin {o : W → W → Store → R W} {op : Operator} (ho : OpR X (binaryOp op) (rP2 G o)) (ha : PE X a (tK G Wx A)) (hb : PE X b (tK G Wx B)) : PE X (.BinOp a op b pos) (tK G Wx fun ρ S => (A ρ S).bd fun x S => (B ρ S).bd fun y S => o x y S) := (pe_op ho ha hb).im fun _ _ _ q => p2_im q
theorem k_cmp {o : W → W → Store → R W} {op : CmpOp} (ho : OpR X (compareOp op) (rP2 G o)) (ha : PE X a (tK G Wx A)) (hb : PE X b (tK G Wx B)) (hm : behindInMarks op b = false) : PE X (.Compare a [op] [b] pos) (tK G Wx fun ρ S => (A ρ S).bd fun x S => (B ρ S).bd fun y S => o x y S) := (pe_cmpR ho ha hb hm).im fun _ _ _ q => p2_im q
theorem k_cmpB {o : W → W → Store → R W} {op : CmpOp} (ho : OpR X (compareOp op) (rP2 G o)) (ha : PE X a (tK G Wx A)) (hb : PE X b (tK G Wx B)) (hm : behindInMarks op b = false) :
    PT X (.Compare a [op] [b] pos) (tBo G Wx fun ρ S => ((A ρ S).bd fun x S => (B ρ S).bd fun y S => o x y S).bd toB) := k_Bcmp ho ha hb hm fun _ _ _ q => p2_im q
theorem k_neg {o : W → Store → R W} {op : UnaryOp} (ho : UnR X (unaryOp op) (rP1 G o)) (ha : PE X a (tK G Wx A)) : PE X (.UnaryOp op a pos) (tK G Wx fun ρ S => (A ρ S).bd fun x S => o x S) := (pe_un ho ha).im fun _ _ _ q => p1_im q
theorem k_ix {o : W → W → Store → R W} (ho : IxR X (rP2 G o)) (ha : PE X a (tK G Wx A)) (hb : PE X b (tK G Wx B)) (hs : PlainIx b) : PE X (.Subscript a b pos) (tK G Wx fun ρ S => (A ρ S).bd fun x S => (B ρ S).bd fun y S => o x y S) := (pe_ix ho ha hb hs).im fun _ _ _ q => p2_im q

/-! ### tests -/
theorem bd_bd {r : R α} {f : α → Store → R β} {g : β → Store → R γ} : (r.bd f).bd g = r.bd fun a S => (f a S).bd g := by cases r <;> rfl
variable {TA TB : AX Bool}
theorem k_not (ha : PT X a (tBo G Wx TA)) : PT X (.UnaryOp .Not a pos) (tBo G Wx fun ρ S => (TA ρ S).bd fun k S => .ok (!k) S) := (pt_not ha).im fun σ H Q q =>
  tI.bd (F := fun k _ S => .ok (!k) S) q fun φ ρ S b φ1 H1 x S1 R sl e R1 l h => by
    have l' : x = b := l
    subst l'
    exact h.ok e R1 rfl
theorem k_and1 (ha : PT X a (tBo G Wx TA)) : L2.PW X (.BoolOp .And [a] pos) (tBo G Wx TA) := pw_and1 ha
theorem k_or1 (ha : PT X a (tBo G Wx TA)) : L2.PW X (.BoolOp .Or [a] pos) (tBo G Wx TA) := pw_or1 ha
variable {rest : List Expr}
theorem k_and (ha : PT X a (tBo G Wx TA)) (hb : L2.PW X (.BoolOp .And (b :: rest) pos) (tBo G Wx TB)) : L2.PW X (.BoolOp .And (a :: b :: rest) pos) (tBo G Wx fun ρ S => (TA ρ S).bd fun k S => if k = true then TB ρ S else .ok false S) :=
  (pw_and ha hb).im fun σ H Q q => tI.bd (F := fun k ρ S => if k = true then TB ρ S else .ok false S) q fun φ ρ S b φ1 H1 x S1 R sl e R1 l h => by
    have l' : x = b := l
    subst l'
    cases x with
    | true => exact (if_pos rfl).mpr (tI.go R sl e R1 mnB h)
    | false => exact (if_neg Bool.false_ne_true).mpr (h.ok e R1 rfl)
theorem k_or (ha : PT X a (tBo G Wx TA)) (hb : L2.PW X (.BoolOp .Or (b :: rest) pos) (tBo G Wx TB)) : L2.PW X (.BoolOp .Or (a :: b :: rest) pos) (tBo G Wx fun ρ S => (TA ρ S).bd fun k S => if k = true then .ok true S else TB ρ S) :=
  (pw_or ha hb).im fun σ H Q q => tI.bd (F := fun k ρ S => if k = true then .ok true S else TB ρ S) q fun φ ρ S b φ1 H1 x S1 R sl e R1 l h => by
    have l' : x = b := l
    subst l'
    cases x with
    | true => exact (if_pos rfl).mpr (h.ok e R1 rfl)
    | false => exact (if_neg Bool.false_ne_true).mpr (tI.go R sl e R1 mnB h)
/-- as values -/
theorem bl_of {φ φ1 : List Addr} {H H1 : Hp} {w : W} {v : V} {S1 : Store} {xk : XK} {F : Bool → Store → R γ} {Lb : Rl γ δ} {Q : δ → Hp → Prop} (l : RlW G H φ1 H1 w v) (h : Post G Lb φ H ((toB w S1).bd F) xk Q) : ∃ k, w = .val (.bl k) ∧ v = .bl k := by
  cases w with
  | lis ds => exact h.elim
  | val d =>
    cases d with
    | bl k => exact ⟨k, rfl, by have q := l.1; unfold RpW Rp at q; exact q⟩
    | _ => exact h.elim
theorem kv_not (ha : PE X a (tK G Wx A)) : PE X (.UnaryOp .Not a pos) (tK G Wx fun ρ S => ((A ρ S).bd toB).bd fun k S => vv (.bl (!k)) S) := (pe_not ha).im fun σ H Q q => by
  simp only [bd_bd] at q
  refine tI.bd (F := fun w _ S => (toB w S).bd fun k S => vv (.bl (!k)) S) q fun φ ρ S b φ1 H1 x S1 R sl e R1 l h => ?_
  obtain ⟨k, rfl, rfl⟩ := bl_of l h
  exact ⟨k, rfl, h.ok e R1 (rl_val (by unfold Rp; rfl))⟩
theorem kv_and (ha : PE X a (tK G Wx A)) (hb : PE X (.BoolOp .And (b :: rest) pos) (tK G Wx B)) : PE X (.BoolOp .And (a :: b :: rest) pos) (tK G Wx fun ρ S => ((A ρ S).bd toB).bd fun k S => if k = true then B ρ S else vv (.bl false) S) :=
  (pe_and ha hb).im fun σ H Q q => by
  simp only [bd_bd] at q
  refine tI.bd (F := fun w ρ S => (toB w S).bd fun k S => if k = true then B ρ S else vv (.bl false) S) q fun φ ρ S b φ1 H1 x S1 R sl e R1 l h => ?_
  obtain ⟨k, rfl, rfl⟩ := bl_of l h
  refine ⟨k, rfl, ?_⟩
  cases k with
  | true => exact (if_pos rfl).mpr (tI.go R sl e R1 mnW h)
  | false => exact (if_neg Bool.false_ne_true).mpr (h.ok e R1 (rl_val (by unfold Rp; rfl)))
theorem kv_or (ha : PE X a (tK G Wx A)) (hb : PE X (.BoolOp .Or (b :: rest) pos) (tK G Wx B)) : PE X (.BoolOp .Or (a :: b :: rest) pos) (tK G Wx fun ρ S => ((A ρ S).bd toB).bd fun k S => if k = true then vv (.bl true) S else B ρ S) :=
  (pe_or ha hb).im fun σ H Q q => by
  simp only [bd_bd] at q
  refine tI.bd (F := fun w ρ S => (toB w S).bd fun k S => if k = true then vv (.bl true) S else B ρ S) q fun φ ρ S b φ1 H1 x S1 R sl e R1 l h => ?_
  obtain ⟨k, rfl, rfl⟩ := bl_of l h
  refine ⟨k, rfl, ?_⟩
  cases k with
  | true => exact (if_pos rfl).mpr (h.ok e R1 (rl_val (by unfold Rp; rfl)))
  | false => exact (if_neg Bool.false_ne_true).mpr (tI.go R sl e R1 mnW h)
theorem k_ite (hc : PT X c (tBo G Wx TA)) (ha : PE X a (tK G Wx A)) (hb : PE X b (tK G Wx B)) : PE X (.IfExp c a b pos) (tK G Wx fun ρ S => (TA ρ S).bd fun k S => if k = true then A ρ S else B ρ S) :=
  (pe_ifExp hc ha hb).im fun σ H Q q => tI.bd (F := fun k ρ S => if k = true then A ρ S else B ρ S) q fun φ ρ S b φ1 H1 x S1 R sl e R1 l h => by
    have l' : x = b := l
    subst l'
    cases x with
    | true => exact (if_pos rfl).mpr (tI.go R sl e R1 mnW h)
    | false => exact (if_neg Bool.false_ne_true).mpr (tI.go R sl e R1 mnW h)
/-- a op b op' c -/
theorem ch_im {o o' : W → W → Store → R W} {σ : L2.St} {H : Hp} {Q : VK} (q : tK G Wx (fun ρ S => (A ρ S).bd fun x S => (B ρ S).bd fun y S => ((o x y S).bd toB).bd fun k S => if k = true then (C ρ S).bd fun z S => o' y z S else vv (.bl false) S) σ H Q) :
    tChain (rP2 G o) (rP2 G o') (tK G Wx A) (tK G Wx B) (tK G Wx C) σ H Q := by
  refine tI.bd (F := fun x ρ S => (B ρ S).bd fun y S => ((o x y S).bd toB).bd fun k S => if k = true then (C ρ S).bd fun z S => o' y z S else vv (.bl false) S) q fun φ ρ S v φ1 H1 x S1 R sl e R1 l h => ?_
  refine tI.next R sl e R1 h fun u H2 φ2 y S2 e2 R2 l2 h2 => ?_
  have h2 := h2.sh (e.trans e2) R2 mnW
  have e12 := e.trans e2
  simp only [bd_bd] at h2
  refine ⟨φ2, x, y, S2, _, R2, RpW.mono e2 R1 l.1, l2.1, (Post.bd h2).mono fun z H3 hz => ?_⟩
  obtain ⟨φ3, w, S3, _, e3, R3, l3, h3⟩ := hz
  obtain ⟨k, rfl, rfl⟩ := bl_of l3 h3
  refine ⟨k, rfl, ?_⟩
  have h3 : Post G (RlW G) φ2 H2 (if k = true then (C ρ S3).bd fun z S => o' y z S else vv (.bl false) S3) _ Q := h3
  cases k with
  | false => exact (if_neg Bool.false_ne_true).mpr (h3.ok e3 R3 (rl_val (by unfold Rp; rfl)))
  | true =>
    refine (if_pos rfl).mpr (tI.next R2 (sl.mono (e12.toKeep R)) e3 R3 h3 fun z' H4 φ4 z4 S4 e4 R4 l4 h4 => ?_)
    exact ⟨φ4, y, z4, S4, _, R4, RpW.mono (e3.trans e4) R2 l2.1, l4.1, h4.sh (e3.trans e4) R4 mnW⟩
theorem k_ch {o o' : W → W → Store → R W} {op op' : CmpOp} (ho : OpR X (compareOp op) (rP2 G o)) (ho' : OpR X (compareOp op') (rP2 G o')) (ha : PE X a (tK G Wx A)) (hb : PE X b (tK G Wx B)) (hc : PE X c (tK G Wx C)) (hm : lastMarks [op, op'] [b, c] = false) :
    PE X (.Compare a [op, op'] [b, c] pos) (tK G Wx fun ρ S => (A ρ S).bd fun x S => (B ρ S).bd fun y S => ((o x y S).bd toB).bd fun k S => if k = true then (C ρ S).bd fun z S => o' y z S else vv (.bl false) S) := (pe_chain ho ho' ha hb hc hm).im fun _ _ _ q => ch_im q
theorem k_chB {o o' : W → W → Store → R W} {op op' : CmpOp} (ho : OpR X (compareOp op) (rP2 G o)) (ho' : OpR X (compareOp op') (rP2 G o')) (ha : PE X a (tK G Wx A)) (hb : PE X b (tK G Wx B)) (hc : PE X c (tK G Wx C)) (hm : lastMarks [op, op'] [b, c] = false) :
    PT X (.Compare a [op, op'] [b, c] pos) (tBo G Wx fun ρ S => ((A ρ S).bd fun x S => (B ρ S).bd fun y S => ((o x y S).bd toB).bd fun k S => if k = true then (C ρ S).bd fun z S => o' y z S else vv (.bl false) S).bd toB) :=
  (pt_chain ho ho' ha hb hc hm).im fun σ H Q q => ch_im (tI.bd (F := fun w _ S => toB w S) q fun φ ρ S b φ1 H1 x S1 R sl e R1 l h => toB_post e R1 l h)

/-! ### arguments, tuples, lists -/
variable {es : List Expr} {As : AX (List D)} {AD : AX D}
theorem ka_nil : PA X [] (tDs G Wx fun _ S => .ok [] S) := pa_nil.im fun σ H Q ⟨φ, ρ, S, R, sl, q⟩ => q.ok (Ext.refl _ _) R (by show Rps G φ H [] []; unfold Rps; rfl)
theorem ka_cons (ha : PE X e (tD G Wx AD)) (hr : PA X es (tDs G Wx As)) (hs : starEach (e :: es) X.env = (false, eval e X.env) :: starEach es X.env) : PA X (e :: es) (tDs G Wx fun ρ S => (AD ρ S).bd fun d S => (As ρ S).bd fun ds S => .ok (d :: ds) S) :=
  (pa_cons ha hr hs).im fun σ H Q q => tI.bd (F := fun d ρ S => (As ρ S).bd fun ds S => .ok (d :: ds) S) q fun φ ρ S v φ1 H1 x S1 R sl e R1 l h => by
    refine tI.next R sl e R1 h fun us H2 φ2 ds S2 e2 R2 l2 h2 => ?_
    refine h2.ok (e.trans e2) R2 ?_
    show Rps G φ2 H2 (x :: ds) (v :: us)
    unfold Rps
    exact ⟨v, us, rfl, Rp.mono (e2.toKeep R1) _ _ l, l2⟩
theorem Rps.len {φ : List Addr} {H : Hp} : ∀ {ds : List D} {vs : List V}, Rps G φ H ds vs → ds.length = vs.length
  | [], _, h => by unfold Rps at h; subst h; rfl
  | d :: ds, _, h => by
    unfold Rps at h
    obtain ⟨v, r, rfl, _, h2⟩ := h
    rw [List.length_cons, List.length_cons, Rps.len h2]
theorem k_tup {x1} (h : PA X es (tDs G Wx As)) : PE X (.Tuple es x1 pos) (tK G Wx fun ρ S => (As ρ S).bd fun ds S => if ds.length ≤ sizeLine then vv (.tup ds) S else .bad) :=
  (pe_tup h).im fun σ H Q q => tI.bd (F := fun ds _ S => if ds.length ≤ sizeLine then vv (.tup ds) S else .bad) q fun φ ρ S vs φ1 H1 ds S1 R sl e R1 l h => by
    have l : Rps G φ1 H1 ds vs := l
    have hz := l.len
    by_cases c : ds.length ≤ sizeLine
    · rw [if_pos c] at h
      refine ⟨by rw [← hz]; exact c, fun p hp => ?_⟩
      have E := Ext.fresh R1 hp (.tup vs)
      refine h.ok (e.trans E) (R1.fresh hp _) (rl_val ?_)
      unfold Rp
      exact ⟨p, vs, rfl, upd_same, Rps.mono (E.toKeep R1) _ _ l⟩
    · rw [if_neg c] at h
      exact h.elim
theorem k_disp (h : PA X es (tDs G Wx As)) : PE X (.List es pos) (tK G Wx fun ρ S => (As ρ S).bd fun ds S => if ds.length ≤ sizeLine then .ok (.lis ds) S else .bad) :=
  (pe_lst h).im fun σ H Q q => tI.bd (F := fun ds _ S => if ds.length ≤ sizeLine then R.ok (W.lis ds) S else R.bad) q fun φ ρ S vs φ1 H1 ds S1 R sl e R1 l h => by
    have l : Rps G φ1 H1 ds vs := l
    have hz := l.len
    by_cases c : ds.length ≤ sizeLine
    · rw [if_pos c] at h
      refine ⟨by rw [← hz]; exact c, fun p hp => ?_⟩
      have E := Ext.fresh R1 hp (.lst vs)
      exact h.ok (e.trans E) (R1.fresh hp _) ⟨⟨p, vs, rfl, upd_same, R1.unk hp, Rps.mono (E.toKeep R1) _ _ l⟩, fun ds a e1 e2 => by cases e2; exact e.fr R1 _ hp⟩
    · rw [if_neg c] at h
      exact h.elim
end
end Mi

/-! Mi, part D: what is walked, targets, comprehensions. -/
namespace Mi
open PySem L2 PyProof.Rows RT RZ

section
variable (G : Gb)
/-- an iterator that gives these items while the lists stay -/
def ItOk (J : It) (φ0 : List Addr) (H0 : Hp) (I : Its) : Prop := ∀ (i : Nat) (φ : List Addr) (H : Hp) (S : Store), Ext φ0 H0 φ H → Rel G φ H S → isLive I.live S →
  (∀ d, I.items[i]? = some d → J.go i H ∧ ∀ x H3, J.yld i H x H3 → Ext φ H φ H3 ∧ Rel G φ H3 S ∧ Rp G φ H3 d x) ∧ (I.items.length ≤ i → J.stop i H)
def RlI : Rl Its It := fun _ φ H I J => ItOk G J φ H I
abbrev tIts (Wx : WX) (A : AX Its) : TI := tI G Wx (RlI G) A
end
noncomputable def itsA (k : IK) (ws : List W) (S : Store) : R Its := match its k ws S with
  | some I => .ok I S
  | none => .bad

section
variable {G : Gb} {Wx : WX} {X : Cx} {tg e e2 : Expr} {A B : AX W} {pos p : Pos}
theorem Rps.get {φ : List Addr} {H : Hp} : ∀ {ds : List D} {vs : List V} {i : Nat} {d : D}, Rps G φ H ds vs → ds[i]? = some d → ∃ v, vs[i]? = some v ∧ Rp G φ H d v
  | [], _, _, _, _, e => by simp at e
  | d :: ds, _, 0, _, h, e => by
    unfold Rps at h
    obtain ⟨v, r, rfl, h1, h2⟩ := h
    simp at e
    subst e
    exact ⟨v, rfl, h1⟩
  | d :: ds, _, i + 1, _, h, e => by
    unfold Rps at h
    obtain ⟨v, r, rfl, h1, h2⟩ := h
    simp at e
    obtain ⟨w, h3, h4⟩ := Rps.get h2 e
    exact ⟨w, by simpa using h3, h4⟩
/-- what a sequence's items are -/
theorem seq_rp {φ : List Addr} {H : Hp} {S : Store} {w : W} {v : V} {b : Bool} {ds : List D} (R : Rel G φ H S) (r : RpW G φ H w v) (h : w.seq S = some (b, ds)) :
    ∃ a vs, v = .ref a ∧ (if b = true then SqT G.K H a vs else SqL G.K H a vs) ∧ Rps G φ H ds vs := by
  cases w with
  | lis es =>
    have h : some (false, es) = some (b, ds) := h
    cases h
    obtain ⟨a, vs, e, h1, _, h2⟩ := r
    exact ⟨a, vs, e, (if_neg Bool.false_ne_true).mpr (SqL.of h1), h2⟩
  | val d =>
    cases d with
    | tup es =>
      have h : some (true, es) = some (b, ds) := h
      cases h
      unfold RpW Rp at r
      obtain ⟨a, vs, e, h1, h2⟩ := r
      exact ⟨a, vs, e, (if_pos rfl).mpr h1.sq, h2⟩
    | ls es =>
      have h : some (false, es) = some (b, ds) := h
      cases h
      unfold RpW Rp at r
      obtain ⟨a, vs, e, h1, h2⟩ := r
      exact ⟨a, vs, e, (if_neg Bool.false_ne_true).mpr h1.sq, h2⟩
    | kt es =>
      have h : some (true, es) = some (b, ds) := h
      cases h
      unfold RpW Rp at r
      obtain ⟨a, vs, e, h1, h2⟩ := r
      exact ⟨a, vs, e, (if_pos rfl).mpr h1.sq, h2⟩
    | ref n =>
      unfold RpW Rp at r
      obtain ⟨a, e, h1⟩ := r
      unfold W.seq at h
      cases hs : S[n]? with
      | none => simp only [hs] at h; cases h
      | some o =>
        cases o with
        | lst es =>
          simp only [hs] at h
          cases h
          obtain ⟨vs, h2, h3⟩ := R.obj n a _ h1 hs
          exact ⟨a, vs, e, (if_neg Bool.false_ne_true).mpr (SqL.of h2), h3⟩
        | _ => simp only [hs] at h; cases h
    | _ => cases h
/-- a sequence that is walked stays -/
theorem seq_stay {φ φ1 : List Addr} {H H1 : Hp} {S S1 : Store} {w : W} {v : V} {b : Bool} {ds : List D} (R : Rel G φ H S) (r : RpW G φ H w v) (h : w.seq S = some (b, ds)) (e : Ext φ H φ1 H1) (R1 : Rel G φ1 H1 S1) (l : isLive (live1 w ds) S1) :
    w.seq S1 = some (b, ds) := by
  cases w with
  | lis es => exact h
  | val d =>
    cases d with
    | ref n =>
      have q : S1[n]? = some (.lst ds) := l (n, ds) (by show (n, ds) ∈ [(n, ds)]; simp)
      unfold W.seq at h ⊢
      cases hs : S[n]? with
      | none => simp only [hs] at h; cases h
      | some o =>
        cases o with
        | lst es => simp only [hs] at h; cases h; simp only [q]
        | _ => simp only [hs] at h; cases h
    | _ => exact h
theorem sq_uniq {α : Type} {a b : α} {c : Prop} [Decidable c] {P Q : Prop} (h : if c then P else Q) (hc : c) : P := by rw [if_pos hc] at h; exact h
theorem ifF {P Q : Prop} (h : if (false : Bool) = true then P else Q) : Q := by rw [if_neg Bool.false_ne_true] at h; exact h
theorem ifT {P Q : Prop} (h : if (true : Bool) = true then P else Q) : P := by rw [if_pos rfl] at h; exact h
/-- over a list -/
theorem it_list {φ0 : List Addr} {H0 : Hp} {S0 : Store} {w : W} {a : Addr} {ds : List D} (R : Rel G φ0 H0 S0) (r : RpW G φ0 H0 w (.ref a)) (h : w.seq S0 = some (false, ds)) : ItOk G (Itl G.K a) φ0 H0 ⟨ds, live1 w ds⟩ := by
  intro i φ H S e R1 l
  have r1 := RpW.mono e R r
  obtain ⟨a', vs, ea, hq, hr⟩ := seq_rp R1 r1 (seq_stay R r h e R1 l)
  cases ea
  have hq := ifF hq
  refine ⟨fun d hd => ?_, fun hi => ⟨vs, hq, by rw [← hr.len]; exact hi⟩⟩
  obtain ⟨v, hv, rv⟩ := hr.get hd
  refine ⟨⟨vs, v, hq, hv⟩, fun x H3 y => ?_⟩
  obtain ⟨e3, y⟩ := y
  subst e3
  have q := y vs hq
  rw [hv] at q
  cases q
  exact ⟨Ext.refl _ _, R1, rv⟩
theorem it_tup {φ0 : List Addr} {H0 : Hp} {S0 : Store} {w : W} {a : Addr} {ds : List D} (R : Rel G φ0 H0 S0) (r : RpW G φ0 H0 w (.ref a)) (h : w.seq S0 = some (true, ds)) : ItOk G (Itt G.K a) φ0 H0 ⟨ds, live1 w ds⟩ := by
  intro i φ H S e R1 l
  have r1 := RpW.mono e R r
  obtain ⟨a', vs, ea, hq, hr⟩ := seq_rp R1 r1 (seq_stay R r h e R1 l)
  cases ea
  have hq := ifT hq
  refine ⟨fun d hd => ?_, fun hi => ⟨vs, hq, by rw [← hr.len]; exact hi⟩⟩
  obtain ⟨v, hv, rv⟩ := hr.get hd
  refine ⟨⟨vs, v, hq, hv⟩, fun x H3 y => ?_⟩
  obtain ⟨e3, y⟩ := y
  subst e3
  have q := y vs hq
  rw [hv] at q
  cases q
  exact ⟨Ext.refl _ _, R1, rv⟩
theorem it_str {φ0 : List Addr} {H0 : Hp} {z : Str} : ItOk G (L2.Its z) φ0 H0 ⟨z.cps.toList.map fun c => .str ⟨#[c]⟩, []⟩ := by
  intro i φ H S e R1 l
  refine ⟨fun d hd => ?_, fun hi => by show z.cps.size ≤ i; simpa using hi⟩
  simp only [List.getElem?_map, Option.map_eq_some_iff] at hd
  obtain ⟨c, hc, rfl⟩ := hd
  have hc' : z.cps[i]? = some c := by simpa using hc
  refine ⟨(Array.getElem?_eq_some_iff.mp hc').1, fun x H3 y => ?_⟩
  obtain ⟨e3, c', h1, rfl⟩ := y
  subst e3
  rw [hc'] at h1
  cases h1
  exact ⟨Ext.refl _ _, R1, by unfold Rp; rfl⟩
theorem intsD_get {n : Nat} {f : Nat → Int} {i : Nat} {d : D} (h : (intsD n f)[i]? = some d) : i < n ∧ d = .int (f i) := by
  unfold intsD at h
  rw [List.getElem?_map] at h
  by_cases c : i < n
  · rw [List.getElem?_range c] at h
    exact ⟨c, (Option.some.inj h).symm⟩
  · rw [List.getElem?_eq_none (by simpa using c)] at h
    cases h
theorem it_range {φ0 : List Addr} {H0 : Hp} {lo : Int} {n : Nat} {f : Nat → Int} (hf : ∀ i, f i = lo + i) : ItOk G (Itr lo n) φ0 H0 ⟨intsD n f, []⟩ := by
  intro i φ H S e R1 l
  refine ⟨fun d hd => ?_, fun hi => by show n ≤ i; simpa [intsD] using hi⟩
  obtain ⟨h1, rfl⟩ := intsD_get hd
  refine ⟨h1, fun x H3 y => ?_⟩
  obtain ⟨e3, rfl⟩ := y
  subst e3
  exact ⟨Ext.refl _ _, R1, by unfold Rp; rw [hf]⟩
theorem it_rangeC {φ0 : List Addr} {H0 : Hp} {lo c : Int} {n : Nat} : ItOk G (Itc lo c n) φ0 H0 ⟨intsD n fun i => lo + i * c, []⟩ := by
  intro i φ H S e R1 l
  refine ⟨fun d hd => ?_, fun hi => by show n ≤ i; simpa [intsD] using hi⟩
  obtain ⟨h1, rfl⟩ := intsD_get hd
  refine ⟨h1, fun x H3 y => ?_⟩
  obtain ⟨e3, rfl⟩ := y
  subst e3
  exact ⟨Ext.refl _ _, R1, by unfold Rp; rfl⟩

/-! ### the rules: what is known of a value before it is made tells the rule -/
/-- a part whose end is known -/
theorem tI.run {α β γ δ : Type} {L : Rl α β} {Lb : Rl γ δ} {A : AX α} {F : α → Store → Mi.R γ} {σ : L2.St} {H : Hp} {Q : δ → Hp → Prop} {P : Prop} (h : tI G Wx Lb (fun ρ S => (A ρ S).bd F) σ H Q)
    (k : ∀ x S1, (∀ Q' : β → Hp → Prop, (∀ b φ φ1 H1, Ext φ H φ1 H1 → Rel G φ1 H1 S1 → L H φ1 H1 x b → Post G Lb φ H (F x S1) (fun c d H' => Wx c d σ H') Q → Q' b H1) → tI G Wx L A σ H Q') → (∃ φ, Post G Lb φ H (F x S1) (fun c d H' => Wx c d σ H') Q) → P)
    (kx : (∀ Q' : β → Hp → Prop, tI G Wx L A σ H Q') → P) : P := by
  obtain ⟨φ, ρ, S, R, sl, h⟩ := h
  cases q : A ρ S with
  | ok x S1 =>
    simp only [q, Mi.R.bd] at h
    refine k x S1 (fun Q' hq => ⟨φ, ρ, S, R, sl, ?_⟩) ⟨φ, h⟩
    rw [q]
    exact fun b H1 φ1 e R1 l => hq b φ φ1 H1 e R1 l h
  | ex c fs S1 =>
    simp only [q, Mi.R.bd] at h
    refine kx fun Q' => ⟨φ, ρ, S, R, sl, ?_⟩
    rw [q]
    exact h
  | bad =>
    simp only [q, Mi.R.bd] at h
    exact h.elim
theorem seq_ref {S : Store} {w : W} {b : Bool} {ds : List D} (h : w.seq S = some (b, ds)) : (∀ z, w ≠ .val (.str z)) := by
  rintro z rfl
  cases h
theorem its_it {S : Store} {w : W} {b : Bool} {ds : List D} (h : w.seq S = some (b, ds)) : itsA .it [w] S = .ok ⟨ds, live1 w ds⟩ S := by
  unfold itsA
  simp only [its, h]
/-- for x in e -/
theorem ki_it (he : PE X e (tK G Wx A)) (hK : X.K = G.K) : PI X tg e (tIts G Wx fun ρ S => (A ρ S).bd fun w S => itsA .it [w] S) := by
  refine ⟨fun pins s σ H Rr I h => ?_⟩
  refine tI.run (L := RlW G) h (fun x S1 mk post => ?_) fun mk => (pi_list he).run pins s σ H Rr I (mk _)
  obtain ⟨φp, post⟩ := post
  cases hx : x.seq S1 with
  | some bd =>
    obtain ⟨b, ds⟩ := bd
    have hi := its_it hx
    cases b with
    | false =>
      refine (pi_list he).run pins s σ H Rr I (mk _ fun v φ φ1 H1 e R1 l hp => ?_)
      rw [hi] at hp
      obtain ⟨a, vs, ea, hq, hr⟩ := seq_rp R1 l.1 hx
      subst ea
      refine ⟨a, rfl, ⟨vs, by rw [hK]; exact ifF hq⟩, ?_⟩
      rw [hK]
      exact hp.ok e R1 (it_list R1 l.1 hx)
    | true =>
      refine (pi_tup he).run pins s σ H Rr I (mk _ fun v φ φ1 H1 e R1 l hp => ?_)
      rw [hi] at hp
      obtain ⟨a, vs, ea, hq, hr⟩ := seq_rp R1 l.1 hx
      subst ea
      refine ⟨a, rfl, ⟨vs, by rw [hK]; exact ifT hq⟩, ?_⟩
      rw [hK]
      exact hp.ok e R1 (it_tup R1 l.1 hx)
  | none =>
    by_cases hz : ∃ z, x = .val (.str z)
    · obtain ⟨z, rfl⟩ := hz
      refine (pi_str he).run pins s σ H Rr I (mk _ fun v φ φ1 H1 e R1 l hp => ?_)
      refine ⟨z, by have q := l.1; unfold RpW Rp at q; exact q, ?_⟩
      exact Post.ok (L := RlI G) (a := ⟨z.cps.toList.map fun c => .str ⟨#[c]⟩, []⟩) (S' := S1) hp e R1 it_str
    · exfalso
      have q : itsA .it [x] S1 = .bad := by
        unfold itsA
        simp only [its, hx]
        cases x with
        | lis ds => rfl
        | val d =>
          cases d with
          | str z => exact absurd ⟨z, rfl⟩ hz
          | _ => rfl
      rw [q] at post
      exact post
/-- the ends of the rules for calls of range, zip, reversed -/
theorem fits_of {n : Int} (h : fits62 n = true) : -(2 ^ 62) ≤ n ∧ n < 2 ^ 62 := of_decide_eq_true h
theorem rp_int {φ : List Addr} {H : Hp} {i : Int} {v : V} (h : RpW G φ H (.val (.int i)) v) : v = .int i := by unfold RpW Rp at h; exact h
theorem ki_rng1 (hg : Gl X "range") (hm : X.mg "range" = none) (he : PE X e (tK G Wx A)) (hs : starEach [e] X.env = [(false, eval e X.env)]) : PI X tg (.Call (.Name "range" p) [e] [] pos) (tIts G Wx fun ρ S => (A ρ S).bd fun w S => itsA .rng1 [w] S) := by
  refine ⟨fun pins s σ H Rr I h => ?_⟩
  have rule := pi_range1 (tg := tg) (p := p) (pos := pos) hg hm (pa_cons he pa_nil hs) hs
  refine rule.run pins s σ H Rr I ?_
  refine tI.bd (F := fun w _ S => itsA .rng1 [w] S) h fun φ ρ S v φ1 H1 x S1 R sl e R1 l hp => ?_
  cases x with
  | lis ds => exact hp.elim
  | val d =>
    cases d with
    | int n =>
      by_cases c : fits62 n = true
      · obtain ⟨f1, f2⟩ := fits_of c
        have q : itsA .rng1 [.val (.int n)] S1 = .ok ⟨intsD n.toNat fun i => (i : Int), []⟩ S1 := by
          unfold itsA
          simp only [its, if_pos c]
        rw [q] at hp
        have ev := rp_int l.1
        subst ev
        exact ⟨n, rfl, f1, f2, hp.ok e R1 (it_range fun i => by omega)⟩
      · exfalso
        have q : itsA .rng1 [.val (.int n)] S1 = .bad := by
          unfold itsA
          simp only [its, if_neg c]
        rw [q] at hp
        exact hp
    | _ => exact hp.elim
theorem ki_rng2 (hg : Gl X "range") (hm : X.mg "range" = none) (he : PE X e (tK G Wx A)) (he2 : PE X e2 (tK G Wx B)) (hs : starEach [e, e2] X.env = [(false, eval e X.env), (false, eval e2 X.env)]) (hs2 : starEach [e2] X.env = [(false, eval e2 X.env)]) :
    PI X tg (.Call (.Name "range" p) [e, e2] [] pos) (tIts G Wx fun ρ S => (A ρ S).bd fun w S => (B ρ S).bd fun w2 S => itsA .rng2 [w, w2] S) := by
  refine ⟨fun pins s σ H Rr I h => ?_⟩
  have rule := pi_range2 (tg := tg) (p := p) (pos := pos) hg hm (pa_cons he (pa_cons he2 pa_nil hs2) (by rw [hs, hs2])) hs hs2
  refine rule.run pins s σ H Rr I ?_
  refine tI.bd (F := fun w ρ S => (B ρ S).bd fun w2 S => itsA .rng2 [w, w2] S) h fun φ ρ S v φ1 H1 x S1 R sl e R1 l hp => ?_
  refine tI.next R sl e R1 hp fun u H2 φ2 y S2 e2 R2 l2 h2 => ?_
  have bad : itsA .rng2 [x, y] S2 = .bad → False := fun q => by rw [q] at h2; exact h2
  have l1 := RpW.mono e2 R1 l.1
  cases x with
  | lis ds => exact (bad rfl).elim
  | val d =>
    cases y with
    | lis ds => exact (bad (by cases d <;> rfl)).elim
    | val d2 =>
      cases d with
      | int n =>
        cases d2 with
        | int m =>
          by_cases c : (fits62 n && fits62 m) = true
          · obtain ⟨c1, c2⟩ := Bool.and_eq_true_iff.mp c
            obtain ⟨f1, f2⟩ := fits_of c1
            obtain ⟨g1, g2⟩ := fits_of c2
            have q : itsA .rng2 [.val (.int n), .val (.int m)] S2 = .ok ⟨intsD (m - n).toNat fun i => n + i, []⟩ S2 := by
              unfold itsA
              simp only [its, if_pos c]
            rw [q] at h2
            have ev := rp_int l1
            have eu := rp_int l2.1
            subst ev; subst eu
            exact ⟨n, m, rfl, ⟨f1, f2, g1, g2⟩, h2.ok (e.trans e2) R2 (it_range fun i => rfl)⟩
          · exact (bad (by unfold itsA; simp only [its, if_neg c])).elim
        | _ => exact (bad rfl).elim
      | _ => exact (bad (by cases d2 <;> rfl)).elim
theorem small_of {a b c : Int} (ha : fits62 a = true) (hb : fits62 b = true) (h0 : 0 < c) (h1 : c < 1073741824) : RgC a b c (steps a b c) := by
  obtain ⟨f1, f2⟩ := fits_of ha
  obtain ⟨g1, g2⟩ := fits_of hb
  have e : Builtin.Range.rangeSize a b c = (steps a b c : Nat) := by
    unfold Builtin.Range.rangeSize steps
    rw [if_pos (show c > 0 from h0)]
    by_cases q : a < b
    · rw [if_pos q, if_pos q]
      have : 0 ≤ (b - a - 1) / c := Int.ediv_nonneg (by omega) (by omega)
      omega
    · rw [if_neg q, if_neg q]; rfl
  refine ⟨by omega, by omega, ?_, e⟩
  unfold Builtin.Range.small
  rw [e]
  have hs : (steps a b c : Int) < 2 ^ 63 := by
    unfold steps
    by_cases q : a < b
    · rw [if_pos q]
      have h1 := Int.ediv_le_self c (show 0 ≤ b - a - 1 by omega)
      have h2 : 0 ≤ (b - a - 1) / c := Int.ediv_nonneg (by omega) (by omega)
      omega
    · rw [if_neg q]; decide
  simp only [Builtin.Range.rangeFitsLong, Bool.and_eq_true, Bool.or_eq_true, decide_eq_true_eq, beq_iff_eq, if_pos (show c > 0 from h0)]
  omega
theorem items_rev {ds : List D} {i : Nat} {d : D} (h : ds.reverse[i]? = some d) : i < ds.length ∧ ds[ds.length - 1 - i]? = some d := by
  have hi : i < ds.length := by simpa using (List.getElem?_eq_some_iff.mp h).1
  refine ⟨hi, ?_⟩
  rw [List.getElem?_reverse hi] at h
  exact h
theorem ki_rev (hg : Gl X "reversed") (hm : X.mg "reversed" = none) (he : PE X e (tK G Wx A)) (hK : X.K = G.K) (hs : starEach [e] X.env = (false, eval e X.env) :: starEach [] X.env) :
    PI X tg (.Call (.Name "reversed" p) [e] [] pos) (tIts G Wx fun ρ S => (A ρ S).bd fun w S => itsA .rev [w] S) := by
  refine ⟨fun pins s σ H Rr I h => ?_⟩
  refine (pi_revA (tg := tg) (p := p) (pos := pos) hg hm he hs).run pins s σ H Rr I ?_
  refine tI.bd (F := fun w _ S => itsA .rev [w] S) h fun φ ρ S v φ1 H1 x S1 R sl e R1 l hp => ?_
  cases hx : x.seq S1 with
  | none =>
    exfalso
    have q : itsA .rev [x] S1 = .bad := by
      unfold itsA
      simp only [its, hx]
    rw [q] at hp
    exact hp
  | some bd =>
    obtain ⟨b, ds⟩ := bd
    have q : itsA .rev [x] S1 = .ok ⟨ds.reverse, live1 x ds⟩ S1 := by
      unfold itsA
      simp only [its, hx]
    rw [q] at hp
    obtain ⟨a, vs, rfl, hq, hr⟩ := seq_rp R1 l.1 hx
    rw [hK]
    refine ⟨a, vs, rfl, ?_⟩
    cases b with
    | false =>
      refine .inl ⟨ifF hq, hp.ok e R1 ?_⟩
      intro i φ' H' S' e' R' l'
      obtain ⟨a', ws, ea, hq', hr'⟩ := seq_rp R' (RpW.mono e' R1 l.1) (seq_stay R1 l.1 hx e' R' l')
      cases ea
      have hq' := ifF hq'
      have hl : ws.length = vs.length := by rw [← hr'.len, ← hr.len]
      refine ⟨fun d hd => ?_, fun hi => by show vs.length ≤ i; rw [← hr.len]; simpa using hi⟩
      obtain ⟨hi, hd⟩ := items_rev hd
      obtain ⟨w, hw, rw'⟩ := hr'.get hd
      rw [hr.len] at hi hw
      refine ⟨⟨hi, ws, w, hq', hw⟩, fun x H3 y => ?_⟩
      obtain ⟨e3, y⟩ := y
      subst e3
      have q := y ws hq'
      rw [hw] at q
      cases q
      exact ⟨Ext.refl _ _, R', rw'⟩
    | true =>
      refine .inr ⟨ifT hq, hp.ok e R1 ?_⟩
      intro i φ' H' S' e' R' l'
      obtain ⟨a', ws, ea, hq', hr'⟩ := seq_rp R' (RpW.mono e' R1 l.1) (seq_stay R1 l.1 hx e' R' l')
      cases ea
      have hq' := ifT hq'
      have hl : ws.length = vs.length := by rw [← hr'.len, ← hr.len]
      refine ⟨fun d hd => ?_, fun hi => by show vs.length ≤ i; rw [← hr.len]; simpa using hi⟩
      obtain ⟨hi, hd⟩ := items_rev hd
      obtain ⟨w, hw, rw'⟩ := hr'.get hd
      rw [hr.len] at hi hw
      refine ⟨⟨hi, ws, w, hq', hw⟩, fun x H3 y => ?_⟩
      obtain ⟨e3, y⟩ := y
      subst e3
      have q := y ws hq'
      rw [hw] at q
      cases q
      exact ⟨Ext.refl _ _, R', rw'⟩
theorem ki_rng3 {e3 : Expr} {Cc : AX W} (hg : Gl X "range") (hm : X.mg "range" = none) (he : PE X e (tK G Wx A)) (he2 : PE X e2 (tK G Wx B)) (he3 : PE X e3 (tK G Wx Cc))
    (hs : starEach [e, e2, e3] X.env = (false, eval e X.env) :: starEach [e2, e3] X.env) (hs2 : starEach [e2, e3] X.env = (false, eval e2 X.env) :: starEach [e3] X.env) (hs3 : starEach [e3] X.env = (false, eval e3 X.env) :: starEach [] X.env)
    (hpl : (backTo pos (starEach [e2, e3] X.env)).any (·.1) = false) :
    PI X tg (.Call (.Name "range" p) [e, e2, e3] [] pos) (tIts G Wx fun ρ S => (A ρ S).bd fun w S => (B ρ S).bd fun w2 S => (Cc ρ S).bd fun w3 S => itsA .rng3 [w, w2, w3] S) := by
  refine ⟨fun pins s σ H Rr I h => ?_⟩
  have rule := pi_range3 (tg := tg) (p := p) (pos := pos) hg hm (pa_cons he (pa_cons he2 (pa_cons he3 pa_nil hs3) hs2) hs) hs hpl
  refine rule.run pins s σ H Rr I ?_
  refine tI.bd (F := fun w ρ S => (B ρ S).bd fun w2 S => (Cc ρ S).bd fun w3 S => itsA .rng3 [w, w2, w3] S) h fun φ ρ S v φ1 H1 x S1 R sl e R1 l hp => ?_
  refine tI.next R sl e R1 hp fun u H2 φ2 y S2 e2 R2 l2 h2 => ?_
  refine tI.next R sl (e.trans e2) R2 h2 fun t H3 φ3 z S3 e3 R3 l3 h3 => ?_
  have bad : itsA .rng3 [x, y, z] S3 = .bad → False := fun q => by rw [q] at h3; exact h3
  have l1 := RpW.mono (e2.trans e3) R1 l.1
  have l2' := RpW.mono e3 R2 l2.1
  by_cases hx : ∃ i j k, x = .val (.int i) ∧ y = .val (.int j) ∧ z = .val (.int k)
  · obtain ⟨i, j, k, rfl, rfl, rfl⟩ := hx
    by_cases c : (fits62 i && fits62 j && decide (0 < k ∧ k < 1073741824)) = true
    · obtain ⟨c12, c3⟩ := Bool.and_eq_true_iff.mp c
      obtain ⟨c1, c2⟩ := Bool.and_eq_true_iff.mp c12
      obtain ⟨k0, k1⟩ := of_decide_eq_true c3
      have q : itsA .rng3 [.val (.int i), .val (.int j), .val (.int k)] S3 = .ok ⟨intsD (steps i j k) fun n => i + n * k, []⟩ S3 := by
        unfold itsA
        simp only [its, if_pos c]
      rw [q] at h3
      have e1 := rp_int l1
      have e2' := rp_int l2'
      have e3' := rp_int l3.1
      subst e1; subst e2'; subst e3'
      exact ⟨i, j, k, steps i j k, rfl, small_of c1 c2 k0 k1, h3.ok ((e.trans e2).trans e3) R3 it_rangeC⟩
    · exact (bad (by unfold itsA; simp only [its, if_neg c])).elim
  · refine (bad ?_).elim
    unfold itsA
    have q : its .rng3 [x, y, z] S3 = none := by
      unfold its
      dsimp only
      split
      · rename_i i j k q
        obtain ⟨q1, q2⟩ := List.cons.inj q
        obtain ⟨q2, q3⟩ := List.cons.inj q2
        obtain ⟨q3, _⟩ := List.cons.inj q3
        exact absurd ⟨i, j, k, q1, q2, q3⟩ hx
      · rfl
    rw [q]
theorem live_app {l l' : List (Nat × List D)} {S : Store} (h : isLive (l ++ l') S) : isLive l S ∧ isLive l' S := ⟨fun p hp => h p (List.mem_append_left _ hp), fun p hp => h p (List.mem_append_right _ hp)⟩
theorem zip_get {ds es : List D} {i : Nat} {d : D} (h : ((ds.zip es).map fun p => D.tup [p.1, p.2])[i]? = some d) : ∃ x y, ds[i]? = some x ∧ es[i]? = some y ∧ d = .tup [x, y] := by
  rw [List.getElem?_map] at h
  cases q : (ds.zip es)[i]? with
  | none => rw [q] at h; cases h
  | some p =>
    rw [q] at h
    cases h
    obtain ⟨x, y⟩ := p
    rw [List.getElem?_zip_eq_some] at q
    exact ⟨x, y, q.1, q.2, rfl⟩
theorem rp_pair {φ : List Addr} {H : Hp} {S : Store} {x y : D} {v w : V} {T : Addr} (R : Rel G φ H S) (hT : H T = none) (h1 : Rp G φ H x v) (h2 : Rp G φ H y w) :
    Ext φ H φ (upd H T (.tup [v, w])) ∧ Rel G φ (upd H T (.tup [v, w])) S ∧ Rp G φ (upd H T (.tup [v, w])) (.tup [x, y]) (.ref T) := by
  have E := Ext.fresh R hT (.tup [v, w])
  refine ⟨E, R.fresh hT _, ?_⟩
  have k := E.toKeep R
  unfold Rp
  refine ⟨T, [v, w], rfl, upd_same, ?_⟩
  unfold Rps
  refine ⟨v, [w], rfl, Rp.mono k _ _ h1, ?_⟩
  unfold Rps
  refine ⟨w, [], rfl, Rp.mono k _ _ h2, ?_⟩
  unfold Rps
  rfl
theorem ki_zip {tpos : Pos} {elts : List Expr} {kk : Nat} (hg : Gl X "zip") (hm : X.mg "zip" = none) (he : PE X e (tK G Wx A)) (he2 : PE X e2 (tK G Wx B)) (hK : X.K = G.K) (hs : starEach [e, e2] X.env = (false, eval e X.env) :: starEach [e2] X.env)
    (hs2 : starEach [e2] X.env = (false, eval e2 X.env) :: starEach [] X.env) (hpl : (backTo pos (starEach [e2] X.env)).any (·.1) = false) :
    PI X (.Tuple elts kk tpos) (.Call (.Name "zip" p) [e, e2] [] pos) (tIts G Wx fun ρ S => (A ρ S).bd fun w S => (B ρ S).bd fun w2 S => itsA .zip [w, w2] S) := by
  refine ⟨fun pins s σ H Rr I h => ?_⟩
  refine (pi_zipA (p := p) (pos := pos) (tpos := tpos) (elts := elts) (kk := kk) hg hm (pa_cons he (pa_cons he2 pa_nil hs2) hs) hs hpl).run pins s σ H Rr I ?_
  refine tI.bd (F := fun w ρ S => (B ρ S).bd fun w2 S => itsA .zip [w, w2] S) h fun φ ρ S v φ1 H1 x S1 R sl e R1 l hp => ?_
  refine tI.next R sl e R1 hp fun u H2 φ2 y S2 e2 R2 l2 h2 => ?_
  have l1 := RpW.mono e2 R1 l.1
  have bad : itsA .zip [x, y] S2 = .bad → False := fun q => by rw [q] at h2; exact h2
  cases hx : x.seq S2 with
  | none => exact (bad (by unfold itsA; simp only [its, hx])).elim
  | some bd =>
    obtain ⟨b, ds⟩ := bd
    cases hy : y.seq S2 with
    | none => exact (bad (by unfold itsA; simp only [its, hx, hy])).elim
    | some bd' =>
      obtain ⟨b', es⟩ := bd'
      by_cases hb : b = b'
      · subst hb
        have q : itsA .zip [x, y] S2 = .ok ⟨(ds.zip es).map fun p => .tup [p.1, p.2], live1 x ds ++ live1 y es⟩ S2 := by
          unfold itsA
          simp only [its, hx, hy, if_pos]
        rw [q] at h2
        obtain ⟨a, vs, rfl, hq, hr⟩ := seq_rp R2 l1 hx
        obtain ⟨a', ws, rfl, hq', hr'⟩ := seq_rp R2 l2.1 hy
        rw [hK]
        refine ⟨a, a', vs, ws, rfl, ?_⟩
        cases b with
        | false =>
          refine .inl ⟨ifF hq, ifF hq', h2.ok (e.trans e2) R2 ?_⟩
          intro i φ' H' S' e' R' l'
          obtain ⟨lx, ly⟩ := live_app l'
          obtain ⟨c, vs', ec, hv, hrv⟩ := seq_rp R' (RpW.mono e' R2 l1) (seq_stay R2 l1 hx e' R' lx)
          cases ec
          obtain ⟨c, ws', ec, hw, hrw⟩ := seq_rp R' (RpW.mono e' R2 l2.1) (seq_stay R2 l2.1 hy e' R' ly)
          cases ec
          have hv := ifF hv
          have hw := ifF hw
          refine ⟨fun d hd => ?_, fun hi => ⟨vs', ws', hv, hw, ?_⟩⟩
          · obtain ⟨d1, d2, g1, g2, rfl⟩ := zip_get hd
            obtain ⟨v1, gv, rv⟩ := hrv.get g1
            obtain ⟨w1, gw, rw'⟩ := hrw.get g2
            refine ⟨⟨vs', ws', v1, w1, hv, hw, gv, gw⟩, fun x' H3 yd => ?_⟩
            obtain ⟨T, x1, y1, rfl, hT, rfl, f1, f2⟩ := yd
            have f1 := f1 vs' hv
            have f2 := f2 ws' hw
            rw [gv] at f1; cases f1
            rw [gw] at f2; cases f2
            exact rp_pair R' hT rv rw'
          · rw [← hrv.len, ← hrw.len]
            have hi : (((ds.zip es).map fun p => D.tup [p.1, p.2]).length) ≤ i := hi
            rw [List.length_map, List.length_zip] at hi
            omega
        | true =>
          refine .inr ⟨ifT hq, ifT hq', h2.ok (e.trans e2) R2 ?_⟩
          intro i φ' H' S' e' R' l'
          obtain ⟨lx, ly⟩ := live_app l'
          obtain ⟨c, vs', ec, hv, hrv⟩ := seq_rp R' (RpW.mono e' R2 l1) (seq_stay R2 l1 hx e' R' lx)
          cases ec
          obtain ⟨c, ws', ec, hw, hrw⟩ := seq_rp R' (RpW.mono e' R2 l2.1) (seq_stay R2 l2.1 hy e' R' ly)
          cases ec
          have hv := ifT hv
          have hw := ifT hw
          refine ⟨fun d hd => ?_, fun hi => ⟨vs', ws', hv, hw, ?_⟩⟩
          · obtain ⟨d1, d2, g1, g2, rfl⟩ := zip_get hd
            obtain ⟨v1, gv, rv⟩ := hrv.get g1
            obtain ⟨w1, gw, rw'⟩ := hrw.get g2
            refine ⟨⟨vs', ws', v1, w1, hv, hw, gv, gw⟩, fun x' H3 yd => ?_⟩
            obtain ⟨T, x1, y1, rfl, hT, rfl, f1, f2⟩ := yd
            have f1 := f1 vs' hv
            have f2 := f2 ws' hw
            rw [gv] at f1; cases f1
            rw [gw] at f2; cases f2
            exact rp_pair R' hT rv rw'
          · rw [← hrv.len, ← hrw.len]
            have hi : (((ds.zip es).map fun p => D.tup [p.1, p.2]).length) ≤ i := hi
            rw [List.length_map, List.length_zip] at hi
            omega
      · exact (bad (by unfold itsA; simp only [its, hx, hy, if_neg hb])).elim
theorem ki_enm {tpos : Pos} {elts : List Expr} {kk : Nat} (hg : Gl X "enumerate") (hm : X.mg "enumerate" = none) (he : PE X e (tK G Wx A)) (hK : X.K = G.K) (hs : starEach [e] X.env = [(false, eval e X.env)]) :
    PI X (.Tuple elts kk tpos) (.Call (.Name "enumerate" p) [e] [] pos) (tIts G Wx fun ρ S => (A ρ S).bd fun w S => itsA .enm [w] S) := by
  refine ⟨fun pins s σ H Rr I h => ?_⟩
  refine (pi_enum (p := p) (pos := pos) (tpos := tpos) (elts := elts) (kk := kk) hg hm (pa_cons he pa_nil hs) hs).run pins s σ H Rr I ?_
  refine tI.bd (F := fun w _ S => itsA .enm [w] S) h fun φ ρ S v φ1 H1 x S1 R sl e R1 l hp => ?_
  have bad : itsA .enm [x] S1 = .bad → False := fun q => by rw [q] at hp; exact hp
  cases hx : x.seq S1 with
  | none => exact (bad (by unfold itsA; simp only [its, hx])).elim
  | some bd =>
    obtain ⟨b, ds⟩ := bd
    cases b with
    | true => exact (bad (by unfold itsA; simp only [its, hx])).elim
    | false =>
      have q : itsA .enm [x] S1 = .ok ⟨ds.zipIdx.map fun q => .tup [.int q.2, q.1], live1 x ds⟩ S1 := by
        unfold itsA
        simp only [its, hx]
      rw [q] at hp
      obtain ⟨a, vs, rfl, hq, hr⟩ := seq_rp R1 l.1 hx
      rw [hK]
      refine ⟨a, vs, rfl, ifF hq, hp.ok e R1 ?_⟩
      intro i φ' H' S' e' R' l'
      obtain ⟨c, vs', ec, hv, hrv⟩ := seq_rp R' (RpW.mono e' R1 l.1) (seq_stay R1 l.1 hx e' R' l')
      cases ec
      have hv := ifF hv
      refine ⟨fun d hd => ?_, fun hi => ⟨vs', hv, ?_⟩⟩
      · have hd : (ds.zipIdx.map fun q => D.tup [.int q.2, q.1])[i]? = some d := hd
        rw [List.getElem?_map, List.getElem?_zipIdx] at hd
        cases g : ds[i]? with
        | none => rw [g] at hd; cases hd
        | some d1 =>
          rw [g] at hd
          cases hd
          obtain ⟨v1, gv, rv⟩ := hrv.get g
          refine ⟨⟨vs', v1, hv, gv⟩, fun x' H3 yd => ?_⟩
          obtain ⟨T, x1, rfl, hT, rfl, f1⟩ := yd
          have f1 := f1 vs' hv
          rw [gv] at f1; cases f1
          have := rp_pair (x := .int ((0 + i : Nat) : Int)) R' hT (by unfold Rp; rfl) rv
          simpa using this
      · have hi : (ds.zipIdx.map fun q => D.tup [.int q.2, q.1]).length ≤ i := hi
        rw [← hrv.len]
        simpa using hi
end
end Mi

/-! Mi, part E: targets, comprehensions, statements. -/
namespace Mi
open PySem L2 PyProof.Rows RT RZ

/-! ### targets -/
def gNames : List Nat → TGs
  | [] => gNil
  | i :: is => gCons (gName i) (gNames is)
def gTg (K : PySem.W.Frag) : Tg → TG
  | .nm i => gName i
  | .tp is => gTup K is.length (gNames is)
def Tg.slots : Tg → List Nat
  | .nm i => [i]
  | .tp is => is
theorem wipe_in {σ : L2.St} {i : Nat} : ∀ {vs : List Nat}, i ∈ vs → i < σ.length → (L2.wipe σ vs)[i]? = some none
  | [], h, _ => nomatch h
  | v :: vs, h, hl => by
    unfold L2.wipe
    by_cases e : v = i
    · subst e
      rw [List.getElem?_set_self (by rw [L2.wipe_length]; exact hl)]
    · rw [List.getElem?_set_ne e]
      rcases List.mem_cons.mp h with q | q
      · exact absurd q.symm e
      · exact wipe_in q hl
theorem wipe_eq {σ τ : L2.St} {vs : List Nat} (hl : σ.length = τ.length) (h : ∀ i, i ∉ vs → σ[i]? = τ[i]?) : L2.wipe σ vs = L2.wipe τ vs := by
  refine List.ext_getElem? fun i => ?_
  by_cases hi : i ∈ vs
  · by_cases hn : i < σ.length
    · rw [wipe_in hi hn, wipe_in hi (by rw [← hl]; exact hn)]
    · rw [List.getElem?_eq_none (by rw [L2.wipe_length]; omega), List.getElem?_eq_none (by rw [L2.wipe_length]; omega)]
  · rw [L2.wipe_out hi, L2.wipe_out hi]
    exact h i hi
section
variable {G : Gb} {φ : List Addr} {H : Hp} {S : Store} {ρ ρ' : Env} {σ : L2.St}
theorem Sl.wipe (h : Sl G φ H ρ σ) : ∀ vs : List Nat, Sl G φ H (wipeD ρ vs) (L2.wipe σ vs)
  | [] => h
  | v :: vs => (Sl.wipe h vs).unset v
/-- slots that may differ -/
def Near (is : List Nat) (σ τ : L2.St) : Prop := σ.length = τ.length ∧ ∀ i, i ∉ is → σ[i]? = τ[i]?
theorem Near.refl (is : List Nat) (σ : L2.St) : Near is σ σ := ⟨rfl, fun _ _ => rfl⟩
theorem Near.set {is : List Nat} {σ τ : L2.St} (h : Near is σ τ) {i : Nat} (hi : i ∈ is) (o : Option V) : Near is (σ.set i o) τ := ⟨by rw [List.length_set]; exact h.1, fun j hj => by
  have hne : i ≠ j := fun e => hj (by rw [← e]; exact hi)
  rw [List.getElem?_set_ne hne]
  exact h.2 j hj⟩
theorem names_im {τ : L2.St} {all : List Nat} {Q : L2.St → Hp → Prop} : ∀ {is : List Nat} {ds : List D} {vs : List V} {ρ ρ' : Env} {σ : L2.St}, bindTs is ds ρ = some ρ' → (∀ i ∈ is, i ∈ all) → Near all σ τ → Sl G φ H ρ σ → Rps G φ H ds vs →
    (∀ σ', Sl G φ H ρ' σ' → Near all σ' τ → Q σ' H) → gNames is vs σ H Q
  | [], [], vs, ρ, ρ', σ, h, _, n, sl, r, k => by
    unfold bindTs at h
    cases h
    unfold Rps at r
    exact ⟨r, k σ sl n⟩
  | [], d :: ds, vs, ρ, ρ', σ, h, _, n, sl, r, k => by
    unfold bindTs at h
    cases h
  | i :: is, [], vs, ρ, ρ', σ, h, _, n, sl, r, k => by
    unfold bindTs at h
    cases h
  | i :: is, d :: ds, vs, ρ, ρ', σ, h, m, n, sl, r, k => by
    unfold bindTs at h
    unfold Rps at r
    obtain ⟨v, rr, rfl, r1, r2⟩ := r
    exact ⟨v, rr, rfl, names_im h (fun j hj => m j (List.mem_cons_of_mem _ hj)) (n.set (m i List.mem_cons_self) _) (sl.set i r1) r2 k⟩
theorem bindTs_len : ∀ {is : List Nat} {ds : List D} {ρ ρ' : Env}, bindTs is ds ρ = some ρ' → is.length = ds.length
  | [], [], _, _, _ => rfl
  | [], _ :: _, _, _, h => by unfold bindTs at h; cases h
  | _ :: _, [], _, _, h => by unfold bindTs at h; cases h
  | i :: is, d :: ds, ρ, ρ', h => by
    unfold bindTs at h
    rw [List.length_cons, List.length_cons, bindTs_len h]
theorem tg_im {t : Tg} {d : D} {x : V} {Q : L2.St → Hp → Prop} (h : bindTg t d ρ = some ρ') (R : Rel G φ H S) (sl : Sl G φ H ρ σ) (r : Rp G φ H d x) (k : ∀ σ', Sl G φ H ρ' σ' → Near t.slots σ' σ → Q σ' H) : gTg G.K t x σ H Q := by
  cases t with
  | nm i =>
    cases h
    exact k _ (sl.set i r) ((Near.refl _ _).set (List.mem_singleton.mpr rfl) _)
  | tp is =>
    cases d with
    | tup ds =>
      have h : bindTs is ds ρ = some ρ' := h
      unfold Rp at r
      obtain ⟨a, vs, rfl, ha, hr⟩ := r
      exact ⟨a, vs, rfl, ha.sq, by rw [← hr.len, bindTs_len h], names_im h (fun _ m => m) (Near.refl _ _) sl hr k⟩
    | _ => cases h
end

/-! ### comprehensions -/
section
variable {G : Gb} {Wx : WX} {X : Cx}
def WxF : WX := fun _ _ _ _ => False
/-- a list of ours, known by no place, is changed -/
theorem own_keep {φ : List Addr} {H : Hp} {D : Addr} {vs : List V} {o : HO} (hD : H D = some (.lst vs)) : Keep φ H φ (upd H D o) := by
  refine ⟨fun _ _ h => h, fun a xs h => ?_, fun a o x h => ?_⟩
  · rw [upd_ne]
    · exact h
    · rintro rfl; rw [hD] at h; cases h
  · rw [upd_ne]
    · exact h
    · rintro rfl; rw [hD] at h; cases h
theorem own_rel {φ : List Addr} {H : Hp} {S : Store} {D : Addr} {vs : List V} {o : HO} (R : Rel G φ H S) (hD : H D = some (.lst vs)) (n : D ∉ φ) : Rel G φ (upd H D o) S :=
  ⟨R.len, R.nd, fun m a u h1 h2 => RpO.mono (own_keep hD) (R.obj m a u h1 h2) (upd_ne fun e => n (e ▸ List.mem_of_getElem? h1))⟩
theorem own_ext {φ φ1 : List Addr} {H H1 : Hp} {D : Addr} {o : HO} (e : Ext φ H φ1 H1) (hD : H D = none) : Ext φ H φ1 (upd H1 D o) :=
  ⟨e.pre, fun a u h n => by
    rw [upd_ne (ne_of_none h hD)]
    exact e.keep a u h n, e.new⟩
theorem Rps.snoc {φ : List Addr} {H : Hp} {d : D} {v : V} : ∀ {ds : List D} {vs : List V}, Rps G φ H ds vs → Rp G φ H d v → Rps G φ H (ds ++ [d]) (vs ++ [v])
  | [], _, h, r => by
    unfold Rps at h
    subst h
    show Rps G φ H [d] [v]
    unfold Rps
    refine ⟨v, [], rfl, r, ?_⟩
    unfold Rps
    rfl
  | e :: ds, _, h, r => by
    unfold Rps at h
    obtain ⟨w, t, rfl, h1, h2⟩ := h
    show Rps G φ H (e :: (ds ++ [d])) (w :: (t ++ [v]))
    unfold Rps
    exact ⟨w, t ++ [v], rfl, h1, Rps.snoc h2 r⟩

noncomputable def turnA (t : Tg) (own : List Nat) (TC : AX Bool) (AD : AX D) (ρ : Env) (d : D) (S : Store) : Mi.R (Option D) := match bindTg t d (wipeD ρ own) with
  | some ρ' => ((TC ρ' S).bd fun b S => if b = true then (AD ρ' S).bd fun d S => .ok (some d) S else .ok none S).nox
  | none => .bad
noncomputable def compA (t : Tg) (own : List Nat) (IA : AX Its) (TC : AX Bool) (AD : AX D) : AX W := fun ρ S => (IA ρ S).bd fun I S => (compL I.live (turnA t own TC AD ρ) I.items S []).bd fun ds S => .ok (.lis ds) S
theorem comp_im {t : Tg} {own : List Nat} {IA : AX Its} {TC : AX Bool} {AD : AX D} {σ : L2.St} {H : Hp} {Q : VK} (hown : ∀ i ∈ t.slots, i ∈ own) (h : tK G Wx (compA t own IA TC AD) σ H Q) :
    tLc (tIts G Wx IA) (gTg G.K t) (tBo G WxF TC) (tD G WxF AD) own σ H Q := by
  refine tI.bd (F := fun I ρ S => (compL I.live (turnA t own TC AD ρ) I.items S []).bd fun ds S => Mi.R.ok (W.lis ds) S) h fun φ ρ S J φ1 H1 I S1 R sl e R1 l h => ?_
  intro Da hDn
  have l : ItOk G J φ1 H1 I := l
  refine ⟨fun i m H' => m = I.items.length - i ∧ i ≤ I.items.length ∧ ∃ φ' S' acc vs, Ext φ1 H1 φ' H' ∧ Rel G φ' H' S' ∧ Sl G φ' H' ρ σ ∧ H' Da = some (.lst vs) ∧ Da ∉ φ' ∧ Rps G φ' H' acc vs ∧
    Post G (RlW G) φ H ((compL I.live (turnA t own TC AD ρ) (I.items.drop i) S' acc).bd fun ds S => .ok (.lis ds) S) (fun c d H' => Wx c d σ H') Q, ⟨I.items.length, by simp, Nat.zero_le _, ?_⟩, ?_⟩
  · have E := Ext.fresh R1 hDn (.lst [])
    refine ⟨φ1, S1, [], [], E, R1.fresh hDn _, (sl.mono (e.toKeep R)).mono (E.toKeep R1), upd_same, R1.unk hDn, by unfold Rps; rfl, ?_⟩
    simpa using h
  · rintro i m H' ⟨rfl, hi, φ', S', acc, vs, e', R', sl', hD, nD, ra, hp⟩
    by_cases hlt : i < I.items.length
    · have hdrop : I.items.drop i = I.items[i] :: I.items.drop (i + 1) := List.drop_eq_getElem_cons hlt
      rw [hdrop] at hp
      unfold compL at hp
      by_cases hL : isLive I.live S'
      · rw [if_pos hL] at hp
        obtain ⟨g1, _⟩ := l i φ' H' S' e' R' hL
        obtain ⟨go, gy⟩ := g1 _ (List.getElem?_eq_getElem hlt)
        refine .inr ⟨go, fun H'' => ∃ m', m' < I.items.length - i ∧ m' = I.items.length - (i + 1) ∧ i + 1 ≤ I.items.length ∧ ∃ φ' S' acc vs, Ext φ1 H1 φ' H'' ∧ Rel G φ' H'' S' ∧ Sl G φ' H'' ρ σ ∧ H'' Da = some (.lst vs) ∧ Da ∉ φ' ∧ Rps G φ' H'' acc vs ∧
          Post G (RlW G) φ H ((compL I.live (turnA t own TC AD ρ) (I.items.drop (i + 1)) S' acc).bd fun ds S => .ok (.lis ds) S) (fun c d H' => Wx c d σ H') Q, ?_, ?_⟩
        · rintro H'' ⟨m', hm, hw⟩
          exact ⟨m', hm, hw⟩
        · intro x H2 yd
          obtain ⟨e2, R2, r2⟩ := gy x H2 yd
          have hD2 : H2 Da = some (.lst vs) := e2.keep _ _ hD nD
          have ra2 := Rps.mono (e2.toKeep R') _ _ ra
          have sl2 := sl'.mono (e2.toKeep R')
          unfold turnA at hp
          cases hb : bindTg t I.items[i] (wipeD ρ own) with
          | none => simp only [hb] at hp; exact hp.elim
          | some ρ' =>
            simp only [hb] at hp
            refine tg_im hb R2 (sl2.wipe own) r2 fun σ2 slr nr => ⟨?_, ?_⟩
            · refine wipe_eq (by rw [nr.1, L2.wipe_length]) fun j hj => ?_
              rw [nr.2 j (fun q => hj (hown j q)), L2.wipe_out hj]
            · refine ⟨φ', ρ', S', R2, slr, ?_⟩
              cases hT : TC ρ' S' with
              | bad => rw [hT] at hp; exact hp.elim
              | ex c fs S2 => rw [hT] at hp; exact hp.elim
              | ok b S2 =>
                rw [hT] at hp
                intro b' H3 φ3 e3 R3 lb
                have lb : b = b' := lb
                subst lb
                have hD3 : H3 Da = some (.lst vs) := e3.keep _ _ hD2 nD
                have nD3 : Da ∉ φ3 := e3.out hD2 nD
                have ra3 := Rps.mono (e3.toKeep R2) _ _ ra2
                have sl3 := sl2.mono (e3.toKeep R2)
                cases b with
                | false =>
                  rw [if_neg Bool.false_ne_true]
                  refine ⟨I.items.length - (i + 1), by omega, rfl, hlt, φ3, S2, acc, vs, (e'.trans e2).trans e3, R3, sl3, hD3, nD3, ra3, ?_⟩
                  exact hp
                | true =>
                  rw [if_pos rfl]
                  have hp : Post G (RlW G) φ H (((((AD ρ' S2).bd fun d S => (.ok (some d) S : Mi.R (Option D))).nox).bd fun o S => match o with
                    | none => compL I.live (turnA t own TC AD ρ) (I.items.drop (i + 1)) S acc
                    | some e => if acc.length < sizeLine then compL I.live (turnA t own TC AD ρ) (I.items.drop (i + 1)) S (acc ++ [e]) else .bad).bd fun ds S => .ok (.lis ds) S) (fun c d H' => Wx c d σ H') Q := hp
                  refine ⟨φ3, ρ', S2, R3, slr.mono (e3.toKeep R2), ?_⟩
                  cases hA : AD ρ' S2 with
                  | bad => rw [hA] at hp; exact hp.elim
                  | ex c fs S3 => rw [hA] at hp; exact hp.elim
                  | ok d2 S3 =>
                    rw [hA] at hp
                    intro y H4 φ4 e4 R4 l4
                    have hp : Post G (RlW G) φ H ((if acc.length < sizeLine then compL I.live (turnA t own TC AD ρ) (I.items.drop (i + 1)) S3 (acc ++ [d2]) else .bad).bd fun ds S => .ok (.lis ds) S) (fun c d H' => Wx c d σ H') Q := hp
                    have hD4 : H4 Da = some (.lst vs) := e4.keep _ _ hD3 nD3
                    have nD4 : Da ∉ φ4 := e4.out hD3 nD3
                    have ra4 := Rps.mono (e4.toKeep R3) _ _ ra3
                    have sl4 := sl3.mono (e4.toKeep R3)
                    by_cases hz : acc.length < sizeLine
                    · rw [if_pos hz] at hp
                      have k := own_keep (φ := φ4) (o := .lst (vs ++ [y])) hD4
                      refine ⟨vs, hD4, by rw [← ra4.len]; exact hz, I.items.length - (i + 1), by omega, rfl, hlt, φ4, S3, acc ++ [d2], vs ++ [y], own_ext (((e'.trans e2).trans e3).trans e4) hDn, own_rel R4 hD4 nD4, sl4.mono k, upd_same, nD4, Rps.mono k _ _ (ra4.snoc l4), hp⟩
                    · rw [if_neg hz] at hp
                      exact hp.elim
      · rw [if_neg hL] at hp
        exact hp.elim
    · have hn : i = I.items.length := by omega
      subst hn
      rw [List.drop_length] at hp
      unfold compL at hp
      by_cases hL : isLive I.live S'
      · rw [if_pos hL] at hp
        obtain ⟨_, g2⟩ := l _ φ' H' S' e' R' hL
        refine .inl ⟨g2 (Nat.le_refl _), ?_⟩
        refine Post.ok (L := RlW G) (a := W.lis acc) (S' := S') hp (e.trans e') R' ⟨⟨Da, vs, rfl, hD, nD, ra⟩, fun ds a e1 e2 => ?_⟩
        cases e2
        exact e.fr R1 _ hDn
      · rw [if_neg hL] at hp
        exact hp.elim
theorem k_comp {elt tg iter : Expr} {ifs : List Expr} {scope : Scope} {own : List (Str × Nat)} {pos : Pos} {t : Tg} {IA : AX Its} {TC : AX Bool} {AD : AX D} (hc : X.calm = true) (hN : X.N.Nodup) (hi : PI X tg iter (tIts G Wx IA)) (ok : BlkOk X.N X.env.scope scope own)
    (hg : ∀ (s : Shared) (H : Hp) (C : Addr) (cl : List (Str × Addr)) (fp : List Addr), PG (X.blk s H scope (compEnvC scope cl C X.env) fp) tg (gTg G.K t)) (ht : ∀ (s : Shared) (H : Hp) (C : Addr) (cl : List (Str × Addr)) (fp : List Addr), PTs (X.blk s H scope (compEnvC scope cl C X.env) fp) ifs (tBo G WxF TC))
    (he : ∀ (s : Shared) (H : Hp) (C : Addr) (cl : List (Str × Addr)) (fp : List Addr), PE (X.blk s H scope (compEnvC scope cl C X.env) fp) elt (tD G WxF AD)) (hs : ∀ x, foldedSetIterable iter X.env x = pure x) (hown : ∀ i ∈ t.slots, i ∈ own.map (·.2)) :
    PE X (.ListComp elt [⟨tg, iter, ifs, 0⟩] scope pos) (tK G Wx (compA t (own.map (·.2)) IA TC AD)) := (pe_lc hc hN hi ok hg ht he hs).im fun _ _ _ q => comp_im hown q
theorem kt_nil {X : Cx} : PTs X [] (tBo G Wx fun _ S => .ok true S) := ⟨fun pins s σ H Q I h => pts_nil.run pins s σ H Q I (by
  obtain ⟨φ, ρ, S, R, sl, h⟩ := h
  exact Post.ok (L := RlB) h (Ext.refl _ _) R rfl)⟩
theorem kt_one {X : Cx} {c : Expr} {TA : AX Bool} (h : PT X c (tBo G Wx TA)) : PTs X [c] (tBo G Wx TA) := pts_one h
end

/-! ### statements -/
section
variable (G : Gb) (Wx : WX)
def PostS (φ : List Addr) (H : Hp) (r : RS) (D : Ends) : Prop := match r with
  | .ok .nx ρ S => ∀ σ' H' φ', Ext φ H φ' H' → Rel G φ' H' S → Sl G φ' H' ρ σ' → D.nx σ' H'
  | .ok .brk ρ S => ∀ σ' H' φ', Ext φ H φ' H' → Rel G φ' H' S → Sl G φ' H' ρ σ' → D.bk σ' H'
  | .ok .cnt ρ S => ∀ σ' H' φ', Ext φ H φ' H' → Rel G φ' H' S → Sl G φ' H' ρ σ' → D.ct σ' H'
  | .ok (.rt d) ρ S => ∀ v H' φ', Ext φ H φ' H' → Rel G φ' H' S → Rp G φ' H' d v → D.rt v H'
  | .ex c fs ρ S => ∀ cls dx σ' H' φ', Ext φ H φ' H' → Rel G φ' H' S → Sl G φ' H' ρ σ' → RpX G φ' H' c fs cls dx → Wx cls dx σ' H'
  | .bad => False
abbrev AS := Env → Store → RS
def tS (A : AS) : TS := fun D σ H => ∃ φ ρ S, Rel G φ H S ∧ Sl G φ H ρ σ ∧ PostS G Wx φ H (A ρ S) D
end
section
variable {G : Gb} {Wx : WX} {X : Cx} {α β : Type} {D : Ends} {σ : L2.St} {H : Hp}
theorem PostS.sh {φ φ1 : List Addr} {H1 : Hp} {S1 : Store} {r : RS} (h : PostS G Wx φ H r D) (e : Ext φ H φ1 H1) : PostS G Wx φ1 H1 r D := by
  cases r with
  | ok f ρ S =>
    cases f with
    | nx => exact fun σ' H' φ' e' => h σ' H' φ' (e.trans e')
    | brk => exact fun σ' H' φ' e' => h σ' H' φ' (e.trans e')
    | cnt => exact fun σ' H' φ' e' => h σ' H' φ' (e.trans e')
    | rt d => exact fun v H' φ' e' => h v H' φ' (e.trans e')
  | ex c fs ρ S => exact fun cls dx σ' H' φ' e' => h cls dx σ' H' φ' (e.trans e')
  | bad => exact h
/-- from a place behind the start on -/
theorem tS.next {L : Rl α β} {A : AX α} {F : α → Store → RS} {H1 : Hp} {Q' : β → Hp → Prop} {φ φ1 : List Addr} {ρ : Env} {S S1 : Store} (R : Rel G φ H S) (sl : Sl G φ H ρ σ) (e : Ext φ H φ1 H1) (R1 : Rel G φ1 H1 S1)
    (h : PostS G Wx φ H ((A ρ S1).st ρ F) D)
    (k : ∀ b H2 φ2 x S2, Ext φ1 H1 φ2 H2 → Rel G φ2 H2 S2 → L H1 φ2 H2 x b → PostS G Wx φ H (F x S2) D → Q' b H2) : tI G Wx L A σ H1 Q' := by
  refine ⟨φ1, ρ, S1, R1, sl.mono (e.toKeep R), ?_⟩
  cases q : A ρ S1 with
  | ok x S2 => exact fun b H2 φ2 e2 R2 l => k b H2 φ2 x S2 e2 R2 l (by rw [q] at h; exact h)
  | ex c fs S2 =>
    rw [q] at h
    exact fun cls dx H2 φ2 e2 R2 x => h cls dx σ H2 φ2 (e.trans e2) R2 (sl.mono ((e.trans e2).toKeep R)) x
  | bad =>
    rw [q] at h
    exact h
theorem tS.bd {L : Rl α β} {A : AX α} {F : α → Env → Store → RS} {Q' : β → Hp → Prop} (h : tS G Wx (fun ρ S => (A ρ S).st ρ fun x S => F x ρ S) D σ H)
    (k : ∀ φ ρ S b φ1 H1 x S1, Rel G φ H S → Sl G φ H ρ σ → Ext φ H φ1 H1 → Rel G φ1 H1 S1 → L H φ1 H1 x b → PostS G Wx φ H (F x ρ S1) D → Q' b H1) : tI G Wx L A σ H Q' := by
  obtain ⟨φ, ρ, S, R, sl, h⟩ := h
  exact tS.next R sl (Ext.refl _ _) R h fun b H1 φ1 x S1 e R1 l h1 => k φ ρ S b φ1 H1 x S1 R sl e R1 l h1
theorem tS.go {A : AS} {H1 : Hp} {φ φ1 : List Addr} {ρ : Env} {S1 : Store} {σ1 : L2.St} (e : Ext φ H φ1 H1) (R1 : Rel G φ1 H1 S1) (sl : Sl G φ1 H1 ρ σ1) (h : PostS G Wx φ H (A ρ S1) D) : tS G Wx A D σ1 H1 := ⟨φ1, ρ, S1, R1, sl, h.sh (S1 := S1) e⟩
theorem _root_.L2.PS.im {st : Stmt} {t t' : TS} (h : PS X st t) (hi : ∀ D σ H, t' D σ H → t D σ H) : PS X st t' := ⟨fun pins s σ H D I q => h.run pins s σ H D I (hi _ _ _ q)⟩
theorem _root_.L2.PSs.im {st : List Stmt} {t t' : TS} (h : PSs X st t) (hi : ∀ D σ H, t' D σ H → t D σ H) : PSs X st t' := ⟨fun pins s σ H D I q => h.run pins s σ H D I (hi _ _ _ q)⟩

variable {A : AX W} {AD : AX Mi.D} {TA : AX Bool} {A1 A2 : AS} {e : Expr} {pos : Pos}
noncomputable def setA (t : Tg) (AD : AX Mi.D) : AS := fun ρ S => (AD ρ S).st ρ fun d S => match bindTg t d ρ with
  | some ρ => .ok .nx ρ S
  | none => .bad
theorem set_post {t : Tg} {φ φ1 : List Addr} {H1 : Hp} {ρ : Env} {S1 : Store} {d : Mi.D} {v : V} (e : Ext φ H φ1 H1) (R1 : Rel G φ1 H1 S1) (sl : Sl G φ1 H1 ρ σ) (r : Rp G φ1 H1 d v)
    (h : PostS G Wx φ H (match bindTg t d ρ with | some ρ => .ok .nx ρ S1 | none => .bad) D) : gTg G.K t v σ H1 D.nx := by
  cases q : bindTg t d ρ with
  | none => rw [q] at h; exact h.elim
  | some ρ' =>
    rw [q] at h
    exact tg_im q R1 sl r fun σ' sl' _ => h σ' H1 φ1 e R1 sl'
theorem set_im {t : Tg} (h : tS G Wx (setA t AD) D σ H) : tAsg (tD G Wx AD) (gTg G.K t) D σ H :=
  tS.bd (F := fun d ρ S => match bindTg t d ρ with | some ρ => .ok .nx ρ S | none => .bad) h fun φ ρ S v φ1 H1 d S1 R sl e R1 l h1 => set_post e R1 (sl.mono (e.toKeep R)) l h1
theorem set_imK {t : Tg} (h : tS G Wx (setA t fun ρ S => (A ρ S).bd toD) D σ H) : tK G Wx A σ H fun x H1 => gTg G.K t x σ H1 D.nx := by
  obtain ⟨φ, ρ, S, R, sl, h⟩ := h
  unfold setA at h
  dsimp only at h
  refine ⟨φ, ρ, S, R, sl, ?_⟩
  cases q : A ρ S with
  | bad => rw [q] at h; exact h
  | ex c fs S1 =>
    rw [q] at h
    exact fun cls dx H2 φ2 e2 R2 x => h cls dx σ H2 φ2 e2 R2 (sl.mono (e2.toKeep R)) x
  | ok w S1 =>
    rw [q] at h
    intro v H1 φ1 e R1 l
    refine toD_post (xk := fun c d H' => Wx c d σ H') (Q := fun x H1 => gTg G.K t x σ H1 D.nx) e R1 l ?_
    have h : PostS G Wx φ H ((toD w S1).st ρ fun d S => match bindTg t d ρ with | some ρ => .ok .nx ρ S | none => .bad) D := h
    cases w with
    | val d => exact fun u H2 φ2 e2 R2 l2 => set_post e2 R2 (sl.mono (e2.toKeep R)) l2 h
    | lis ds => exact fun u H2 φ2 e2 R2 l2 => set_post e2 R2 (sl.mono (e2.toKeep R)) l2 h
/-- an expression alone -/
theorem exp_im (h : tS G Wx (fun ρ S => (A ρ S).st ρ fun _ S => .ok .nx ρ S) D σ H) : tDrop (tK G Wx A) D σ H :=
  tS.bd (F := fun _ ρ S => .ok .nx ρ S) h fun φ ρ S v φ1 H1 x S1 R sl e R1 l h1 => h1 σ H1 φ1 e R1 (sl.mono (e.toKeep R))
theorem ret_im (h : tS G Wx (fun ρ S => (AD ρ S).st ρ fun d S => .ok (.rt d) ρ S) D σ H) : tRet (tD G Wx AD) D σ H :=
  tS.bd (F := fun d ρ S => .ok (.rt d) ρ S) h fun φ ρ S v φ1 H1 x S1 R sl e R1 l h1 => h1 v H1 φ1 e R1 l
theorem iff_im (h : tS G Wx (fun ρ S => (TA ρ S).st ρ fun k S => if k = true then A1 ρ S else A2 ρ S) D σ H) : tIfS (tBo G Wx TA) (tS G Wx A1) (tS G Wx A2) D σ H :=
  tS.bd (F := fun k ρ S => if k = true then A1 ρ S else A2 ρ S) h fun φ ρ S b φ1 H1 x S1 R sl e R1 l h1 => by
    have l : x = b := l
    subst l
    cases x with
    | true => exact (if_pos rfl).mpr (tS.go e R1 (sl.mono (e.toKeep R)) h1)
    | false => exact (if_neg Bool.false_ne_true).mpr (tS.go e R1 (sl.mono (e.toKeep R)) h1)
theorem k_if {c : Expr} {a b : List Stmt} (hc : PT X c (tBo G Wx TA)) (ha : PSs X a (tS G Wx A1)) (hb : PSs X b (tS G Wx A2)) : PS X (.If c a b pos) (tS G Wx fun ρ S => (TA ρ S).st ρ fun k S => if k = true then A1 ρ S else A2 ρ S) := (ps_if hc ha hb).im fun _ _ _ => iff_im
theorem k_ret (h : PE X e (tD G Wx AD)) : PS X (.Return (some e) pos) (tS G Wx fun ρ S => (AD ρ S).st ρ fun d S => .ok (.rt d) ρ S) := (ps_ret h).im fun _ _ _ => ret_im
theorem k_exp (h : PE X e (tK G Wx A)) (hs : swapsWith e none pos.line X.env = pure false) : PS X (.Expr e pos) (tS G Wx fun ρ S => (A ρ S).st ρ fun _ S => .ok .nx ρ S) := (ps_expr h hs).im fun _ _ _ => exp_im
theorem k_nil : PSs X [] (tS G Wx fun ρ S => .ok .nx ρ S) := pss_nil.im fun D σ H ⟨φ, ρ, S, R, sl, h⟩ => h σ H φ (Ext.refl _ _) R sl
theorem k_pass : PS X (.Pass pos) (tS G Wx fun ρ S => .ok .nx ρ S) := ps_pass.im fun D σ H ⟨φ, ρ, S, R, sl, h⟩ => h σ H φ (Ext.refl _ _) R sl
theorem k_brk : PS X (.Break pos) (tS G Wx fun ρ S => .ok .brk ρ S) := ps_break.im fun D σ H ⟨φ, ρ, S, R, sl, h⟩ => h σ H φ (Ext.refl _ _) R sl
theorem k_cnt : PS X (.Continue pos) (tS G Wx fun ρ S => .ok .cnt ρ S) := ps_continue.im fun D σ H ⟨φ, ρ, S, R, sl, h⟩ => h σ H φ (Ext.refl _ _) R sl
theorem k_doc {x : Str} {j : Nat} {p2 : Pos} : PS X (.Expr (.Constant (.str x) j pos) p2) (tS G Wx fun ρ S => .ok .nx ρ S) := ps_doc.im fun D σ H ⟨φ, ρ, S, R, sl, h⟩ => h σ H φ (Ext.refl _ _) R sl
theorem seq_im (h : tS G Wx (fun ρ S => (A1 ρ S).sq fun ρ S => A2 ρ S) D σ H) : tSeq (tS G Wx A1) (tS G Wx A2) D σ H := by
  obtain ⟨φ, ρ, S, R, sl, h⟩ := h
  dsimp only at h
  refine ⟨φ, ρ, S, R, sl, ?_⟩
  cases q : A1 ρ S with
  | bad => rw [q] at h; exact h
  | ex c fs ρ S => rw [q] at h; exact h
  | ok f ρ1 S1 =>
    rw [q] at h
    cases f with
    | nx => exact fun σ' H' φ' e R' sl' => tS.go e R' sl' h
    | brk => exact h
    | cnt => exact h
    | rt d => exact h
theorem k_cons {st : Stmt} {rest : List Stmt} (h1 : PS X st (tS G Wx A1)) (h2 : PSs X rest (tS G Wx A2)) : PSs X (st :: rest) (tS G Wx fun ρ S => (A1 ρ S).sq fun ρ S => A2 ρ S) := (pss_cons h1 h2).im fun _ _ _ => seq_im

/-! ### for -/
noncomputable def bodyA (t : Tg) (A1 : AS) : Mi.D → AS := fun d ρ S => match bindTg t d ρ with
  | some ρ => A1 ρ S
  | none => .bad
theorem for_im {t : Tg} {IA : AX Its} (h : tS G Wx (fun ρ S => (IA ρ S).st ρ fun I S => forL I.live (bodyA t A1) I.items ρ S) D σ H) : tFor (tIts G Wx IA) (gTg G.K t) (tS G Wx A1) D σ H := by
  refine tS.bd (F := fun I ρ S => forL I.live (bodyA t A1) I.items ρ S) h fun φ ρ S J φ1 H1 I S1 R sl e R1 l h => ?_
  have l : ItOk G J φ1 H1 I := l
  refine ⟨fun i m σ' H' => m = I.items.length - i ∧ i ≤ I.items.length ∧ ∃ φ' ρ' S', Ext φ1 H1 φ' H' ∧ Rel G φ' H' S' ∧ Sl G φ' H' ρ' σ' ∧ PostS G Wx φ H (forL I.live (bodyA t A1) (I.items.drop i) ρ' S') D,
    ⟨I.items.length, by simp, Nat.zero_le _, φ1, ρ, S1, Ext.refl _ _, R1, sl.mono (e.toKeep R), by simpa using h⟩, ?_⟩
  rintro i m σ' H' ⟨rfl, hi, φ', ρ', S', e', R', sl', hp⟩
  by_cases hlt : i < I.items.length
  · rw [List.drop_eq_getElem_cons hlt] at hp
    unfold forL at hp
    by_cases hL : isLive I.live S'
    · rw [if_pos hL] at hp
      obtain ⟨g1, _⟩ := l i φ' H' S' e' R' hL
      obtain ⟨go, gy⟩ := g1 _ (List.getElem?_eq_getElem hlt)
      refine .inr ⟨go, fun σ'' H'' => ∃ m', m' < I.items.length - i ∧ m' = I.items.length - (i + 1) ∧ i + 1 ≤ I.items.length ∧ ∃ φ' ρ' S', Ext φ1 H1 φ' H'' ∧ Rel G φ' H'' S' ∧ Sl G φ' H'' ρ' σ'' ∧
        PostS G Wx φ H (forL I.live (bodyA t A1) (I.items.drop (i + 1)) ρ' S') D, fun σ'' H'' ⟨m', hm, hw⟩ => ⟨m', hm, hw⟩, fun x H2 yd => ?_⟩
      obtain ⟨e2, R2, r2⟩ := gy x H2 yd
      have sl2 := sl'.mono (e2.toKeep R')
      unfold bodyA at hp
      cases hb : bindTg t I.items[i] ρ' with
      | none => simp only [hb] at hp; exact hp.elim
      | some ρ2 =>
        simp only [hb] at hp
        refine tg_im hb R2 sl2 r2 fun σ2 slr _ => ⟨φ', ρ2, S', R2, slr, ?_⟩
        have e12 := e'.trans e2
        have e02 := (e.trans e12)
        cases hA : A1 ρ2 S' with
        | bad => rw [hA] at hp; exact hp
        | ex c fs ρ3 S3 =>
          rw [hA] at hp
          exact fun cls dx σ3 H3 φ3 e3 R3 sl3 x3 => hp cls dx σ3 H3 φ3 (e02.trans e3) R3 sl3 x3
        | ok f ρ3 S3 =>
          rw [hA] at hp
          cases f with
          | nx => exact fun σ3 H3 φ3 e3 R3 sl3 => ⟨I.items.length - (i + 1), by omega, rfl, hlt, φ3, ρ3, S3, e12.trans e3, R3, sl3, hp⟩
          | cnt => exact fun σ3 H3 φ3 e3 R3 sl3 => ⟨I.items.length - (i + 1), by omega, rfl, hlt, φ3, ρ3, S3, e12.trans e3, R3, sl3, hp⟩
          | brk => exact fun σ3 H3 φ3 e3 R3 sl3 => hp σ3 H3 φ3 (e02.trans e3) R3 sl3
          | rt d => exact fun v H3 φ3 e3 R3 l3 => hp v H3 φ3 (e02.trans e3) R3 l3
    · rw [if_neg hL] at hp
      exact hp.elim
  · have hn : i = I.items.length := by omega
    subst hn
    rw [List.drop_length] at hp
    unfold forL at hp
    by_cases hL : isLive I.live S'
    · rw [if_pos hL] at hp
      obtain ⟨_, g2⟩ := l _ φ' H' S' e' R' hL
      exact .inl ⟨g2 (Nat.le_refl _), hp σ' H' φ' (e.trans e') R' sl'⟩
    · rw [if_neg hL] at hp
      exact hp.elim
theorem k_for {tg iter : Expr} {body : List Stmt} {t : Tg} {IA : AX Its} (hp : PassesOwn (model X.prog X.w) X.A X.env X.xe) (hc : X.calm = true) (hi : PI X tg iter (tIts G Wx IA)) (hg : PG X tg (gTg G.K t)) (hb : PSs X body (tS G Wx A1)) (hs : ∀ x, foldedSetIterable iter X.env x = pure x) :
    PS X (.For tg iter body [] pos) (tS G Wx fun ρ S => (IA ρ S).st ρ fun I S => forL I.live (bodyA t A1) I.items ρ S) := (ps_for hp hc hi hg hb hs).im fun _ _ _ => for_im

/-! ### while -/
theorem whileF_mono {c : AX Bool} {b : AS} : ∀ {n : Nat} {ρ : Env} {S : Store} {r : RS} (k : Nat), whileF c b n ρ S = some r → whileF c b (n + k) ρ S = some r
  | 0, _, _, _, _, h => by unfold whileF at h; cases h
  | n + 1, ρ, S, r, k, h => by
    rw [Nat.add_right_comm]
    unfold whileF at h ⊢
    cases q : c ρ S with
    | bad => simp only [q] at h ⊢; exact h
    | ex c fs S => simp only [q] at h ⊢; exact h
    | ok t S1 =>
      simp only [q] at h ⊢
      cases t with
      | false => exact h
      | true =>
        dsimp only at h ⊢
        cases q2 : b ρ S1 with
        | bad => simp only [q2] at h ⊢; exact h
        | ex c fs ρ S => simp only [q2] at h ⊢; exact h
        | ok f ρ2 S2 =>
          simp only [q2] at h ⊢
          cases f with
          | nx => exact whileF_mono k h
          | cnt => exact whileF_mono k h
          | brk => exact h
          | rt d => exact h
theorem whileR_of {c : AX Bool} {b : AS} {n : Nat} {ρ : Env} {S : Store} {r : RS} (h : whileF c b n ρ S = some r) : whileR c b ρ S = r := by
  unfold whileR
  have ex : ∃ r n, whileF c b n ρ S = some r := ⟨r, n, h⟩
  rw [dif_pos ex]
  obtain ⟨m, hm⟩ := Classical.choose_spec ex
  have h1 := whileF_mono m h
  have h2 := whileF_mono n hm
  rw [Nat.add_comm m n] at h2
  rw [h1] at h2
  exact (Option.some.inj h2).symm
theorem whileR_fuel {c : AX Bool} {b : AS} {ρ : Env} {S : Store} (h : whileR c b ρ S ≠ .bad) : ∃ n, whileF c b n ρ S = some (whileR c b ρ S) := by
  by_cases ex : ∃ r n, whileF c b n ρ S = some r
  · obtain ⟨r, n, hn⟩ := ex
    exact ⟨n, by rw [whileR_of hn]; exact hn⟩
  · unfold whileR at h
    rw [dif_neg ex] at h
    exact absurd rfl h
theorem whl_im (h : tS G Wx (fun ρ S => whileR TA A1 ρ S) D σ H) : tWhile (tBo G Wx TA) (tS G Wx A1) D σ H := by
  obtain ⟨φ, ρ, S, R, sl, h⟩ := h
  dsimp only at h
  have nb : whileR TA A1 ρ S ≠ .bad := fun q => by rw [q] at h; exact h
  obtain ⟨n, hn⟩ := whileR_fuel nb
  refine ⟨fun m σ' H' => ∃ φ' ρ' S', Ext φ H φ' H' ∧ Rel G φ' H' S' ∧ Sl G φ' H' ρ' σ' ∧ whileF TA A1 m ρ' S' = some (whileR TA A1 ρ S), ⟨n, φ, ρ, S, Ext.refl _ _, R, sl, hn⟩, ?_⟩
  rintro m σ' H' ⟨φ', ρ', S', e', R', sl', hm⟩
  cases m with
  | zero => unfold whileF at hm; cases hm
  | succ m =>
    unfold whileF at hm
    refine ⟨φ', ρ', S', R', sl', ?_⟩
    cases q : TA ρ' S' with
    | bad =>
      rw [q] at hm
      exact absurd (Option.some.inj hm).symm nb
    | ex c fs S1 =>
      rw [q] at hm
      have hm := (Option.some.inj hm)
      rw [← hm] at h
      exact fun cls dx H2 φ2 e2 R2 x => h cls dx σ' H2 φ2 (e'.trans e2) R2 (sl'.mono (e2.toKeep R')) x
    | ok t S1 =>
      rw [q] at hm
      intro b H2 φ2 e2 R2 lb
      have lb : t = b := lb
      subst lb
      have sl2 := sl'.mono (e2.toKeep R')
      cases t with
      | false =>
        have hm := Option.some.inj hm
        rw [← hm] at h
        exact (if_neg Bool.false_ne_true).mpr (h σ' H2 φ2 (e'.trans e2) R2 sl2)
      | true =>
        refine (if_pos rfl).mpr ⟨fun σ'' H'' => ∃ φ' ρ' S', Ext φ H φ' H'' ∧ Rel G φ' H'' S' ∧ Sl G φ' H'' ρ' σ'' ∧ whileF TA A1 m ρ' S' = some (whileR TA A1 ρ S), fun σ'' H'' hw => ⟨m, Nat.lt_succ_self _, hw⟩, φ2, ρ', S1, R2, sl2, ?_⟩
        dsimp only at hm
        cases qb : A1 ρ' S1 with
        | bad =>
          rw [qb] at hm
          exact absurd (Option.some.inj hm).symm nb
        | ex c fs ρ3 S3 =>
          rw [qb] at hm
          have hm := Option.some.inj hm
          rw [← hm] at h
          exact fun cls dx σ3 H3 φ3 e3 R3 sl3 x => h cls dx σ3 H3 φ3 ((e'.trans e2).trans e3) R3 sl3 x
        | ok f ρ3 S3 =>
          rw [qb] at hm
          cases f with
          | nx => exact fun σ3 H3 φ3 e3 R3 sl3 => ⟨φ3, ρ3, S3, (e'.trans e2).trans e3, R3, sl3, hm⟩
          | cnt => exact fun σ3 H3 φ3 e3 R3 sl3 => ⟨φ3, ρ3, S3, (e'.trans e2).trans e3, R3, sl3, hm⟩
          | brk =>
            have hm := Option.some.inj hm
            rw [← hm] at h
            exact fun σ3 H3 φ3 e3 R3 sl3 => h σ3 H3 φ3 ((e'.trans e2).trans e3) R3 sl3
          | rt d =>
            have hm := Option.some.inj hm
            rw [← hm] at h
            exact fun v H3 φ3 e3 R3 l3 => h v H3 φ3 ((e'.trans e2).trans e3) R3 l3
theorem k_whl {c : Expr} {body : List Stmt} (hp : PassesOwn (model X.prog X.w) X.A X.env X.xe) (hc : PT X c (tBo G Wx TA)) (hb : PSs X body (tS G Wx A1)) : PS X (.While c body [] pos) (tS G Wx fun ρ S => whileR TA A1 ρ S) := (ps_while hp hc hb).im fun _ _ _ => whl_im

/-! ### name += e -/
theorem aug_im {i : Nat} {o : P2} {f : Int → Int → Int} (hf : ∀ x y d, augV o x y = some d → ∃ a b, x = .int a ∧ y = .val (.int b) ∧ d = .int (f a b)) (h : tS G Wx (fun ρ S => match ρ[i]? with
    | some (some x) => (A ρ S).st ρ fun y S => match augV o x y with
      | some d => .ok .nx (ρ.set i (some d)) S
      | none => .bad
    | _ => .bad) D σ H) : tAug i (tK G Wx A) (ipI f) D σ H := by
  obtain ⟨φ, ρ, S, R, sl, h⟩ := h
  dsimp only at h
  cases q : ρ[i]? with
  | none => simp only [q] at h; exact h.elim
  | some oo =>
    cases oo with
    | none => simp only [q] at h; exact h.elim
    | some x =>
      simp only [q] at h
      obtain ⟨v, hv, rv⟩ := sl.2 i x q
      refine ⟨v, hv, tS.next (L := RlW G) (F := fun y S => match augV o x y with
        | some d => .ok .nx (ρ.set i (some d)) S
        | none => .bad) R sl (Ext.refl _ _) R h fun u H1 φ1 y S1 e R1 l h1 => ?_⟩
      cases qq : augV o x y with
      | none => simp only [qq] at h1; exact h1.elim
      | some d =>
        simp only [qq] at h1
        obtain ⟨a, b, rfl, rfl, rfl⟩ := hf x y d qq
        unfold Rp at rv
        have ru := rp_int l.1
        exact ⟨a, b, rv, ru, h1 _ H1 φ1 e R1 ((sl.mono (e.toKeep R)).set i (by unfold Rp; rfl))⟩
theorem augAdd : ∀ x y d, augV .add x y = some d → ∃ a b, x = .int a ∧ y = .val (.int b) ∧ d = .int (a + b) := by
  intro x y d h
  unfold augV at h
  split at h
  · cases h; exact ⟨_, _, rfl, rfl, rfl⟩
  · exact absurd ‹P2.add = P2.sub› (by decide)
  · cases h
theorem augSub : ∀ x y d, augV .sub x y = some d → ∃ a b, x = .int a ∧ y = .val (.int b) ∧ d = .int (a - b) := by
  intro x y d h
  unfold augV at h
  split at h
  · exact absurd ‹P2.sub = P2.add› (by decide)
  · cases h; exact ⟨_, _, rfl, rfl, rfl⟩
  · cases h
end
end Mi

/-! Mi, part F: operations by values. -/
namespace Mi
open PySem L2 PyProof.Rows RT RZ

/-! ### data -/
section
variable {α β : Type} {f : α → Option β}
theorem mapO_cons {a : α} {r : List α} {l : List β} (h : mapO f (a :: r) = some l) : ∃ b bs, f a = some b ∧ mapO f r = some bs ∧ l = b :: bs := by
  unfold mapO at h
  cases q : f a with
  | none => simp only [q] at h; cases h
  | some b =>
    cases q2 : mapO f r with
    | none => simp only [q, q2] at h; cases h
    | some bs => simp only [q, q2] at h; cases h; exact ⟨b, bs, rfl, rfl, rfl⟩
theorem mapO_nil {l : List β} (h : mapO f [] = some l) : l = [] := by
  unfold mapO at h
  cases h; rfl
end
theorem toPy_ok {S : Store} : ∀ {n : Nat} {d : D} {y : PyData}, toPy S n d = some y → y.plain = true ∧ y.depth ≤ n
  | 0, _, _, h => by unfold toPy at h; cases h
  | n + 1, d, y, h => by
    have lst : ∀ (ds : List D) (ys : List PyData), mapO (toPy S n) ds = some ys → PyData.plainAll ys = true ∧ PyData.depthAll ys ≤ n := by
      intro ds
      induction ds with
      | nil => intro ys h; rw [mapO_nil h]; exact ⟨rfl, Nat.zero_le _⟩
      | cons d ds ih =>
        intro ys h
        obtain ⟨b, bs, h1, h2, rfl⟩ := mapO_cons h
        obtain ⟨i1, i2⟩ := toPy_ok h1
        obtain ⟨j1, j2⟩ := ih bs h2
        refine ⟨?_, ?_⟩
        · rw [PyData.plainAll, i1, j1]; rfl
        · rw [PyData.depthAll]; omega
    unfold toPy at h
    cases d with
    | non => cases h; exact ⟨rfl, by rw [PyData.depth]; omega⟩
    | bl b => cases h; exact ⟨rfl, by rw [PyData.depth]; omega⟩
    | int b => cases h; exact ⟨rfl, by rw [PyData.depth]; omega⟩
    | str b => cases h; exact ⟨rfl, by rw [PyData.depth]; omega⟩
    | tup ds =>
      obtain ⟨ys, h1, rfl⟩ := Option.map_eq_some_iff.mp h
      obtain ⟨h1, h2⟩ := lst ds ys h1
      exact ⟨by rw [PyData.plain]; exact h1, by rw [PyData.depth]; omega⟩
    | ls ds =>
      obtain ⟨ys, h1, rfl⟩ := Option.map_eq_some_iff.mp h
      obtain ⟨h1, h2⟩ := lst ds ys h1
      exact ⟨by rw [PyData.plain]; exact h1, by rw [PyData.depth]; omega⟩
    | kt ds =>
      obtain ⟨ys, h1, rfl⟩ := Option.map_eq_some_iff.mp h
      obtain ⟨h1, h2⟩ := lst ds ys h1
      exact ⟨by rw [PyData.plain]; exact h1, by rw [PyData.depth]; omega⟩
    | ref k =>
      dsimp only at h
      cases q : S[k]? with
      | none => simp only [q] at h; cases h
      | some o =>
        cases o with
        | lst ds =>
          simp only [q] at h
          obtain ⟨ys, h1, rfl⟩ := Option.map_eq_some_iff.mp h
          obtain ⟨h1, h2⟩ := lst ds ys h1
          exact ⟨by rw [PyData.plain]; exact h1, by rw [PyData.depth]; omega⟩
        | _ => simp only [q] at h; cases h
theorem mapPy_ok {S : Store} {n : Nat} : ∀ {ds : List D} {ys : List PyData}, mapO (toPy S n) ds = some ys → PyData.plainAll ys = true ∧ PyData.depthAll ys ≤ n
  | [], ys, h => by rw [mapO_nil h]; exact ⟨rfl, Nat.zero_le _⟩
  | d :: ds, ys, h => by
    obtain ⟨b, bs, h1, h2, rfl⟩ := mapO_cons h
    obtain ⟨i1, i2⟩ := toPy_ok h1
    obtain ⟨j1, j2⟩ := mapPy_ok h2
    refine ⟨?_, ?_⟩
    · rw [PyData.plainAll, i1, j1]; rfl
    · rw [PyData.depthAll]; omega
section
variable {G : Gb} {φ : List Addr} {H : Hp} {S : Store}
theorem toPy_dp (R : Rel G φ H S) : ∀ {n : Nat} {d : D} {v : V} {y : PyData}, Rp G φ H d v → toPy S n d = some y → Dp G.K H v y
  | 0, _, _, _, _, h => by unfold toPy at h; cases h
  | n + 1, d, v, y, r, h => by
    have lst : ∀ (ds : List D) (vs : List V) (ys : List PyData), Rps G φ H ds vs → mapO (toPy S n) ds = some ys → DpAll G.K H vs ys := by
      intro ds
      induction ds with
      | nil => intro vs ys r h; unfold Rps at r; subst r; rw [mapO_nil h]; exact .nil
      | cons d ds ih =>
        intro vs ys r h
        obtain ⟨b, bs, h1, h2, rfl⟩ := mapO_cons h
        unfold Rps at r
        obtain ⟨w, t, rfl, r1, r2⟩ := r
        exact .cons (toPy_dp R r1 h1) (ih t bs r2 h2)
    unfold toPy at h
    cases d with
    | non => cases h; unfold Rp at r; subst r; exact .non
    | bl b => cases h; unfold Rp at r; subst r; exact .bl b
    | int b => cases h; unfold Rp at r; subst r; exact .int b
    | str b => cases h; unfold Rp at r; subst r; exact .str b
    | tup ds =>
      obtain ⟨ys, h1, rfl⟩ := Option.map_eq_some_iff.mp h
      unfold Rp at r
      obtain ⟨a, vs, rfl, ha, hr⟩ := r
      exact .tup ha.sq (lst ds vs ys hr h1)
    | ls ds =>
      obtain ⟨ys, h1, rfl⟩ := Option.map_eq_some_iff.mp h
      unfold Rp at r
      obtain ⟨a, vs, rfl, ha, hr⟩ := r
      exact .lst ha.sq (lst ds vs ys hr h1)
    | kt ds =>
      obtain ⟨ys, h1, rfl⟩ := Option.map_eq_some_iff.mp h
      unfold Rp at r
      obtain ⟨a, vs, rfl, ha, hr⟩ := r
      exact .tup ha.sq (lst ds vs ys hr h1)
    | ref k =>
      dsimp only at h
      unfold Rp at r
      obtain ⟨a, rfl, ha⟩ := r
      cases q : S[k]? with
      | none => simp only [q] at h; cases h
      | some o =>
        cases o with
        | lst ds =>
          simp only [q] at h
          obtain ⟨ys, h1, rfl⟩ := Option.map_eq_some_iff.mp h
          obtain ⟨vs, h2, h3⟩ := R.obj k a _ ha q
          exact .lst (SqL.of h2) (lst ds vs ys h3 h1)
        | _ => simp only [q] at h; cases h
theorem mapPy_dp (R : Rel G φ H S) {n : Nat} : ∀ {ds : List D} {vs : List V} {ys : List PyData}, Rps G φ H ds vs → mapO (toPy S n) ds = some ys → DpAll G.K H vs ys
  | [], vs, ys, r, h => by unfold Rps at r; subst r; rw [mapO_nil h]; exact .nil
  | d :: ds, vs, ys, r, h => by
    obtain ⟨b, bs, h1, h2, rfl⟩ := mapO_cons h
    unfold Rps at r
    obtain ⟨w, t, rfl, r1, r2⟩ := r
    exact .cons (toPy_dp R r1 h1) (mapPy_dp R r2 h2)
theorem py_ok {w : W} {y : PyData} (h : w.py S = some y) : y.plain = true ∧ y.depth ≤ deepest + 1 := by
  cases w with
  | val d =>
    obtain ⟨h1, h2⟩ := toPy_ok (show toPy S deepest d = some y from h)
    exact ⟨h1, by omega⟩
  | lis ds =>
    obtain ⟨ys, h1, rfl⟩ := Option.map_eq_some_iff.mp (show (mapO (toPy S deepest) ds).map PyData.list = some y from h)
    obtain ⟨h1, h2⟩ := mapPy_ok h1
    exact ⟨by rw [PyData.plain]; exact h1, by rw [PyData.depth]; omega⟩
theorem py_dp (R : Rel G φ H S) {w : W} {v : V} {y : PyData} (r : RpW G φ H w v) (h : w.py S = some y) : Dp G.K H v y := by
  cases w with
  | val d => exact toPy_dp R (show Rp G φ H d v from r) (show toPy S deepest d = some y from h)
  | lis ds =>
    obtain ⟨ys, h1, rfl⟩ := Option.map_eq_some_iff.mp (show (mapO (toPy S deepest) ds).map PyData.list = some y from h)
    obtain ⟨a, vs, rfl, h2, _, h3⟩ := r
    exact .lst (SqL.of h2) (mapPy_dp R h3 h1)
end

section
variable {G : Gb} {X : Cx}
theorem vv_ok {φ : List Addr} {H : Hp} {S : Store} {d : D} {v : V} {xk : XK} {Q : VK} (R : Rel G φ H S) (h : Post G (RlW G) φ H (vv d S) xk Q) (r : Rp G φ H d v) : Q v H := Post.ok (L := RlW G) h (Ext.refl _ _) R (rl_val r)
theorem rp_bl {φ : List Addr} {H : Hp} {b : Bool} : Rp G φ H (.bl b) (.bl b) := by unfold Rp; rfl
theorem rp_in {φ : List Addr} {H : Hp} {b : Int} : Rp G φ H (.int b) (.int b) := by unfold Rp; rfl
theorem rp_st {φ : List Addr} {H : Hp} {b : Str} : Rp G φ H (.str b) (.str b) := by unfold Rp; rfl
theorem rp_no {φ : List Addr} {H : Hp} : Rp G φ H .non .non := by unfold Rp; rfl
theorem rp_str {φ : List Addr} {H : Hp} {i : Str} {v : V} (h : RpW G φ H (.val (.str i)) v) : v = .str i := by unfold RpW Rp at h; exact h

theorem o_eq (hK : X.K = G.K) (hu : X.A.units + 64 < cLine) : OpR X (compareOp .Eq) (rP2 G (p2 .eq)) := by
  intro pins s σ H x y v u Q I rx ry h
  obtain ⟨φ, w1, w2, S, xk, R, r1, r2, h⟩ := h
  unfold p2 at h
  dsimp only at h
  cases q1 : w1.py S with
  | none => simp only [q1] at h; exact h.elim
  | some a =>
    cases q2 : w2.py S with
    | none => simp only [q1, q2] at h; exact h.elim
    | some b =>
      simp only [q1, q2] at h
      obtain ⟨p1, d1⟩ := py_ok q1
      obtain ⟨p2, d2⟩ := py_ok q2
      obtain ⟨as, t1⟩ := Dp.reads I a x v (by rw [hK]; exact py_dp R r1 q1) rx
      obtain ⟨bs, t2⟩ := Dp.reads I b y u (by rw [hK]; exact py_dp R r2 q2) ry
      exact SeqAt.eq_plain t1 t2 p1 p2 (by have : deepest = 40 := rfl; omega) ⟨.bl _, H, I, rfl, vv_ok R h rp_bl⟩
theorem o_ne (hK : X.K = G.K) (hu : X.A.units + 64 < cLine) : OpR X (compareOp .NotEq) (rP2 G (p2 .ne)) := by
  intro pins s σ H x y v u Q I rx ry h
  obtain ⟨φ, w1, w2, S, xk, R, r1, r2, h⟩ := h
  unfold p2 at h
  dsimp only at h
  cases q1 : w1.py S with
  | none => simp only [q1] at h; exact h.elim
  | some a =>
    cases q2 : w2.py S with
    | none => simp only [q1, q2] at h; exact h.elim
    | some b =>
      simp only [q1, q2] at h
      obtain ⟨p1, d1⟩ := py_ok q1
      obtain ⟨p2, d2⟩ := py_ok q2
      obtain ⟨as, t1⟩ := Dp.reads I a x v (by rw [hK]; exact py_dp R r1 q1) rx
      obtain ⟨bs, t2⟩ := Dp.reads I b y u (by rw [hK]; exact py_dp R r2 q2) ry
      exact SeqAt.ne_plain t1 t2 p1 p2 (by have : deepest = 40 := rfl; omega) ⟨.bl _, H, I, rfl, vv_ok R h rp_bl⟩
theorem isNone_ne {a : PyData} (h : isNonePy a = false) : a ≠ .none := by rintro rfl; cases h
theorem o_lt (hK : X.K = G.K) (hu : X.A.units + 64 < cLine) : OpR X (compareOp .Lt) (rP2 G (p2 .lt)) := by
  intro pins s σ H x y v u Q I rx ry h
  obtain ⟨φ, w1, w2, S, xk, R, r1, r2, h⟩ := h
  unfold p2 at h
  dsimp only at h
  cases q1 : w1.py S with
  | none => simp only [q1] at h; exact h.elim
  | some a =>
    cases q2 : w2.py S with
    | none => simp only [q1, q2] at h; exact h.elim
    | some b =>
      simp only [q1, q2] at h
      obtain ⟨p1, d1⟩ := py_ok q1
      obtain ⟨as, t1⟩ := Dp.reads I a x v (by rw [hK]; exact py_dp R r1 q1) rx
      obtain ⟨bs, t2⟩ := Dp.reads I b y u (by rw [hK]; exact py_dp R r2 q2) ry
      unfold cmpD at h
      by_cases c : (W.alike a b && !isNonePy a) = true
      · rw [if_pos c] at h
        obtain ⟨c1, c2⟩ := Bool.and_eq_true_iff.mp c
        exact W.lt_data t1 t2 c1 (isNone_ne (by simpa using c2)) (by have : deepest = 40 := rfl; omega) ⟨.bl _, H, I, rfl, vv_ok R h rp_bl⟩
      · rw [if_neg c] at h; exact h.elim
theorem o_gt (hK : X.K = G.K) (hu : X.A.units + 64 < cLine) : OpR X (compareOp .Gt) (rP2 G (p2 .gt)) := by
  intro pins s σ H x y v u Q I rx ry h
  obtain ⟨φ, w1, w2, S, xk, R, r1, r2, h⟩ := h
  unfold p2 at h
  dsimp only at h
  cases q1 : w1.py S with
  | none => simp only [q1] at h; exact h.elim
  | some a =>
    cases q2 : w2.py S with
    | none => simp only [q1, q2] at h; exact h.elim
    | some b =>
      simp only [q1, q2] at h
      obtain ⟨p1, d1⟩ := py_ok q1
      obtain ⟨as, t1⟩ := Dp.reads I a x v (by rw [hK]; exact py_dp R r1 q1) rx
      obtain ⟨bs, t2⟩ := Dp.reads I b y u (by rw [hK]; exact py_dp R r2 q2) ry
      unfold cmpD at h
      by_cases c : (W.alike a b && !isNonePy a) = true
      · rw [if_pos c] at h
        obtain ⟨c1, c2⟩ := Bool.and_eq_true_iff.mp c
        exact W.gt_data t1 t2 c1 (isNone_ne (by simpa using c2)) (by have : deepest = 40 := rfl; omega) ⟨.bl _, H, I, rfl, vv_ok R h rp_bl⟩
      · rw [if_neg c] at h; exact h.elim
theorem o_le (hK : X.K = G.K) (hu : X.A.units + 64 < cLine) : OpR X (compareOp .LtE) (rP2 G (p2 .le)) := by
  intro pins s σ H x y v u Q I rx ry h
  obtain ⟨φ, w1, w2, S, xk, R, r1, r2, h⟩ := h
  unfold p2 at h
  dsimp only at h
  cases q1 : w1.py S with
  | none => simp only [q1] at h; exact h.elim
  | some a =>
    cases q2 : w2.py S with
    | none => simp only [q1, q2] at h; exact h.elim
    | some b =>
      simp only [q1, q2] at h
      obtain ⟨p1, d1⟩ := py_ok q1
      obtain ⟨as, t1⟩ := Dp.reads I a x v (by rw [hK]; exact py_dp R r1 q1) rx
      obtain ⟨bs, t2⟩ := Dp.reads I b y u (by rw [hK]; exact py_dp R r2 q2) ry
      unfold cmpD at h
      by_cases c : (W.alike a b && !isNonePy a) = true
      · rw [if_pos c] at h
        obtain ⟨c1, c2⟩ := Bool.and_eq_true_iff.mp c
        exact W.le_data t1 t2 c1 (isNone_ne (by simpa using c2)) (by have : deepest = 40 := rfl; omega) ⟨.bl _, H, I, rfl, vv_ok R h rp_bl⟩
      · rw [if_neg c] at h; exact h.elim
theorem o_ge (hK : X.K = G.K) (hu : X.A.units + 64 < cLine) : OpR X (compareOp .GtE) (rP2 G (p2 .ge)) := by
  intro pins s σ H x y v u Q I rx ry h
  obtain ⟨φ, w1, w2, S, xk, R, r1, r2, h⟩ := h
  unfold p2 at h
  dsimp only at h
  cases q1 : w1.py S with
  | none => simp only [q1] at h; exact h.elim
  | some a =>
    cases q2 : w2.py S with
    | none => simp only [q1, q2] at h; exact h.elim
    | some b =>
      simp only [q1, q2] at h
      obtain ⟨p1, d1⟩ := py_ok q1
      obtain ⟨as, t1⟩ := Dp.reads I a x v (by rw [hK]; exact py_dp R r1 q1) rx
      obtain ⟨bs, t2⟩ := Dp.reads I b y u (by rw [hK]; exact py_dp R r2 q2) ry
      unfold cmpD at h
      by_cases c : (W.alike a b && !isNonePy a) = true
      · rw [if_pos c] at h
        obtain ⟨c1, c2⟩ := Bool.and_eq_true_iff.mp c
        exact W.ge_data t1 t2 c1 (isNone_ne (by simpa using c2)) (by have : deepest = 40 := rfl; omega) ⟨.bl _, H, I, rfl, vv_ok R h rp_bl⟩
      · rw [if_neg c] at h; exact h.elim

/-! ### in -/
def OpRp (G : Gb) (φ : List Addr) (H : Hp) (o : Option D) (ov : Option V) : Prop := match o with
  | some d => ∃ w, ov = some w ∧ Rp G φ H d w
  | none => ov = none
theorem RpKV.look {κ : Type} [DecidableEq κ] {φ : List Addr} {H : Hp} {k : κ} : ∀ {kvs : List (κ × D)} {vs : List (κ × V)}, RpKV G φ H kvs vs → OpRp G φ H (lookD kvs k) (valV vs k)
  | [], vs, h => by
    have h : vs = [] := h
    subst h
    rfl
  | p :: r, vs, h => by
    obtain ⟨v, t, rfl, h1, h2⟩ := h
    by_cases c : p.1 = k
    · have e : lookD (p :: r) k = some p.2 := by simp [lookD, List.find?_cons, c]
      rw [e, valV_pos (p := (p.1, v)) c]
      exact ⟨v, rfl, h1⟩
    · have e : lookD (p :: r) k = lookD r k := by simp [lookD, List.find?_cons, c]
      rw [e, valV_neg (p := (p.1, v)) c]
      exact RpKV.look h2
theorem key_v {φ : List Addr} {H : Hp} {d : D} {k : Key} {v : V} (h : d.key = some k) (r : Rp G φ H d v) : v = kV k := by
  cases d with
  | int i => cases h; unfold Rp at r; exact r
  | str x => cases h; unfold Rp at r; exact r
  | _ => cases h
theorem keys_v {φ : List Addr} {H : Hp} : ∀ {ds : List D} {ks : List Key} {vs : List V}, mapO D.key ds = some ks → Rps G φ H ds vs → vs = ks.map kV
  | [], ks, vs, h, r => by unfold Rps at r; subst r; rw [mapO_nil h]; rfl
  | d :: ds, ks, vs, h, r => by
    obtain ⟨b, bs, h1, h2, rfl⟩ := mapO_cons h
    unfold Rps at r
    obtain ⟨v, t, rfl, r1, r2⟩ := r
    rw [List.map_cons, key_v h1 r1, keys_v h2 r2]
theorem keyT_v {φ : List Addr} {H : Hp} {d : D} {ks : List Key} {v : V} (h : d.keyT = some ks) (r : Rp G φ H d v) : ∃ b, v = .ref b ∧ H b = some (.tup (ks.map kV)) := by
  cases d with
  | tup ds =>
    unfold Rp at r
    obtain ⟨a, vs, rfl, ha, hr⟩ := r
    have e := keys_v (show mapO D.key ds = some ks from h) hr
    subst e
    exact ⟨a, rfl, ha⟩
  | _ => cases h
theorem look_dget {φ : List Addr} {H : Hp} {S : Store} {n : Nat} {k : D} {o : Option D} {a : Addr} {v : V} (R : Rel G φ H S) (ha : φ[n]? = some a) (r : Rp G φ H k v) (h : look S n k = some o) : ∃ ov, DGet H a v ov ∧ OpRp G φ H o ov := by
  unfold look at h
  cases q : S[n]? with
  | none => simp only [q] at h; cases h
  | some ob =>
    cases ob with
    | dk kvs =>
      simp only [q] at h
      obtain ⟨k', hk, rfl⟩ := Option.map_eq_some_iff.mp h
      obtain ⟨vs, h1, h2⟩ := R.obj n a _ ha q
      have e := key_v hk r
      subst e
      exact ⟨_, .inl ⟨vs, k', .inl h1, rfl, rfl⟩, RpKV.look h2⟩
    | dt kvs =>
      simp only [q] at h
      obtain ⟨k', hk, rfl⟩ := Option.map_eq_some_iff.mp h
      obtain ⟨vs, h1, h2⟩ := R.obj n a _ ha q
      obtain ⟨b, rfl, hb⟩ := keyT_v hk r
      exact ⟨_, .inr ⟨vs, k', b, .inl h1, rfl, hb, rfl⟩, RpKV.look h2⟩
    | _ => simp only [q] at h; cases h
theorem seq_or {H : Hp} {a : Addr} {vs : List V} {b : Bool} (h : if b = true then SqT G.K H a vs else SqL G.K H a vs) : SqL G.K H a vs ∨ SqT G.K H a vs := by
  cases b with
  | true => exact .inr (ifT h)
  | false => exact .inl (ifF h)
/-- what «in» comes to -/
theorem in_cases {φ : List Addr} {H : Hp} {S : Store} {w1 w2 : W} {x y : V} {b : Bool} (R : Rel G φ H S) (r1 : RpW G φ H w1 x) (r2 : RpW G φ H w2 y) (h : isIn w1 w2 S = some b) :
    (∃ t z, x = .str z ∧ y = .str t ∧ b = !(Builtin.Str.occurrences t z 0 t.length 1).isEmpty) ∨
    (∃ a vs ys p, y = .ref a ∧ (SqL G.K H a vs ∨ SqT G.K H a vs) ∧ DpAll G.K H vs ys ∧ Dp G.K H x p ∧ PyData.plainAll ys = true ∧ p.plain = true ∧ PyData.depthAll ys ≤ deepest ∧ b = ys.any fun y => PyData.eqv y p) ∨
    (∃ a o, y = .ref a ∧ DGet H a x o ∧ b = o.isSome) := by
  unfold isIn at h
  cases hq : w2.seq S with
  | some bd =>
    obtain ⟨bb, ds⟩ := bd
    have h : ((w1.py S).bind fun p => (mapO (toPy S deepest) ds).map fun ys => ys.any fun y => PyData.eqv y p) = some b := by
      cases w2 with
      | lis es => simp only [hq] at h; exact h
      | val d =>
        cases d with
        | str t => cases hq
        | _ => simp only [hq] at h; exact h
    obtain ⟨p, hp, h⟩ := Option.bind_eq_some_iff.mp h
    obtain ⟨ys, hy, rfl⟩ := Option.map_eq_some_iff.mp h
    obtain ⟨a, vs, rfl, hs, hr⟩ := seq_rp R r2 hq
    obtain ⟨m1, m2⟩ := mapPy_ok hy
    exact .inr (.inl ⟨a, vs, ys, p, rfl, seq_or hs, mapPy_dp R hr hy, py_dp R r1 hp, m1, (py_ok hp).1, m2, rfl⟩)
  | none =>
    cases w2 with
    | lis es => cases hq
    | val d =>
      cases d with
      | str t =>
        cases w1 with
        | lis es => cases h
        | val d1 =>
          cases d1 with
          | str z =>
            cases h
            exact .inl ⟨t, z, rp_str r1, rp_str r2, rfl⟩
          | _ => cases h
      | ref n =>
        simp only [hq] at h
        cases w1 with
        | lis es => cases h
        | val d1 =>
          obtain ⟨o, ho, rfl⟩ := Option.map_eq_some_iff.mp h
          unfold RpW Rp at r2
          obtain ⟨a, rfl, ha⟩ := r2
          obtain ⟨ov, hd, hm⟩ := look_dget R ha (show Rp G φ H d1 x from r1) ho
          refine .inr (.inr ⟨a, ov, rfl, hd, ?_⟩)
          cases o with
          | none => have hm : ov = none := hm; rw [hm]; rfl
          | some d => obtain ⟨w, rfl, _⟩ := hm; rfl
      | tup es => cases hq
      | kt es => cases hq
      | ls es => cases hq
      | _ => simp only [hq] at h; cases h
theorem o_in (hK : X.K = G.K) (hu : X.A.units + 64 < cLine) : OpR X (compareOp .In) (rP2 G (p2 .inn)) := by
  intro pins s σ H x y v u Q I rx ry h
  obtain ⟨φ, w1, w2, S, xk, R, r1, r2, h⟩ := h
  unfold p2 at h
  dsimp only at h
  cases hi : isIn w1 w2 S with
  | none => simp only [hi] at h; exact h.elim
  | some b =>
    simp only [hi] at h
    have q := vv_ok R h rp_bl
    rcases in_cases R r1 r2 hi with ⟨t, z, rfl, rfl, rfl⟩ | ⟨a, vs, ys, p, rfl, hs, hv, hp, m1, m2, m3, rfl⟩ | ⟨a, o, rfl, hd, rfl⟩
    · exact op_in_str pins s σ H _ _ v u Q I rx ry ⟨z, t, rfl, rfl, q⟩
    · obtain ⟨bs, t2⟩ := Dp.reads I p x v (by rw [hK]; exact hp) rx
      have hu' : X.A.units + 1 + min (PyData.depthAll ys) p.depth < cLine := by have : deepest = 40 := rfl; omega
      rcases hs with hs | hs
      · obtain ⟨as, t1⟩ := Dp.reads I (.list ys) (.ref a) u (by rw [hK]; exact .lst hs hv) ry
        exact SeqAt.in_list_data t1 t2 m1 m2 hu' ⟨.bl _, H, I, rfl, q⟩
      · obtain ⟨as, t1⟩ := Dp.reads I (.tuple ys) (.ref a) u (by rw [hK]; exact .tup hs hv) ry
        exact SeqAt.in_tuple_data t1 t2 m1 m2 hu' ⟨.bl _, H, I, rfl, q⟩
    · cases (show u = Value.ref a from ry)
      exact d_in (by omega) I hd rx fun s' I' => ⟨.bl _, H, I', rfl, q⟩
theorem o_nin (hK : X.K = G.K) (hu : X.A.units + 64 < cLine) : OpR X (compareOp .NotIn) (rP2 G (p2 .nin)) := by
  intro pins s σ H x y v u Q I rx ry h
  obtain ⟨φ, w1, w2, S, xk, R, r1, r2, h⟩ := h
  unfold p2 at h
  dsimp only at h
  cases hi : isIn w1 w2 S with
  | none => simp only [hi] at h; exact h.elim
  | some b =>
    simp only [hi] at h
    have q := vv_ok R h rp_bl
    rcases in_cases R r1 r2 hi with ⟨t, z, rfl, rfl, rfl⟩ | ⟨a, vs, ys, p, rfl, hs, hv, hp, m1, m2, m3, rfl⟩ | ⟨a, o, rfl, hd, rfl⟩
    · exact op_notin_str pins s σ H _ _ v u Q I rx ry ⟨z, t, rfl, rfl, q⟩
    · obtain ⟨bs, t2⟩ := Dp.reads I p x v (by rw [hK]; exact hp) rx
      have hu' : X.A.units + 1 + min (PyData.depthAll ys) p.depth < cLine := by have : deepest = 40 := rfl; omega
      rcases hs with hs | hs
      · obtain ⟨as, t1⟩ := Dp.reads I (.list ys) (.ref a) u (by rw [hK]; exact .lst hs hv) ry
        exact SeqAt.notIn_list_data t1 t2 m1 m2 hu' ⟨.bl _, H, I, rfl, q⟩
      · obtain ⟨as, t1⟩ := Dp.reads I (.tuple ys) (.ref a) u (by rw [hK]; exact .tup hs hv) ry
        exact SeqAt.notIn_tuple_data t1 t2 m1 m2 hu' ⟨.bl _, H, I, rfl, q⟩
    · cases (show u = Value.ref a from ry)
      exact d_notIn (by omega) I hd rx fun s' I' => ⟨.bl _, H, I', rfl, q⟩

/-! ### is None -/
theorem o_isN : OpR X (compareOp .Is) (fun x y H Q => y = .non ∧ rP1 G (p1 .isN) x H Q) := by
  intro pins s σ H x y v u Q I rx ry h
  obtain ⟨rfl, φ, w1, S, xk, R, r1, h⟩ := h
  refine op_isN pins s σ H x .non v u Q I rx ry ⟨rfl, ?_⟩
  have hx : vv (D.bl (decide (x = .non))) S = p1 .isN w1 S := by
    cases w1 with
    | lis ds =>
      obtain ⟨a, vs, rfl, _⟩ := r1
      rfl
    | val d =>
      cases d <;> unfold RpW Rp at r1 <;> first
        | (subst r1; rfl)
        | (obtain ⟨a, vs, rfl, _⟩ := r1; rfl)
        | (obtain ⟨a, rfl, _⟩ := r1; rfl)
  rw [← hx] at h
  exact vv_ok R h rp_bl
theorem o_notN : OpR X (compareOp .IsNot) (fun x y H Q => y = .non ∧ rP1 G (p1 .notN) x H Q) := by
  intro pins s σ H x y v u Q I rx ry h
  obtain ⟨rfl, φ, w1, S, xk, R, r1, h⟩ := h
  refine op_notN pins s σ H x .non v u Q I rx ry ⟨rfl, ?_⟩
  have hx : vv (D.bl (!decide (x = .non))) S = p1 .notN w1 S := by
    cases w1 with
    | lis ds =>
      obtain ⟨a, vs, rfl, _⟩ := r1
      rfl
    | val d =>
      cases d <;> unfold RpW Rp at r1 <;> first
        | (subst r1; rfl)
        | (obtain ⟨a, vs, rfl, _⟩ := r1; rfl)
        | (obtain ⟨a, rfl, _⟩ := r1; rfl)
  rw [← hx] at h
  exact vv_ok R h rp_bl
end
end Mi

/-! Mi, part G: arithmetic, subscripts, built-in calls and methods. -/
namespace Mi
open PySem L2 PyProof.Rows RT RZ

section
variable {G : Gb} {X : Cx}
theorem lis_new {φ : List Addr} {H : Hp} {S : Store} {ds : List D} {vs : List V} {p : Addr} {xk : XK} {Q : VK} (R : Rel G φ H S) (h : Post G (RlW G) φ H (.ok (.lis ds) S) xk Q) (r : Rps G φ H ds vs) (hp : H p = none) : Q (.ref p) (upd H p (.lst vs)) := by
  have E := Ext.fresh R hp (.lst vs)
  exact Post.ok (L := RlW G) h E (R.fresh hp _) ⟨⟨p, vs, rfl, upd_same, R.unk hp, Rps.mono (E.toKeep R) _ _ r⟩, fun ds a e1 e2 => by cases e2; exact hp⟩
theorem tup_new {φ : List Addr} {H : Hp} {S : Store} {ds : List D} {vs : List V} {p : Addr} {xk : XK} {Q : VK} (R : Rel G φ H S) (h : Post G (RlW G) φ H (vv (.tup ds) S) xk Q) (r : Rps G φ H ds vs) (hp : H p = none) : Q (.ref p) (upd H p (.tup vs)) := by
  have E := Ext.fresh R hp (.tup vs)
  refine Post.ok (L := RlW G) h E (R.fresh hp _) (rl_val ?_)
  unfold Rp
  exact ⟨p, vs, rfl, upd_same, Rps.mono (E.toKeep R) _ _ r⟩
theorem Rps.app {φ : List Addr} {H : Hp} : ∀ {ds es : List D} {vs ws : List V}, Rps G φ H ds vs → Rps G φ H es ws → Rps G φ H (ds ++ es) (vs ++ ws)
  | [], _, vs, _, h, r => by unfold Rps at h; subst h; exact r
  | d :: ds, es, _, ws, h, r => by
    unfold Rps at h
    obtain ⟨w, t, rfl, h1, h2⟩ := h
    show Rps G φ H (d :: (ds ++ es)) (w :: (t ++ ws))
    unfold Rps
    exact ⟨w, t ++ ws, rfl, h1, Rps.app h2 r⟩
theorem Rps.take {φ : List Addr} {H : Hp} : ∀ {ds : List D} {vs : List V} (n : Nat), Rps G φ H ds vs → Rps G φ H (ds.take n) (vs.take n)
  | _, _, 0, _ => by simp [Rps]
  | [], vs, n + 1, h => by unfold Rps at h; subst h; simp [Rps]
  | d :: ds, _, n + 1, h => by
    unfold Rps at h
    obtain ⟨w, t, rfl, h1, h2⟩ := h
    show Rps G φ H (d :: ds.take n) (w :: t.take n)
    unfold Rps
    exact ⟨w, _, rfl, h1, Rps.take n h2⟩
theorem Rps.drop {φ : List Addr} {H : Hp} : ∀ {ds : List D} {vs : List V} (n : Nat), Rps G φ H ds vs → Rps G φ H (ds.drop n) (vs.drop n)
  | _, _, 0, h => h
  | [], vs, n + 1, h => by unfold Rps at h; subst h; simp [Rps]
  | d :: ds, _, n + 1, h => by
    unfold Rps at h
    obtain ⟨w, t, rfl, h1, h2⟩ := h
    exact Rps.drop n h2
theorem Rps.set {φ : List Addr} {H : Hp} {d : D} {v : V} (r : Rp G φ H d v) : ∀ {ds : List D} {vs : List V} (n : Nat), Rps G φ H ds vs → Rps G φ H (ds.set n d) (vs.set n v)
  | [], vs, n, h => by unfold Rps at h; subst h; simp [Rps]
  | e :: ds, _, 0, h => by
    unfold Rps at h
    obtain ⟨w, t, rfl, h1, h2⟩ := h
    show Rps G φ H (d :: ds) (v :: t)
    unfold Rps
    exact ⟨v, t, rfl, r, h2⟩
  | e :: ds, _, n + 1, h => by
    unfold Rps at h
    obtain ⟨w, t, rfl, h1, h2⟩ := h
    show Rps G φ H (e :: ds.set n d) (w :: t.set n v)
    unfold Rps
    exact ⟨w, _, rfl, h1, Rps.set r n h2⟩
theorem Rps.dropLast {φ : List Addr} {H : Hp} {ds : List D} {vs : List V} (h : Rps G φ H ds vs) : Rps G φ H ds.dropLast vs.dropLast := by
  rw [List.dropLast_eq_take, List.dropLast_eq_take, h.len]
  exact h.take _

theorem o_sub : OpR X (binaryOp .Sub) (rP2 G (p2 .sub)) := by
  intro pins s σ H x y v u Q I rx ry h
  obtain ⟨φ, w1, w2, S, xk, R, r1, r2, h⟩ := h
  unfold p2 at h
  dsimp only at h
  split at h
  · exact op_sub pins s σ H x y v u Q I rx ry ⟨_, _, rp_int r1, rp_int r2, vv_ok R h rp_in⟩
  · exact h.elim
theorem o_mul : OpR X (binaryOp .Mult) (rP2 G (p2 .mul)) := by
  intro pins s σ H x y v u Q I rx ry h
  obtain ⟨φ, w1, w2, S, xk, R, r1, r2, h⟩ := h
  unfold p2 at h
  dsimp only at h
  split at h
  · rename_i i j
    by_cases c : mulFits i j = true
    · rw [if_pos c] at h
      have c := of_decide_eq_true c
      exact op_mulW pins s σ H x y v u Q I rx ry ⟨_, _, rp_int r1, rp_int r2, (by show _ < 1000000; omega), vv_ok R h rp_in⟩
    · rw [if_neg c] at h; exact h.elim
  · exact h.elim
theorem o_fdiv : OpR X (binaryOp .FloorDiv) (rP2 G (p2 .fdiv)) := by
  intro pins s σ H x y v u Q I rx ry h
  obtain ⟨φ, w1, w2, S, xk, R, r1, r2, h⟩ := h
  unfold p2 at h
  dsimp only at h
  split at h
  · rename_i i j
    by_cases c : divFits j = true
    · rw [if_pos c] at h
      have c := of_decide_eq_true c
      exact op_fdivW pins s σ H x y v u Q I rx ry ⟨_, _, rp_int r1, rp_int r2, c, vv_ok R h rp_in⟩
    · rw [if_neg c] at h; exact h.elim
  · exact h.elim
theorem o_mod : OpR X (binaryOp .Mod) (rP2 G (p2 .mod)) := by
  intro pins s σ H x y v u Q I rx ry h
  obtain ⟨φ, w1, w2, S, xk, R, r1, r2, h⟩ := h
  unfold p2 at h
  dsimp only at h
  split at h
  · rename_i i j
    by_cases c : 0 < j
    · rw [if_pos c] at h
      exact op_mod pins s σ H x y v u Q I rx ry ⟨_, _, rp_int r1, rp_int r2, c, vv_ok R h rp_in⟩
    · rw [if_neg c] at h; exact h.elim
  · exact h.elim
theorem o_pow : OpR X (binaryOp .Pow) (rP2 G (p2 .pow)) := by
  intro pins s σ H x y v u Q I rx ry h
  obtain ⟨φ, w1, w2, S, xk, R, r1, r2, h⟩ := h
  unfold p2 at h
  dsimp only at h
  split at h
  · rename_i i j
    by_cases c : 0 ≤ j ∧ j ≤ 1000000 ∧ i.natAbs < 2 ^ 64
    · rw [if_pos c] at h
      exact op_pow pins s σ H x y v u Q I rx ry ⟨_, _, rp_int r1, rp_int r2, c, vv_ok R h rp_in⟩
    · rw [if_neg c] at h; exact h.elim
  · exact h.elim
theorem lst_rp {φ : List Addr} {H : Hp} {S : Store} {w : W} {v : V} {ds : List D} {b : Bool} (R : Rel G φ H S) (r : RpW G φ H w v) (h : w.seq S = some (b, ds)) (hl : isLst S w = true) : ∃ a vs, v = .ref a ∧ H a = some (.lst vs) ∧ Rps G φ H ds vs := by
  cases w with
  | lis es =>
    have h : some (false, es) = some (b, ds) := h
    cases h
    obtain ⟨a, vs, e, h1, _, h2⟩ := r
    exact ⟨a, vs, e, h1, h2⟩
  | val d =>
    cases d with
    | ref n =>
      unfold RpW Rp at r
      obtain ⟨a, e, h1⟩ := r
      unfold W.seq at h
      cases hs : S[n]? with
      | none => simp only [hs] at h; cases h
      | some o =>
        cases o with
        | lst es =>
          simp only [hs] at h
          cases h
          obtain ⟨vs, h2, h3⟩ := R.obj n a _ h1 hs
          exact ⟨a, vs, e, h2, h3⟩
        | _ => simp only [hs] at h; cases h
    | _ => cases hl
theorem o_add (hK : X.K = G.K) : OpR X (binaryOp .Add) (rP2 G (p2 .add)) := by
  intro pins s σ H x y v u Q I rx ry h
  obtain ⟨φ, w1, w2, S, xk, R, r1, r2, h⟩ := h
  unfold p2 at h
  dsimp only at h
  split at h
  · exact op_add pins s σ H x y v u Q I rx ry ⟨_, _, rp_int r1, rp_int r2, vv_ok R h rp_in⟩
  · rename_i a b
    by_cases c : a.length + b.length ≤ sizeLine
    · rw [if_pos c] at h
      exact op_add_str pins s σ H x y v u Q I rx ry ⟨_, _, rp_str r1, rp_str r2, c, vv_ok R h rp_st⟩
    · rw [if_neg c] at h; exact h.elim
  · split at h
    · rename_i xs ys h1 h2
      by_cases c : (isLst S w1 && isLst S w2 && decide (xs.length + ys.length ≤ sizeLine)) = true
      · rw [if_pos c] at h
        obtain ⟨c12, c3⟩ := Bool.and_eq_true_iff.mp c
        obtain ⟨c1, c2⟩ := Bool.and_eq_true_iff.mp c12
        have c3 := of_decide_eq_true c3
        obtain ⟨a, vs, rfl, ha, hr⟩ := lst_rp R r1 h1 c1
        obtain ⟨b, ws, rfl, hb, hs⟩ := lst_rp R r2 h2 c2
        exact op_cat pins s σ H _ _ v u Q I rx ry ⟨a, b, vs, ws, rfl, rfl, ha, hb, by rw [← hr.len, ← hs.len]; exact c3, fun p hp => lis_new R h (hr.app hs) hp⟩
      · rw [if_neg c] at h; exact h.elim
    · rename_i xs ys h1 h2
      by_cases c : (!xs.isEmpty && !ys.isEmpty && decide (xs.length + ys.length ≤ sizeLine)) = true
      · rw [if_pos c] at h
        obtain ⟨c12, c3⟩ := Bool.and_eq_true_iff.mp c
        obtain ⟨c1, c2⟩ := Bool.and_eq_true_iff.mp c12
        have c3 := of_decide_eq_true c3
        obtain ⟨a, vs, rfl, ha, hr⟩ := seq_rp R r1 h1
        obtain ⟨b, ws, rfl, hb, hs⟩ := seq_rp R r2 h2
        have n1 : vs ≠ [] := by
          rintro rfl
          have := hr.len
          cases xs with
          | nil => simp at c1
          | cons _ _ => simp at this
        have n2 : ws ≠ [] := by
          rintro rfl
          have := hs.len
          cases ys with
          | nil => simp at c2
          | cons _ _ => simp at this
        exact op_catT pins s σ H _ _ v u Q I rx ry ⟨a, b, vs, ws, rfl, rfl, by rw [hK]; exact ifT ha, by rw [hK]; exact ifT hb, n1, by rw [← hr.len, ← hs.len]; exact c3, fun q => absurd q n2, fun _ p hp => tup_new R h (hr.app hs) hp⟩
      · rw [if_neg c] at h; exact h.elim
    · exact h.elim
theorem o_neg : UnR X (unaryOp .USub) (rP1 G (p1 .neg)) := by
  intro pins s σ H x v Q I rx h
  obtain ⟨φ, w1, S, xk, R, r1, h⟩ := h
  unfold p1 at h
  dsimp only at h
  split at h
  · exact un_neg pins s σ H x v Q I rx ⟨_, rp_int r1, vv_ok R h rp_in⟩
  · exact h.elim

/-! ### subscripts -/
theorem atI_rp {φ : List Addr} {H : Hp} {ds : List D} {vs : List V} {i : Int} {d : D} (h : Rps G φ H ds vs) (e : atI ds i = some d) : ∃ v, atI vs i = some v ∧ Rp G φ H d v := by
  unfold atI at e ⊢
  rw [← h.len]
  obtain ⟨j, hj, hd⟩ := Option.bind_eq_some_iff.mp e
  obtain ⟨v, hv, r⟩ := h.get hd
  exact ⟨v, by rw [hj]; exact hv, r⟩
theorem o_ix (hK : X.K = G.K) (hu : X.A.units + 64 < cLine) : IxR X (rP2 G (p2 .ix)) := by
  intro value slice pins s σ H x y v u Q I rx ry h hsub
  obtain ⟨φ, w1, w2, S, xk, R, r1, r2, h⟩ := h
  unfold p2 at h
  dsimp only at h
  split at h
  · rename_i z
    split at h
    · rename_i i
      split at h
      · rename_i c hc
        by_cases q : z.length ≤ sizeLine
        · rw [if_pos q] at h
          exact ix_seq value slice pins s σ H x y v u Q I rx ry (.inr (.inr ⟨z, i, c, rp_str r1, rp_int r2, q, hc, vv_ok R h rp_st⟩)) hsub
        · rw [if_neg q] at h; exact h.elim
      · exact h.elim
    · exact h.elim
  · split at h
    · rename_i b ds hq
      split at h
      · rename_i i
        split at h
        · rename_i d hd
          obtain ⟨a, vs, rfl, hs, hr⟩ := seq_rp R r1 hq
          obtain ⟨w, hw, rw'⟩ := atI_rp hr hd
          have q := vv_ok R h rw'
          rcases seq_or hs with hs | hs
          · exact ix_seq value slice pins s σ H _ y v u Q I rx ry (.inl ⟨a, vs, i, w, rfl, rp_int r2, by rw [hK]; exact hs, hw, q⟩) hsub
          · exact ix_seq value slice pins s σ H _ y v u Q I rx ry (.inr (.inl ⟨a, vs, i, w, rfl, rp_int r2, by rw [hK]; exact hs, hw, q⟩)) hsub
        · exact h.elim
      · exact h.elim
    · rename_i hq
      cases w1 with
      | lis es => exact h.elim
      | val d1 =>
        cases d1 with
        | ref n =>
          cases w2 with
          | lis es => exact h.elim
          | val k =>
            dsimp only at h
            split at h
            · rename_i d hl
              unfold RpW Rp at r1
              obtain ⟨a, rfl, ha⟩ := r1
              obtain ⟨ov, hg, w, rfl, rw'⟩ := look_dget R ha (show Rp G φ H k y from r2) hl
              cases (show v = Value.ref a from rx)
              have q := vv_ok R h rw'
              exact tail_any (dict_typeIs I hg) PySem.F.slot_dict_getitem.lookup (d_getItem (by omega) I hg ry fun w' s3 I3 rw' => ⟨w, H, I3, rw', q⟩) hsub
            · exact h.elim
        | _ => exact h.elim

/-! ### slices -/
theorem cut_rp {φ : List Addr} {H : Hp} {ds : List D} {vs : List V} (h : Rps G φ H ds vs) (lo hi : Option Int) : Rps G φ H (cutD ds lo hi) (cutV vs lo hi) := by
  unfold cutD cutV
  rw [← h.len]
  exact (h.drop _).take _
theorem cut_all {vs : List V} {lo hi : Option Int} (h : HT.sIx vs.length 0 lo = 0 ∧ HT.sIx vs.length vs.length hi = vs.length) : cutV vs lo hi = vs := by
  unfold cutV
  rw [h.1, h.2]
  simp
def rSl (G : Gb) : V → Option Int → Option Int → Hp → VK → Prop := fun x lo hi H Q => ∃ φ w1 S xk, Rel G φ H S ∧ RpW G φ H w1 x ∧ Post G (RlW G) φ H (cutW w1 lo hi S) xk Q
theorem o_sl (hK : X.K = G.K) : SlR X (rSl G) := by
  intro pins s σ H x v vl vu lo hi sl Q I rx hs pl pu h
  obtain ⟨φ, w1, S, xk, R, r1, h⟩ := h
  unfold cutW at h
  split at h
  · rename_i z
    by_cases c : z.length ≤ sizeLine
    · rw [if_pos c] at h
      exact sl_str pins s σ H x v vl vu lo hi sl Q I rx hs pl pu ⟨z, rp_str r1, c, vv_ok R h rp_st⟩
    · rw [if_neg c] at h; exact h.elim
  · split at h
    · rename_i ds hq
      obtain ⟨a, vs, rfl, hs', hr⟩ := seq_rp R r1 hq
      have hs' := ifT hs'
      by_cases c : HT.sIx vs.length 0 lo = 0 ∧ HT.sIx vs.length vs.length hi = vs.length
      · by_cases cz : (cutD ds lo hi).length = ds.length
        · rw [if_pos cz] at h; exact h.elim
        · exfalso
          apply cz
          rw [(cut_rp hr lo hi).len, cut_all c, hr.len]
      · by_cases cz : (cutD ds lo hi).length = ds.length
        · rw [if_pos cz] at h; exact h.elim
        · rw [if_neg cz] at h
          exact sl_tup pins s σ H _ v vl vu lo hi sl Q I rx hs pl pu ⟨a, vs, rfl, by rw [hK]; exact hs', c, fun p hp => tup_new R h (cut_rp hr lo hi) hp⟩
    · rename_i ds hq
      obtain ⟨a, vs, rfl, hs', hr⟩ := seq_rp R r1 hq
      have hs' := ifF hs'
      exact sl_list pins s σ H _ v vl vu lo hi sl Q I rx hs pl pu ⟨a, vs, rfl, by rw [hK]; exact hs', fun p hp => lis_new R h (cut_rp hr lo hi) hp⟩
    · exact h.elim
/-- a part of a slice, perhaps none -/
def optA (G : Gb) (Wx : WX) (oA : Option (AX W)) : TO := match oA with
  | none => tNoPart
  | some A => tPart (tK G Wx A)
theorem po_im {e : Option Expr} {oA : Option (AX W)} {Wx : WX} (h : match e, oA with | none, none => True | some e, some A => PE X e (tK G Wx A) | _, _ => False) : PO X e (optA G Wx oA) := by
  cases e with
  | none =>
    cases oA with
    | none => exact po_none
    | some A => exact h.elim
  | some e =>
    cases oA with
    | none => exact h.elim
    | some A => exact po_some h

/-! ### isinstance -/
def Ty.name : Ty → String
  | .int => "int" | .str => "str" | .bool => "bool" | .tuple => "tuple" | .list => "list"
theorem kNon : ∀ ty : Ty, kitB "NoneType" ty.name = some false := by intro ty; cases ty <;> decide +kernel
theorem kBool : ∀ ty : Ty, kitB "bool" ty.name = some (match ty with | .int => true | .bool => true | _ => false) := by intro ty; cases ty <;> decide +kernel
theorem kInt : ∀ ty : Ty, kitB "int" ty.name = some (match ty with | .int => true | _ => false) := by intro ty; cases ty <;> decide +kernel
theorem kStr : ∀ ty : Ty, kitB "str" ty.name = some (match ty with | .str => true | _ => false) := by intro ty; cases ty <;> decide +kernel
theorem kTup : ∀ ty : Ty, kitB "tuple" ty.name = some (match ty with | .tuple => true | _ => false) := by intro ty; cases ty <;> decide +kernel
theorem kLis : ∀ ty : Ty, kitB "list" ty.name = some (match ty with | .list => true | _ => false) := by intro ty; cases ty <;> decide +kernel
theorem kDic : ∀ ty : Ty, kitB "dict" ty.name = some false := by intro ty; cases ty <;> decide +kernel
theorem ty_of {φ : List Addr} {H : Hp} {S : Store} {w : W} {x : V} (R : Rel G φ H S) (r : RpW G φ H w x) (hp : w.plain S = true) : ∃ t, TyX G.K H x (.type t) ∧ ∀ ty : Ty, kitB t ty.name = some (Ty.of S w ty) := by
  cases w with
  | lis ds =>
    obtain ⟨a, vs, rfl, h1, _, _⟩ := r
    exact ⟨"list", .base (.lst h1), fun ty => (kLis ty).trans (by cases ty <;> rfl)⟩
  | val d =>
    cases d with
    | non => unfold RpW Rp at r; subst r; exact ⟨_, .base .non, fun ty => (kNon ty).trans (by cases ty <;> rfl)⟩
    | bl b => unfold RpW Rp at r; subst r; exact ⟨_, .base (.bl b), fun ty => (kBool ty).trans (by cases ty <;> rfl)⟩
    | int b => unfold RpW Rp at r; subst r; exact ⟨_, .base (.int b), fun ty => (kInt ty).trans (by cases ty <;> rfl)⟩
    | str b => unfold RpW Rp at r; subst r; exact ⟨_, .base (.str b), fun ty => (kStr ty).trans (by cases ty <;> rfl)⟩
    | tup ds =>
      unfold RpW Rp at r
      obtain ⟨a, vs, rfl, ha, _⟩ := r
      exact ⟨_, .base (.tup ha), fun ty => (kTup ty).trans (by cases ty <;> rfl)⟩
    | kt ds =>
      unfold RpW Rp at r
      obtain ⟨a, vs, rfl, ⟨o, its, n, h1, h2, _⟩, _⟩ := r
      exact ⟨_, .kTuple h1 h2, fun ty => (kTup ty).trans (by cases ty <;> rfl)⟩
    | ls ds =>
      unfold RpW Rp at r
      obtain ⟨a, vs, rfl, ha, _⟩ := r
      rcases ha with ⟨o, ha⟩ | ⟨o, its, n, h1, h2, _⟩
      · exact ⟨_, .base (.frz ha), fun ty => (kLis ty).trans (by cases ty <;> rfl)⟩
      · exact ⟨_, .kList h1 h2, fun ty => (kLis ty).trans (by cases ty <;> rfl)⟩
    | ref n =>
      unfold RpW Rp at r
      obtain ⟨a, rfl, ha⟩ := r
      unfold W.plain at hp
      cases hs : S[n]? with
      | none => simp only [hs] at hp; cases hp
      | some o =>
        have hT : ∀ ty, Ty.of S (.val (.ref n)) ty = match ty, o with | .list, .lst _ => true | _, _ => false := by
          intro ty
          cases ty <;> simp only [Ty.of, hs] <;> cases o <;> rfl
        cases o with
        | lst ds =>
          obtain ⟨vs, h1, _⟩ := R.obj n a _ ha hs
          exact ⟨_, .base (.lst h1), fun ty => (kLis ty).trans (by rw [hT]; cases ty <;> rfl)⟩
        | dk ds =>
          obtain ⟨vs, h1, _⟩ := R.obj n a _ ha hs
          exact ⟨_, .base (.dK h1), fun ty => (kDic ty).trans (by rw [hT]; cases ty <;> rfl)⟩
        | dt ds =>
          obtain ⟨vs, h1, _⟩ := R.obj n a _ ha hs
          exact ⟨_, .base (.dT h1), fun ty => (kDic ty).trans (by rw [hT]; cases ty <;> rfl)⟩
        | ins c fs => simp only [hs] at hp; cases hp
theorem kit_any {K : PySem.W.Frag} {t : String} {f : Ty → Bool} (h : ∀ ty : Ty, kitB t ty.name = some (f ty)) : ∀ ts : List Ty, PySem.W.kitAny K (.type t) (ts.map fun ty => Value.type ty.name) = some (ts.any f)
  | [] => kitAny_nil
  | ty :: ts => by
    rw [List.map_cons, List.any_cons]
    refine kitAny_cons (kit_ty (h ty)) (fun hb => ?_) fun hb => ?_
    · rw [hb, Bool.false_or]; exact kit_any h ts
    · rw [hb]; rfl

/-! ### built-in calls of one argument -/
def rC1 (G : Gb) (o : P1) : List V → Hp → VK → Prop := fun vs H Q => ∃ v, vs = [v] ∧ rP1 G (p1 o) v H Q
theorem c_len (hK : X.K = G.K) : CallR X (.builtin "len") (rC1 G .len) := by
  intro pins s σ H xs us Q I r h
  obtain ⟨v, rfl, φ, w1, S, xk, R, r1, h⟩ := h
  unfold p1 at h
  dsimp only at h
  split at h
  · rename_i x
    by_cases c : x.length ≤ sizeLine
    · rw [if_pos c] at h
      have e := rp_str r1
      subst e
      exact call_len pins s σ H _ us Q I r ⟨_, x.length, rfl, ⟨c, rfl⟩, vv_ok R h rp_in⟩
    · rw [if_neg c] at h; exact h.elim
  · split at h
    · rename_i b ds hq
      obtain ⟨a, vs, rfl, hs, hr⟩ := seq_rp R r1 hq
      refine call_len_seq pins s σ H _ us Q I r ⟨a, vs, rfl, by rw [hK]; exact seq_or hs, ?_⟩
      rw [← hr.len]
      exact vv_ok R h rp_in
    · exact h.elim
theorem c_int : CallR X (.type "int") (rC1 G .int_) := by
  intro pins s σ H xs us Q I r h
  obtain ⟨v, rfl, φ, w1, S, xk, R, r1, h⟩ := h
  unfold p1 at h
  dsimp only at h
  split at h
  · have e := rp_int r1
    subst e
    exact call_int1 pins s σ H _ us Q I r (.inl ⟨_, rfl, vv_ok R h rp_in⟩)
  · rename_i b
    have e : v = .bl b := by unfold RpW Rp at r1; exact r1
    subst e
    exact call_int1 pins s σ H _ us Q I r (.inr ⟨_, rfl, vv_ok R h rp_in⟩)
  · rename_i z
    split at h
    · rename_i k hk
      by_cases c : z.length ≤ 640
      · rw [if_pos c] at h
        have e := rp_str r1
        subst e
        exact call_int_str pins s σ H _ us Q I r ⟨z, k, rfl, hk, c, vv_ok R h rp_in⟩
      · rw [if_neg c] at h; exact h.elim
    · exact h.elim
  · exact h.elim
theorem bls_v {φ : List Addr} {H : Hp} : ∀ {ds : List D} {bs : List Bool} {vs : List V}, blsOf ds = some bs → Rps G φ H ds vs → vs = bs.map V.bl
  | [], ys, vs, h, r => by unfold blsOf at h; cases h; unfold Rps at r; exact r
  | d :: ds, ys, vs, h, r => by
    unfold blsOf at h
    cases d with
    | bl x =>
      dsimp only at h
      obtain ⟨zs, hz, rfl⟩ := Option.map_eq_some_iff.mp h
      unfold Rps at r
      obtain ⟨v, t, rfl, r1, r2⟩ := r
      unfold Rp at r1
      rw [r1, bls_v hz r2]
      rfl
    | _ => cases h
theorem c_all (hK : X.K = G.K) (hc : X.calm = true) : CallR X (.builtin "all") (rC1 G .all_) := by
  intro pins s σ H xs us Q I r h
  obtain ⟨v, rfl, φ, w1, S, xk, R, r1, h⟩ := h
  unfold p1 at h
  dsimp only at h
  split at h
  · rename_i ds hq
    split at h
    · rename_i bs hb
      obtain ⟨a, vs, rfl, hs, hr⟩ := seq_rp R r1 hq
      have e := bls_v hb hr
      subst e
      exact cr_all hc pins s σ H _ us Q I r ⟨a, bs, rfl, by rw [hK]; exact hs, vv_ok R h rp_bl⟩
    · exact h.elim
  · exact h.elim
def rC2 (G : Gb) (o : P2) : List V → Hp → VK → Prop := fun vs H Q => ∃ u v, vs = [u, v] ∧ rP2 G (p2 o) u v H Q
theorem c_max (hc : X.calm = true) : CallR X (.builtin "max") (rC2 G .max_) := by
  intro pins s σ H xs us Q I r h
  obtain ⟨u, v, rfl, φ, w1, w2, S, xk, R, r1, r2, h⟩ := h
  unfold p2 at h
  dsimp only at h
  split at h
  · rename_i i j
    have e := rp_int r1
    subst e
    have e := rp_int r2
    subst e
    exact call_max2 hc pins s σ H _ us Q I r ⟨i, j, rfl, vv_ok R h rp_in⟩
  · exact h.elim
theorem c_min (hc : X.calm = true) : CallR X (.builtin "min") (rC2 G .min_) := by
  intro pins s σ H xs us Q I r h
  obtain ⟨u, v, rfl, φ, w1, w2, S, xk, R, r1, r2, h⟩ := h
  unfold p2 at h
  dsimp only at h
  split at h
  · rename_i i j
    have e := rp_int r1
    subst e
    have e := rp_int r2
    subst e
    exact call_min2 hc pins s σ H _ us Q I r ⟨i, j, rfl, vv_ok R h rp_in⟩
  · exact h.elim
theorem c_ord : CallR X (.builtin "ord") (rC1 G .ord) := by
  intro pins s σ H xs us Q I r h
  obtain ⟨v, rfl, φ, w1, S, xk, R, r1, h⟩ := h
  unfold p1 at h
  dsimp only at h
  split at h
  · rename_i x
    by_cases c : x.length = 1
    · rw [if_pos c] at h
      have e := rp_str r1
      subst e
      exact call_ord pins s σ H _ us Q I r ⟨x, rfl, c, vv_ok R h rp_in⟩
    · rw [if_neg c] at h; exact h.elim
  · exact h.elim
theorem c_str : CallR X (.type "str") (rC1 G .str_) := by
  intro pins s σ H xs us Q I r h
  obtain ⟨v, rfl, φ, w1, S, xk, R, r1, h⟩ := h
  unfold p1 at h
  dsimp only at h
  split at h
  · rename_i i
    by_cases c : i.natAbs.log2 < 1920
    · rw [if_pos c] at h
      have e := rp_int r1
      subst e
      exact call_str_int pins s σ H _ us Q I r ⟨i, rfl, c, vv_ok R h rp_st⟩
    · rw [if_neg c] at h; exact h.elim
  · exact h.elim
theorem c_tuple (hK : X.K = G.K) : CallR X (.type "tuple") (rC1 G .tuple_) := by
  intro pins s σ H xs us Q I r h
  obtain ⟨v, rfl, φ, w1, S, xk, R, r1, h⟩ := h
  unfold p1 at h
  dsimp only at h
  split at h
  · rename_i b ds hq
    obtain ⟨a, vs, rfl, hs, hr⟩ := seq_rp R r1 hq
    cases b with
    | false =>
      have h : Post G (RlW G) φ H (vv (.tup ds) S) xk Q := by
        cases w1 with
        | lis es => exact h
        | val d =>
          cases d with
          | kt es => cases hq
          | _ => exact h
      exact call_tuple_of pins s σ H _ us Q I r ⟨a, vs, rfl, .inl ⟨by rw [hK]; exact ifF hs, fun p hp => tup_new R h hr hp⟩⟩
    | true =>
      refine call_tuple_of pins s σ H _ us Q I r ⟨a, vs, rfl, .inr ⟨by rw [hK]; exact ifT hs, ?_⟩⟩
      cases w1 with
      | lis es => cases hq
      | val d =>
        cases d with
        | tup es => cases hq; exact Post.ok (L := RlW G) h (Ext.refl _ _) R ⟨r1, fun _ _ e => nomatch e⟩
        | kt es => exact h.elim
        | ref n =>
          unfold W.seq at hq
          dsimp only at hq
          split at hq <;> cases hq
        | _ => cases hq
  · exact h.elim
theorem c_list (hK : X.K = G.K) : CallR X (.type "list") (rC1 G .list_) := by
  intro pins s σ H xs us Q I r h
  obtain ⟨v, rfl, φ, w1, S, xk, R, r1, h⟩ := h
  unfold p1 at h
  dsimp only at h
  split at h
  · rename_i b ds hq
    obtain ⟨a, vs, rfl, hs, hr⟩ := seq_rp R r1 hq
    exact call_list_of pins s σ H _ us Q I r ⟨a, vs, rfl, by rw [hK]; exact seq_or hs, fun p hp => lis_new R h hr hp⟩
  · exact h.elim

/-! ### methods -/
theorem m_pop : MtR X "list.pop" (fun x xs H Q => xs = [] ∧ rP1 G (p1 .pop) x H Q) := by
  intro pins s σ H x xs v us Q I rx rs h
  obtain ⟨rfl, φ, w1, S, xk, R, r1, h⟩ := h
  unfold p1 at h
  dsimp only at h
  split at h
  · rename_i n
    split at h
    · rename_i ds hs
      split at h
      · rename_i d hd
        unfold RpW Rp at r1
        obtain ⟨a, rfl, ha⟩ := r1
        obtain ⟨vs, h1, h2⟩ := R.obj n a _ ha hs
        have hg : ds[ds.length - 1]? = some d := by rw [← List.getLast?_eq_getElem?]; exact hd
        obtain ⟨y, hy, ry⟩ := h2.get hg
        rw [h2.len] at hy
        have k := keep_write (u := .lst vs.dropLast) R ha
        refine mt_pop pins s σ H _ [] v us Q I rx rs ⟨a, vs, y, rfl, rfl, h1, hy, ?_⟩
        exact Post.ok (L := RlW G) h (Ext.write R ha) (R.write ha ⟨_, upd_same, Rps.mono k _ _ h2.dropLast⟩) (rl_val (Rp.mono k _ _ ry))
      · exact h.elim
    · exact h.elim
  · exact h.elim
/-- a method of one argument, at the start (φ0, H0) -/
def rM1 (G : Gb) (o : P2) : V → List V → Hp → VK → Prop := fun x xs H Q => ∃ y φ0 H0 φ w1 w2 S xk, xs = [y] ∧ Ext φ0 H0 φ H ∧ Rel G φ H S ∧ RpW G φ H w1 x ∧ RlW G H0 φ H w2 y ∧ Post G (RlW G) φ0 H0 (p2 o w1 w2 S) xk Q
theorem m_append : MtR X "list.append" (rM1 G .append) := by
  intro pins s σ H x xs v us Q I rx rs h
  obtain ⟨y, φ0, H0, φ, w1, w2, S, xk, rfl, E, R, r1, r2, h⟩ := h
  unfold p2 at h
  dsimp only at h
  -- the argument's place
  have key : ∃ d φ1 S1, toD w2 S = .ok d S1 ∧ Ext φ0 H0 φ1 H ∧ Rel G φ1 H S1 ∧ Rp G φ1 H d y ∧ (∀ (n : Nat) (a : Addr), φ[n]? = some a → φ1[n]? = some a) := by
    cases w2 with
    | val d => exact ⟨d, φ, S, rfl, E, R, r2.1, fun _ _ h => h⟩
    | lis ds =>
      obtain ⟨⟨p, vs, rfl, hp, n, r⟩, f⟩ := r2
      have f := f ds p rfl rfl
      refine ⟨_, φ ++ [p], S ++ [.lst ds], rfl, ⟨E.pre.trans (List.prefix_append _ _), E.keep, fun z hz => ?_⟩, R.more (o := .lst ds) n ⟨vs, hp, r⟩, ?_, fun m a hm => ?_⟩
      · rcases List.mem_append.mp hz with q | q
        · exact E.new z q
        · simp at q; subst q; exact .inr f
      · unfold Rp
        exact ⟨p, rfl, by rw [← R.len]; simp⟩
      · rw [List.getElem?_append_left (List.getElem?_eq_some_iff.mp hm).1]; exact hm
  obtain ⟨d, φ1, S1, ht, E1, R1, rd, hk⟩ := key
  rw [ht] at h
  simp only [Mi.R.bd] at h
  cases w1 with
  | lis ds => exact h.elim
  | val d1 =>
    cases d1 with
    | ref n =>
      unfold RpW Rp at r1
      obtain ⟨a, rfl, ha⟩ := r1
      have ha1 := hk _ _ ha
      have h : Post G (RlW G) φ0 H0 (match S1[n]? with
        | some (.lst ds) => if ds.length < sizeLine then vv .non (S1.set n (.lst (ds ++ [d]))) else .bad
        | _ => .bad) xk Q := h
      cases hs : S1[n]? with
      | none => rw [hs] at h; exact h.elim
      | some o =>
        cases o with
        | lst ds =>
          rw [hs] at h
          have h : Post G (RlW G) φ0 H0 (if ds.length < sizeLine then vv .non (S1.set n (.lst (ds ++ [d]))) else .bad) xk Q := h
          by_cases c : ds.length < sizeLine
          · rw [if_pos c] at h
            obtain ⟨vs, h1, h2⟩ := R1.obj n a _ ha1 hs
            have k := keep_write (u := .lst (vs ++ [y])) R1 ha1
            refine mt_append pins s σ H _ [y] v us Q I rx rs ⟨a, vs, y, rfl, rfl, h1, by rw [← h2.len]; exact c, ?_⟩
            exact Post.ok (L := RlW G) h (E1.trans (Ext.write R1 ha1)) (R1.write ha1 ⟨_, upd_same, Rps.mono k _ _ (h2.snoc rd)⟩) (rl_val rp_no)
          · rw [if_neg c] at h; exact h.elim
        | _ => rw [hs] at h; exact h.elim
    | _ => exact h.elim
theorem rl_sh {φ φ0 : List Addr} {H H0 : Hp} {S : Store} {r : Mi.R W} {xk : XK} {Q : VK} (h : Post G (RlW G) φ0 H0 r xk Q) (E : Ext φ0 H0 φ H) (R : Rel G φ H S) : Post G (RlW G) φ H r xk Q := h.sh E R mnW
theorem m_extend : MtR X "list.extend" (rM1 G .extend) := by
  intro pins s σ H x xs v us Q I rx rs h
  obtain ⟨y, φ0, H0, φ, w1, w2, S, xk, rfl, E, R, r1, r2, h⟩ := h
  replace h := rl_sh h E R
  unfold p2 at h
  dsimp only at h
  split at h
  · rename_i n
    split at h
    · rename_i ds hs
      split at h
      · rename_i b es hq
        by_cases c : (isLst S w2 && decide (ds.length + es.length ≤ sizeLine)) = true
        · rw [if_pos c] at h
          obtain ⟨c1, c2⟩ := Bool.and_eq_true_iff.mp c
          have c2 := of_decide_eq_true c2
          unfold RpW Rp at r1
          obtain ⟨a, rfl, ha⟩ := r1
          obtain ⟨vs, h1, h2⟩ := R.obj n a _ ha hs
          obtain ⟨b, ws, rfl, hb, hr⟩ := lst_rp R r2.1 hq c1
          have k := keep_write (u := .lst (vs ++ ws)) R ha
          refine mt_extend pins s σ H _ [.ref b] v us Q I rx rs ⟨a, b, vs, ws, rfl, rfl, h1, hb, by rw [← h2.len, ← hr.len]; exact c2, ?_⟩
          exact Post.ok (L := RlW G) h (Ext.write R ha) (R.write ha ⟨_, upd_same, Rps.mono k _ _ (h2.app hr)⟩) (rl_val rp_no)
        · rw [if_neg c] at h; exact h.elim
      · exact h.elim
    · exact h.elim
  · exact h.elim
theorem strs_v {φ : List Addr} {H : Hp} : ∀ {ds : List D} {ys : List Str} {vs : List V}, strsOf ds = some ys → Rps G φ H ds vs → vs = ys.map V.str
  | [], ys, vs, h, r => by unfold strsOf at h; cases h; unfold Rps at r; exact r
  | d :: ds, ys, vs, h, r => by
    unfold strsOf at h
    cases d with
    | str x =>
      dsimp only at h
      obtain ⟨zs, hz, rfl⟩ := Option.map_eq_some_iff.mp h
      unfold Rps at r
      obtain ⟨v, t, rfl, r1, r2⟩ := r
      unfold Rp at r1
      rw [r1, strs_v hz r2]
      rfl
    | _ => cases h
theorem m_join (hK : X.K = G.K) : MtR X "str.join" (rM1 G .join) := by
  intro pins s σ H x xs v us Q I rx rs h
  obtain ⟨y, φ0, H0, φ, w1, w2, S, xk, rfl, E, R, r1, r2, h⟩ := h
  replace h := rl_sh h E R
  unfold p2 at h
  dsimp only at h
  split at h
  · rename_i a
    split at h
    · rename_i b ds hq
      split at h
      · rename_i ys hys
        by_cases c : joinFits a ys = true
        · rw [if_pos c] at h
          obtain ⟨p, vs, rfl, hs, hr⟩ := seq_rp R r2.1 hq
          have e := strs_v hys hr
          subst e
          have e := rp_str r1
          subst e
          exact mt_join pins s σ H _ _ v us Q I rx rs ⟨a, p, ys, rfl, rfl, by rw [hK]; exact seq_or hs, of_decide_eq_true c, vv_ok R h rp_st⟩
        · rw [if_neg c] at h; exact h.elim
      · exact h.elim
    · exact h.elim
  · exact h.elim
theorem strs_rp {φ : List Addr} {H : Hp} : ∀ ys : List Str, Rps G φ H (ys.map D.str) (ys.map V.str)
  | [] => by show Rps G φ H [] []; unfold Rps; rfl
  | y :: ys => by
    rw [List.map_cons, List.map_cons]
    unfold Rps
    exact ⟨_, _, rfl, rp_st, strs_rp ys⟩
theorem m_split : MtR X "str.split" (rM1 G .split) := by
  intro pins s σ H x xs v us Q I rx rs h
  obtain ⟨y, φ0, H0, φ, w1, w2, S, xk, rfl, E, R, r1, r2, h⟩ := h
  replace h := rl_sh h E R
  unfold p2 at h
  dsimp only at h
  split at h
  · rename_i a b
    by_cases c : (b.length == 0) = false ∧ a.length + 2 ≤ sizeLine
    · rw [if_pos c] at h
      have e := rp_str r1
      subst e
      have e := rp_str r2.1
      subst e
      exact mt_split pins s σ H _ _ v us Q I rx rs ⟨a, b, rfl, rfl, c.1, c.2, fun p hp => lis_new R h (strs_rp _) hp⟩
    · rw [if_neg c] at h; exact h.elim
  · exact h.elim
end
end Mi

set_option maxHeartbeats 1000000
/-! Mi, part L: list(zip(a, b)) of two lists or two tuples. -/
namespace Mi.Z
open PySem PySem.Spec PyProof.Rows L2 PySem.W PySem.Calls

theorem zip_no_len : typeLookup (.type "zip") "__len__" = pure none := by rw [typeLookup_type, builtinLookup_eq_fast]; kernel_rfl
theorem zip_no_hint : typeLookup (.type "zip") "__length_hint__" = pure none := by rw [typeLookup_type, builtinLookup_eq_fast]; kernel_rfl

/-- how an iterator of a kind is turned -/
structure IterK (prog : Program) (w : World) (It : Heap → Addr → Addr → Nat → Prop) (Sq : Heap → Addr → Array Value → Prop) : Prop where
  keepI : ∀ {h h' : Heap} {it l : Addr} {k : Nat}, It h it l k → (∀ o, h.get? it = some o → h'.get? it = some o) → It h' it l k
  keepS : ∀ {h h' : Heap} {l : Addr} {xs : Array Value}, Sq h l xs → (∀ o, h.get? l = some o → h'.get? l = some o) → Sq h' l xs
  there : ∀ {h : Heap} {it l : Addr} {k : Nat}, It h it l k → it < h.objs.size
  item : ∀ {A : Around} {E : Value → Shared → Prop} {s : Shared} {it l : Addr} {i : Nat} {items : Array Value} {x : Value} {Q : Value → Shared → Prop}, It s.heap it l i → Sq s.heap l items → items[i]? = some x →
    (∀ h', It h' it l (i + 1) → Heap.SameBut it s.heap h' → Q x { s with heap := h' }) → wpAny (model prog w) A (Builtin.SmallTypes.nextOf (.ref it)) Q E s
  stop : ∀ {A : Around} {E : Value → Shared → Prop} {s : Shared} {it l : Addr} {i : Nat} {items : Array Value} {Q : Value → Shared → Prop}, A.handled = none → It s.heap it l i → Sq s.heap l items → items[i]? = none →
    (∀ h' e, Heap.ExtBut it s.heap h' → (∃ o, h'.get? e = some o ∧ o.cls = .type "StopIteration") → E (.ref e) { s with heap := h' }) → wpAny (model prog w) A (Builtin.SmallTypes.nextOf (.ref it)) Q E s
theorem iterL {prog : Program} {w : World} : IterK prog w Heap.IsListIter Heap.IsList where
  keepI := fun h k => h.at k
  keepS := fun h k => h.at k
  there := fun ⟨_, h, _⟩ => Heap.lt_size h
  item := fun h1 h2 h3 h4 => wpAny_nextOf_list_item h1 h2 h3 h4
  stop := fun h0 h1 h2 h3 h4 => wpAny_nextOf_list_end h0 h1 h2 h3 h4
theorem iterT {prog : Program} {w : World} : IterK prog w Heap.IsTupleIter Heap.IsTuple where
  keepI := fun h k => h.at k
  keepS := fun h k => h.at k
  there := fun ⟨_, h, _⟩ => Heap.lt_size h
  item := fun h1 h2 h3 h4 => RZ.nextOf_tuple_item h1 h2 h3 h4
  stop := fun h0 h1 h2 h3 h4 => RZ.nextOf_tuple_end h0 h1 h2 h3 h4

section
variable {prog : Program} {w : World} {A : Around} {E : Value → Shared → Prop} {s : Shared} {It : Heap → Addr → Addr → Nat → Prop} {Sq : Heap → Addr → Array Value → Prop}
theorem next_held (KK : IterK prog w It Sq) {z TI TO T i1 i2 l1 l2 : Addr} {f : Bool} {oT : Obj} {k1 k2 : Nat} {xs ys : Array Value} {x y : Value} {Q : Value → Shared → Prop} (D : ZipApart z TI TO i1 i2 l1 l2)
    (hz : IsZipHeld s.heap z TI TO T f) (hT : s.heap.get? T = some oT) (hTI : IsPair s.heap TI (.ref i1) (.ref i2))
    (h1 : It s.heap i1 l1 k1) (h2 : It s.heap i2 l2 k2) (hl1 : Sq s.heap l1 xs) (hl2 : Sq s.heap l2 ys) (hx : xs[k1]? = some x) (hy : ys[k2]? = some y)
    (hQ : ∀ h', IsZipHeld h' z TI TO T true → It h' i1 l1 (k1 + 1) → It h' i2 l2 (k2 + 1) → IsPair h' s.heap.objs.size x y → h'.objs.size = s.heap.objs.size + 1 →
      (∀ c o, c ≠ z → c ≠ i1 → c ≠ i2 → s.heap.get? c = some o → h'.get? c = some o) → Q (.ref s.heap.objs.size) { s with heap := h' }) :
    wpAny (model prog w) A (Builtin.«zip.__next__» ⟨[.ref z], []⟩) (fun fin s' => ∃ v, fin = .done (.ret v) ∧ Q v s') E s := by
  show wpAny _ _ (field (.ref z) 2 >>= _) _ _ _
  refine wpAny_bind (wpAny_field hz rfl (x := .bool false) rfl ?_)
  show wpAny _ _ (field (.ref z) 3 >>= _) _ _ _
  refine wpAny_bind (wpAny_field hz rfl (x := .ref TI) rfl ?_)
  refine wpAny_bind (wpAny_seqItems hTI rfl ?_)
  show wpAny _ _ (Builtin.SmallTypes.ownedTupleIsFree (.ref z) >>= _) _ _ _
  refine wpAny_bind (wpAny_tupleHeld_zip hz hT fun h₁ hz₁ hs₁ => ?_)
  simp only [Bool.false_eq_true, if_false]
  refine wpAny_bind ?_
  rw [← Array.forIn_toList]
  simp only [List.forIn_cons, List.forIn_nil]
  refine wpAny_bind (wpAny_bind (wpAny_holding ?_))
  show wpAny _ _ (Builtin.SmallTypes.nextOf (.ref i1) >>= _) _ _ _
  refine wpAny_bind (KK.item (s := { s with heap := h₁ }) (KK.keepI h1 fun o e => hs₁.extBut _ _ D.i1z e) (KK.keepS hl1 fun o e => hs₁.extBut _ _ D.l1z e) hx fun h₂ h1₂ hs₂ => wpAny_pure ?_)
  refine wpAny_pure ?_
  refine wpAny_bind (wpAny_bind (wpAny_holding ?_))
  show wpAny _ _ (Builtin.SmallTypes.nextOf (.ref i2) >>= _) _ _ _
  refine wpAny_bind (KK.item (s := { s with heap := h₂ }) (KK.keepI h2 fun o e => hs₂.extBut _ _ D.i12.symm (hs₁.extBut _ _ D.i2z e)) (KK.keepS hl2 fun o e => hs₂.extBut _ _ D.l2i1 (hs₁.extBut _ _ D.l2z e)) hy fun h₃ h2₃ hs₃ => wpAny_pure ?_)
  refine wpAny_pure (wpAny_pure ?_)
  show wpAny _ _ (newTuple [x, y] >>= _) _ _ _
  refine wpAny_bind (wpAny_newTuple ?_)
  have hsz : h₃.objs.size = s.heap.objs.size := by rw [hs₃.1, hs₂.1, hs₁.1]
  have hz₃ : IsZipHeld h₃ z TI TO T true := hs₃.extBut _ _ D.i2z.symm (hs₂.extBut _ _ D.i1z.symm hz₁)
  have hk : ∀ c o, c ≠ z → c ≠ i1 → c ≠ i2 → s.heap.get? c = some o → h₃.get? c = some o := fun c o c1 c2 c3 e => hs₃.extBut _ _ c3 (hs₂.extBut _ _ c2 (hs₁.extBut _ _ c1 e))
  have h1₃ : It h₃ i1 l1 (k1 + 1) := KK.keepI h1₂ fun o e => hs₃.extBut _ _ D.i12 e
  refine wpAny_pure ⟨_, rfl, ?_⟩
  show Q (.ref h₃.objs.size) _
  have hp : IsPair (h₃.push { cls := .type "tuple", data := .seq #[x, y] }) h₃.objs.size x y := Heap.get?_push_size _ rfl
  have hz4 : (h₃.push { cls := .type "tuple", data := .seq #[x, y] }).objs.size = h₃.objs.size + 1 := Heap.size_push ..
  rw [hsz] at hp hz4 ⊢
  exact hQ _ (Heap.get?_push_of_some _ hz₃) (KK.keepI h1₃ fun o e => Heap.get?_push_of_some _ e) (KK.keepI h2₃ fun o e => Heap.get?_push_of_some _ e) hp hz4 fun c o c1 c2 c3 e => Heap.get?_push_of_some _ (hk c o c1 c2 c3 e)
theorem stop_held (KK : IterK prog w It Sq) {z TI TO T i1 i2 l1 l2 : Addr} {f : Bool} {oT : Obj} {k1 k2 : Nat} {xs ys : Array Value} {Q : PySem.Fin → Shared → Prop} (hh : A.handled = none) (D : ZipApart z TI TO i1 i2 l1 l2)
    (hz : IsZipHeld s.heap z TI TO T f) (hT : s.heap.get? T = some oT) (hTI : IsPair s.heap TI (.ref i1) (.ref i2))
    (h1 : It s.heap i1 l1 k1) (h2 : It s.heap i2 l2 k2) (hl1 : Sq s.heap l1 xs) (hl2 : Sq s.heap l2 ys) (hend : xs[k1]? = none ∨ ys[k2]? = none)
    (hE : ∀ h' e, (∀ c o, c ≠ z → c ≠ i1 → c ≠ i2 → s.heap.get? c = some o → h'.get? c = some o) → (∃ o, h'.get? e = some o ∧ o.cls = .type "StopIteration") → E (.ref e) { s with heap := h' }) :
    wpAny (model prog w) A (Builtin.«zip.__next__» ⟨[.ref z], []⟩) Q E s := by
  show wpAny _ _ (field (.ref z) 2 >>= _) _ _ _
  refine wpAny_bind (wpAny_field hz rfl (x := .bool false) rfl ?_)
  show wpAny _ _ (field (.ref z) 3 >>= _) _ _ _
  refine wpAny_bind (wpAny_field hz rfl (x := .ref TI) rfl ?_)
  refine wpAny_bind (wpAny_seqItems hTI rfl ?_)
  show wpAny _ _ (Builtin.SmallTypes.ownedTupleIsFree (.ref z) >>= _) _ _ _
  refine wpAny_bind (wpAny_tupleHeld_zip hz hT fun h₁ hz₁ hs₁ => ?_)
  simp only [Bool.false_eq_true, if_false]
  refine wpAny_bind ?_
  rw [← Array.forIn_toList]
  simp only [List.forIn_cons, List.forIn_nil]
  refine wpAny_bind (wpAny_bind (wpAny_holding ?_))
  show wpAny _ _ (Builtin.SmallTypes.nextOf (.ref i1) >>= _) _ _ _
  cases hx : xs[k1]? with
  | none =>
    refine wpAny_bind (KK.stop (s := { s with heap := h₁ }) hh (KK.keepI h1 fun o e => hs₁.extBut _ _ D.i1z e) (KK.keepS hl1 fun o e => hs₁.extBut _ _ D.l1z e) hx fun h₂ e hs₂ he => ?_)
    exact hE h₂ e (fun c o c1 c2 _ x => hs₂ _ _ c2 (hs₁.extBut _ _ c1 x)) he
  | some x =>
    have hy : ys[k2]? = none := by rcases hend with h | h; rw [hx] at h; cases h; exact h
    refine wpAny_bind (KK.item (s := { s with heap := h₁ }) (KK.keepI h1 fun o e => hs₁.extBut _ _ D.i1z e) (KK.keepS hl1 fun o e => hs₁.extBut _ _ D.l1z e) hx fun h₂ h1₂ hs₂ => wpAny_pure ?_)
    refine wpAny_pure ?_
    refine wpAny_bind (wpAny_bind (wpAny_holding ?_))
    show wpAny _ _ (Builtin.SmallTypes.nextOf (.ref i2) >>= _) _ _ _
    refine wpAny_bind (KK.stop (s := { s with heap := h₂ }) hh (KK.keepI h2 fun o e => hs₂.extBut _ _ D.i12.symm (hs₁.extBut _ _ D.i2z e)) (KK.keepS hl2 fun o e => hs₂.extBut _ _ D.l2i1 (hs₁.extBut _ _ D.l2z e)) hy fun h₃ e hs₃ he => ?_)
    exact hE h₃ e (fun c o c1 c2 c3 x => hs₃ _ _ c3 (hs₂.extBut _ _ c2 (hs₁.extBut _ _ c1 x))) he
theorem pyNext_held (KK : IterK prog w It Sq) {z TI TO T i1 i2 l1 l2 : Addr} {f : Bool} {oT : Obj} {k1 k2 : Nat} {xs ys : Array Value} {x y : Value} {Q : Option Value → Shared → Prop} (D : ZipApart z TI TO i1 i2 l1 l2)
    (hz : IsZipHeld s.heap z TI TO T f) (hT : s.heap.get? T = some oT) (hTI : IsPair s.heap TI (.ref i1) (.ref i2))
    (h1 : It s.heap i1 l1 k1) (h2 : It s.heap i2 l2 k2) (hl1 : Sq s.heap l1 xs) (hl2 : Sq s.heap l2 ys) (hx : xs[k1]? = some x) (hy : ys[k2]? = some y)
    (hQ : ∀ h', IsZipHeld h' z TI TO T true → It h' i1 l1 (k1 + 1) → It h' i2 l2 (k2 + 1) → IsPair h' s.heap.objs.size x y → h'.objs.size = s.heap.objs.size + 1 →
      (∀ c o, c ≠ z → c ≠ i1 → c ≠ i2 → s.heap.get? c = some o → h'.get? c = some o) → Q (some (.ref s.heap.objs.size)) { s with heap := h' }) :
    wpAny (model prog w) A (pyNext (.ref z)) Q E s := by
  have hTy : s.TypeIs (.ref z) "zip" := ⟨_, hz, rfl⟩
  unfold pyNext
  exact wpAny_bind (wpAny_attempt (wpAny_callSpecial?_slot (name := Str.ofString "__next__") hTy PySem.F.slot_zip_next
    (wpAny_call_entry PySem.F.slot_zip_next hTy PySem.F.entry_zip_next
      (next_held KK D hz hT hTI h1 h2 hl1 hl2 hx hy fun h' a1 a3 a4 a5 a6 a7 => wpAny_pure (hQ h' a1 a3 a4 a5 a6 a7)) (PySem.F.args_zip_next_1 _))))
theorem pyStop_held (KK : IterK prog w It Sq) {z TI TO T i1 i2 l1 l2 : Addr} {f : Bool} {oT : Obj} {k1 k2 : Nat} {xs ys : Array Value} {Q : Option Value → Shared → Prop} (hh : A.handled = none) (D : ZipApart z TI TO i1 i2 l1 l2)
    (hz : IsZipHeld s.heap z TI TO T f) (hT : s.heap.get? T = some oT) (hTI : IsPair s.heap TI (.ref i1) (.ref i2))
    (h1 : It s.heap i1 l1 k1) (h2 : It s.heap i2 l2 k2) (hl1 : Sq s.heap l1 xs) (hl2 : Sq s.heap l2 ys) (hend : xs[k1]? = none ∨ ys[k2]? = none)
    (hQ : ∀ h', (∀ c o, c ≠ z → c ≠ i1 → c ≠ i2 → s.heap.get? c = some o → h'.get? c = some o) → Q none { s with heap := h' }) : wpAny (model prog w) A (pyNext (.ref z)) Q E s := by
  have hTy : s.TypeIs (.ref z) "zip" := ⟨_, hz, rfl⟩
  unfold pyNext
  refine wpAny_bind (wpAny_attempt (wpAny_callSpecial?_slot (name := Str.ofString "__next__") hTy PySem.F.slot_zip_next
    (wpAny_call_entry PySem.F.slot_zip_next hTy PySem.F.entry_zip_next (stop_held KK hh D hz hT hTI h1 h2 hl1 hl2 hend fun h' e hk he => ?_) (PySem.F.args_zip_next_1 _))))
  obtain ⟨o, ho, hc⟩ := he
  refine wpAny_bind (wpAny_isInstance (T := "StopIteration") (b := true) ⟨o, ho, hc⟩ isSubtype_stop ?_)
  exact wpAny_pure (hQ _ hk)
end

/-- a zip whose n items are new pairs, while at S a list is being filled -/
structure ZSrc (prog : Program) (w : World) (A : Around) (z S : Addr) (ch : List Addr) (n : Nat) (P : Nat → Value × Value) (St : Nat → Heap → Prop) : Prop where
  off : S ∉ ch
  low : ∀ b ∈ ch, b < S
  frame : ∀ i h h', St i h → (∀ b o, b ≠ S → h.get? b = some o → h'.get? b = some o) → St i h'
  type : ∀ i (s : Shared), St i s.heap → s.TypeIs (.ref z) "zip"
  self : ∀ i (s : Shared) (Q : Value → Shared → Prop) (E : Value → Shared → Prop), St i s.heap → Q (.ref z) s → wpAny (model prog w) A (pyIter (.ref z)) Q E s
  item : ∀ i (s : Shared) (Q : Option Value → Shared → Prop) (E : Value → Shared → Prop), i < n → St i s.heap → S < s.heap.objs.size →
    (∀ h', St (i + 1) h' → IsPair h' s.heap.objs.size (P i).1 (P i).2 → h'.objs.size = s.heap.objs.size + 1 → (∀ b o, b ∉ ch → s.heap.get? b = some o → h'.get? b = some o) → Q (some (.ref s.heap.objs.size)) { s with heap := h' }) → wpAny (model prog w) A (pyNext (.ref z)) Q E s
  done : ∀ (s : Shared) (Q : Option Value → Shared → Prop) (E : Value → Shared → Prop), St n s.heap →
    (∀ h', (∀ b o, b ∉ ch → s.heap.get? b = some o → h'.get? b = some o) → Q none { s with heap := h' }) → wpAny (model prog w) A (pyNext (.ref z)) Q E s
structure ZG (P : Nat → Value × Value) (lo : Addr) (h : Heap) (as : List Addr) : Prop where
  rise : as.Pairwise (· < ·)
  above : ∀ a ∈ as, lo < a
  pairs : ∀ (j : Nat) (a : Addr), as[j]? = some a → IsPair h a (P j).1 (P j).2
theorem ZG.there {P : Nat → Value × Value} {lo : Addr} {h : Heap} {as : List Addr} (g : ZG P lo h as) {a : Addr} (ha : a ∈ as) : a < h.objs.size := by
  obtain ⟨j, hj⟩ := List.mem_iff_getElem?.mp ha
  exact Heap.lt_size (g.pairs j a hj)
section
variable {prog : Program} {w : World} {A : Around} {s : Shared} {R : Result → Shared → Prop} {n : Nat} {P : Nat → Value × Value} {St : Nat → Heap → Prop} {z S : Addr} {ch : List Addr}
theorem z_loop (Z : ZSrc prog w A.in1 z S ch n P St) (hn : n ≤ sizeLine) (res : Value) {h₁ : Heap}
    (hR : ∀ h' tk acc c as, (∀ b o, b ≠ S → b ∉ ch → h₁.get? b = some o → h'.get? b = some o) → h'.get? S = some { cls := .type "list", dict := none, data := .seq acc c, slots := #[] } → as.length = n → ZG P S h' as →
      acc.toList = as.map Value.ref → R (.ok (.ret res)) { s with heap := h', toks := tk }) :
    ∀ (k i : Nat) (h : Heap) (tk c : Nat) (acc : Array Value) (as : List Addr), n - i = k → i ≤ n → St i h → (∀ b o, b ≠ S → b ∉ ch → h₁.get? b = some o → h.get? b = some o) →
      h.get? S = some { cls := .type "list", dict := none, data := .seq acc c, slots := #[] } → acc.toList = as.map Value.ref → as.length = i → ZG P S h as →
      codeAny (model prog w) A (.builtin "list.extend.loop" ⟨[.ref S, .ref z, res], []⟩) R { s with heap := h, toks := tk } := by
  intro k
  induction k with
  | zero =>
    intro i h tk c acc as hk hi hst hkeep hS hacc hal hG
    have hin : i = n := by omega
    subst hin
    refine codeAny_builtin PySem.F.entry_extend_loop ?_
    rw [Around.under_plainId PySem.F.plain_extend_loop _]
    show wpAny _ A.in1 (pyNext (.ref z) >>= _) _ _ _
    refine wpAny_bind (Z.done { s with heap := h, toks := tk } _ _ hst fun h' he => ?_)
    refine wpAny_pure (hR h' tk acc c as (fun b o h1 h2 e => he b o h2 (hkeep b o h1 h2 e)) (he S _ Z.off hS) hal ⟨hG.rise, hG.above, fun j a hj => ?_⟩ hacc)
    exact he a _ (fun hm => Nat.lt_asymm (hG.above a (List.mem_of_getElem? hj)) (Z.low a hm)) (hG.pairs j a hj)
  | succ k ih =>
    intro i h tk c acc as hk hi hst hkeep hS hacc hal hG
    have hlt : i < n := by omega
    have hsz : acc.size = i := by rw [← Array.length_toList, hacc, List.length_map, hal]
    have hSl : S < h.objs.size := Heap.lt_size hS
    refine codeAny_builtin PySem.F.entry_extend_loop ?_
    rw [Around.under_plainId PySem.F.plain_extend_loop _]
    show wpAny _ A.in1 (pyNext (.ref z) >>= _) _ _ _
    refine wpAny_bind (Z.item i { s with heap := h, toks := tk } _ _ hlt hst hSl fun h' hst' ht hz hkp => ?_)
    dsimp only at ht hz hkp ⊢
    have hS' := hkp S _ Z.off hS
    have up : ∀ b o, b ≠ S → h'.get? b = some o → (h'.update S (Obj.mapSeq (·.push (Value.ref h.objs.size)))).get? b = some o := fun b o hb e => (Heap.get?_update_other _ _ (Ne.symm hb)).trans e
    have nch : ∀ a, S < a → a ∉ ch := fun a ha hm => Nat.lt_asymm ha (Z.low a hm)
    show wpAny _ A.in1 (updateSeq S (·.push (Value.ref h.objs.size)) >>= _) _ _ _
    refine wpAny_bind ?_
    refine wpAny_updateSeq hS' rfl (wpAny_pure ⟨plainId_quiet PySem.F.plain_extend_loop _, ih (i + 1) _ tk _ (acc.push (Value.ref h.objs.size)) (as ++ [h.objs.size]) (by omega) hlt (Z.frame _ _ _ hst' up)
      (fun b o h1 h2 e => up b o h1 (hkp b o h2 (hkeep b o h1 h2 e))) (Heap.get?_update_self _ hS' rfl) (by rw [Array.toList_push, hacc, List.map_append]; rfl) (by rw [List.length_append, hal]; rfl) ⟨?_, ?_, ?_⟩⟩) (by rw [hsz]; omega) (by show (acc.push (Value.ref h.objs.size)).size ≤ sizeLine + 1; rw [Array.size_push, hsz]; omega)
    · refine List.pairwise_append.mpr ⟨hG.rise, List.pairwise_singleton _ _, fun a ha b hb => ?_⟩
      rw [List.mem_singleton.mp hb]
      exact hG.there ha
    · intro a ha
      rcases List.mem_append.mp ha with ha | ha
      · exact hG.above a ha
      · rw [List.mem_singleton.mp ha]; exact hSl
    · intro j b hj
      rcases Nat.lt_trichotomy j as.length with h1 | h1 | h1
      · rw [List.getElem?_append_left h1] at hj
        have hb := hG.above b (List.mem_of_getElem? hj)
        exact up b _ (Nat.ne_of_gt hb) (hkp b _ (nch b hb) (hG.pairs j b hj))
      · subst h1
        have hb : h.objs.size = b := by simpa using hj
        subst hb
        subst hal
        exact up _ _ (Nat.ne_of_gt hSl) ht
      · have hnone : (as ++ [h.objs.size])[j]? = none := List.getElem?_eq_none (by rw [List.length_append, List.length_singleton]; omega)
        rw [hnone] at hj; cases hj
theorem z_extend (Z : ZSrc prog w A.in1 z S ch n P St) (hn : n ≤ sizeLine) (res : Value) (c₀ : Nat) (st : St 0 s.heap) (hSz : S ≠ z) (hS : s.heap.get? S = some { cls := .type "list", data := .seq #[] c₀ })
    (hR : ∀ h' tk acc c as, (∀ b o, b ≠ S → b ∉ ch → s.heap.get? b = some o → h'.get? b = some o) → h'.get? S = some { cls := .type "list", dict := none, data := .seq acc c, slots := #[] } → as.length = n → ZG P S h' as →
      acc.toList = as.map Value.ref → R (.ok (.ret res)) { s with heap := h', toks := tk }) :
    wpAny (model prog w) A.in1 (Builtin.List.listExtendWith (.ref S) (.ref z) res)
      (fun fin s' => match fin with | .done f => R (.ok f) s' | .again c' => c'.quiet = true ∧ codeAny (model prog w) A c' R s') (fun e s' => R (.error e) s') s := by
  unfold Builtin.List.listExtendWith
  refine wpAny_bind (wpAny_typeOf (Z.type 0 s st) ?_)
  have h1 : Builtin.List.listSameRef (.ref S) (.ref z) = false := by simp [Builtin.List.listSameRef, hSz]
  have h2 : (Value.type "zip" == Value.type "list") = false := by decide
  have h3 : (Value.type "zip" == Value.type "tuple") = false := by decide
  simp only [h1, h2, h3, Bool.or_false, Bool.false_eq_true, if_false]
  refine wpAny_bind (Z.self 0 _ _ _ st ?_)
  refine wpAny_bind (wpAny_holding ?_)
  unfold Builtin.List.listLengthHint
  refine wpAny_bind (wpAny_specialOf (Z.type 0 s st) zip_no_len ?_)
  show wpAny _ A.in1 (specialOf (Value.ref z) (Str.ofString "__length_hint__") >>= _) _ _ _
  refine wpAny_bind (wpAny_specialOf (Z.type 0 s st) zip_no_hint ?_)
  refine wpAny_pure ?_
  show wpAny _ A.in1 (rule "list.extend.makes-room" >>= fun _ => Builtin.List.listTouch (.ref S) >>= fun _ =>
    again (.builtin "list.extend.loop" ⟨[.ref S, .ref z, res], []⟩)) _ _ _
  refine wpAny_bind (wpAny_rule ?_)
  refine wpAny_bind ?_
  show wpAny _ A.in1 (updateSeq S (·.push .none) >>= fun _ => updateSeq S (·.pop)) _ _ _
  refine wpAny_bind (wpAny_updateSeq hS rfl ?_)
  have hS₂ := Heap.get?_update_self (Obj.mapSeq (·.push Value.none)) hS rfl
  refine wpAny_updateSeq (hz := by seq_fits) hS₂ rfl ?_
  have hS₃ := Heap.get?_update_self (Obj.mapSeq (·.pop)) hS₂ rfl
  have oth : ∀ b o, b ≠ S → s.heap.get? b = some o → ((s.heap.update S (Obj.mapSeq (·.push Value.none))).update S (Obj.mapSeq (·.pop))).get? b = some o :=
    fun b o hb e => (Heap.get?_update_other _ _ (Ne.symm hb)).trans ((Heap.get?_update_other _ _ (Ne.symm hb)).trans e)
  refine wpAny_pure ⟨plainId_quiet PySem.F.plain_extend_loop _, z_loop (s := s) (h₁ := s.heap) Z hn res hR n 0 _ _ _ #[] [] (Nat.sub_zero _) (Nat.zero_le _) (Z.frame 0 _ _ st oth) (fun b o hb _ e => oth b o hb e) hS₃ rfl rfl
    ⟨List.Pairwise.nil, (fun _ ha => nomatch ha), (fun j a hj => by simp at hj)⟩⟩
theorem z_init (Z : ZSrc prog w A.in1 z S ch n P St) (hn : n ≤ sizeLine) (st : St 0 s.heap) (hSz : S ≠ z) (hS : s.heap.get? S = some { cls := .type "list", data := .seq #[] })
    (hR : ∀ h' tk acc c as, (∀ b o, b ≠ S → b ∉ ch → s.heap.get? b = some o → h'.get? b = some o) → h'.get? S = some { cls := .type "list", dict := none, data := .seq acc c, slots := #[] } → as.length = n → ZG P S h' as →
      acc.toList = as.map Value.ref → R (.ok (.ret .none)) { s with heap := h', toks := tk }) :
    wpAny (model prog w) A.in1 (Builtin.«list.__init__» ⟨[.ref S, .ref z], []⟩)
      (fun fin s' => match fin with | .done f => R (.ok f) s' | .again c' => c'.quiet = true ∧ codeAny (model prog w) A c' R s') (fun e s' => R (.error e) s') s := by
  show wpAny _ _ (do let old ← Builtin.List.listItems (.ref S); Builtin.List.listUpdate (.ref S) (fun _ => #[]); letGo old.toList.reverse; Builtin.List.listExtendWith (.ref S) (.ref z) .none) _ _ s
  refine wpAny_bind ?_
  unfold Builtin.List.listItems
  refine wpAny_bind (wpAny_seqItems hS rfl (wpAny_pure ?_))
  show wpAny _ _ (updateSeq S (fun _ => #[]) >>= fun _ => letGo (#[] : Array Value).toList.reverse >>= fun _ => Builtin.List.listExtendWith (.ref S) (.ref z) .none) _ _ s
  refine wpAny_bind (wpAny_updateSeq hS rfl ?_)
  have hS₂ := Heap.get?_update_self (Obj.mapSeq (fun _ => (#[] : Array Value))) hS rfl
  have oth : ∀ b o, b ≠ S → s.heap.get? b = some o → (s.heap.update S (Obj.mapSeq (fun _ => (#[] : Array Value)))).get? b = some o :=
    fun b o hb e => (Heap.get?_update_other _ _ (Ne.symm hb)).trans e
  refine wpAny_bind (wpAny_letGo ?_)
  refine z_extend (s := { s with heap := s.heap.update S (Obj.mapSeq (fun _ => (#[] : Array Value))) }) Z hn .none _ (Z.frame 0 _ _ st oth) hSz hS₂ fun h' tk acc c as hk hS' hl hG hacc => ?_
  exact hR h' tk acc c as (fun b o hb hc e => hk b o hb hc (oth b o hb e)) hS' hl hG hacc
end
section
variable {prog : Program} {w : World} {A : Around} {E : Value → Shared → Prop} {s : Shared} {n : Nat} {P : Nat → Value × Value} {St : Nat → Heap → Prop} {z : Addr} {ch : List Addr}
theorem z_call {Q : Value → Shared → Prop} (Z : ∀ A : Around, A.handled = none → ZSrc prog w A z s.heap.objs.size ch n P St) (hh : A.handled = none) (hn : n ≤ sizeLine) (hz : z < s.heap.objs.size) (st : St 0 (s.heap.push { cls := .type "list", data := .seq #[] }))
    (hQ : ∀ h' tk acc c as, (∀ b o, b ∉ ch → s.heap.get? b = some o → h'.get? b = some o) → h'.get? s.heap.objs.size = some { cls := .type "list", dict := none, data := .seq acc c, slots := #[] } → as.length = n → ZG P s.heap.objs.size h' as →
      acc.toList = as.map Value.ref → Q (.ref s.heap.objs.size) { s with heap := h', toks := tk }) :
    wpAny (model prog w) A (call (.type "list") [.ref z]) Q E s := by
  refine callType_codes (Q₁ := fun obj s₁ => obj = .ref s.heap.objs.size ∧ s₁ = { s with heap := s.heap.push { cls := .type "list", data := .seq #[] } }) PySem.F.called_list (PySem.F.typeCall_list_1 _) PySem.F.entry_list_init
    (code_list_new _ ⟨rfl, rfl⟩) fun obj s₁ h₁ => ?_
  obtain ⟨rfl, rfl⟩ := h₁
  have hS : (s.heap.push { cls := .type "list", data := .seq #[] }).get? s.heap.objs.size = some { cls := .type "list", data := .seq #[] } := Heap.get?_push_size _ rfl
  refine ⟨⟨_, hS, rfl⟩, PySem.F.args_list_init_2 _ _, z_init (A := A.in1) (s := { s with heap := s.heap.push { cls := .type "list", data := .seq #[] } }) (Z A.in1.in1 hh) hn st (Nat.ne_of_gt hz) hS fun h' tk acc c as hk hS' hl hG hacc => ?_⟩
  exact ⟨rfl, hQ h' tk acc c as (fun b o hb e => hk b o (Nat.ne_of_lt (Heap.lt_size e)) hb (Heap.get?_push_of_some _ e)) hS' hl hG hacc⟩
end
end Mi.Z

/-! Mi, part M: list(zip(a, b)) for the small language. -/
namespace Mi.Z
open PySem PySem.Spec PyProof.Rows L2 PySem.W PySem.Calls
structure IterZ (prog : Program) (w : World) (It : Heap → Addr → Addr → Nat → Prop) (Sq : Heap → Addr → Array Value → Prop) : Prop extends IterK prog w It Sq where
  zitem : ∀ {A : Around} {E : Value → Shared → Prop} {s : Shared} {z TI TO i1 i2 l1 l2 : Addr} {k1 k2 : Nat} {xs ys : Array Value} {x y a b : Value} {Q : Option Value → Shared → Prop}, ZipApart z TI TO i1 i2 l1 l2 →
    IsZip s.heap z TI TO .none → IsPair s.heap TI (.ref i1) (.ref i2) → IsPair s.heap TO a b → It s.heap i1 l1 k1 → It s.heap i2 l2 k2 → Sq s.heap l1 xs → Sq s.heap l2 ys → xs[k1]? = some x → ys[k2]? = some y →
    (∀ h', IsZip h' z TI TO (rawInt s.heap.objs.size) → IsPair h' TO x y → It h' i1 l1 (k1 + 1) → It h' i2 l2 (k2 + 1) → IsPair h' s.heap.objs.size x y → h'.objs.size = s.heap.objs.size + 1 →
      (∀ c o, c ≠ z → c ≠ TO → c ≠ i1 → c ≠ i2 → s.heap.get? c = some o → h'.get? c = some o) → Q (some (.ref s.heap.objs.size)) { s with heap := h' }) → wpAny (model prog w) A (pyNext (.ref z)) Q E s
  zstop : ∀ {A : Around} {E : Value → Shared → Prop} {s : Shared} {z TI TO i1 i2 l1 l2 : Addr} {k1 k2 : Nat} {xs ys : Array Value} {a b : Value} {Q : Option Value → Shared → Prop}, A.handled = none → ZipApart z TI TO i1 i2 l1 l2 →
    IsZip s.heap z TI TO .none → IsPair s.heap TI (.ref i1) (.ref i2) → IsPair s.heap TO a b → It s.heap i1 l1 k1 → It s.heap i2 l2 k2 → Sq s.heap l1 xs → Sq s.heap l2 ys → (xs[k1]? = none ∨ ys[k2]? = none) →
    (∀ h', (∀ c o, c ≠ z → c ≠ TO → c ≠ i1 → c ≠ i2 → s.heap.get? c = some o → h'.get? c = some o) → Q none { s with heap := h' }) → wpAny (model prog w) A (pyNext (.ref z)) Q E s
theorem izL {prog : Program} {w : World} : IterZ prog w Heap.IsListIter Heap.IsList :=
  { iterL with zitem := fun D a b c d e f g h i j => wpAny_pyNext_zip_item D a b c d e f g h i j, zstop := fun hh D a b c d e f g h i => wpAny_pyNext_zip_end hh D a b c d e f g h i }
theorem izT {prog : Program} {w : World} : IterZ prog w Heap.IsTupleIter Heap.IsTuple :=
  { iterT with zitem := fun D a b c d e f g h i j => RZ.pyNext_zipT_item D a b c d e f g h i j, zstop := fun hh D a b c d e f g h i => RZ.pyNext_zipT_end hh D a b c d e f g h i }
section
variable {prog : Program} {w : World} {It : Heap → Addr → Addr → Nat → Prop} {Sq : Heap → Addr → Array Value → Prop}
def ZSt (It : Heap → Addr → Addr → Nat → Prop) (Sq : Heap → Addr → Array Value → Prop) (z TI TO i1 i2 l1 l2 S : Addr) (xs ys : Array Value) (i : Nat) (h : Heap) : Prop :=
  IsPair h TI (.ref i1) (.ref i2) ∧ It h i1 l1 i ∧ It h i2 l2 i ∧ Sq h l1 xs ∧ Sq h l2 ys ∧ ((IsZip h z TI TO .none ∧ ∃ a b, IsPair h TO a b) ∨ ∃ T f oT, IsZipHeld h z TI TO T f ∧ h.get? T = some oT ∧ T ≠ z ∧ T ≠ i1 ∧ T ≠ i2 ∧ T ≠ S)
theorem zsrc (KK : IterZ prog w It Sq) {z TI TO i1 i2 l1 l2 S : Addr} (D : ZipApart z TI TO i1 i2 l1 l2) {xs ys : Array Value} (hz : z < S) (hTI : TI < S) (hTO : TO < S) (h1 : i1 < S) (h2 : i2 < S) (hl1 : l1 < S) (hl2 : l2 < S) (A : Around) (hA : A.handled = none) :
    ZSrc prog w A z S [z, TO, i1, i2] (min xs.size ys.size) (fun i => (xs.getD i .none, ys.getD i .none)) (ZSt It Sq z TI TO i1 i2 l1 l2 S xs ys) where
  off := by
    intro hm
    simp only [List.mem_cons, List.not_mem_nil, or_false] at hm
    rcases hm with e | e | e | e
    · exact Nat.ne_of_gt hz e
    · exact Nat.ne_of_gt hTO e
    · exact Nat.ne_of_gt h1 e
    · exact Nat.ne_of_gt h2 e
  low := fun b hm => by
    simp only [List.mem_cons, List.not_mem_nil, or_false] at hm
    rcases hm with rfl | rfl | rfl | rfl <;> assumption
  frame := fun i h h' st hk => by
    obtain ⟨a1, a2, a3, a4, a5, hz'⟩ := st
    refine ⟨hk _ _ (Nat.ne_of_lt hTI) a1, KK.keepI a2 fun o e => hk _ _ (Nat.ne_of_lt h1) e, KK.keepI a3 fun o e => hk _ _ (Nat.ne_of_lt h2) e, KK.keepS a4 fun o e => hk _ _ (Nat.ne_of_lt hl1) e, KK.keepS a5 fun o e => hk _ _ (Nat.ne_of_lt hl2) e, ?_⟩
    rcases hz' with ⟨b1, a, b, b2⟩ | ⟨T, f, oT, b1, b2, r1, r2, r3, r4⟩
    · exact .inl ⟨hk _ _ (Nat.ne_of_lt hz) b1, a, b, hk _ _ (Nat.ne_of_lt hTO) b2⟩
    · exact .inr ⟨T, f, oT, hk _ _ (Nat.ne_of_lt hz) b1, hk _ _ r4 b2, r1, r2, r3, r4⟩
  type := fun i s st => by
    obtain ⟨_, _, _, _, _, ⟨b1, _⟩ | ⟨T, f, oT, b1, _⟩⟩ := st
    · exact ⟨_, b1, rfl⟩
    · exact ⟨_, b1, rfl⟩
  self := fun i s Q E st h => by
    obtain ⟨_, _, _, _, _, ⟨b1, _⟩ | ⟨T, f, oT, b1, _⟩⟩ := st
    · exact wpAny_pyIter_zip b1 h
    · have hT : s.TypeIs (.ref z) "zip" := ⟨_, b1, rfl⟩
      refine wpAny_pyIter_slot hT PySem.F.slot_zip_iter (wpAny_call_entry PySem.F.slot_zip_iter hT PySem.F.entry_zip_iter ?_ (PySem.F.args_zip_iter_1 _))
      show wpAny _ _ (ret (.ref z)) _ _ s
      exact wpAny_pure ⟨_, rfl, "zip", _, hT, PySem.F.slot_zip_next.lookup, h⟩
  item := fun i s Q E hi st hS hQ => by
    obtain ⟨a1, a2, a3, a4, a5, hz'⟩ := st
    have hix : i < xs.size := Nat.lt_of_lt_of_le hi (Nat.min_le_left ..)
    have hiy : i < ys.size := Nat.lt_of_lt_of_le hi (Nat.min_le_right ..)
    have ex : xs[i]? = some (xs.getD i .none) := by rw [Array.getElem?_eq_getElem hix]; simp [Array.getD, hix]
    have ey : ys[i]? = some (ys.getD i .none) := by rw [Array.getElem?_eq_getElem hiy]; simp [Array.getD, hiy]
    have nm : ∀ c, c ∉ [z, TO, i1, i2] → c ≠ z ∧ c ≠ TO ∧ c ≠ i1 ∧ c ≠ i2 := fun c hc => by simpa using hc
    rcases hz' with ⟨b1, a, b, b2⟩ | ⟨T, f, oT, b1, b2, r1, r2, r3, r4⟩
    · refine KK.zitem D b1 a1 b2 a2 a3 a4 a5 ex ey fun h' c1 c2 c3 c4 c5 c6 hk => ?_
      refine hQ h' ⟨hk _ _ D.TIz D.TITO D.TIi1 D.TIi2 a1, c3, c4, KK.keepS a4 fun o e => hk _ _ D.l1z D.l1TO D.l1i1 D.l1i2 e, KK.keepS a5 fun o e => hk _ _ D.l2z D.l2TO D.l2i1 D.l2i2 e, .inr ⟨s.heap.objs.size, false, _, c1, c5, Nat.ne_of_gt (Nat.lt_trans hz hS), Nat.ne_of_gt (Nat.lt_trans h1 hS), Nat.ne_of_gt (Nat.lt_trans h2 hS), Nat.ne_of_gt hS⟩⟩ c5 c6 fun c o hc e => ?_
      obtain ⟨n1, n2, n3, n4⟩ := nm c hc
      exact hk c o n1 n2 n3 n4 e
    · refine pyNext_held KK.toIterK D b1 b2 a1 a2 a3 a4 a5 ex ey fun h' c1 c3 c4 c5 c6 hk => ?_
      refine hQ h' ⟨hk _ _ D.TIz D.TIi1 D.TIi2 a1, c3, c4, KK.keepS a4 fun o e => hk _ _ D.l1z D.l1i1 D.l1i2 e, KK.keepS a5 fun o e => hk _ _ D.l2z D.l2i1 D.l2i2 e, .inr ⟨T, true, oT, c1, hk _ _ r1 r2 r3 b2, r1, r2, r3, r4⟩⟩ c5 c6 fun c o hc e => ?_
      obtain ⟨n1, n2, n3, n4⟩ := nm c hc
      exact hk c o n1 n3 n4 e
  done := fun s Q E st hQ => by
    obtain ⟨a1, a2, a3, a4, a5, hz'⟩ := st
    have hend : xs[min xs.size ys.size]? = none ∨ ys[min xs.size ys.size]? = none := by
      rcases Nat.le_total xs.size ys.size with h | h
      · exact .inl (Array.getElem?_eq_none (by rw [Nat.min_eq_left h]; exact Nat.le_refl _))
      · exact .inr (Array.getElem?_eq_none (by rw [Nat.min_eq_right h]; exact Nat.le_refl _))
    have nm : ∀ c, c ∉ [z, TO, i1, i2] → c ≠ z ∧ c ≠ TO ∧ c ≠ i1 ∧ c ≠ i2 := fun c hc => by simpa using hc
    rcases hz' with ⟨b1, a, b, b2⟩ | ⟨T, f, oT, b1, b2, r1, r2, r3, r4⟩
    · exact KK.zstop hA D b1 a1 b2 a2 a3 a4 a5 hend fun h' hk => hQ h' fun c o hc e => by
        obtain ⟨n1, n2, n3, n4⟩ := nm c hc
        exact hk c o n1 n2 n3 n4 e
    · exact pyStop_held KK.toIterK hA D b1 b2 a1 a2 a3 a4 a5 hend fun h' hk => hQ h' fun c o hc e => by
        obtain ⟨n1, n2, n3, n4⟩ := nm c hc
        exact hk c o n1 n3 n4 e
end

/-! ### tracked -/
def putP : Hp → List Addr → List (V × V) → Hp
  | H, a :: as, p :: r => putP (upd H a (.tup [p.1, p.2])) as r
  | H, _, _ => H
theorem putP_off {b : Addr} : ∀ (as : List Addr) (ps : List (V × V)) (H : Hp), b ∉ as → putP H as ps b = H b
  | [], _, _, _ => rfl
  | _ :: _, [], _, _ => rfl
  | a :: as, p :: ps, H, h => by
    show putP (upd H a (.tup [p.1, p.2])) as ps b = H b
    rw [putP_off as ps _ (fun z => h (List.mem_cons_of_mem _ z)), upd_ne (fun z => h (by rw [z]; exact List.mem_cons_self))]
theorem putP_at : ∀ (as : List Addr) (ps : List (V × V)) (H : Hp), as.Nodup → ∀ (j : Nat) (a : Addr) (p : V × V), as[j]? = some a → ps[j]? = some p → putP H as ps a = some (.tup [p.1, p.2])
  | [], _, _, _, j, a, p, h, _ => by simp at h
  | _ :: _, [], _, _, j, a, p, _, h => by simp at h
  | a :: as, q :: ps, H, hn, 0, b, p, h1, h2 => by
    cases h1; cases h2
    show putP (upd H a (.tup [q.1, q.2])) as ps a = _
    rw [putP_off as ps _ (List.nodup_cons.mp hn).1, upd_same]
  | a :: as, q :: ps, H, hn, j + 1, b, p, h1, h2 => putP_at as ps _ (List.nodup_cons.mp hn).2 j b p h1 h2
section
variable {X : Cx}
theorem pairs_laid {pins : List (Addr × Obj)} {σ : L2.St} {H : Hp} {s : Shared} {h' : Heap} {tk : Nat} {P : Nat → Value × Value} {ps : List (V × V)} {acc : Array Value} {c : Nat} {as : List Addr} {S : Addr} (I : Inv X pins σ H s) (hz : ps.length ≤ sizeLine)
    (hk : ∀ b o, s.heap.get? b = some o → h'.get? b = some o) (hSs : s.heap.objs.size ≤ S) (hS : h'.get? S = some { cls := .type "list", dict := none, data := .seq acc c, slots := #[] }) (hl : as.length = ps.length) (hG : ZG P S h' as) (hacc : acc.toList = as.map Value.ref)
    (rel : ∀ (j : Nat) (p : V × V), ps[j]? = some p → RelV p.1 (P j).1 ∧ RelV p.2 (P j).2) :
    ∃ H' : Hp, (∀ b o, H b = some o → H' b = some o) ∧ H S = none ∧ (∀ t ∈ as, H t = none) ∧ S ∉ as ∧ H' S = some (.lst (as.map V.ref)) ∧ (∀ (j : Nat) (a : Addr) (p : V × V), as[j]? = some a → ps[j]? = some p → H' a = some (.tup [p.1, p.2])) ∧ Inv X pins σ H' { s with heap := h', toks := tk } := by
  have hSn : S ∉ as := fun z => Nat.lt_irrefl _ (hG.above _ z)
  have nd : as.Nodup := List.Pairwise.imp (fun {a b} (h : a < b) => Nat.ne_of_lt h) hG.rise
  have new : ∀ t ∈ as, H t = none := fun t ht => I.hok.fresh (Nat.le_trans hSs (Nat.le_of_lt (hG.above t ht)))
  have newS : H S = none := I.hok.fresh hSs
  have atP := putP_at as ps (upd H S (.lst (as.map V.ref))) nd
  have off : ∀ b, b ∉ as → b ≠ S → putP (upd H S (.lst (as.map V.ref))) as ps b = H b := fun b h1 h2 => by rw [putP_off as ps _ h1, upd_ne h2]
  have low : ∀ b o, s.heap.get? b = some o → b ∉ as ∧ b ≠ S := fun b o e => by
    have hb := Heap.lt_size e
    exact ⟨fun z => Nat.lt_irrefl _ (Nat.lt_trans (Nat.lt_of_lt_of_le hb hSs) (hG.above b z)), Nat.ne_of_lt (Nat.lt_of_lt_of_le hb hSs)⟩
  have kp : ∀ b u, H b = some u → (putP (upd H S (.lst (as.map V.ref))) as ps) b = some u := fun b u e => by
    rw [off b (fun z => by rw [new b z] at e; cases e) (fun z => by rw [z, newS] at e; cases e)]
    exact e
  have eS : putP (upd H S (.lst (as.map V.ref))) as ps S = some (.lst (as.map V.ref)) := by rw [putP_off as ps _ hSn, upd_same]
  refine ⟨putP (upd H S (.lst (as.map V.ref))) as ps, kp, newS, new, hSn, eS, atP, ?_⟩
  refine I.call' (ch := []) rfl ⟨fun b o q _ _ _ => hk b o q, fun b o q _ _ _ => ⟨o.slots, hk b o q⟩, fun b o q n _ => ?_, fun b o q _ => ⟨o, hk b o q⟩, fun b xs q => kp b _ q, fun b o u q => kp b _ q, fun b ps q => ⟨#[], by rw [kp b _ q]; simp⟩⟩ (fun b u q => ?_) I.bare fun b z => by simp at z
  · obtain ⟨z1, z2⟩ := low b o q
    rw [off b z1 z2]
    exact n
  · by_cases hb : b ∈ as
    · obtain ⟨j, e1⟩ := List.mem_iff_getElem?.mp hb
      have hj : j < ps.length := by rw [← hl]; exact (List.getElem?_eq_some_iff.mp e1).1
      have e2 : ps[j]? = some ps[j] := List.getElem?_eq_getElem hj
      rw [atP j b _ e1 e2] at q
      cases q
      obtain ⟨r1, r2⟩ := rel j _ e2
      exact ⟨by show 2 ≤ sizeLine; decide, [(P j).1, (P j).2], .cons r1 (.cons r2 .nil), ⟨_, hG.pairs j b e1, rfl, _, rfl⟩⟩
    · by_cases hb2 : b = S
      · rw [hb2] at q ⊢
        rw [eS] at q
        cases q
        refine ⟨by rw [List.length_map]; omega, acc.toList, c, by rw [hacc]; exact LiI.vals_refs as, ?_⟩
        rw [Array.toArray_toList]
        exact hS
      · rw [off b hb hb2] at q
        exact (I.hok b u q).stay (fun d v _ y => hk d v y) (fun d y => kp d _ y) fun d xs y => kp d _ y
/-- list(zip(a, b)) -/
def tLZ (K : PySem.W.Frag) (ta : TA) : TE := fun σ H Q => ta σ H fun vs H1 => ∃ a b xs ys, vs = [.ref a, .ref b] ∧ ((SqL K H1 a xs ∧ SqL K H1 b ys) ∨ (SqT K H1 a xs ∧ SqT K H1 b ys)) ∧
  ∀ (H' : Hp) (p : Addr) (ts : List Addr), (∀ b o, H1 b = some o → H' b = some o) → H1 p = none → (∀ t ∈ ts, H1 t = none) → p ∉ ts → H' p = some (.lst (ts.map V.ref)) → ts.length = (xs.zip ys).length →
    (∀ (j : Nat) (t : Addr) (q : V × V), ts[j]? = some t → (xs.zip ys)[j]? = some q → H' t = some (.tup [q.1, q.2])) → Q (.ref p) H'

theorem zip_rel {xs ys : List V} {us ws : List Value} (r1 : Vals xs us) (r2 : Vals ys ws) (j : Nat) (p : V × V) (h : (xs.zip ys)[j]? = some p) : RelV p.1 (us.toArray.getD j .none) ∧ RelV p.2 (ws.toArray.getD j .none) := by
  rw [List.getElem?_zip_eq_some] at h
  obtain ⟨h1, h2⟩ := h
  obtain ⟨u, e1, q1⟩ := r1.get h1
  obtain ⟨v, e2, q2⟩ := r2.get h2
  have f : ∀ {l : List Value} {u : Value}, l[j]? = some u → l.toArray.getD j .none = u := fun {l u} e => by
    obtain ⟨hj, e'⟩ := List.getElem?_eq_some_iff.mp e
    simp [Array.getD, hj, e']
  rw [f e1, f e2]
  exact ⟨q1, q2⟩
theorem pe_listZip {e e2 : Expr} {ta : TA} {p p2 cpos pos : Pos} (hc : X.calm = true) (hg : L2.Gl X "list") (hm : X.mg "list" = none) (hg2 : L2.Gl X "zip") (hm2 : X.mg "zip" = none) (ha : PA X [e, e2] ta)
    (hs2 : starEach [e, e2] X.env = (false, eval e X.env) :: starEach [e2] X.env) (hpl : (backTo cpos (starEach [e2] X.env)).any (·.1) = false) :
    PE X (.Call (.Name "list" p) [.Call (.Name "zip" p2) [e, e2] [] cpos] [] pos) (tLZ X.K ta) := by
  refine ⟨fun pins s σ H Q I hq => ?_⟩
  refine wpAny_Call_Name_kw (ld_blt I hg hm boot_list ?_)
  refine PyProof.Rows.callWith_type1 ?_ rfl rfl
  show wpAny _ _ (spliced ((false, eval (.Call (.Name "zip" p2) [e, e2] [] cpos) X.env) :: backTo pos (starEach [] X.env))) _ _ s
  refine Calls.spliced_cons ?_
  refine Call_ (ld_blt I hg2 hm2 PyProof.Rows.boot_zip (PyProof.Rows.callWith_type1 (thn (ha.run cpos pins s σ H _ I hq) fun us s1 ⟨vs, H1, I1, r1, q1⟩ => ?_) hs2 hpl))
  obtain ⟨a, b, xs, ys, ex, hsq, q⟩ := q1
  subst ex
  cases r1 with
  | cons r rr =>
    cases rr with
    | cons r' rr =>
      cases rr
      cases r
      cases r'
      -- behind the zip, whatever its items' kind
      have go : ∀ (It : Heap → Addr → Addr → Nat → Prop) (Sq : Heap → Addr → Array Value → Prop) (KK : IterZ X.prog X.w It Sq) (its its2 : List Value) (h' : Heap), Vals xs its → Vals ys its2 → xs.length ≤ sizeLine → a < s1.heap.objs.size → b < s1.heap.objs.size →
          Sq s1.heap a its.toArray → Sq s1.heap b its2.toArray → IsZip h' (s1.heap.objs.size + 4) (s1.heap.objs.size + 2) (s1.heap.objs.size + 3) .none → IsPair h' (s1.heap.objs.size + 2) (.ref s1.heap.objs.size) (.ref (s1.heap.objs.size + 1)) →
          IsPair h' (s1.heap.objs.size + 3) .none .none → It h' s1.heap.objs.size a 0 → It h' (s1.heap.objs.size + 1) b 0 → h'.objs.size = s1.heap.objs.size + 5 → (∀ c o, s1.heap.get? c = some o → h'.get? c = some o) →
          wpAny (model X.prog X.w) X.A (call (.type "list") [.ref (s1.heap.objs.size + 4)]) (EP X pins σ Q) X.xe { s1 with heap := h' } := by
        intro It Sq KK its its2 h' rv rv2 hzl hal hbl hq1 hq2 hz hTI hTO h1 h2 hsz hk
        have lt : ∀ k, k < 5 → s1.heap.objs.size + k < h'.objs.size := fun k hk => by rw [hsz]; exact Nat.add_lt_add_left hk _
        have lt0 : s1.heap.objs.size < h'.objs.size := lt 0 (by decide)
        have D := PySem.W.ktu_apart s1.heap.objs.size a b hal hbl
        refine z_call (s := { s1 with heap := h' }) (n := min its.toArray.size its2.toArray.size) (fun A hA => zsrc KK D (S := h'.objs.size) (xs := its.toArray) (ys := its2.toArray) (lt 4 (by decide)) (lt 2 (by decide)) (lt 3 (by decide)) lt0 (lt 1 (by decide)) (Nat.lt_trans hal lt0) (Nat.lt_trans hbl lt0) A hA)
          (I1.ok.hd hc) ?_ (lt 4 (by decide)) ⟨Heap.get?_push_of_some _ hTI, KK.keepI h1 fun o e => Heap.get?_push_of_some _ e, KK.keepI h2 fun o e => Heap.get?_push_of_some _ e, KK.keepS hq1 fun o e => Heap.get?_push_of_some _ (hk _ o e), KK.keepS hq2 fun o e => Heap.get?_push_of_some _ (hk _ o e), .inl ⟨Heap.get?_push_of_some _ hz, _, _, Heap.get?_push_of_some _ hTO⟩⟩ ?_
        · have l1 := rv.length
          have : its.toArray.size ≤ sizeLine := by rw [List.size_toArray, ← l1]; exact hzl
          exact Nat.le_trans (Nat.min_le_left _ _) this
        · intro h2' tk acc c as hk2 hS hl hG hacc
          have keep : ∀ b o, s1.heap.get? b = some o → h2'.get? b = some o := fun c o e => by
            have hcl : c < s1.heap.objs.size := Heap.lt_size e
            refine hk2 c o (fun hm => ?_) (hk c o e)
            simp only [List.mem_cons, List.not_mem_nil, or_false] at hm
            rcases hm with z | z | z | z
            · rw [z] at hcl; exact Nat.not_lt.mpr (Nat.le_add_right _ _) hcl
            · rw [z] at hcl; exact Nat.not_lt.mpr (Nat.le_add_right _ _) hcl
            · rw [z] at hcl; exact Nat.lt_irrefl _ hcl
            · rw [z] at hcl; exact Nat.not_lt.mpr (Nat.le_add_right _ _) hcl
          have hzip : (xs.zip ys).length = min its.toArray.size its2.toArray.size := by rw [List.length_zip, rv.length, rv2.length, List.size_toArray, List.size_toArray]
          obtain ⟨H', k1, k2, k3, k4, k5, k6, J⟩ := pairs_laid (X := X) (tk := tk) (ps := xs.zip ys) I1 (by rw [List.length_zip]; exact Nat.le_trans (Nat.min_le_left _ _) hzl) keep (Nat.le_of_lt lt0) hS (by rw [hl, hzip]) hG hacc (zip_rel rv rv2)
          exact ⟨.ref _, H', J, rfl, q H' _ as k1 k2 k3 k4 k5 (by rw [hl, hzip]) k6⟩
      rcases hsq with ⟨hqx, hqy⟩ | ⟨hqx, hqy⟩
      · obtain ⟨its, rv, p1, hz1⟩ := I1.list hqx
        obtain ⟨its2, rv2, p2, _⟩ := I1.list hqy
        exact call_zip_2 p1.isList p2.isList fun h' hz hTI hTO h1 h2 hsz hk => Calls.spliced_nil (go _ _ izL its its2 h' rv rv2 hz1 p1.lt p2.lt p1.isList p2.isList hz hTI hTO h1 h2 hsz hk)
      · obtain ⟨its, rv, p1, hz1⟩ := I1.tuple hqx
        obtain ⟨its2, rv2, p2, _⟩ := I1.tuple hqy
        obtain ⟨o1, ho1, _⟩ := id p1
        obtain ⟨o2, ho2, _⟩ := id p2
        exact RZ.call_zipT (show s1.heap.IsTuple a its.toArray from p1) (show s1.heap.IsTuple b its2.toArray from p2) fun h' hz hTI hTO h1 h2 hsz hk => Calls.spliced_nil (go _ _ izT its its2 h' rv rv2 hz1 (Heap.lt_size ho1) (Heap.lt_size ho2) p1 p2 hz hTI hTO h1 h2 hsz hk)
end
end Mi.Z

/-! Mi, part S: sorted(xs, key=f), f a def of the text, its keys any plain data (lists too). -/
namespace Mi.So
open PySem PySem.Spec PyProof.Rows L2 PySem.W PySem.Calls

theorem each_of {R : Value → PyData → Prop} {X : Cx} {pins : List (Addr × Obj)} {σ : L2.St} {H : Hp} {s : Shared} (I : Inv X pins σ H s) : ∀ {ys : List V} {us : List Value} {kz : List PyData}, Vals ys us → DpAll X.K H ys kz → EachIs (fun v k => ∃ as, Reads s.heap v k as) us kz
  | _, _, _, .nil, d => by cases d; exact .nil
  | _, _, _, .cons r rs, d => by
    cases d with
    | cons d1 d2 => exact .cons (Dp.reads I _ _ _ d1 r) (each_of (R := R) I rs d2)
theorem vals_each {xs : List V} {us : List Value} {kz : List PyData} (r : Vals xs us) (hl : xs.length = kz.length) : EachIs (fun (v : Value) (b : V × PyData) => RelV b.1 v) us (xs.zip kz) := by
  induction r generalizing kz with
  | nil => exact .nil
  | cons h t ih =>
    cases kz with
    | nil => cases hl
    | cons k kz => exact .cons h (ih (Nat.succ.inj hl))
theorem each_vals : ∀ {us : List Value} {bs : List (V × PyData)}, EachIs (fun (v : Value) (b : V × PyData) => RelV b.1 v) us bs → Vals (bs.map (·.1)) us
  | _, _, .nil => .nil
  | _, _, .cons h t => .cons h (each_vals t)
theorem map_snd_zip {α β : Type} : ∀ {xs : List α} {ys : List β}, xs.length = ys.length → (xs.zip ys).map (·.2) = ys
  | [], [], _ => rfl
  | [], _ :: _, h => by cases h
  | _ :: _, [], h => by cases h
  | _ :: xs, _ :: ys, h => by
    rw [List.zip_cons_cons, List.map_cons, map_snd_zip (Nat.succ.inj h)]
theorem vals_snoc {xs : List V} {us : List Value} {x : V} {u : Value} (h : Vals xs us) (r : RelV x u) : Vals (xs ++ [x]) (us ++ [u]) := by
  induction h with
  | nil => exact .cons r .nil
  | cons h t ih => exact .cons h ih

section
variable {X : Cx} {pins : List (Addr × Obj)} {σ : L2.St} {H : Hp} {s : Shared} {l f : Addr} {xs : List V} {Q : VK}
theorem sorted_def (I : Inv X pins σ H s) (hs : SqL X.K H l xs) (hu : X.A.units + 64 < cLine) (J : Nat → List V → Hp → Prop) (h0 : J 0 [] H)
    (turn : ∀ (pins : List (Addr × Obj)) (i : Nat) (x : V) (u : Value) (ys : List V) (H : Hp) (s : Shared), Inv X pins σ H s → xs[i]? = some x → RelV x u → J i ys H →
      wpAny (model X.prog X.w) X.A.in1.in1 (call (.ref f) [u]) (fun v s' => ∃ y H', Inv X pins σ H' s' ∧ RelV y v ∧ J (i + 1) (ys ++ [y]) H') (fun _ _ => False) s)
    (hend : ∀ ys H', J xs.length ys H' → ∃ kz, DpAll X.K H' ys kz ∧ kz.length = xs.length ∧ AllAlike kz ∧ Sortable kz ∧ (∀ d ∈ kz, d.depth ≤ 40) ∧ ∀ p, H' p = none → Q (.ref p) (upd H' p (.lst (byKeys false xs kz)))) :
    wpAny (model X.prog X.w) X.A (call (.builtin "sorted") [.ref l] [(Str.ofString "key", .ref f)]) (EP X pins σ Q) X.xe s := by
  obtain ⟨its, rv, pl, hz⟩ := I.list hs
  have hlen := rv.length
  refine sorted_of_sort pl.isList (by rw [← hlen]; exact hz) (ksk_s1 _ _) (fun _ => ksk_l1 _ _) fun E' => ?_
  rw [ksk_t1]
  have ho := copyHeap_at s.heap its
  generalize ha : s.heap.objs.size + 1 = a at ho ⊢
  obtain ⟨e1, ho1⟩ : ∃ e1, ((copyHeap s.heap its).update a (Obj.mapSeq fun _ => (#[] : Array Value))).get? a = some (seqObj "list" #[] e1) := ⟨_, get?_update_seq ho fun _ => #[]⟩
  have hal : a < (copyHeap s.heap its).objs.size := Heap.lt_size ho
  have hage : s.heap.objs.size ≤ a := by rw [← ha]; exact Nat.le_succ _
  unfold ksk_tree
  refine wpAny_bind (listItems_at ho rfl ?_)
  refine wpAny_bind (listUpdate_at ho rfl ?_ (by rw [List.size_toArray, ← hlen]; exact hz) (Nat.zero_le _))
  refine wpAny_bind (seqEpoch_at ho1 rfl ?_)
  refine wpAny_bind (wpAny_newTuple ?_ (by show its.length ≤ _; rw [← hlen]; exact hz))
  refine wpAny_bind (wpAny_newList ?_ (Nat.zero_le _))
  refine wpAny_holding ?_
  have hkS : ((((copyHeap s.heap its).update a (Obj.mapSeq fun _ => (#[] : Array Value))).push (seqObj "tuple" its.toArray 0)).objs.size) = (copyHeap s.heap its).objs.size + 1 := by rw [size_push', Heap.size_update]
  show wpAny _ _ (ksk_rest a (.ref f) false its.toArray e1 (.ref ((((copyHeap s.heap its).update a (Obj.mapSeq fun _ => (#[] : Array Value))).push (seqObj "tuple" its.toArray 0)).objs.size))) _ _ { s with heap := (((copyHeap s.heap its).update a (Obj.mapSeq fun _ => (#[] : Array Value))).push (seqObj "tuple" its.toArray 0)).push (seqObj "list" #[] 0) }
  have ga : ((((copyHeap s.heap its).update a (Obj.mapSeq fun _ => (#[] : Array Value))).push (seqObj "tuple" its.toArray 0)).push (seqObj "list" #[] 0)).get? a = some (seqObj "list" #[] e1) := Heap.get?_push_of_some _ (Heap.get?_push_of_some _ ho1)
  have gk : ((((copyHeap s.heap its).update a (Obj.mapSeq fun _ => (#[] : Array Value))).push (seqObj "tuple" its.toArray 0)).push (seqObj "list" #[] 0)).get? ((((copyHeap s.heap its).update a (Obj.mapSeq fun _ => (#[] : Array Value))).push (seqObj "tuple" its.toArray 0)).objs.size) = some (seqObj "list" #[] 0) := Heap.get?_push_size _ rfl
  have old : ∀ b o, s.heap.get? b = some o → ((((copyHeap s.heap its).update a (Obj.mapSeq fun _ => (#[] : Array Value))).push (seqObj "tuple" its.toArray 0)).push (seqObj "list" #[] 0)).get? b = some o := fun b o e =>
    Heap.get?_push_of_some _ (Heap.get?_push_of_some _ (((Heap.SameBut.update (copyHeap s.heap its) a (Obj.mapSeq fun _ => (#[] : Array Value))).2 b (Nat.ne_of_lt (Nat.lt_of_lt_of_le (Heap.lt_size e) hage))).trans (copyHeap_old e)))
  rw [hkS] at gk ⊢
  generalize hk0 : (copyHeap s.heap its).objs.size + 1 = kS at gk ⊢
  generalize ((((copyHeap s.heap its).update a (Obj.mapSeq fun _ => (#[] : Array Value))).push (seqObj "tuple" its.toArray 0)).push (seqObj "list" #[] 0)) = hp at ga gk old ⊢
  have hka : kS ≠ a := by rw [← hk0]; exact Nat.ne_of_gt (Nat.lt_succ_of_lt hal)
  have hkge : s.heap.objs.size ≤ kS := Nat.le_trans hage (by rw [← hk0]; exact Nat.le_of_lt (Nat.lt_succ_of_lt hal))
  have I1 : Inv X pins σ H { s with heap := hp } := I.kept (t' := s.toks) old
  have fp : ∀ {H' : Hp} {b : Addr}, (b = a ∨ b = kS) → H' b = none → FpOk X pins H' b := fun {H' b} hb hn => I.fpOk (by rcases hb with e | e <;> rw [e] <;> assumption) hn
  unfold ksk_rest
  refine wpAny_bind (wpAny_rule ?_)
  first
    | rw [List.forIn_toArray]
    | (rw [← Array.forIn_toList]; simp only [List.toList_toArray])
    | rw [← Array.forIn_toList]
  refine wpAny_bind (ksk_fold (fun i s' => ∃ H' ys kA e, Inv X pins σ H' s' ∧ H' a = none ∧ H' kS = none ∧ s'.heap.get? a = some (seqObj "list" #[] e1) ∧ s'.heap.get? kS = some (seqObj "list" kA e) ∧ Vals ys kA.toList ∧ ys.length = i ∧ J i ys H') its 0 _
    ⟨H, [], #[], 0, I1, I.hok.fresh hage, I.hok.fresh hkge, ga, gk, .nil, rfl, h0⟩ ?step ?done)
  case step =>
    rintro j x s' hx ⟨H', ys, kA, e, I', na, nk, ga', gk', rv', hl', hJ⟩
    simp only [Nat.zero_add] at hl' hJ ⊢
    have hj : j < its.length := (List.getElem?_eq_some_iff.mp hx).1
    obtain ⟨y0, hy0⟩ : ∃ y, xs[j]? = some y := ⟨_, List.getElem?_eq_getElem (by rw [hlen]; exact hj)⟩
    obtain ⟨u0, hu0, ru0⟩ := rv.get hy0
    rw [hx] at hu0
    cases hu0
    have hsz : kA.size = j := by rw [← Array.length_toList, ← rv'.length, hl']
    have hszL : kA.size ≤ sizeLine := by rw [hsz]; rw [hlen] at hz; exact Nat.le_trans (Nat.le_of_lt hj) hz
    have I'p := I'.pinned (fp := [a, kS]) (fun b hb => by
      rcases List.mem_cons.mp hb with rfl | hb
      · exact fp (.inl rfl) na
      · rw [List.mem_singleton.mp hb]; exact fp (.inr rfl) nk) (fun b hb => by
      rcases List.mem_cons.mp hb with rfl | hb
      · exact ⟨_, ga', fun v q => nomatch q⟩
      · rw [List.mem_singleton.mp hb]; exact ⟨_, gk', fun v q => nomatch q⟩)
    refine wpAny_bind (wpAny_attempt (wpAny_mono (turn _ j y0 x ys H' s' I'p hy0 ru0 hJ) (fun v s2 he => ?_) fun _ _ hF => hF.elim))
    obtain ⟨y, H2, I2, ry, hJ2⟩ := he
    have pa := I2.pin (a, seqObj "list" #[] e1) (List.mem_append_right _ (List.mem_append_right _ (mem_pinsAt (List.mem_cons_self) ga')))
    have pk := I2.pin (kS, seqObj "list" kA e) (List.mem_append_right _ (List.mem_append_right _ (mem_pinsAt (List.mem_cons_of_mem _ List.mem_cons_self) gk')))
    have na2 : H2 a = none := pa.2.1
    have nk2 : H2 kS = none := pk.2.1
    have ga2 : s2.heap.get? a = some (seqObj "list" #[] e1) := pa.1
    have gk2 : s2.heap.get? kS = some (seqObj "list" kA e) := pk.1
    have I3 := I2.unpinned
    try dsimp only
    have s1 := Heap.SameBut.update s2.heap kS (Obj.mapSeq (·.push v))
    obtain ⟨c2, hc2⟩ : ∃ c2, (s2.heap.update kS (Obj.mapSeq (·.push v))).get? kS = some (seqObj "list" (kA.push v) c2) := ⟨_, get?_update_seq gk2 (·.push v)⟩
    refine wpAny_bind (listUpdate_at gk2 rfl ?_ hszL (Nat.le_trans (Nat.le_of_eq (Array.size_push ..)) (Nat.succ_le_succ hszL)))
    refine wpAny_pure ⟨rfl, H2, ys ++ [y], kA.push v, c2, I3.turnedL (t' := s2.toks) (ch := [kS]) (fun b o hb e => (s1.2 b (fun z => hb (by simp [z]))).trans e) (fun b hb => by rw [List.mem_singleton.mp hb]; exact fp (.inr rfl) nk2), na2, nk2, (s1.2 a hka.symm).trans ga2, hc2, ?_, by rw [List.length_append, hl']; rfl, hJ2⟩
    have e3 : (kA.push v).toList = kA.toList ++ [v] := by simp
    rw [e3]
    exact vals_snoc rv' ry
  case done =>
    rintro s' ⟨H', ys, kA, e, I', na, nk, ga', gk', rv', hl', hJ⟩
    rw [Nat.zero_add, ← hlen] at hJ hl'
    obtain ⟨kz, hdp, hkl, hal2, hsk, hdep, hQ⟩ := hend ys H' hJ
    have hk' := each_of (R := fun _ _ => True) I' rv' hdp
    have hsz : kA.size = its.length := by rw [← Array.length_toList, ← rv'.length, hl', hlen]
    obtain ⟨G, hG1, hG2⟩ := L2.restrict s'.heap (fun b => b != kS)
    have up : ∀ b o, b ≠ kS → s'.heap.get? b = some o → G.get? b = some o := fun b o hb e => by rw [hG1 b (by simpa using hb)]; exact e
    refine wpAny_bind (listItems_at gk' rfl ?_)
    refine keyH_end (κ := dataKind s'.heap kz) (h₁ := G) (fun b o hb e => ?_) (hG2 kS (by simp)) gk' ga' hka (SortsAt.data (s := s') hk' hal2 hsk fun d hd => ?_) hsz (by rw [← hlen]; exact hz) fun h' tk c kp2 ha2 => ?_
    · by_cases hbk : b = kS
      · rw [hbk, hG2 kS (by simp)] at e; cases e
      · rw [← hG1 b (by simpa using hbk)]; exact e
    · have := hdep d hd
      show X.A.units + 1 + 1 + d.depth < cLine
      omega
    · have KO : KeyedOut false kz its (sortVals (dataKind s'.heap kz) false kA.toList its) := ⟨s'.heap, kA.toList, hal2, rfl, hk'⟩
      have hR := vals_each (kz := kz) rv hkl.symm
      have EO := keyedOut_each (bs := xs.zip kz) (fun b : V × PyData => b.2) (by rw [map_snd_zip hkl.symm]; exact KO) hR
      have VO := each_vals EO
      have ho2 : (byKeys false xs kz).length ≤ sizeLine := by
        unfold byKeys
        rw [List.length_map, List.length_mergeSort, List.length_zip]
        exact Nat.le_trans (Nat.min_le_left _ _) hz
      have I2 : Inv X pins σ H' { s' with heap := h', toks := tk } := I'.turnedL (t' := tk) (ch := [a, kS]) (fun b o hb e => kp2 b o (fun z => hb (by simp [z])) (up b o (fun z => hb (by simp [z])) e)) (fun b hb => by
        rcases List.mem_cons.mp hb with rfl | hb
        · exact fp (.inl rfl) na
        · rw [List.mem_singleton.mp hb]; exact fp (.inr rfl) nk)
      have I3 : Inv X pins σ (upd H' a (.lst (byKeys false xs kz))) { s' with heap := h', toks := tk } := L2.Inv.take (s := { s' with heap := h', toks := tk }) (h' := h') (t' := tk) I2 (fun b o _ e => e) (fp (.inl rfl) na) ⟨ho2, _, c, VO, ha2⟩
      exact ⟨rfl, .ref a, _, I3, rfl, hQ a na⟩
end
end Mi.So

/-! Mi, part N: dict(a list of pairs), dict displays. -/
namespace Mi
open PySem L2 PyProof.Rows RT RZ

def mergeT (kvs more : List (List Key × V)) : List (List Key × V) := more.foldl (fun acc kv => putK acc kv.1 kv.2) kvs
theorem length_mergeT : ∀ (more kvs : List (List Key × V)), (mergeT kvs more).length ≤ kvs.length + more.length
  | [], kvs => by show kvs.length ≤ kvs.length + 0; omega
  | p :: r, kvs => by
    have h1 := length_mergeT r (putK kvs p.1 p.2)
    have h2 := length_putK kvs p.1 p.2
    show (mergeT (putK kvs p.1 p.2) r).length ≤ _
    rw [List.length_cons]; omega
theorem kt_merge {H : Hp} : ∀ {more : List (List Key × V)} {rs : List (List Key × Addr × Value)} {kvs : List (List Key × V)} {xs : List (List Key × Addr × Value)}, L2.KT H more rs → L2.KT H kvs xs → L2.KT H (mergeT kvs more) (PySem.storedAllH xs rs) := by
  intro more rs kvs xs r
  unfold L2.KT at r
  induction r generalizing kvs xs with
  | nil => intro q; exact q
  | @cons p q ps qs h t ih =>
    intro r0
    obtain ⟨h1, h2, h3⟩ := h
    have e : L2.KT H (putK kvs p.1 p.2) (storedH xs q.1 q.2.1 q.2.2) := by
      have := r0.put p.1 h2 h3
      rw [← h1]; exact this
    exact ih e
section
variable {X : Cx}
theorem pairsT_of {pins : List (Addr × Obj)} {σ : L2.St} {H : Hp} {s : Shared} (I : Inv X pins σ H s) : ∀ {ps : List Addr} {kvs : List (List Key × V)}, Paired (fun (p : Addr) (kv : List Key × V) => ∃ b, SqT X.K H p [V.ref b, kv.2] ∧ H b = some (.tup (kv.1.map kV))) ps kvs →
    ∃ rs : List (List Key × Addr × Value), L2.KT H kvs rs ∧ rs.length = ps.length ∧ ∀ (j : Nat) (q : List Key × Addr × Value), rs[j]? = some q → ∃ (b : Addr), ps[j]? = some b ∧ IsTup s.heap b #[Value.ref q.2.1, q.2.2] ∧ H q.2.1 = some (.tup (q.1.map kV))
  | _, _, .nil => ⟨[], .nil, rfl, fun j q e => by simp at e⟩
  | _, _, .cons (a := p) (b := kv) h t => by
    obtain ⟨rs, r, hl, hp⟩ := pairsT_of I t
    obtain ⟨b, h, hb⟩ := h
    obtain ⟨its, rv, ht, _⟩ := I.tuple h
    obtain ⟨u, y, ei, ru, ry⟩ := vals2 rv
    subst ei
    have eu : u = Value.ref b := ru
    subst eu
    refine ⟨(kv.1, b, y) :: rs, .cons ⟨rfl, hb, ry⟩ r, by rw [List.length_cons, List.length_cons, hl], fun j q e => ?_⟩
    cases j with
    | zero =>
      have e' : (kv.1, b, y) = q := Option.some.inj e
      subst e'
      exact ⟨p, rfl, ht, hb⟩
    | succ j =>
      obtain ⟨b', e1, e2, e3⟩ := hp j q (by simpa using e)
      exact ⟨b', by simpa using e1, e2, e3⟩
/-- dict(xs) of a list of pairs (tuple key, value) -/
theorem call_dictT (hcalm : X.calm = true) (hu : X.A.units + 64 < cLine) : CallR X (.type "dict") (fun xs H Q => ∃ (a : Addr) (ps : List Addr) (kvs : List (List Key × V)), xs = [.ref a] ∧ SqL X.K H a (ps.map V.ref) ∧
    Paired (fun (p : Addr) (kv : List Key × V) => ∃ b, SqT X.K H p [V.ref b, kv.2] ∧ H b = some (.tup (kv.1.map kV))) ps kvs ∧ ∀ p, H p = none → Q (.ref p) (upd H p (.dT (mergeT [] kvs)))) := by
  intro pins s σ H xs us Q I r q
  obtain ⟨a, ps, kvs, ex, hq, hp, q⟩ := q
  subst ex
  obtain ⟨u, eu, rx⟩ := vals1 r
  subst eu
  cases rx
  obtain ⟨its, rv, pl, hz⟩ := I.list hq
  have ei := refs_at rv
  subst ei
  rw [List.length_map] at hz
  obtain ⟨rs, rel, hl, hpr⟩ := pairsT_of I hp
  obtain ⟨o, n, ho, hc, hd, hdat⟩ := pl
  have hPI : PySem.PairItems s.heap (ps.map Value.ref).toArray (fun j => ps.getD j 0) (rs.map fun q => (Value.ref q.2.1, q.2.2)) := by
    refine ⟨by simp [hl], fun j k v hj => ?_⟩
    rw [List.getElem?_map] at hj
    obtain ⟨q, hq, e⟩ := Option.map_eq_some_iff.mp hj
    cases e
    obtain ⟨b, e1, e2, e3⟩ := hpr j q hq
    have eb : ps.getD j 0 = b := by rw [List.getD_eq_getElem?_getD, e1]; rfl
    dsimp only
    rw [eb]
    exact ⟨by simp [e1], .inl e2⟩
  have key : ∀ (h' : Heap) (x : List Key × Addr × Value), x ∈ rs → (∀ b o, s.heap.get? b = some o → h'.get? b = some o) → (tupleKind (mixKind X.prog X.w)).is h' x.1 x.2.1 := fun h' x hx hk => by
    obtain ⟨j, hj⟩ := List.mem_iff_getElem?.mp hx
    obtain ⟨b, _, _, e3⟩ := hpr j x hj
    obtain ⟨o, its, n, h1, h2, h3, h4⟩ := key_of I.hok e3
    exact ⟨o, its, n, hk _ _ h1, h2, h3, h4⟩
  refine PySem.call_dict_pairsH (knd := tupleKind (mixKind X.prog X.w)) (ps := rs) (PySem.PairArg.list a _ _ _) (I.ok.hd hcalm) (by show X.A.units + 1 + 1 < cLine; omega) ⟨⟨o, n, ho, hc, hd, hdat⟩, hPI⟩ ⟨by simp, fun i k v hr => ?_⟩ (fun h' hk x hx => ?_) (by rw [List.length_map, hl]; exact hz) fun h' tk hd' k => ?_
  · have hr : (rs.map fun q => (Value.ref q.2.1, q.2.2))[i]? = some (k, v) := hr
    rw [List.getElem?_map] at hr
    obtain ⟨q, hq, e⟩ := Option.map_eq_some_iff.mp hr
    cases e
    exact ⟨q.1, q.2.1, hq, rfl⟩
  · exact key h' x hx fun b o e => hk b o (Nat.ne_of_lt (Heap.lt_size e)) (by simp) e
  · have hm : (s.heap.objs.size == sysModules) = false := beq_eq_false_iff_ne.mpr (Nat.ne_of_gt I.big)
    have hlen : (mergeT [] kvs).length ≤ sizeLine := by
      refine Nat.le_trans (length_mergeT kvs []) ?_
      have l2 : kvs.length = rs.length := Paired.length rel
      rw [List.length_nil, Nat.zero_add, l2, hl]
      exact hz
    have hn := I.hok.fresh (Nat.le_refl s.heap.objs.size)
    have rel2 : L2.KT (upd H s.heap.objs.size (.dT (mergeT [] kvs))) (mergeT [] kvs) (PySem.storedAllH [] rs) := (kt_merge rel .nil).keeps fun b ys e => by
      rw [upd_ne (fun z => by rw [z, hn] at e; cases e)]
      exact e
    obtain ⟨o', es, ep, d1, d2, d3, d4, d5, d6⟩ := hd'
    exact ⟨.ref s.heap.objs.size, upd H s.heap.objs.size (.dT (mergeT [] kvs)), I.laid (t' := tk) (fun b o e => k b o (by simp) e) (Nat.le_refl _) (show ObjOk X.prog X.w _ _ _ (.dT (mergeT [] kvs)) from ⟨hlen, hm, PySem.storedAllH [] rs, rel2, o', es, ep, d1, d2, d3, d4, d6⟩), rfl, q _ hn⟩
end

/-! ### dict(xs) for the small language -/
section
variable {G : Gb} {X : Cx}
theorem RpKV.put {κ : Type} [DecidableEq κ] {φ : List Addr} {H : Hp} {k : κ} {d : Mi.D} {v : V} (r : Rp G φ H d v) : ∀ {kvs : List (κ × Mi.D)} {vs : List (κ × V)}, RpKV G φ H kvs vs → RpKV G φ H (putD kvs k d) (putK vs k v) := by
  have any : ∀ {kvs : List (κ × Mi.D)} {vs : List (κ × V)}, RpKV G φ H kvs vs → (kvs.any fun kv => decide (kv.1 = k)) = vs.any fun kv => decide (kv.1 = k) := by
    intro kvs
    induction kvs with
    | nil => intro vs h; have h : vs = [] := h; subst h; rfl
    | cons p rr ih =>
      intro vs h
      obtain ⟨w, t, rfl, h1, h2⟩ := h
      rw [List.any_cons, List.any_cons, ih h2]
  intro kvs vs h
  unfold putD putK
  rw [any h]
  by_cases c : (vs.any fun kv => decide (kv.1 = k)) = true
  · rw [if_pos c, if_pos c]
    clear c
    induction kvs generalizing vs with
    | nil => have h : vs = [] := h; subst h; rfl
    | cons p rr ih =>
      obtain ⟨w, t, rfl, h1, h2⟩ := h
      show RpKV G φ H ((if p.1 = k then (p.1, d) else p) :: _) ((if p.1 = k then (p.1, v) else (p.1, w)) :: _)
      by_cases e : p.1 = k
      · rw [if_pos e, if_pos e]
        exact ⟨v, _, rfl, r, ih h2⟩
      · rw [if_neg e, if_neg e]
        exact ⟨w, _, rfl, h1, ih h2⟩
  · rw [if_neg c, if_neg c]
    clear c
    induction kvs generalizing vs with
    | nil => have h : vs = [] := h; subst h; exact ⟨v, [], rfl, r, rfl⟩
    | cons p rr ih =>
      obtain ⟨w, t, rfl, h1, h2⟩ := h
      exact ⟨w, t ++ [(k, v)], rfl, h1, ih h2⟩
theorem RpKV.length {κ : Type} {φ : List Addr} {H : Hp} : ∀ {kvs : List (κ × Mi.D)} {vs : List (κ × V)}, RpKV G φ H kvs vs → kvs.length = vs.length
  | [], _, h => by have h : _ = [] := h; subst h; rfl
  | p :: r, _, h => by
    obtain ⟨w, t, rfl, h1, h2⟩ := h
    rw [List.length_cons, List.length_cons, h2.length]

theorem putD_all {κ : Type} [DecidableEq κ] {φ : List Addr} {H : Hp} : ∀ {more kvs : List (κ × Mi.D)} {vm vs : List (κ × V)}, RpKV G φ H more vm → RpKV G φ H kvs vs → RpKV G φ H (more.foldl (fun acc kv => putD acc kv.1 kv.2) kvs) (vm.foldl (fun acc kv => putK acc kv.1 kv.2) vs)
  | [], _, _, _, h, h2 => by have h : _ = [] := h; subst h; exact h2
  | p :: r, _, _, _, h, h2 => by
    obtain ⟨w, t, rfl, h3, h4⟩ := h
    exact putD_all (more := r) (vm := t) h4 (h2.put h3)
theorem pairK_rp (hK : X.K = G.K) {φ : List Addr} {H : Hp} : ∀ {ds : List Mi.D} {kvs : List (Key × Mi.D)} {vs : List V}, mapO pairK ds = some kvs → Rps G φ H ds vs → ∃ (ps : List Addr) (vk : List (Key × V)), vs = ps.map V.ref ∧ Paired (fun (p : Addr) (kv : Key × V) => SqT X.K H p [kV kv.1, kv.2]) ps vk ∧ RpKV G φ H kvs vk
  | [], _, _, h, r => by
    rw [mapO_nil h]
    unfold Rps at r
    exact ⟨[], [], r, .nil, rfl⟩
  | d :: ds, _, _, h, r => by
    obtain ⟨b, bs, h1, h2, rfl⟩ := mapO_cons h
    unfold Rps at r
    obtain ⟨v, t, rfl, r1, r2⟩ := r
    obtain ⟨ps, vk, rfl, q1, q2⟩ := pairK_rp hK h2 r2
    unfold pairK at h1
    split at h1
    · rename_i kd vd
      obtain ⟨k, hk, rfl⟩ := Option.map_eq_some_iff.mp h1
      unfold Rp at r1
      obtain ⟨a, us, rfl, ha, hr⟩ := r1
      unfold Rps at hr
      obtain ⟨x, r', rfl, hx, hr⟩ := hr
      unfold Rps at hr
      obtain ⟨y, r'', rfl, hy, hr⟩ := hr
      unfold Rps at hr
      subst hr
      have e := key_v hk hx
      subst e
      exact ⟨a :: ps, (k, y) :: vk, rfl, .cons (by rw [hK]; exact ha.sq) q1, y, vk, rfl, hy, q2⟩
    · cases h1
theorem pairT_rp (hK : X.K = G.K) {φ : List Addr} {H : Hp} : ∀ {ds : List Mi.D} {kvs : List (List Key × Mi.D)} {vs : List V}, mapO pairT ds = some kvs → Rps G φ H ds vs →
    ∃ (ps : List Addr) (vk : List (List Key × V)), vs = ps.map V.ref ∧ Paired (fun (p : Addr) (kv : List Key × V) => ∃ b, SqT X.K H p [V.ref b, kv.2] ∧ H b = some (.tup (kv.1.map kV))) ps vk ∧ RpKV G φ H kvs vk
  | [], _, _, h, r => by
    rw [mapO_nil h]
    unfold Rps at r
    exact ⟨[], [], r, .nil, rfl⟩
  | d :: ds, _, _, h, r => by
    obtain ⟨b, bs, h1, h2, rfl⟩ := mapO_cons h
    unfold Rps at r
    obtain ⟨v, t, rfl, r1, r2⟩ := r
    obtain ⟨ps, vk, rfl, q1, q2⟩ := pairT_rp hK h2 r2
    unfold pairT at h1
    split at h1
    · rename_i kd vd
      obtain ⟨k, hk, rfl⟩ := Option.map_eq_some_iff.mp h1
      unfold Rp at r1
      obtain ⟨a, us, rfl, ha, hr⟩ := r1
      unfold Rps at hr
      obtain ⟨x, r', rfl, hx, hr⟩ := hr
      unfold Rps at hr
      obtain ⟨y, r'', rfl, hy, hr⟩ := hr
      unfold Rps at hr
      subst hr
      obtain ⟨b, rfl, hb⟩ := keyT_v hk hx
      exact ⟨a :: ps, (k, y) :: vk, rfl, .cons ⟨b, by rw [hK]; exact ha.sq, hb⟩ q1, y, vk, rfl, hy, q2⟩
    · cases h1
theorem dictOf_cases {ds : List Mi.D} {o : O} (h : dictOf ds = some o) : (∃ kvs, mapO pairK ds = some kvs ∧ o = .dk (kvs.foldl (fun acc kv => putD acc kv.1 kv.2) [])) ∨ ∃ kvs, mapO pairT ds = some kvs ∧ o = .dt (kvs.foldl (fun acc kv => putD acc kv.1 kv.2) []) := by
  unfold dictOf at h
  split at h
  · cases h; exact .inl ⟨[], rfl, rfl⟩
  · rename_i k v r
    cases hk : k.key with
    | some k' =>
      simp only [hk] at h
      obtain ⟨rs, hr, rfl⟩ := Option.map_eq_some_iff.mp h
      refine .inl ⟨(k', v) :: rs, ?_, rfl⟩
      have e : pairK (.tup [k, v]) = some (k', v) := by unfold pairK; simp only [hk]; rfl
      unfold mapO
      simp only [e, hr]
    | none =>
      simp only [hk] at h
      cases hkt : k.keyT with
      | some k' =>
        simp only [hkt] at h
        obtain ⟨rs, hr, rfl⟩ := Option.map_eq_some_iff.mp h
        refine .inr ⟨(k', v) :: rs, ?_, rfl⟩
        have e : pairT (.tup [k, v]) = some (k', v) := by unfold pairT; simp only [hkt]; rfl
        unfold mapO
        simp only [e, hr]
      | none => simp only [hkt] at h; cases h
  · cases h
/-- a new object gets the next place -/
theorem place_new {φ : List Addr} {H : Hp} {S : Store} {p : Addr} {u : HO} {o : O} {xk : XK} {Q : VK} (R : Rel G φ H S) (hp : H p = none) (ho : RpO G φ (upd H p u) o p) (h : Post G (RlW G) φ H (.ok (.val (.ref S.length)) (S ++ [o])) xk Q) : Q (.ref p) (upd H p u) := by
  have E := Ext.fresh R hp u
  have R1 := R.fresh hp u
  have n : p ∉ φ := R.unk hp
  refine Post.ok (L := RlW G) (φ' := φ ++ [p]) h ⟨List.prefix_append _ _, E.keep, fun x hx => ?_⟩ (R1.more n ho) (rl_val ?_)
  · rcases List.mem_append.mp hx with q | q
    · exact .inl q
    · simp at q; subst q; exact .inr hp
  · unfold Rp
    exact ⟨p, rfl, by rw [← R.len]; simp⟩
theorem c_dict (hK : X.K = G.K) (hc : X.calm = true) (hu : X.A.units + 64 < cLine) : CallR X (.type "dict") (rC1 G .dict_) := by
  intro pins s σ H xs us Q I r h
  obtain ⟨v, rfl, φ, w1, S, xk, R, r1, h⟩ := h
  unfold p1 at h
  dsimp only at h
  split at h
  · rename_i ds hq
    split at h
    · rename_i o ho
      obtain ⟨a, vs, rfl, hs, hr⟩ := seq_rp R r1 hq
      have hs : SqL X.K H a vs := by rw [hK]; exact ifF hs
      have kp : ∀ {p : Addr} {u : HO}, H p = none → Keep φ H φ (upd H p u) := fun {p u} hp => (Ext.fresh R hp u).toKeep R
      rcases dictOf_cases ho with ⟨kvs, h1, rfl⟩ | ⟨kvs, h1, rfl⟩
      · obtain ⟨ps, vk, rfl, q1, q2⟩ := pairK_rp (X := X) hK h1 hr
        refine call_dictP hc pins s σ H _ us Q I r ⟨a, ps, vk, rfl, hs, q1, fun p hp => ?_⟩
        exact place_new R hp (show RpO G φ _ (.dk _) p from ⟨_, upd_same, RpKV.mono (kp hp) _ _ (putD_all (kvs := []) (vs := []) q2 rfl)⟩) h
      · obtain ⟨ps, vk, rfl, q1, q2⟩ := pairT_rp (X := X) hK h1 hr
        refine call_dictT hc hu pins s σ H _ us Q I r ⟨a, ps, vk, rfl, hs, q1, fun p hp => ?_⟩
        exact place_new R hp (show RpO G φ _ (.dt _) p from ⟨_, upd_same, RpKV.mono (kp hp) _ _ (putD_all (kvs := []) (vs := []) q2 rfl)⟩) h
    · exact h.elim
  · exact h.elim

/-! ### list(zip(a, b)) -/
theorem zip_rps {φ : List Addr} {H : Hp} : ∀ {ds es : List Mi.D} {xs ys : List V} {ts : List Addr}, Rps G φ H ds xs → Rps G φ H es ys → ts.length = (xs.zip ys).length →
    (∀ (j : Nat) (t : Addr) (q : V × V), ts[j]? = some t → (xs.zip ys)[j]? = some q → H t = some (.tup [q.1, q.2])) → Rps G φ H ((ds.zip es).map fun p => Mi.D.tup [p.1, p.2]) (ts.map V.ref)
  | [], _, _, _, ts, r, _, hl, _ => by
    unfold Rps at r
    subst r
    have e : ts = [] := List.length_eq_zero_iff.mp (by simpa using hl)
    subst e
    show Rps G φ H [] []
    unfold Rps; rfl
  | d :: ds, [], _, _, ts, _, r, hl, _ => by
    unfold Rps at r
    subst r
    have e : ts = [] := List.length_eq_zero_iff.mp (by simpa using hl)
    subst e
    show Rps G φ H [] []
    unfold Rps; rfl
  | d :: ds, e :: es, _, _, ts, r, r2, hl, hk => by
    unfold Rps at r r2
    obtain ⟨x, xs, rfl, h1, h2⟩ := r
    obtain ⟨y, ys, rfl, h3, h4⟩ := r2
    cases ts with
    | nil => simp at hl
    | cons t ts =>
      have ht := hk 0 t (x, y) rfl rfl
      have ih := zip_rps h2 h4 (ts := ts) (by simpa using hl) fun j t q e1 e2 => hk (j + 1) t q (by simpa using e1) (by simpa using e2)
      rw [List.zip_cons_cons, List.map_cons, List.map_cons]
      unfold Rps
      refine ⟨.ref t, _, rfl, ?_, ih⟩
      unfold Rp
      refine ⟨t, [x, y], rfl, ht, ?_⟩
      unfold Rps
      refine ⟨x, [y], rfl, h1, ?_⟩
      unfold Rps
      refine ⟨y, [], rfl, h3, ?_⟩
      unfold Rps
      rfl
theorem k_lzip {Wx : WX} {e e2 : Expr} {A B : AX W} {p p2 cpos pos : Pos} (hK : X.K = G.K) (hc : X.calm = true) (hg : L2.Gl X "list") (hm : X.mg "list" = none) (hg2 : L2.Gl X "zip") (hm2 : X.mg "zip" = none) (ha : PE X e (tK G Wx A)) (hb : PE X e2 (tK G Wx B))
    (hs : starEach [e, e2] X.env = (false, eval e X.env) :: starEach [e2] X.env) (hs2 : starEach [e2] X.env = (false, eval e2 X.env) :: starEach [] X.env) (hpl : (backTo cpos (starEach [e2] X.env)).any (·.1) = false) :
    PE X (.Call (.Name "list" p) [.Call (.Name "zip" p2) [e, e2] [] cpos] [] pos) (tK G Wx fun ρ S => (A ρ S).bd fun x S => (B ρ S).bd fun y S => Mi.p2 .lzip x y S) := by
  refine (Z.pe_listZip hc hg hm hg2 hm2 (pa_cons ha (pa_cons hb pa_nil hs2) hs) hs hpl).im fun σ H Q q => ?_
  refine tI.bd (F := fun x ρ S => (B ρ S).bd fun y S => Mi.p2 .lzip x y S) q fun φ ρ S v φ1 H1 x S1 R sl e1 R1 l h => ?_
  refine tI.next R sl e1 R1 h fun u H2 φ2 y S2 e2 R2 l2 h2 => ?_
  have h2 : Post G (RlW G) φ H (lzipW x y S2) (fun c d H' => Wx c d σ H') Q := h2
  unfold lzipW at h2
  cases hx : x.seq S2 with
  | none => simp only [hx] at h2; exact h2.elim
  | some bx =>
    cases hy : y.seq S2 with
    | none => simp only [hx, hy] at h2; exact h2.elim
    | some bz =>
      simp only [hx, hy] at h2
      by_cases hbb : bx.1 = bz.1
      · rw [if_pos hbb] at h2
        obtain ⟨bx, ds⟩ := bx
        obtain ⟨bz, es⟩ := bz
        obtain ⟨a, xs, rfl, hsa, hra⟩ := seq_rp R2 (RpW.mono e2 R1 l.1) hx
        obtain ⟨b, ys, rfl, hsb, hrb⟩ := seq_rp R2 l2.1 hy
        have e12 := e1.trans e2
        refine ⟨a, b, xs, ys, rfl, ?_, fun H' p ts k1 k2 k3 k4 k5 k6 k7 => ?_⟩
        · have hbb : bx = bz := hbb
          subst hbb
          cases bx with
          | true => exact .inr ⟨by rw [hK]; exact ifT hsa, by rw [hK]; exact ifT hsb⟩
          | false => exact .inl ⟨by rw [hK]; exact ifF hsa, by rw [hK]; exact ifF hsb⟩
        · have E3 : Ext φ2 H2 φ2 H' := ⟨List.prefix_refl _, fun a o h _ => k1 a o h, fun _ h => .inl h⟩
          have kp : Keep φ2 H2 φ2 H' := E3.toKeep R2
          have R3 : Rel G φ2 H' S2 := ⟨R2.len, R2.nd, fun n a o h1 h2 => by
            obtain ⟨u, hu, _⟩ := R2.at (List.mem_of_getElem? h1)
            exact RpO.mono kp (R2.obj n a o h1 h2) (by rw [hu, k1 a u hu])⟩
          refine Post.ok (L := RlW G) (a := W.lis _) h2 (e12.trans E3) R3 ⟨⟨p, _, rfl, k5, R2.unk k2, zip_rps (Rps.mono kp _ _ hra) (Rps.mono kp _ _ hrb) k6 k7⟩, fun ds' a' e1' e2' => ?_⟩
          cases e2'
          exact e12.fr R2 _ k2
      · rw [if_neg hbb] at h2; exact h2.elim

/-! ### {k: v, ..} -/
def flatV : List (V × V) → List V
  | [] => []
  | p :: r => p.1 :: p.2 :: flatV r
theorem unpair_rp {φ : List Addr} {H : Hp} : ∀ {ds : List Mi.D} {kvs : List (Key × Mi.D)} {ps : List (V × V)}, unpair ds = some kvs → Rps G φ H ds (flatV ps) → ∃ vk : List (Key × V), ps = vk.map (fun kv => (kV kv.1, kv.2)) ∧ RpKV G φ H kvs vk
  | [], kvs, ps, h, r => by
    cases h
    unfold Rps at r
    cases ps with
    | nil => exact ⟨[], rfl, rfl⟩
    | cons p ps => cases r
  | [d], kvs, ps, h, r => by cases h
  | k :: v :: ds, kvs, ps, h, r => by
    unfold unpair at h
    cases hk : k.key with
    | none => simp only [hk] at h; cases h
    | some k' =>
      simp only [hk] at h
      obtain ⟨rest, hr, rfl⟩ := Option.map_eq_some_iff.mp h
      unfold Rps at r
      obtain ⟨x, t, e, r1, r⟩ := r
      unfold Rps at r
      obtain ⟨y, t', rfl, r2, r⟩ := r
      cases ps with
      | nil => cases e
      | cons p ps =>
        cases e
        have e1 := key_v hk r1
        obtain ⟨vk, rfl, q⟩ := unpair_rp hr r
        refine ⟨(k', p.2) :: vk, ?_, p.2, vk, rfl, r2, q⟩
        rw [List.map_cons, ← e1]
theorem unk_upd {φ : List Addr} {H : Hp} {S : Store} {p : Addr} {kvs : List (Key × V)} {u : HO} (R : Rel G φ H S) (hp : H p = some (.dK kvs)) (n : p ∉ φ) : Keep φ H φ (upd H p u) ∧ Rel G φ (upd H p u) S := by
  have kp : Keep φ H φ (upd H p u) := by
    refine ⟨fun _ _ h => h, fun a xs h => ?_, fun a o x h => ?_⟩
    · rw [upd_ne]
      · exact h
      · rintro rfl; rw [hp] at h; cases h
    · rw [upd_ne]
      · exact h
      · rintro rfl; rw [hp] at h; cases h
  exact ⟨kp, R.len, R.nd, fun m a o h1 h2 => RpO.mono kp (R.obj m a o h1 h2) (upd_ne fun e => n (e ▸ List.mem_of_getElem? h1))⟩
theorem k_dsp {Wx : WX} {keys : List (Option Expr)} {values : List Expr} {trs : List (TE × TE)} {pos : Pos} {As : AX (List Mi.D)} (h : PPs X pos keys values trs) (hall : keys.all (·.isSome) = true) (hl : keys.length = values.length) (h0 : keys ≠ []) (h15 : keys.length ≤ 15)
    (hi : ∀ σ H Q, tDs G Wx As σ H (fun vs H' => ∀ ps, flatV ps = vs → Q ps H') → tPairs trs σ H Q) :
    PE X (.Dict keys values pos) (tK G Wx fun ρ S => (As ρ S).bd fun ds S => match dispO ds with
      | some o => .ok (.val (.ref S.length)) (S ++ [o])
      | none => .bad) := by
  refine (pe_disp h hall hl h0 h15).im fun σ H Q q p hp => hi _ _ _ ?_
  obtain ⟨φ, ρ, S, R, sl, q⟩ := q
  refine tI.next (L := RlDs G) (F := fun ds S => match dispO ds with
      | some o => Mi.R.ok (W.val (.ref S.length)) (S ++ [o])
      | none => .bad) R sl (Ext.fresh R hp _) (R.fresh hp _) q fun vs H2 φ2 ds S2 e2 R2 l2 h2 ps hps => ?_
  subst hps
  have l2 : Rps G φ2 H2 ds (flatV ps) := l2
  have hp2 : H2 p = some (.dK []) := e2.keep p _ upd_same (R.unk hp)
  have np : p ∉ φ2 := e2.out (upd_same (H := H) (a := p) (o := .dK [])) (R.unk hp)
  refine ⟨hp2, ?_⟩
  unfold dispO at h2
  cases hu : unpair ds with
  | none => simp only [hu] at h2; exact h2.elim
  | some kvs =>
    simp only [hu] at h2
    by_cases c : kvs.length ≤ 15
    · rw [if_pos c] at h2
      obtain ⟨vk, rfl, q2⟩ := unpair_rp hu l2
      refine ⟨vk, rfl, by rw [← q2.length]; exact c, ?_⟩
      obtain ⟨kp, R3⟩ := unk_upd (u := .dK (mergeK [] vk)) R2 hp2 np
      have E := (Ext.fresh R hp (.dK [])).trans e2
      refine Post.ok (L := RlW G) (φ' := φ2 ++ [p]) h2 ⟨E.pre.trans (List.prefix_append _ _), fun a o ha hn => ?_, fun x hx => ?_⟩ (R3.more np (show RpO G φ2 _ (.dk _) p from ⟨_, upd_same, RpKV.mono kp _ _ (putD_all (kvs := []) (vs := []) q2 rfl)⟩)) (rl_val ?_)
      · rw [upd_ne (fun z => by rw [z, hp] at ha; cases ha)]
        exact E.keep a o ha hn
      · rcases List.mem_append.mp hx with z | z
        · exact E.new x z
        · simp at z; subst z; exact .inr hp
      · unfold Rp
        exact ⟨p, rfl, by rw [← R2.len]; simp⟩
    · rw [if_neg c] at h2; exact h2.elim
theorem k_dsp0 {Wx : WX} {pos : Pos} : PE X (.Dict [] [] pos) (tK G Wx fun ρ S => .ok (.val (.ref S.length)) (S ++ [.dk []])) :=
  (pe_dnewK (pos := pos)).im fun σ H Q ⟨φ, ρ, S, R, sl, q⟩ p hp => place_new R hp (show RpO G φ _ (.dk []) p from ⟨[], upd_same, rfl⟩) q
end

/-! ### sorted(xs, key=f) -/
abbrev Calls := Nat → List Mi.D → Store → Mi.R Mi.D
def spI (G : Gb) (C : Calls) (i : Nat) : Sp := fun vs H Q E => ∃ φ S ds, Rel G φ H S ∧ Rps G φ H ds vs ∧ Post G (RlD G) φ H (C i ds S) E Q
section
variable {G : Gb} {X : Cx} {C : Calls} {lev : Nat}
theorem Rps.drop1 {φ : List Addr} {H : Hp} {ds : List Mi.D} {vs : List V} (r : Rps G φ H ds vs) {i : Nat} {x : V} (h : vs[i]? = some x) : ∃ d, ds.drop i = d :: ds.drop (i + 1) ∧ Rp G φ H d x := by
  have hi : i < ds.length := by rw [r.len]; exact (List.getElem?_eq_some_iff.mp h).1
  obtain ⟨v, h1, h2⟩ := r.get (List.getElem?_eq_getElem hi)
  rw [h] at h1
  cases h1
  exact ⟨ds[i], List.drop_eq_getElem_cons hi, h2⟩
theorem rps_snoc {φ : List Addr} {H : Hp} {d : Mi.D} {v : V} {ds : List Mi.D} {vs : List V} (h : Rps G φ H ds vs) (r : Rp G φ H d v) : Rps G φ H (ds ++ [d]) (vs ++ [v]) := h.snoc r
theorem rps_by {φ : List Addr} {H : Hp} {ds : List Mi.D} {vs : List V} {kz : List PyData} (r : Rps G φ H ds vs) (hl : kz.length = ds.length) : Rps G φ H (byKeys false ds kz) (byKeys false vs kz) := by
  -- the pairs, sorted alike
  have h1 : ds.zip kz = (((ds.zip vs).zip kz).map fun q => (q.1.1, q.2)) := by
    have := r.len
    clear r
    induction ds generalizing vs kz with
    | nil => rfl
    | cons d ds ih =>
      cases vs with
      | nil => cases this
      | cons v vs =>
        cases kz with
        | nil => rfl
        | cons k kz => rw [List.zip_cons_cons, List.zip_cons_cons, List.zip_cons_cons, List.map_cons, ih (by simpa using hl) (by simpa using this)]
  have h2 : vs.zip kz = (((ds.zip vs).zip kz).map fun q => (q.1.2, q.2)) := by
    have := r.len
    clear r h1
    induction ds generalizing vs kz with
    | nil =>
      cases vs with
      | nil => rfl
      | cons v vs => cases this
    | cons d ds ih =>
      cases vs with
      | nil => cases this
      | cons v vs =>
        cases kz with
        | nil => rfl
        | cons k kz => rw [List.zip_cons_cons, List.zip_cons_cons, List.zip_cons_cons, List.map_cons, ih (by simpa using hl) (by simpa using this)]
  unfold byKeys
  rw [h1, h2]
  rw [← List.map_mergeSort (f := fun q : (Mi.D × V) × PyData => (q.1.1, q.2)) (r := fun a b => PySem.W.dataLe false (fun q : (Mi.D × V) × PyData => q.2) a b) (fun _ _ _ _ => rfl), ← List.map_mergeSort (f := fun q : (Mi.D × V) × PyData => (q.1.2, q.2)) (r := fun a b => PySem.W.dataLe false (fun q : (Mi.D × V) × PyData => q.2) a b) (fun _ _ _ _ => rfl)]
  rw [List.map_map, List.map_map]
  have all : ∀ q ∈ ((ds.zip vs).zip kz).mergeSort (fun a b => PySem.W.dataLe false (fun q : (Mi.D × V) × PyData => q.2) a b), Rp G φ H q.1.1 q.1.2 := fun q hq => by
    have hq := (List.mergeSort_perm _ _).mem_iff.mp hq
    have hq := (List.of_mem_zip hq).1
    obtain ⟨j, hj⟩ := List.mem_iff_getElem?.mp hq
    rw [List.getElem?_zip_eq_some] at hj
    obtain ⟨v, e1, e2⟩ := r.get hj.1
    rw [hj.2] at e1
    cases e1
    exact e2
  generalize ((ds.zip vs).zip kz).mergeSort (fun a b => PySem.W.dataLe false (fun q : (Mi.D × V) × PyData => q.2) a b) = l at all
  induction l with
  | nil => show Rps G φ H [] []; unfold Rps; rfl
  | cons q l ih =>
    rw [List.map_cons, List.map_cons]
    unfold Rps
    exact ⟨_, _, rfl, all q List.mem_cons_self, ih fun q hq => all q (List.mem_cons_of_mem _ hq)⟩
theorem cr_srt {j : Nat} {f : Addr} {fd : FuncData} {ps : List Str} (hK : X.K = G.K) (hu : X.A.units + 64 < cLine) (hr : Room (lev + 2) X.A) (hb : Binds X.K fd ps []) (F : FnOk X.prog X.w X.K X.mg X.base (L2.CX X.prog X.w) lev f fd ps (spI G C j)) :
    CallRK X (.builtin "sorted") [Str.ofString "key"] (fun vs zs H Q => zs = [.ref f] ∧ ∃ v φ w S xk, vs = [v] ∧ Rel G φ H S ∧ RpW G φ H w v ∧ Post G (RlW G) φ H (srtW (fun d S => C j [d] S) w S) xk Q) := by
  intro pins s σ H xs zs us ws Q I r rz h
  obtain ⟨rfl, v, φ, w, S, xk, rfl, R, r1, h⟩ := h
  obtain ⟨w1, rfl, e1⟩ := vals1 rz
  have e1 : w1 = Value.ref f := e1
  subst e1
  unfold srtW at h
  split at h
  · rename_i ds hq
    obtain ⟨a, vs, rfl, hs, hr0⟩ := seq_rp R r1 hq
    have hs : SqL X.K H a vs := by rw [hK]; exact ifF hs
    obtain rfl := Vals.ref1 r
    show wpAny _ _ (call (.builtin "sorted") [.ref a] [(Str.ofString "key", .ref f)]) _ _ s
    refine So.sorted_def I hs hu (fun i ys H' => ∃ φ' S' ks, Ext φ H φ' H' ∧ Rel G φ' H' S' ∧ Rps G φ' H' ks ys ∧ ks.length = i ∧ Post G (RlW G) φ H ((keysL (fun d S => C j [d] S) (ds.drop i) S').bd fun ks2 S => srtEnd ds (ks ++ ks2) S) xk Q) ⟨φ, S, [], Ext.refl _ _, R, by unfold Rps; rfl, rfl, by simpa using h⟩ ?_ ?_
    · rintro pins' i x u ys H1 s1 I1 hx ru ⟨φ1, S1, ks, E1, R1, rk, hkl, hp⟩
      obtain ⟨d, hd, rd⟩ := hr0.drop1 hx
      rw [hd] at hp
      unfold keysL at hp
      rw [bd_bd] at hp
      have rd1 := Rp.mono (E1.toKeep R) _ _ rd
      have hA : Room lev X.A.in1.in1 := (hr.in1).in1
      have hsp : spI G C j [x] H1 (fun y H2 => ∃ φ' S' ks', Ext φ H φ' H2 ∧ Rel G φ' H2 S' ∧ Rps G φ' H2 ks' (ys ++ [y]) ∧ ks'.length = i + 1 ∧ Post G (RlW G) φ H ((keysL (fun d S => C j [d] S) (ds.drop (i + 1)) S').bd fun ks2 S => srtEnd ds (ks' ++ ks2) S) xk Q) (fun _ _ _ => False) := by
        refine ⟨φ1, S1, [d], R1, by unfold Rps; refine ⟨x, [], rfl, rd1, ?_⟩; unfold Rps; rfl, ?_⟩
        cases hC : C j [d] S1 with
        | bad => rw [hC] at hp; exact hp.elim
        | ex c fs S2 => rw [hC] at hp; exact hp.elim
        | ok k S2 =>
          rw [hC] at hp
          intro y H2 φ2 E2 R2 l2
          refine ⟨φ2, S2, ks ++ [k], E1.trans E2, R2, Rps.snoc (Rps.mono (E2.toKeep R1) _ _ rk) l2, by rw [List.length_append, hkl]; rfl, ?_⟩
          have hp : Post G (RlW G) φ H ((((keysL (fun d S => C j [d] S) (ds.drop (i + 1)) S2).bd fun ks S => .ok (k :: ks) S)).bd fun ks2 S => srtEnd ds (ks ++ ks2) S) xk Q := hp
          rw [bd_bd] at hp
          have e : (fun (ks2 : List Mi.D) (S : Store) => srtEnd ds (ks ++ [k] ++ ks2) S) = fun ks2 S => srtEnd ds (ks ++ (k :: ks2)) S := by
            funext ks2 S
            rw [List.append_assoc]
            rfl
          rw [e]
          exact hp
      have hps : 1 = ps.length := F.len _ _ _ _ hsp
      refine wpAny_call (codeAny_mono (F.run X.A.in1.in1 X.stack s1 H1 ⟨[u], []⟩ [u] [x] _ (fun _ _ _ => False) hA I1.env0.in1.in1 (by
        have q := hb s1 [u] I1.kIn (by rw [← hps]; rfl)
        simpa using q) (.cons ru .nil) hsp) fun r2 s2 hq2 => ?_)
      cases r2 with
        | error e =>
          have hq2 : L2.CX X.prog X.w X.stack H1 s1 (fun _ _ _ => False) e s2 := hq2
          obtain ⟨_, _, _, _, _, _, _, _, _, _, _, _, hF⟩ := hq2
          exact hF.elim
        | ok fl =>
          cases fl with
          | ret u2 =>
            obtain ⟨y, H2, I2, ry, q⟩ := I1.after (show CE X.stack X.prog X.w H1 s1 _ u2 s2 from hq2)
            exact ⟨y, H2, I2, ry, q⟩
          | _ => exact hq2.elim
    · rintro ys H1 ⟨φ1, S1, ks, E1, R1, rk, hkl, hp⟩
      rw [← hr0.len, List.drop_length] at hp
      unfold keysL at hp
      have hp : Post G (RlW G) φ H (srtEnd ds (ks ++ []) S1) xk Q := hp
      rw [List.append_nil] at hp
      unfold srtEnd at hp
      cases hm : mapO (toPy S1 deepest) ks with
      | none => rw [hm] at hp; exact hp.elim
      | some kz =>
        rw [hm] at hp
        dsimp only at hp
        by_cases hok : PySem.W.AllAlike kz ∧ PySem.W.Sortable kz
        · rw [if_pos hok] at hp
          have hml : ∀ {l : List Mi.D} {k : List PyData}, mapO (toPy S1 deepest) l = some k → k.length = l.length := by
            intro l
            induction l with
            | nil => intro k h; rw [mapO_nil h]; rfl
            | cons d l ih =>
              intro k h
              obtain ⟨b, bs, _, h2, rfl⟩ := mapO_cons h
              rw [List.length_cons, List.length_cons, ih h2]
          have hlen : kz.length = ds.length := by rw [hml hm, hkl, hr0.len]
          have hdep : ∀ {l : List PyData}, ∀ d ∈ l, d.depth ≤ PyData.depthAll l := by
            intro l
            induction l with
            | nil => intro d hd; cases hd
            | cons x l ih =>
              intro d hd
              have e : PyData.depthAll (x :: l) = max x.depth (PyData.depthAll l) := by simp [PyData.depthAll]
              rw [e]
              rcases List.mem_cons.mp hd with rfl | hd
              · exact Nat.le_max_left _ _
              · exact Nat.le_trans (ih d hd) (Nat.le_max_right _ _)
          refine ⟨kz, by rw [hK]; exact mapPy_dp R1 rk hm, by rw [hlen, hr0.len], hok.1, hok.2, fun d hd => Nat.le_trans (hdep d hd) (mapPy_ok hm).2, fun p hpn => ?_⟩
          have hr1 := Rps.mono (E1.toKeep R) _ _ hr0
          have E2 := Ext.fresh R1 hpn (.lst (byKeys false vs kz))
          refine Post.ok (L := RlW G) hp (E1.trans E2) (R1.fresh hpn _) ⟨⟨p, _, rfl, upd_same, R1.unk hpn, Rps.mono (E2.toKeep R1) _ _ (rps_by hr1 hlen)⟩, fun ds' a' e1 e2 => ?_⟩
          cases e2
          exact E1.fr R1 _ hpn
        · rw [if_neg hok] at hp; exact hp.elim
  · exact h.elim
end
end Mi

/-! Mi, part H: from the text to the small language; it tells the truth: expressions. -/
namespace Mi
open PySem L2 PyProof.Rows RT RZ

/-! ### the translation -/
inductive Gl where
  | fn (i : Nat) | cst (d : D)
structure Ct where
  N : List Str
  gl : List (Str × Gl)
  sc : Scope
def Ct.vis (c : Ct) (x : Str) : Bool := match c.sc.names.lookup x with
  | some .local => true | some .cell => true | some .free => true | _ => false
def Ct.glb (c : Ct) (x : Str) : Bool := decide (c.sc.names.lookup x = some .globalImplicit)
def Ct.loc (c : Ct) (x : Str) : Bool := match c.sc.names.lookup x with
  | some .local => true | some .cell => true | _ => false
def ixOf (N : List Str) (x : Str) : Option Nat := match N with
  | [] => none
  | y :: r => if y = x then some 0 else (ixOf r x).map (· + 1)
def bad : List Str := ["__debug__", "__classdict__", "__name__"]
def okName (x : Str) : Bool := !(bad.contains x)
def binOf : Operator → Option P2
  | .Add => some .add | .Sub => some .sub | .Mult => some .mul | .FloorDiv => some .fdiv | .Mod => some .mod | .Pow => some .pow | _ => none
def cmpOf : CmpOp → Option P2
  | .Eq => some .eq | .NotEq => some .ne | .Lt => some .lt | .LtE => some .le | .Gt => some .gt | .GtE => some .ge | .In => some .inn | .NotIn => some .nin | _ => none
def isSet : Expr → Bool
  | .Set _ _ _ => true | _ => false
def isStar : Expr → Bool
  | .Starred _ _ => true | _ => false
def isSlice : Expr → Bool
  | .Slice _ _ _ _ => true | _ => false
def baseOk : Expr → Bool
  | .Call (.Name _ _) [] [] _ => false | _ => true
/-- built-in names that a text may call -/
def b1Of (x : Str) : Option P1 := if x = ("len" : Str) then some .len else if x = ("int" : Str) then some .int_ else if x = ("ord" : Str) then some .ord else if x = ("str" : Str) then some .str_ else if x = ("tuple" : Str) then some .tuple_ else if x = ("list" : Str) then some .list_ else if x = ("dict" : Str) then some .dict_ else if x = ("all" : Str) then some .all_ else none
def b2Of (x : Str) : Option P2 := if x = ("max" : Str) then some .max_ else if x = ("min" : Str) then some .min_ else none
def tyOf (x : Str) : Option Ty := if x = ("int" : Str) then some .int else if x = ("str" : Str) then some .str else if x = ("bool" : Str) then some .bool else if x = ("tuple" : Str) then some .tuple else if x = ("list" : Str) then some .list else none
def m0Of (x : Str) : Option (MK × P1) := if x = ("pop" : Str) then some (.list, .pop) else none
def m1Of (x : Str) : Option (MK × P2) := if x = ("append" : Str) then some (.list, .append) else if x = ("extend" : Str) then some (.list, .extend) else if x = ("join" : Str) then some (.str, .join) else if x = ("split" : Str) then some (.str, .split) else none
def Ct.blt (c : Ct) (x : Str) : Bool := c.glb x && (c.gl.lookup x).isNone
def ty1 (c : Ct) (e : Expr) : Option Ty := match e with
  | Expr.Name x _ => if c.blt x = true then tyOf x else none
  | _ => none
def tyE (c : Ct) : Expr → Option (List Ty)
  | .Name x p => (ty1 c (.Name x p)).map fun t => [t]
  | .Tuple es _ _ => if es.length ≤ 100 then mapO (ty1 c) es else none
  | _ => none
def tgE (c : Ct) : Expr → Option Tg
  | .Name x _ => if c.loc x = true then (ixOf c.N x).map .nm else none
  | .Tuple es _ _ => (mapO (fun e => match e with | Expr.Name x _ => if c.loc x = true then ixOf c.N x else none | _ => none) es).map .tp
  | _ => none
def andE : List Ex → Option Ex
  | [] => none
  | [a] => some a
  | a :: b :: r => (andE (b :: r)).map (.and_ a)
def orE : List Ex → Option Ex
  | [] => none
  | [a] => some a
  | a :: b :: r => (orE (b :: r)).map (.or_ a)
def ownE (N : List Str) (sc : Scope) : List (Str × Nat) := sc.names.filterMap fun y => match y.2 with
  | .local => (ixOf N y.1).map fun i => (y.1, i)
  | .cell => (ixOf N y.1).map fun i => (y.1, i)
  | _ => none
def optE (f : Expr → Option Ex) : Option Expr → Option (List Ex)
  | none => some []
  | some e => (f e).map fun e => [e]

/-- the iterators that give tuples want a target of several names -/
def tupT (k : IK) (tg : Expr) : Bool := match k, tg with
  | .zip, .Tuple _ _ _ => true
  | .enm, .Tuple _ _ _ => true
  | .zip, _ => false
  | .enm, _ => false
  | _, _ => true
/-- one step of it: rec is for the parts -/
def iStep (rec : Ct → Expr → Option Ex) (c : Ct) : Expr → Option (IK × List Ex)
  | .Call (.Name x p) es kw pos => if (c.blt x && kw.isEmpty) = true then
      if x = ("range" : Str) then match es with
        | [a] => if isStar a = true then none else (rec c a).map fun a => (.rng1, [a])
        | [a, b] => if (isStar a || isStar b) = true then none else match rec c a, rec c b with
          | some a, some b => some (.rng2, [a, b])
          | _, _ => none
        | [a, b, d] => if (isStar a || isStar b || isStar d) = true then none else match rec c a, rec c b, rec c d with
          | some a, some b, some d => some (.rng3, [a, b, d])
          | _, _, _ => none
        | _ => none
      else if x = ("zip" : Str) then match es with
        | [a, b] => if (isStar a || isStar b) = true then none else match rec c a, rec c b with
          | some a, some b => some (.zip, [a, b])
          | _, _ => none
        | _ => none
      else if x = ("enumerate" : Str) then match es with
        | [a] => if isStar a = true then none else (rec c a).map fun a => (.enm, [a])
        | _ => none
      else if x = ("reversed" : Str) then match es with
        | [a] => if isStar a = true then none else (rec c a).map fun a => (.rev, [a])
        | _ => none
      else (rec c (.Call (.Name x p) es kw pos)).map fun a => (.it, [a])
    else (rec c (.Call (.Name x p) es kw pos)).map fun a => (.it, [a])
  | e => if isSet e = true then none else (rec c e).map fun a => (.it, [a])
def cmpStep (rec : Ct → Expr → Option Ex) (c : Ct) (a : Expr) : List CmpOp → List Expr → Option Ex
  | [op], [b] => if isSet b = true then none else match op, b with
    | .Is, .Constant .none _ _ => (rec c a).map (.p1 .isN)
    | .IsNot, .Constant .none _ _ => (rec c a).map (.p1 .notN)
    | op, b => match cmpOf op, rec c a, rec c b with
      | some o, some a, some b => some (.p2 o a b)
      | _, _, _ => none
  | [op, op'], [b, d] => if isSet d = true then none else match cmpOf op, cmpOf op', rec c a, rec c b, rec c d with
    | some o, some o', some a, some b, some d => some (.ch o o' a b d)
    | _, _, _, _, _ => none
  | _, _ => none
/-- zip(u, v) in list(..) -/
def zipArg (x : Str) (a : Expr) : Option (Expr × Expr) := match a with
  | .Call (.Name y _) [u, v] [] _ => if x = ("list" : Str) then (if y = ("zip" : Str) then some (u, v) else none) else none
  | _ => none
/-- sorted(a, key=f) -/
def srtStep (rec : Ct → Expr → Option Ex) (c : Ct) (x : Str) (es : List Expr) (k y : Str) : Option Ex := match es with
  | [a] => if (c.blt x && decide (x = ("sorted" : Str)) && decide (k = ("key" : Str)) && !isStar a && c.glb y && okName y) = true then match c.gl.lookup y, rec c a with
      | some (.fn i), some a => some (.srt i false a)
      | _, _ => none
    else none
  | _ => none
/-- a display's keys and values, in turn -/
def flatE : List (Option Expr) → List Expr → Option (List Expr)
  | [], [] => some []
  | some k :: ks, v :: vs => (flatE ks vs).map fun r => k :: v :: r
  | _, _ => none
def callStep (rec : Ct → Expr → Option Ex) (c : Ct) (x : Str) (es : List Expr) : Option Ex :=
  if (okName x && !es.any isStar) = false then none else if c.glb x = false then none else match c.gl.lookup x with
    | some (.fn i) => (mapO (rec c) es).map (.call i)
    | some (.cst _) => none
    | none => match es with
      | [a] => match zipArg x a with
        | some (u, v) => if (c.blt "zip" && !isStar u && !isStar v) = true then match rec c u, rec c v with
            | some u, some v => some (.p2 .lzip u v)
            | _, _ => none
          else none
        | none => match b1Of x, rec c a with
          | some o, some a => some (.p1 o a)
          | _, _ => none
      | [a, t] => if x = ("isinstance" : Str) then match rec c a, tyE c t with
          | some a, some ts => some (.isi ts a)
          | _, _ => none
        else match b2Of x, rec c a, rec c t with
          | some o, some a, some b => some (.p2 o a b)
          | _, _, _ => none
      | _ => none
/-- u[lo:v + w].replace(y, z) -/
def replStep (rec : Ct → Expr → Option Ex) (c : Ct) (o : Expr) (m : Str) (a b : Expr) : Option Ex := match o, a, b with
  | .Subscript u (.Slice lo (some (.BinOp v .Add w _)) none _) _, .Constant (.str y) _ _, .Constant (.str z) _ _ => if (decide (m = ("replace" : Str)) && !(y == z)) = true then match rec c u, optE (rec c) lo, rec c v, rec c w with
      | some u, some lo, some v, some w => some (.repl u lo v w y z)
      | _, _, _, _ => none
    else none
  | _, _, _ => none
def methStep (rec : Ct → Expr → Option Ex) (c : Ct) (o : Expr) (m : Str) (es : List Expr) : Option Ex :=
  if (baseOk o && !es.any isStar) = false then none else match es with
    | [] => match m0Of m, rec c o with
      | some (k, p), some o => some (.m0 k p o)
      | _, _ => none
    | [a] => match m1Of m, rec c o, rec c a with
      | some (k, p), some o, some a => some (.m1 k p o a)
      | _, _, _ => none
    | [a, b] => replStep rec c o m a b
    | _ => none
/-- a part of an f-string -/
def fmtStep (rec : Ct → Expr → Option Ex) (c : Ct) : Expr → Option Ex
  | .FormattedValue e (-1) none _ => (rec c e).map (.p1 .fmt)
  | .Constant (.str x) _ _ => some (.c (.str x))
  | _ => none
def compStep (rec : Ct → Expr → Option Ex) (c : Ct) (elt tg iter : Expr) (ifs : List Expr) (sc : Scope) : Option Ex :=
  if (blkC c.N c.sc sc (ownE c.N sc) && !isSet iter) = true then match tgE ⟨c.N, c.gl, sc⟩ tg, iStep rec c iter, rec ⟨c.N, c.gl, sc⟩ elt with
    | some t, some (k, is), some e => if (tupT k tg && t.slots.all fun i => decide (i ∈ (ownE c.N sc).map (·.2))) = true then match ifs with
      | [] => some (.comp t k is [] e ((ownE c.N sc).map (·.2)))
      | [f] => (rec ⟨c.N, c.gl, sc⟩ f).map fun f => .comp t k is [f] e ((ownE c.N sc).map (·.2))
      | _ => none
      else none
    | _, _, _ => none
  else none
def eStep (rec : Ct → Expr → Option Ex) (c : Ct) : Expr → Option Ex
  | .Name x _ => if okName x = false then none else if c.vis x = true then (ixOf c.N x).map .v else if c.glb x = true then match c.gl.lookup x with
      | some (.cst d) => some (.c d)
      | _ => none
    else none
  | .Constant k _ _ => match k with
    | .none => some (.c .non)
    | .bool b => some (.c (.bl b))
    | .int i => some (.c (.int i))
    | .str x => some (.c (.str x))
    | _ => none
  | .BinOp a op b _ => match binOf op, rec c a, rec c b with
    | some o, some a, some b => some (.p2 o a b)
    | _, _, _ => none
  | .UnaryOp op a _ => match op with
    | .Not => (rec c a).map .not_
    | .USub => (rec c a).map (.p1 .neg)
    | _ => none
  | .BoolOp op es _ => match op with
    | .And => (mapO (rec c) es).bind andE
    | .Or => (mapO (rec c) es).bind orE
  | .IfExp t a b _ => match rec c t, rec c a, rec c b with
    | some t, some a, some b => some (.ite t a b)
    | _, _, _ => none
  | .Compare a ops es _ => cmpStep rec c a ops es
  | .Call f es kw pos => match kw with
    | [] => match f with
      | .Name x _ => callStep rec c x es
      | .Attribute o m apos => if (apos.endLine == pos.line) = false then none else methStep rec c o m es
      | _ => none
    | [⟨some k, .Name y _, _⟩] => match f with
      | .Name x _ => srtStep rec c x es k y
      | _ => none
    | _ => none
  | .Dict keys values _ => match flatE keys values with
    | some es => if keys.length ≤ 15 then (mapO (rec c) es).map .dict else none
    | none => none
  | .Subscript a b _ => match b with
    | .Slice lo hi none _ => match rec c a, optE (rec c) lo, optE (rec c) hi with
      | some a, some lo, some hi => some (.sl a lo hi)
      | _, _, _ => none
    | .Slice _ _ (some _) _ => none
    | b => match rec c a, rec c b with
      | some a, some b => some (.p2 .ix a b)
      | _, _ => none
  | .Tuple es _ _ => if es.any isStar = true then none else (mapO (rec c) es).map .tup
  | .List es _ => if es.any isStar = true then none else (mapO (rec c) es).map .disp
  | .ListComp elt gs sc _ => match gs with
    | [⟨tg, iter, ifs, 0⟩] => compStep rec c elt tg iter ifs sc
    | _ => none
  | .JoinedStr es _ => match es with
    | v1 :: v2 :: r => (mapO (fmtStep rec c) (v1 :: v2 :: r)).map .fst
    | _ => none
  | _ => none
def cE : Nat → Ct → Expr → Option Ex
  | 0 => fun _ _ => none
  | n + 1 => eStep (cE n)
def cI (n : Nat) : Ct → Expr → Option (IK × List Ex) := iStep (cE n)

/-! ### it tells the truth -/
structure FnAt (G : Gb) (C : Calls) (lev : Nat) (X : Cx) (x : Str) (i : Nat) : Prop where
  ex : ∃ (f : Addr) (fd : FuncData) (ps : List Str), X.mg x = some (.ref f) ∧ PySem.W.keepIn X.K (.ref f) = true ∧ Binds X.K fd ps [] ∧ FnOk X.prog X.w X.K X.mg X.base (L2.CX X.prog X.w) lev f fd ps (spI G C i)
def bltNames : List Str := ["len", "int", "ord", "str", "tuple", "list", "isinstance", "bool", "range", "zip", "enumerate", "reversed", "dict", "sorted", "sum", "all", "any", "max", "min", "abs", "set"]
structure Good (G : Gb) (C : Calls) (Wx : WX) (lev : Nat) (X : Cx) (c : Ct) : Prop where
  hK : X.K = G.K
  hN : X.N = c.N
  nd : c.N.Nodup
  vis : ∀ x, c.vis x = true → Vis X.env.scope x
  glb : ∀ x, c.glb x = true → L2.Gl X x
  loc : ∀ x, c.loc x = true → Loc X.env.scope x ∧ (X.fn x = true ∨ X.env.scope.names.lookup x = some .local)
  cf : ∀ y, (c.sc.names.lookup y = some .cell ∨ c.sc.names.lookup y = some .free) → (X.env.scope.names.lookup y = some .cell ∨ X.env.scope.names.lookup y = some .free)
  calm : X.calm = true
  hu : X.A.units + 64 < cLine
  room : Room (lev + 2) X.A
  fns : ∀ x i, c.gl.lookup x = some (.fn i) → FnAt G C lev X x i
  cst : ∀ x d, c.gl.lookup x = some (.cst d) → ∃ v u, X.mg x = some u ∧ L2.RelV v u ∧ ∀ φ H, Rp G φ H d v
  blt : ∀ x ∈ bltNames, c.gl.lookup x = none → X.mg x = none
  pas : ∀ σ, PassesAt (L2.CX X.prog X.w) X σ (fun cl d H => Wx cl d σ H)
section
variable {G : Gb} {C : Calls} {Wx : WX} {lev : Nat} {X : Cx} {c : Ct} {n : Nat}
theorem ixOf_get : ∀ {N : List Str} {x : Str} {i : Nat}, ixOf N x = some i → N[i]? = some x
  | [], _, _, h => by cases h
  | y :: r, x, i, h => by
    unfold ixOf at h
    by_cases e : y = x
    · rw [if_pos e] at h
      cases h
      rw [e]; rfl
    · rw [if_neg e] at h
      obtain ⟨j, hj, rfl⟩ := Option.map_eq_some_iff.mp h
      simpa using ixOf_get hj
theorem okName_of {x : Str} (h : okName x = true) : (x == ("__debug__" : Str)) = false ∧ (x == ("__classdict__" : Str)) = false ∧ x ≠ ("__name__" : Str) := by
  unfold okName bad at h
  simp only [List.contains_cons, List.contains_nil, Bool.or_false, Bool.not_or, Bool.and_eq_true, Bool.not_eq_true'] at h
  obtain ⟨h1, h2, h3⟩ := h
  exact ⟨h1, h2, by simpa using h3⟩
theorem star_cons {e : Expr} {es : List Expr} {env : PySem.Env} (h : isStar e = false) : starEach (e :: es) env = (false, eval e env) :: starEach es env := by
  cases e <;> first | rfl | cases h
theorem star_any {es : List Expr} {env : PySem.Env} {pos : Pos} (h : es.any isStar = false) : (backTo pos (starEach es env)).any (·.1) = false := by
  have q : ∀ es : List Expr, es.any isStar = false → (starEach es env).any (·.1) = false := by
    intro es
    induction es with
    | nil => intro _; rfl
    | cons e es ih =>
      intro h
      rw [List.any_cons, Bool.or_eq_false_iff] at h
      rw [star_cons h.1, List.any_cons, ih h.2]
      rfl
  have z := q es h
  have e : ∀ l : List (Bool × Sem Value), (backTo pos l).any (·.1) = l.any (·.1) := by
    intro l
    unfold backTo
    rw [List.any_map]
    rfl
  rw [e]
  exact z
theorem behind_ok {op : CmpOp} {b : Expr} (h : isSet b = false) : behindInMarks op b = false := by
  cases b <;> first | rfl | cases h
theorem last_ok {op op' : CmpOp} {b d : Expr} (h : isSet d = false) : lastMarks [op, op'] [b, d] = false := by
  show lastMarks [op'] [d] = false
  show behindInMarks op' d = false
  exact behind_ok h
theorem base_ok {o : Expr} {m : Str} {env : PySem.Env} (h : baseOk o = true) : attributeBase o m env (eval o env) = eval o env := by
  cases o with
  | Call f es ks p =>
    cases f with
    | Name x q =>
      cases es with
      | nil =>
        cases ks with
        | nil => cases h
        | cons _ _ => rfl
      | cons _ _ => rfl
    | _ => rfl
  | _ => rfl
theorem plainIx_ok {b : Expr} (h : isSlice b = false) : PlainIx b := by
  intro o i
  cases b <;> first | rfl | cases h
theorem fold_ok {e : Expr} {env : PySem.Env} (h : isSet e = false) : ∀ x, foldedSetIterable e env x = pure x := by
  intro x
  cases e <;> first | rfl | cases h
/-- a comprehension's block -/
theorem lookup_relabel {env : PySem.Env} {x : Str} : ∀ {names : List (Str × NameKind)},
    (names.map fun (n, k) => if (k == NameKind.free && env.scope.kind == .function && env.kindOf n == some .cell) then (n, NameKind.cell) else (n, k)).lookup x = (names.lookup x).map fun k => if (k == NameKind.free && env.scope.kind == .function && env.kindOf x == some .cell) = true then NameKind.cell else k
  | [] => rfl
  | (n, k) :: r => by
    have ih := @lookup_relabel env x r
    show List.lookup x ((if (k == NameKind.free && env.scope.kind == .function && env.kindOf n == some .cell) = true then (n, NameKind.cell) else (n, k)) :: _) = _
    cases hx : x == n with
    | true =>
      have e : x = n := by simpa using hx
      subst e
      by_cases hc : (k == NameKind.free && env.scope.kind == .function && env.kindOf x == some .cell) = true
      · rw [if_pos hc]
        simp only [List.lookup_cons, beq_self_eq_true, Option.map_some, if_pos hc]
      · rw [if_neg hc]
        simp only [List.lookup_cons, beq_self_eq_true, Option.map_some, if_neg hc]
    | false =>
      by_cases hc : (k == NameKind.free && env.scope.kind == .function && env.kindOf n == some .cell) = true
      · rw [if_pos hc]; simp only [List.lookup_cons, hx]; exact ih
      · rw [if_neg hc]; simp only [List.lookup_cons, hx]; exact ih
theorem Good.blk (g : Good G C Wx lev X c) (sc : Scope) (s : Shared) (H : Hp) (Ca : Addr) (cl : List (Str × Addr)) (fp : List Addr) : Good G C WxF lev (X.blk s H sc (compEnvC sc cl Ca X.env) fp) ⟨c.N, c.gl, sc⟩ := by
  have key : ∀ x, (compEnvC sc cl Ca X.env).scope.names.lookup x = (sc.names.lookup x).map fun k => if (k == NameKind.free && X.env.scope.kind == .function && X.env.kindOf x == some .cell) = true then NameKind.cell else k := fun x => lookup_relabel
  refine ⟨g.hK, g.hN, g.nd, fun x h => ?_, fun x h => ?_, fun x h => ?_, fun x h => ?_, g.calm, g.hu, g.room, fun x i h => ⟨(g.fns x i h).ex⟩, g.cst, g.blt, fun σ pins H s e s' I cx => ?_⟩
  · unfold Ct.vis at h
    show Vis (compEnvC sc cl Ca X.env).scope x
    unfold Vis
    rw [key]
    have h : (match sc.names.lookup x with | some .local => true | some .cell => true | some .free => true | _ => false) = true := h
    cases q : sc.names.lookup x with
    | none => rw [q] at h; cases h
    | some k =>
      rw [q] at h
      cases k with
      | «local» => exact .inl rfl
      | cell => exact .inr (.inl rfl)
      | free =>
        show some (if _ then NameKind.cell else NameKind.free) = _ ∨ some (if _ then NameKind.cell else NameKind.free) = _ ∨ some (if _ then NameKind.cell else NameKind.free) = _
        split
        · exact .inr (.inl rfl)
        · exact .inr (.inr rfl)
      | _ => cases h
  · have h : sc.names.lookup x = some .globalImplicit := of_decide_eq_true h
    show (compEnvC sc cl Ca X.env).scope.names.lookup x = some .globalImplicit
    rw [key, h]
    rfl
  · unfold Ct.loc at h
    show L2.Loc (compEnvC sc cl Ca X.env).scope x ∧ ((sc.names.lookup x == some .cell) = true ∨ (compEnvC sc cl Ca X.env).scope.names.lookup x = some .local)
    unfold L2.Loc
    rw [key]
    have h : (match sc.names.lookup x with | some .local => true | some .cell => true | _ => false) = true := h
    cases q : sc.names.lookup x with
    | none => rw [q] at h; cases h
    | some k =>
      rw [q] at h
      cases k with
      | «local» => exact ⟨.inl rfl, .inr rfl⟩
      | cell => exact ⟨.inr rfl, .inl rfl⟩
      | _ => cases h
  · show (compEnvC sc cl Ca X.env).scope.names.lookup x = some .cell ∨ (compEnvC sc cl Ca X.env).scope.names.lookup x = some .free
    rw [key]
    have h : sc.names.lookup x = some .cell ∨ sc.names.lookup x = some .free := h
    rcases h with h | h
    · rw [h]; exact .inl rfl
    · rw [h]
      show some (if _ then NameKind.cell else NameKind.free) = _ ∨ some (if _ then NameKind.cell else NameKind.free) = _
      split
      · exact .inl rfl
      · exact .inr rfl
  · obtain ⟨a, B, H', cls, d, rfl, fl, hok, ub, na, os, ag, hE⟩ := cx
    exact hE.elim
/-- a call of a def -/
theorem call_im {i : Nat} {As : AX (List D)} {σ : L2.St} {H : Hp} {Q : VK} (h : tK G Wx (fun ρ S => (As ρ S).bd fun ds S => (C i ds S).bd fun d S => vv d S) σ H Q) :
    tDs G Wx As σ H fun vs H1 => spI G C i vs H1 Q (fun cl d H' => Wx cl d σ H') :=
  tI.bd (F := fun ds _ S => (C i ds S).bd fun d S => vv d S) h fun φ ρ S vs φ1 H1 ds S1 R sl e R1 l h => by
    refine ⟨φ1, S1, ds, R1, l, ?_⟩
    refine (Post.bd (L := RlD G) (h.sh e R1 mnW)).mono fun v H2 ⟨φ2, d, S2, _, e2, R2, l2, h2⟩ => ?_
    exact Post.ok (L := RlW G) h2 e2 R2 (rl_val l2)
theorem run_at {i : Nat} {σ : L2.St} {pins : List (Addr × Obj)} {H : Hp} {s : Shared} {Q : VK} {us : List Value} {vs : List V} (g : Good G C Wx lev X c) {f : Addr} {fd : FuncData} {ps : List Str} (hb : Binds X.K fd ps [])
    (F : FnOk X.prog X.w X.K X.mg X.base (L2.CX X.prog X.w) lev f fd ps (spI G C i)) (I : L2.Inv X pins σ H s) (r : Vals vs us) (h : spI G C i vs H Q (fun cl d H' => Wx cl d σ H')) : wpAny (model X.prog X.w) X.A (call (.ref f) us) (EP X pins σ Q) X.xe s :=
  run_fnS (E := fun σ cl d H' => Wx cl d σ H') F (g.room.mono (by omega)) hb (g.pas σ) I r h
theorem k_call {x : Str} {i : Nat} {es : List Expr} {p pos : Pos} {As : AX (List D)} (g : Good G C Wx lev X c) (hx : c.glb x = true) (hi : c.gl.lookup x = some (.fn i)) (hn : okName x = true) (hs : es.any isStar = false) (ha : PA X es (tDs G Wx As)) (h0 : es = [] → As = fun _ S => .ok [] S) :
    PE X (.Call (.Name x p) es [] pos) (tK G Wx fun ρ S => (As ρ S).bd fun ds S => (C i ds S).bd fun d S => vv d S) := by
  obtain ⟨f, fd, ps, hm, hk, hb, F⟩ := (g.fns x i hi).ex
  obtain ⟨n1, n2, n3⟩ := okName_of hn
  cases es with
  | nil =>
    refine ⟨fun pins s σ H Q I h => ?_⟩
    refine wpAny_Call_Name_kw (ld_glob I (g.glb x hx) hm ?_ n1)
    refine PySem.W.callWith_K0 I.kIn hk ?_
    obtain ⟨φ, ρ, S, R, sl, h⟩ := h
    refine run_at (us := []) (vs := []) g hb F I .nil ⟨φ, S, [], R, by unfold Rps; rfl, ?_⟩
    rw [h0 rfl] at h
    have h : Post G (RlW G) φ H ((C i [] S).bd fun d S => vv d S) (fun c d H' => Wx c d σ H') Q := h
    refine (Post.bd (L := RlD G) h).mono fun v H2 ⟨φ2, d, S2, _, e2, R2, l2, h2⟩ => ?_
    exact Post.ok (L := RlW G) h2 e2 R2 (rl_val l2)
  | cons e es =>
    rw [List.any_cons, Bool.or_eq_false_iff] at hs
    refine ⟨fun pins s σ H Q I h => ?_⟩
    refine wpAny_Call_Name_kw (ld_glob I (g.glb x hx) hm ?_ n1)
    refine PySem.W.callWith_K (h₀ := X.base) I.ok.mod.kin hk (thn (ha.run pos pins s σ H _ I (call_im h)) fun us s1 ⟨vs, H1, I1, r, q⟩ => ⟨I1.kIn, ?_⟩) (star_cons hs.1) (star_any hs.2)
    exact run_at g hb F I1 r q
/-! ### built-in calls, methods -/
theorem k_b1 {x : Str} {o : P1} {a : Expr} {id : Value} {p pos : Pos} {A : AX W} (g : Good G C Wx lev X c) (hx : c.blt x = true) (hb : x ∈ bltNames) (hn : okName x = true) (hs : isStar a = false) (ha : PE X a (tK G Wx A))
    (hc : (∃ i, id = .builtin i ∧ bootBuiltins x = some (.builtin i) ∧ CallR X (.builtin i) (rC1 G o)) ∨ (∃ i, id = .type i ∧ bootBuiltins x = some (.type i) ∧ CallR X (.type i) (rC1 G o))) :
    PE X (.Call (.Name x p) [a] [] pos) (tK G Wx fun ρ S => (A ρ S).bd fun x S => p1 o x S) := by
  obtain ⟨n1, n2, n3⟩ := okName_of hn
  unfold Ct.blt at hx
  obtain ⟨h1, h2⟩ := Bool.and_eq_true_iff.mp hx
  have hm := g.blt x hb (by simpa using h2)
  have him : ∀ σ H Q, tK G Wx (fun ρ S => (A ρ S).bd fun x S => p1 o x S) σ H Q → tCB (rC1 G o) (tCons (tK G Wx A) tNil) σ H Q := fun σ H Q q =>
    tI.bd (F := fun x _ S => p1 o x S) q fun φ ρ S v φ1 H1 x S1 R sl e R1 l h => ⟨v, rfl, φ1, x, S1, _, R1, l.1, h.sh e R1 mnW⟩
  rcases hc with ⟨i, rfl, hv, hc⟩ | ⟨i, rfl, hv, hc⟩
  · exact (pe_callB hc (g.glb x h1) hm hv (pa_cons ha pa_nil (star_cons hs)) n3 n1 (star_cons hs) rfl).im him
  · exact (pe_callTy hc (g.glb x h1) hm hv (pa_cons ha pa_nil (star_cons hs)) n3 n1 (star_cons hs) rfl).im him
theorem b1_hc {x : Str} {o : P1} (g : Good G C Wx lev X c) (h : b1Of x = some o) : x ∈ bltNames ∧ okName x = true ∧ ∃ id, ((∃ i, id = Value.builtin i ∧ bootBuiltins x = some (.builtin i) ∧ CallR X (.builtin i) (rC1 G o)) ∨ (∃ i, id = Value.type i ∧ bootBuiltins x = some (.type i) ∧ CallR X (.type i) (rC1 G o))) := by
  unfold b1Of at h
  split at h
  · rename_i e; subst e; cases h
    exact ⟨by decide +kernel, by decide +kernel, _, .inl ⟨"len", rfl, PySem.boot_len, c_len g.hK⟩⟩
  split at h
  · rename_i e; subst e; cases h
    exact ⟨by decide +kernel, by decide +kernel, _, .inr ⟨"int", rfl, boot_int, c_int⟩⟩
  split at h
  · rename_i e; subst e; cases h
    exact ⟨by decide +kernel, by decide +kernel, _, .inl ⟨"ord", rfl, boot_ord, c_ord⟩⟩
  split at h
  · rename_i e; subst e; cases h
    exact ⟨by decide +kernel, by decide +kernel, _, .inr ⟨"str", rfl, boot_str, c_str⟩⟩
  split at h
  · rename_i e; subst e; cases h
    exact ⟨by decide +kernel, by decide +kernel, _, .inr ⟨"tuple", rfl, boot_tuple, c_tuple g.hK⟩⟩
  split at h
  · rename_i e; subst e; cases h
    exact ⟨by decide +kernel, by decide +kernel, _, .inr ⟨"list", rfl, boot_list, c_list g.hK⟩⟩
  split at h
  · rename_i e; subst e; cases h
    exact ⟨by decide +kernel, by decide +kernel, _, .inr ⟨"dict", rfl, PyProof.Rows.boot_dict, c_dict g.hK g.calm g.hu⟩⟩
  split at h
  · rename_i e; subst e; cases h
    exact ⟨by decide +kernel, by decide +kernel, _, .inl ⟨"all", rfl, PyProof.Rows.boot_all, c_all g.hK g.calm⟩⟩
  · cases h
theorem k_b2 {x : Str} {o : P2} {a b : Expr} {i : String} {p pos : Pos} {A B : AX W} (g : Good G C Wx lev X c) (hx : c.blt x = true) (hb : x ∈ bltNames) (hn : okName x = true) (hs : isStar a = false) (hs2 : isStar b = false) (ha : PE X a (tK G Wx A)) (hb2 : PE X b (tK G Wx B))
    (hv : bootBuiltins x = some (.builtin i)) (hc : CallR X (.builtin i) (rC2 G o)) :
    PE X (.Call (.Name x p) [a, b] [] pos) (tK G Wx fun ρ S => (A ρ S).bd fun x S => (B ρ S).bd fun y S => p2 o x y S) := by
  obtain ⟨n1, n2, n3⟩ := okName_of hn
  unfold Ct.blt at hx
  obtain ⟨h1, h2⟩ := Bool.and_eq_true_iff.mp hx
  have hm := g.blt x hb (by simpa using h2)
  refine (pe_callB hc (g.glb x h1) hm hv (pa_cons ha (pa_cons hb2 pa_nil (star_cons hs2)) (star_cons hs)) n3 n1 (star_cons hs) (star_any (by simp [hs2]))).im fun σ H Q q => ?_
  refine tI.bd (F := fun x ρ S => (B ρ S).bd fun y S => p2 o x y S) q fun φ ρ S v φ1 H1 x S1 R sl e R1 l h => ?_
  refine tI.next R sl e R1 h fun u H2 φ2 y S2 e2 R2 l2 h2 => ?_
  exact ⟨v, u, rfl, φ2, x, y, S2, _, R2, RpW.mono e2 R1 l.1, l2.1, h2.sh (e.trans e2) R2 mnW⟩
theorem b2_hc {x : Str} {o : P2} (g : Good G C Wx lev X c) (h : b2Of x = some o) : x ∈ bltNames ∧ okName x = true ∧ ∃ i, bootBuiltins x = some (.builtin i) ∧ CallR X (.builtin i) (rC2 G o) := by
  unfold b2Of at h
  split at h
  · rename_i e; subst e; cases h
    exact ⟨by decide +kernel, by decide +kernel, "max", PyProof.Rows.boot_max, c_max g.calm⟩
  split at h
  · rename_i e; subst e; cases h
    exact ⟨by decide +kernel, by decide +kernel, "min", PyProof.Rows.boot_min, c_min g.calm⟩
  · cases h
theorem ty_boot {x : Str} {t : Ty} (h : tyOf x = some t) : x ∈ bltNames ∧ okName x = true ∧ bootBuiltins x = some (.type t.name) := by
  unfold tyOf at h
  split at h
  · rename_i e; subst e; cases h; exact ⟨by decide +kernel, by decide +kernel, boot_int⟩
  split at h
  · rename_i e; subst e; cases h; exact ⟨by decide +kernel, by decide +kernel, boot_str⟩
  split at h
  · rename_i e; subst e; cases h; exact ⟨by decide +kernel, by decide +kernel, boot_bool⟩
  split at h
  · rename_i e; subst e; cases h; exact ⟨by decide +kernel, by decide +kernel, boot_tuple⟩
  split at h
  · rename_i e; subst e; cases h; exact ⟨by decide +kernel, by decide +kernel, boot_list⟩
  · cases h
theorem blt_of {x : Str} (g : Good G C Wx lev X c) (hx : c.blt x = true) (hb : x ∈ bltNames) : c.glb x = true ∧ X.mg x = none := by
  unfold Ct.blt at hx
  obtain ⟨h1, h2⟩ := Bool.and_eq_true_iff.mp hx
  exact ⟨h1, g.blt x hb (by simpa using h2)⟩
theorem k_ty {x : Str} {t : Ty} {pos : Pos} (g : Good G C Wx lev X c) (hx : c.blt x = true) (h : tyOf x = some t) : PE X (.Name x pos) (tC (.ty t.name)) := by
  obtain ⟨b1, b2, b3⟩ := ty_boot h
  obtain ⟨h1, h2⟩ := blt_of g hx b1
  obtain ⟨n1, n2, n3⟩ := okName_of b2
  exact pe_bltn (g.glb x h1) h2 b3 rfl n3 n1
theorem isi_post {φ : List Addr} {H : Hp} {S : Store} {w : W} {x : V} {ts : List Ty} {xk : XK} {Q : VK} (R : Rel G φ H S) (r : RpW G φ H w x) (h : Post G (RlW G) φ H (isiW ts w S) xk Q) :
    ∃ t b, TyX G.K H x (.type t) ∧ PySem.W.kitAny G.K (.type t) (ts.map fun ty => Value.type ty.name) = some b ∧ Q (.bl b) H := by
  unfold isiW at h
  by_cases hp : w.plain S = true
  · rw [if_pos hp] at h
    obtain ⟨t, h1, h2⟩ := ty_of R r hp
    exact ⟨t, _, h1, kit_any h2 ts, vv_ok R h rp_bl⟩
  · rw [if_neg hp] at h; exact h.elim
theorem k_isi1 {x : Str} {t : Ty} {a : Expr} {p p2 pos : Pos} {A : AX W} (g : Good G C Wx lev X c) (hi : c.blt "isinstance" = true) (hx : c.blt x = true) (h : tyOf x = some t) (hs : isStar a = false) (ha : PE X a (tK G Wx A)) :
    PE X (.Call (.Name "isinstance" p) [a, .Name x p2] [] pos) (tK G Wx fun ρ S => (A ρ S).bd fun w S => isiW [t] w S) := by
  obtain ⟨h1, hm⟩ := blt_of g hi (by decide +kernel)
  refine (pe_callB call_isi (g.glb _ h1) hm boot_isinstance (pa_cons ha (pa_cons (k_ty (pos := p2) g hx h) pa_nil rfl) (star_cons hs)) (by decide) (by decide) (star_cons hs) rfl).im fun σ H Q q => ?_
  refine tI.bd (F := fun w _ S => isiW [t] w S) q fun φ ρ S v φ1 H1 w S1 R sl e R1 l hq => ?_
  obtain ⟨ty, b, t1, t2, q1⟩ := isi_post R1 l.1 (hq.sh e R1 mnW)
  refine ⟨v, .ty t.name, .type ty, .type t.name, b, rfl, .ty _, by rw [g.hK]; exact t1, ?_, q1⟩
  have z : PySem.W.kitAny G.K (.type ty) [.type t.name] = some b := t2
  unfold PySem.W.kitAny at z
  rw [g.hK]
  cases k : PySem.W.kitOne G.K (.type ty) (.type t.name) with
  | none => rw [k] at z; cases z
  | some kb =>
    rw [k] at z
    cases kb with
    | true => cases z; rfl
    | false => exact z
theorem tys_pa {es : List Expr} {ts : List Ty} (g : Good G C Wx lev X c) (h : mapO (ty1 c) es = some ts) :
    ∃ t, PA X es t ∧ (∀ σ H (Q : List V → Hp → Prop), Q (ts.map fun ty => V.ty ty.name) H → t σ H Q) := by
  induction es generalizing ts with
  | nil => rw [mapO_nil h]; exact ⟨_, pa_nil, fun σ H Q q => q⟩
  | cons e es ih =>
    obtain ⟨b, bs, h1, h2, rfl⟩ := mapO_cons h
    cases e with
    | Name x p =>
      unfold ty1 at h1
      dsimp only at h1
      by_cases hx : c.blt x = true
      · rw [if_pos hx] at h1
        obtain ⟨t, pt, ht⟩ := ih h2
        exact ⟨_, pa_cons (k_ty (pos := p) g hx h1) pt rfl, fun σ H Q q => ht σ H _ q⟩
      · rw [if_neg hx] at h1; cases h1
    | _ => cases h1
theorem k_isiT {es : List Expr} {ts : List Ty} {k : Nat} {a : Expr} {p p2 pos : Pos} {A : AX W} (g : Good G C Wx lev X c) (hi : c.blt "isinstance" = true) (h : mapO (ty1 c) es = some ts) (hl : ts.length ≤ 100)
    (hs : isStar a = false) (ha : PE X a (tK G Wx A)) : PE X (.Call (.Name "isinstance" p) [a, .Tuple es k p2] [] pos) (tK G Wx fun ρ S => (A ρ S).bd fun w S => isiW ts w S) := by
  obtain ⟨h1, hm⟩ := blt_of g hi (by decide +kernel)
  obtain ⟨t, pt, ht⟩ := tys_pa g h
  refine (pe_callB call_isiT (g.glb _ h1) hm boot_isinstance (pa_cons ha (pa_cons (pe_tup (pos := p2) (x1 := k) pt) pa_nil rfl) (star_cons hs)) (by decide) (by decide) (star_cons hs) rfl).im fun σ H Q q => ?_
  refine tI.bd (F := fun w _ S => isiW ts w S) q fun φ ρ S v φ1 H1 w S1 R sl e R1 l hq => ?_
  refine ht σ H1 _ ⟨?_, fun tp htp => ?_⟩
  · rw [List.length_map]
    exact Nat.le_trans hl (by decide)
  · have E := Ext.fresh R1 htp (.tup (ts.map fun ty => V.ty ty.name))
    obtain ⟨ty, b, t1, t2, q1⟩ := isi_post (R1.fresh htp (.tup (ts.map fun ty => V.ty ty.name))) (RpW.mono E R1 l.1) (hq.sh (e.trans E) (R1.fresh htp _) mnW)
    refine ⟨v, tp, ts.map fun ty => V.ty ty.name, .type ty, ts.map fun ty => Value.type ty.name, b, rfl, upd_same, ?_, by rw [g.hK]; exact t1, by rw [g.hK]; exact t2, q1⟩
    clear t1 t2 ht h hq q E q1 hl
    induction ts with
    | nil => exact .nil
    | cons t ts ih => exact .cons (.ty _) ih
theorem k_m0 {o : Expr} {m : Str} {id : String} {k : MK} {pr : P1} {A : AX W} {apos pos : Pos} (T : String) (pa : PlainAttrs T) (slot : Slot T m id) (hty : typeOf (.builtin id) = pure (.type "method_descriptor")) (hm : MtR X id (fun x xs H Q => xs = [] ∧ rP1 G (p1 pr) x H Q))
    (hT : ∀ φ H S w x, Rel G φ H S → RpW G φ H w x → k.is S w = true → tyV X.K T x H) (ho : PE X o (tK G Wx A)) (hb : baseOk o = true) (hl : (apos.endLine == pos.line) = true) :
    PE X (.Call (.Attribute o m apos) [] [] pos) (tK G Wx fun ρ S => (A ρ S).bd fun x S => if k.is S x = true then p1 pr x S else .bad) :=
  (pe_bm0 pa slot hty hm ho (base_ok hb) hl).im fun σ H Q q => tI.bd (F := fun x _ S => if k.is S x = true then p1 pr x S else .bad) q fun φ ρ S v φ1 H1 x S1 R sl e R1 l h => by
    by_cases c : k.is S1 x = true
    · rw [if_pos c] at h
      exact ⟨hT φ1 H1 S1 x v R1 l.1 c, rfl, φ1, x, S1, _, R1, l.1, h.sh e R1 mnW⟩
    · rw [if_neg c] at h; exact h.elim
theorem k_m1 {o a : Expr} {m : Str} {id : String} {k : MK} {pr : P2} {A B : AX W} {apos pos : Pos} (T : String) (pa : PlainAttrs T) (slot : Slot T m id) (hty : typeOf (.builtin id) = pure (.type "method_descriptor")) (hm : MtR X id (rM1 G pr))
    (hT : ∀ φ H S w x, Rel G φ H S → RpW G φ H w x → k.is S w = true → tyV X.K T x H) (ho : PE X o (tK G Wx A)) (ha : PE X a (tK G Wx B)) (hs : isStar a = false) (hb : baseOk o = true) (hl : (apos.endLine == pos.line) = true) :
    PE X (.Call (.Attribute o m apos) [a] [] pos) (tK G Wx fun ρ S => (A ρ S).bd fun x S => if k.is S x = true then (B ρ S).bd fun y S => p2 pr x y S else .bad) := by
  have hfew : ((backTo pos (starEach [a] X.env)).all (fun x => !x.1) && (backToKw pos (keywordEach [] X.env)).all (fun x => x.1.isSome) && decide ([a].length + ([] : List Keyword).length + (if ([] : List Keyword).isEmpty then 0 else 1) < 30)) = true := by
    rw [star_cons hs]; rfl
  refine (pe_bm pa slot hty hm ho (pa_cons ha pa_nil (star_cons hs)) (base_ok hb) hfew hl (star_cons hs) rfl).im fun σ H Q q => ?_
  refine tI.bd (F := fun x ρ S => if k.is S x = true then (B ρ S).bd fun y S => p2 pr x y S else .bad) q fun φ ρ S v φ1 H1 x S1 R sl e R1 l h => ?_
  by_cases c : k.is S1 x = true
  · rw [if_pos c] at h
    refine ⟨hT φ1 H1 S1 x v R1 l.1 c, ?_⟩
    refine tI.next R sl e R1 h fun u H2 φ2 y S2 e2 R2 l2 h2 => ?_
    exact ⟨u, φ, H, φ2, x, y, S2, _, rfl, e.trans e2, R2, RpW.mono e2 R1 l.1, mnW _ _ _ _ _ _ (e.fr R1) l2, h2⟩
  · rw [if_neg c] at h; exact h.elim
theorem k_srt {x k y : Str} {i : Nat} {a : Expr} {p pf kpos pos : Pos} {A : AX W} (g : Good G C Wx lev X c) (hx : c.blt "sorted" = true) (hy : c.glb y = true) (hi : c.gl.lookup y = some (.fn i)) (hn : okName y = true) (hs : isStar a = false) (ha : PE X a (tK G Wx A)) :
    PE X (.Call (.Name "sorted" p) [a] [⟨some "key", .Name y pf, kpos⟩] pos) (tK G Wx fun ρ S => (A ρ S).bd fun w S => srtW (fun d S => C i [d] S) w S) := by
  obtain ⟨h1, hm⟩ := blt_of g hx (by decide +kernel)
  obtain ⟨f, fd, ps, hmf, hk, hb, F⟩ := (g.fns y i hi).ex
  obtain ⟨n1, n2, n3⟩ := okName_of hn
  have hf : PE X (.Name y pf) (tC (.ref f)) := pe_glob (g.glb y hy) hmf rfl n1
  refine (pe_callBK (cr_srt g.hK g.hu g.room hb F) (g.glb _ h1) hm PyProof.Rows.boot_sorted (pa_cons ha pa_nil (star_cons hs)) (pk_cons hf pk_nil) (by decide) (by decide) (by rw [star_cons hs]; rfl) (by rw [star_cons hs]; rfl)).im fun σ H Q q => ?_
  refine tI.bd (F := fun w _ S => srtW (fun d S => C i [d] S) w S) q fun φ ρ S v φ1 H1 w S1 R sl e R1 l h => ?_
  exact ⟨rfl, v, φ1, w, S1, _, rfl, R1, l.1, h.sh e R1 mnW⟩
theorem is_list (hK : X.K = G.K) {φ : List Addr} {H : Hp} {S : Store} {w : W} {x : V} (R : Rel G φ H S) (r : RpW G φ H w x) (h : MK.list.is S w = true) : tyV X.K "list" x H := by
  have q : ∃ ds, w.seq S = some (false, ds) := by
    cases w with
    | lis ds => exact ⟨ds, rfl⟩
    | val d =>
      cases d with
      | ls ds => exact ⟨ds, rfl⟩
      | ref n =>
        unfold MK.is at h
        dsimp only at h
        split at h
        · rename_i ds hs
          exact ⟨ds, by unfold W.seq; simp only [hs]⟩
        · cases h
      | _ => cases h
  obtain ⟨ds, hq⟩ := q
  obtain ⟨a, vs, rfl, hs, hr⟩ := seq_rp R r hq
  exact .inl ⟨rfl, vs, by rw [hK]; exact ifF hs⟩
theorem is_str {φ : List Addr} {H : Hp} {S : Store} {w : W} {x : V} (r : RpW G φ H w x) (h : MK.str.is S w = true) : tyV X.K "str" x H := by
  cases w with
  | lis ds => cases h
  | val d =>
    cases d with
    | str z => have e := rp_str r; subst e; rfl
    | _ => cases h
end
end Mi

/-! Mi, part I: the translation of expressions tells the truth. -/
namespace Mi
open PySem L2 PyProof.Rows RT RZ

section
variable {C : Calls}
theorem ev_c {d : D} : evK C (.c d) = fun _ S => vv d S := by funext ρ S; rw [evK]
theorem ev_v {i : Nat} : evK C (.v i) = fun ρ S => match ρ[i]? with | some (some d) => vv d S | _ => .bad := by funext ρ S; rw [evK]; try rfl
theorem ev_p1 {o : P1} {a : Ex} : evK C (.p1 o a) = fun ρ S => (evK C a ρ S).bd fun x S => p1 o x S := by funext ρ S; rw [evK]
theorem ev_p2 {o : P2} {a b : Ex} : evK C (.p2 o a b) = fun ρ S => (evK C a ρ S).bd fun x S => (evK C b ρ S).bd fun y S => p2 o x y S := by funext ρ S; rw [evK]
theorem ev_isi {ts : List Ty} {a : Ex} : evK C (.isi ts a) = fun ρ S => (evK C a ρ S).bd fun x S => isiW ts x S := by funext ρ S; rw [evK]
theorem ev_and {a b : Ex} : evK C (.and_ a b) = fun ρ S => ((evK C a ρ S).bd toB).bd fun c S => if c = true then evK C b ρ S else vv (.bl false) S := by funext ρ S; rw [evK]
theorem ev_or {a b : Ex} : evK C (.or_ a b) = fun ρ S => ((evK C a ρ S).bd toB).bd fun c S => if c = true then vv (.bl true) S else evK C b ρ S := by funext ρ S; rw [evK]
theorem ev_not {a : Ex} : evK C (.not_ a) = fun ρ S => ((evK C a ρ S).bd toB).bd fun c S => vv (.bl (!c)) S := by funext ρ S; rw [evK]
theorem ev_ite {c a b : Ex} : evK C (.ite c a b) = fun ρ S => (evB C c ρ S).bd fun k S => if k = true then evK C a ρ S else evK C b ρ S := by funext ρ S; rw [evK]; try rfl
theorem ev_ch {o o' : P2} {a b c : Ex} : evK C (.ch o o' a b c) = fun ρ S => (evK C a ρ S).bd fun x S => (evK C b ρ S).bd fun y S => ((p2 o x y S).bd toB).bd fun k S =>
      if k = true then (evK C c ρ S).bd fun z S => p2 o' y z S else vv (.bl false) S := by funext ρ S; rw [evK]
theorem ev_tup {es : List Ex} : evK C (.tup es) = fun ρ S => (evDs C es ρ S).bd fun ds S => if ds.length ≤ sizeLine then vv (.tup ds) S else .bad := by funext ρ S; rw [evK]
theorem ev_disp {es : List Ex} : evK C (.disp es) = fun ρ S => (evDs C es ρ S).bd fun ds S => if ds.length ≤ sizeLine then .ok (.lis ds) S else .bad := by funext ρ S; rw [evK]
theorem ev_sl {a : Ex} {lo hi : List Ex} : evK C (.sl a lo hi) = fun ρ S => (evK C a ρ S).bd fun x S => ((evWs C lo ρ S).bd partI).bd fun l S => ((evWs C hi ρ S).bd partI).bd fun h S => cutW x l h S := by funext ρ S; rw [evK]
theorem ev_dict {es : List Ex} : evK C (.dict es) = fun ρ S => (evDs C es ρ S).bd fun ds S => match dispO ds with
    | some o => .ok (.val (.ref S.length)) (S ++ [o])
    | none => .bad := by funext ρ S; rw [evK]; try rfl
theorem ev_srt {f : Nat} {a : Ex} : evK C (.srt f false a) = fun ρ S => (evK C a ρ S).bd fun w S => srtW (fun d S => C f [d] S) w S := by funext ρ S; rw [evK]; try rfl
theorem ev_call {f : Nat} {es : List Ex} : evK C (.call f es) = fun ρ S => (evDs C es ρ S).bd fun ds S => (C f ds S).bd fun d S => vv d S := by funext ρ S; rw [evK]
theorem ev_m0 {k : MK} {o : P1} {a : Ex} : evK C (.m0 k o a) = fun ρ S => (evK C a ρ S).bd fun x S => if k.is S x = true then p1 o x S else .bad := by funext ρ S; rw [evK]
theorem ev_m1 {k : MK} {o : P2} {a b : Ex} : evK C (.m1 k o a b) = fun ρ S => (evK C a ρ S).bd fun x S => if k.is S x = true then (evK C b ρ S).bd fun y S => p2 o x y S else .bad := by funext ρ S; rw [evK]
theorem ev_repl {a v w : Ex} {lo : List Ex} {y z : Str} : evK C (.repl a lo v w y z) = fun ρ S => (evK C a ρ S).bd fun x S => ((evWs C lo ρ S).bd partI).bd fun l S => (evK C v ρ S).bd fun p S => (evK C w ρ S).bd fun q S => replC x l p q y z S := by funext ρ S; rw [evK]
theorem ev_fst {es : List Ex} : evK C (.fst es) = fun ρ S => evJ C es ρ S Str.empty := by funext ρ S; rw [evK]
theorem ev_j0 {acc : Str} : (fun ρ S => evJ C [] ρ S acc) = fun _ S => vv (.str acc) S := by funext ρ S; rw [evJ]
theorem ev_j {e : Ex} {r : List Ex} {acc : Str} : (fun ρ S => evJ C (e :: r) ρ S acc) = fun ρ S => (evK C e ρ S).bd fun w S => match w with
    | .val (.str y) => if (acc ++ y).length ≤ sizeLine then evJ C r ρ S (acc ++ y) else .bad
    | _ => .bad := by funext ρ S; rw [evJ]; try rfl
noncomputable def itA (C : Calls) (k : IK) (is : List Ex) : AX Its := fun ρ S => (evWs C is ρ S).bd fun ws S => itsA k ws S
theorem ev_comp {t : Tg} {k : IK} {is cs : List Ex} {e : Ex} {own : List Nat} : evK C (.comp t k is cs e own) = compA t own (itA C k is) (evCs C cs) (evD C e) := by
  funext ρ S
  rw [evK]
  unfold compA itA
  rw [bd_bd]
  congr 1
  funext ws S
  unfold itsA
  cases its k ws S with
  | none => rfl
  | some I => rfl
theorem ev_ds0 : evDs C [] = fun _ S => .ok [] S := by funext ρ S; rw [evDs]
theorem ev_ds {e : Ex} {r : List Ex} : evDs C (e :: r) = fun ρ S => (evD C e ρ S).bd fun d S => (evDs C r ρ S).bd fun ds S => .ok (d :: ds) S := by funext ρ S; rw [evDs]; try rfl
theorem ev_ws0 : evWs C [] = fun _ S => .ok [] S := by funext ρ S; rw [evWs]
theorem ev_ws {e : Ex} {r : List Ex} : evWs C (e :: r) = fun ρ S => (evK C e ρ S).bd fun d S => (evWs C r ρ S).bd fun ds S => .ok (d :: ds) S := by funext ρ S; rw [evWs]
theorem ev_cs0 : evCs C [] = fun _ S => .ok true S := by funext ρ S; rw [evCs]
theorem ev_cs1 {e : Ex} : evCs C [e] = evB C e := by
  funext ρ S
  rw [evCs]
  unfold evB
  cases h : (evK C e ρ S).bd toB with
  | ok b S' => cases b <;> (simp only [R.bd]; try rw [evCs]; try rfl)
  | ex c fs S => rfl
  | bad => rfl
end

section
variable {G : Gb} {C : Calls} {lev : Nat}
/-- what is known of the parts -/
def SE (G : Gb) (C : Calls) (lev : Nat) (rec : Ct → Expr → Option Ex) : Prop := ∀ {Wx : WX} {X : Cx} {c : Ct} {e : Expr} {x : Ex}, Good G C Wx lev X c → rec c e = some x → PE X e (tK G Wx (evK C x)) ∧ PT X e (tBo G Wx (evB C x))
variable {rec : Ct → Expr → Option Ex} {Wx : WX} {X : Cx} {c : Ct} {x : Ex} {pos : Pos}
theorem both {e : Expr} (h : PE X e (tK G Wx (evK C x))) (he : ∀ whole, isTrue e X.env whole = (do let v ← whole; standAt e.pos; holding [v] (truthy v)) := by intro _; rfl) : PE X e (tK G Wx (evK C x)) ∧ PT X e (tBo G Wx (evB C x)) := ⟨h, k_B h he⟩

theorem s_name {n : Str} (g : Good G C Wx lev X c) (h : eStep rec c (.Name n pos) = some x) : PE X (.Name n pos) (tK G Wx (evK C x)) ∧ PT X (.Name n pos) (tBo G Wx (evB C x)) := by
  dsimp only [eStep] at h
  by_cases hn : okName n = false
  · rw [if_pos hn] at h; cases h
  rw [if_neg hn] at h
  obtain ⟨n1, n2, n3⟩ := okName_of (by simpa using hn)
  by_cases hv : c.vis n = true
  · rw [if_pos hv] at h
    obtain ⟨i, hi, rfl⟩ := Option.map_eq_some_iff.mp h
    refine both ?_
    rw [ev_v]
    exact k_var (by rw [g.hN]; exact ixOf_get hi) (g.vis n hv) n1 n2
  · rw [if_neg hv] at h
    by_cases hg : c.glb n = true
    · rw [if_pos hg] at h
      cases hq : c.gl.lookup n with
      | none => simp only [hq] at h; cases h
      | some gg =>
        simp only [hq] at h
        cases gg with
        | fn i => cases h
        | cst d =>
          cases h
          obtain ⟨v, u, h1, h2, h3⟩ := g.cst n d hq
          refine both ?_
          rw [ev_c]
          exact k_const (pe_glob (g.glb n hg) h1 h2 n1) h3
    · rw [if_neg hg] at h; cases h
theorem s_const {k : Const} {kd : Nat} (h : eStep rec c (.Constant k kd pos) = some x) : PE X (.Constant k kd pos) (tK G Wx (evK C x)) ∧ PT X (.Constant k kd pos) (tBo G Wx (evB C x)) := by
  dsimp only [eStep] at h
  cases k <;> cases h <;> refine both ?_ <;> rw [ev_c]
  · exact k_const pe_non fun _ _ => by unfold Rp; rfl
  · exact k_const pe_bl fun _ _ => by unfold Rp; rfl
  · exact k_const pe_int fun _ _ => by unfold Rp; rfl
  · exact k_const pe_str fun _ _ => by unfold Rp; rfl

theorem s_un {op : UnaryOp} {a : Expr} (ih : SE G C lev rec) (g : Good G C Wx lev X c) (h : eStep rec c (.UnaryOp op a pos) = some x) : PE X (.UnaryOp op a pos) (tK G Wx (evK C x)) ∧ PT X (.UnaryOp op a pos) (tBo G Wx (evB C x)) := by
  dsimp only [eStep] at h
  cases op with
  | Not =>
    obtain ⟨y, hy, rfl⟩ := Option.map_eq_some_iff.mp h
    obtain ⟨i1, i2⟩ := ih g hy
    refine ⟨by rw [ev_not]; exact kv_not i1, ?_⟩
    have e : evB C (.not_ y) = fun ρ S => (evB C y ρ S).bd fun k S => .ok (!k) S := by
      funext ρ S
      unfold evB
      rw [ev_not, bd_bd]
      rfl
    rw [e]
    exact k_not i2
  | USub =>
    obtain ⟨y, hy, rfl⟩ := Option.map_eq_some_iff.mp h
    refine both ?_
    rw [ev_p1]
    exact k_neg o_neg (ih g hy).1
  | _ => cases h
theorem o_bin {op : Operator} {o : P2} (g : Good G C Wx lev X c) (h : binOf op = some o) : OpR X (binaryOp op) (rP2 G (p2 o)) := by
  cases op <;> cases h
  · exact o_add g.hK
  · exact o_sub
  · exact o_mul
  · exact o_mod
  · exact o_pow
  · exact o_fdiv
theorem o_cmp {op : CmpOp} {o : P2} (g : Good G C Wx lev X c) (h : cmpOf op = some o) : OpR X (compareOp op) (rP2 G (p2 o)) := by
  cases op <;> cases h
  · exact o_eq g.hK g.hu
  · exact o_ne g.hK g.hu
  · exact o_lt g.hK g.hu
  · exact o_le g.hK g.hu
  · exact o_gt g.hK g.hu
  · exact o_ge g.hK g.hu
  · exact o_in g.hK g.hu
  · exact o_nin g.hK g.hu
theorem s_bin {op : Operator} {a b : Expr} (ih : SE G C lev rec) (g : Good G C Wx lev X c) (h : eStep rec c (.BinOp a op b pos) = some x) : PE X (.BinOp a op b pos) (tK G Wx (evK C x)) ∧ PT X (.BinOp a op b pos) (tBo G Wx (evB C x)) := by
  dsimp only [eStep] at h
  split at h
  · rename_i o xa xb ho ha hb
    cases h
    refine both ?_
    rw [ev_p2]
    exact k_bin (o_bin g ho) (ih g ha).1 (ih g hb).1
  · cases h
theorem s_ite {t a b : Expr} (ih : SE G C lev rec) (g : Good G C Wx lev X c) (h : eStep rec c (.IfExp t a b pos) = some x) : PE X (.IfExp t a b pos) (tK G Wx (evK C x)) ∧ PT X (.IfExp t a b pos) (tBo G Wx (evB C x)) := by
  dsimp only [eStep] at h
  split at h
  · rename_i o xa xb ho ha hb
    cases h
    refine ⟨by rw [ev_ite]; exact k_ite (ih g ho).2 (ih g ha).1 (ih g hb).1, ?_⟩
    have e : evB C (.ite o xa xb) = fun ρ S => (evB C o ρ S).bd fun k S => if k = true then evB C xa ρ S else evB C xb ρ S := by
      funext ρ S
      rw [evB, ev_ite, bd_bd]
      congr 1
      funext k S
      cases k <;> rfl
    rw [e]
    refine ⟨fun pins s σ H Q I h => isTrue_IfExp (thn ((ih g ho).2.run pins s σ H (fun b H1 => if b = true then tBo G Wx (evB C xa) σ H1 Q else tBo G Wx (evB C xb) σ H1 Q) I ?_) ?_)⟩
    · refine tI.bd (F := fun k ρ S => if k = true then evB C xa ρ S else evB C xb ρ S) h fun φ ρ S b φ1 H1 x S1 R sl e R1 l h => ?_
      have l' : x = b := l
      subst l'
      cases x with
      | true => exact (if_pos rfl).mpr (tI.go R sl e R1 mnB h)
      | false => exact (if_neg Bool.false_ne_true).mpr (tI.go R sl e R1 mnB h)
    · rintro b s1 ⟨H1, I1, q⟩
      cases b with
      | true => exact (ih g ha).2.run pins s1 σ H1 Q I1 q
      | false => exact (ih g hb).2.run pins s1 σ H1 Q I1 q
  · cases h
theorem s_and {es : List Expr} {xs : List Ex} (ih : SE G C lev rec) (g : Good G C Wx lev X c) (h1 : mapO (rec c) es = some xs) (h : andE xs = some x) : PE X (.BoolOp .And es pos) (tK G Wx (evK C x)) ∧ L2.PW X (.BoolOp .And es pos) (tBo G Wx (evB C x)) := by
  induction es generalizing xs x with
  | nil => rw [mapO_nil h1] at h; cases h
  | cons e es ihe =>
    obtain ⟨y, ys, hy, hys, rfl⟩ := mapO_cons h1
    obtain ⟨i1, i2⟩ := ih g hy
    cases es with
    | nil =>
      rw [mapO_nil hys] at h
      cases h
      exact ⟨pe_one i1, k_and1 i2⟩
    | cons e2 es =>
      obtain ⟨z, zs, hz, hzs, rfl⟩ := mapO_cons hys
      obtain ⟨w, hw, rfl⟩ := Option.map_eq_some_iff.mp h
      obtain ⟨j1, j2⟩ := ihe hys hw
      refine ⟨by rw [ev_and]; exact kv_and i1 j1, ?_⟩
      have e : evB C (.and_ y w) = fun ρ S => (evB C y ρ S).bd fun k S => if k = true then evB C w ρ S else .ok false S := by
        funext ρ S
        rw [evB, ev_and, bd_bd]
        congr 1
        funext k S
        cases k <;> rfl
      rw [e]
      exact k_and i2 j2
theorem s_or {es : List Expr} {xs : List Ex} (ih : SE G C lev rec) (g : Good G C Wx lev X c) (h1 : mapO (rec c) es = some xs) (h : orE xs = some x) : PE X (.BoolOp .Or es pos) (tK G Wx (evK C x)) ∧ L2.PW X (.BoolOp .Or es pos) (tBo G Wx (evB C x)) := by
  induction es generalizing xs x with
  | nil => rw [mapO_nil h1] at h; cases h
  | cons e es ihe =>
    obtain ⟨y, ys, hy, hys, rfl⟩ := mapO_cons h1
    obtain ⟨i1, i2⟩ := ih g hy
    cases es with
    | nil =>
      rw [mapO_nil hys] at h
      cases h
      exact ⟨pe_one i1, k_or1 i2⟩
    | cons e2 es =>
      obtain ⟨z, zs, hz, hzs, rfl⟩ := mapO_cons hys
      obtain ⟨w, hw, rfl⟩ := Option.map_eq_some_iff.mp h
      obtain ⟨j1, j2⟩ := ihe hys hw
      refine ⟨by rw [ev_or]; exact kv_or i1 j1, ?_⟩
      have e : evB C (.or_ y w) = fun ρ S => (evB C y ρ S).bd fun k S => if k = true then .ok true S else evB C w ρ S := by
        funext ρ S
        rw [evB, ev_or, bd_bd]
        congr 1
        funext k S
        cases k <;> rfl
      rw [e]
      exact k_or i2 j2
theorem s_bool {op : BoolOp} {es : List Expr} (ih : SE G C lev rec) (g : Good G C Wx lev X c) (h : eStep rec c (.BoolOp op es pos) = some x) : PE X (.BoolOp op es pos) (tK G Wx (evK C x)) ∧ PT X (.BoolOp op es pos) (tBo G Wx (evB C x)) := by
  dsimp only [eStep] at h
  cases op with
  | And =>
    obtain ⟨xs, h1, h2⟩ := Option.bind_eq_some_iff.mp h
    obtain ⟨i1, i2⟩ := s_and (pos := pos) ih g h1 h2
    exact ⟨i1, i2.pt⟩
  | Or =>
    obtain ⟨xs, h1, h2⟩ := Option.bind_eq_some_iff.mp h
    obtain ⟨i1, i2⟩ := s_or (pos := pos) ih g h1 h2
    exact ⟨i1, i2.pt⟩
theorem s_args {es : List Expr} {xs : List Ex} (ih : SE G C lev rec) (g : Good G C Wx lev X c) (hs : es.any isStar = false) (h : mapO (rec c) es = some xs) : PA X es (tDs G Wx (evDs C xs)) := by
  induction es generalizing xs with
  | nil => rw [mapO_nil h, ev_ds0]; exact ka_nil
  | cons e es ihe =>
    obtain ⟨y, ys, hy, hys, rfl⟩ := mapO_cons h
    rw [List.any_cons, Bool.or_eq_false_iff] at hs
    rw [ev_ds]
    exact ka_cons (k_D (ih g hy).1) (ihe hs.2 hys) (star_cons hs.1)
theorem s_tup {es : List Expr} {k : Nat} (ih : SE G C lev rec) (g : Good G C Wx lev X c) (h : eStep rec c (.Tuple es k pos) = some x) : PE X (.Tuple es k pos) (tK G Wx (evK C x)) ∧ PT X (.Tuple es k pos) (tBo G Wx (evB C x)) := by
  dsimp only [eStep] at h
  by_cases hs : es.any isStar = true
  · rw [if_pos hs] at h; cases h
  rw [if_neg hs] at h
  obtain ⟨xs, hx, rfl⟩ := Option.map_eq_some_iff.mp h
  refine both ?_
  rw [ev_tup]
  exact k_tup (s_args ih g (by simpa using hs) hx)
theorem s_list {es : List Expr} (ih : SE G C lev rec) (g : Good G C Wx lev X c) (h : eStep rec c (.List es pos) = some x) : PE X (.List es pos) (tK G Wx (evK C x)) ∧ PT X (.List es pos) (tBo G Wx (evB C x)) := by
  dsimp only [eStep] at h
  by_cases hs : es.any isStar = true
  · rw [if_pos hs] at h; cases h
  rw [if_neg hs] at h
  obtain ⟨xs, hx, rfl⟩ := Option.map_eq_some_iff.mp h
  refine both ?_
  rw [ev_disp]
  exact k_disp (s_args ih g (by simpa using hs) hx)

theorem s_cmp {a : Expr} {ops : List CmpOp} {es : List Expr} (ih : SE G C lev rec) (g : Good G C Wx lev X c) (h : cmpStep rec c a ops es = some x) : PE X (.Compare a ops es pos) (tK G Wx (evK C x)) ∧ PT X (.Compare a ops es pos) (tBo G Wx (evB C x)) := by
  unfold cmpStep at h
  split at h
  · rename_i op b
    by_cases hs : isSet b = true
    · rw [if_pos hs] at h; cases h
    rw [if_neg hs] at h
    have hm : ∀ op, behindInMarks op b = false := fun op => behind_ok (by simpa using hs)
    split at h
    · obtain ⟨y, hy, rfl⟩ := Option.map_eq_some_iff.mp h
      have i1 := (ih g hy).1
      have im : ∀ σ H Q, tK G Wx (evK C (.p1 .isN y)) σ H Q → tOp (fun u v H Q => v = .non ∧ rP1 G (p1 .isN) u H Q) (tK G Wx (evK C y)) (tC .non) σ H Q := fun σ H Q q => by
        rw [ev_p1] at q
        exact tI.bd (F := fun x _ S => p1 .isN x S) q fun φ ρ S v φ1 H1 x S1 R sl e R1 l h => ⟨rfl, φ1, x, S1, _, R1, l.1, h.sh e R1 mnW⟩
      exact ⟨(pe_cmpR o_isN i1 pe_non (hm _)).im im, k_Bcmp o_isN i1 pe_non (hm _) im⟩
    · obtain ⟨y, hy, rfl⟩ := Option.map_eq_some_iff.mp h
      have i1 := (ih g hy).1
      have im : ∀ σ H Q, tK G Wx (evK C (.p1 .notN y)) σ H Q → tOp (fun u v H Q => v = .non ∧ rP1 G (p1 .notN) u H Q) (tK G Wx (evK C y)) (tC .non) σ H Q := fun σ H Q q => by
        rw [ev_p1] at q
        exact tI.bd (F := fun x _ S => p1 .notN x S) q fun φ ρ S v φ1 H1 x S1 R sl e R1 l h => ⟨rfl, φ1, x, S1, _, R1, l.1, h.sh e R1 mnW⟩
      exact ⟨(pe_cmpR o_notN i1 pe_non (hm _)).im im, k_Bcmp o_notN i1 pe_non (hm _) im⟩
    · split at h
      · rename_i o xa xb ho ha hb
        cases h
        refine ⟨by rw [ev_p2]; exact k_cmp (o_cmp g ho) (ih g ha).1 (ih g hb).1 (hm _), ?_⟩
        have e : evB C (.p2 o xa xb) = fun ρ S => ((evK C xa ρ S).bd fun x S => (evK C xb ρ S).bd fun y S => p2 o x y S).bd toB := by
          funext ρ S
          rw [evB, ev_p2]
        rw [e]
        exact k_cmpB (o_cmp g ho) (ih g ha).1 (ih g hb).1 (hm _)
      · cases h
  · rename_i op op' b d
    by_cases hs : isSet d = true
    · rw [if_pos hs] at h; cases h
    rw [if_neg hs] at h
    split at h
    · rename_i o o' xa xb xd ho ho' ha hb hd
      cases h
      have hm : lastMarks [op, op'] [b, d] = false := last_ok (by simpa using hs)
      refine ⟨by rw [ev_ch]; exact k_ch (o_cmp g ho) (o_cmp g ho') (ih g ha).1 (ih g hb).1 (ih g hd).1 hm, ?_⟩
      have e : evB C (.ch o o' xa xb xd) = fun ρ S => (evK C (.ch o o' xa xb xd) ρ S).bd toB := rfl
      rw [e, ev_ch]
      exact k_chB (o_cmp g ho) (o_cmp g ho') (ih g ha).1 (ih g hb).1 (ih g hd).1 hm
    · cases h
  · cases h
theorem ty1_of {e : Expr} {t : Ty} (h : ty1 c e = some t) : ∃ n p, e = .Name n p ∧ c.blt n = true ∧ tyOf n = some t := by
  unfold ty1 at h
  split at h
  · rename_i n p
    by_cases hb : c.blt n = true
    · rw [if_pos hb] at h; exact ⟨n, p, rfl, hb, h⟩
    · rw [if_neg hb] at h; cases h
  · cases h
theorem s_call {n : Str} {es : List Expr} {p : Pos} (ih : SE G C lev rec) (g : Good G C Wx lev X c) (h : callStep rec c n es = some x) : PE X (.Call (.Name n p) es [] pos) (tK G Wx (evK C x)) := by
  unfold callStep at h
  by_cases hk : (okName n && !es.any isStar) = false
  · rw [if_pos hk] at h; cases h
  rw [if_neg hk] at h
  simp only [Bool.not_eq_false, Bool.and_eq_true, Bool.not_eq_true'] at hk
  obtain ⟨hn, hs⟩ := hk
  by_cases hg : c.glb n = false
  · rw [if_pos hg] at h; cases h
  rw [if_neg hg] at h
  have hg : c.glb n = true := by simpa using hg
  split at h
  · rename_i i hi
    obtain ⟨xs, hx, rfl⟩ := Option.map_eq_some_iff.mp h
    rw [ev_call]
    refine k_call g hg hi hn hs (s_args ih g hs hx) fun e0 => ?_
    subst e0
    rw [mapO_nil hx, ev_ds0]
  · cases h
  · rename_i hi
    have hb : c.blt n = true := by
      unfold Ct.blt
      rw [hg, hi]; rfl
    split at h
    · rename_i a
      split at h
      · rename_i u v hz
        unfold zipArg at hz
        split at hz
        · rename_i y yp u' v' cpos
          by_cases e1 : n = ("list" : Str)
          · rw [if_pos e1] at hz
            by_cases e2 : y = ("zip" : Str)
            · rw [if_pos e2] at hz
              cases hz
              subst e1
              subst e2
              by_cases hk2 : (c.blt "zip" && !isStar u && !isStar v) = true
              · rw [if_pos hk2] at h
                simp only [Bool.and_eq_true, Bool.not_eq_true'] at hk2
                obtain ⟨⟨z1, z2⟩, z3⟩ := hk2
                split at h
                · rename_i xu xv hu hv
                  cases h
                  obtain ⟨l1, l2⟩ := blt_of g hb (by decide +kernel)
                  obtain ⟨m1, m2⟩ := blt_of g z1 (by decide +kernel)
                  rw [ev_p2]
                  exact k_lzip g.hK g.calm (g.glb _ l1) l2 (g.glb _ m1) m2 (ih g hu).1 (ih g hv).1 (star_cons z2) (star_cons z3) (star_any (by simp [z3]))
                · cases h
              · rw [if_neg hk2] at h; cases h
            · rw [if_neg e2] at hz; cases hz
          · rw [if_neg e1] at hz; cases hz
        · cases hz
      · split at h
        · rename_i o xa ho ha
          cases h
          obtain ⟨b1, b2, id, b3⟩ := b1_hc g ho
          rw [ev_p1]
          exact k_b1 g hb b1 b2 (by simpa using hs) (ih g ha).1 b3
        · cases h
    · rename_i a t
      by_cases hx : n = ("isinstance" : Str)
      · rw [if_pos hx] at h
        subst hx
        have hsa : isStar a = false := by
          rw [List.any_cons, Bool.or_eq_false_iff] at hs
          exact hs.1
        split at h
        · rename_i xa ts ha ht
          cases h
          rw [ev_isi]
          unfold tyE at ht
          split at ht
          · rename_i n2 p2
            obtain ⟨t, h1, rfl⟩ := Option.map_eq_some_iff.mp ht
            obtain ⟨n3, p3, e, q1, q2⟩ := ty1_of h1
            cases e
            exact k_isi1 g hb q1 q2 hsa (ih g ha).1
          · rename_i es2 k2 p2
            by_cases hl : es2.length ≤ 100
            · rw [if_pos hl] at ht
              refine k_isiT g hb ht ?_ hsa (ih g ha).1
              have : ∀ {es : List Expr} {ts : List Ty}, mapO (ty1 c) es = some ts → ts.length = es.length := by
                intro es
                induction es with
                | nil => intro ts h; rw [mapO_nil h]; rfl
                | cons e es ih =>
                  intro ts h
                  obtain ⟨b, bs, _, h2, rfl⟩ := mapO_cons h
                  rw [List.length_cons, List.length_cons, ih h2]
              rw [this ht]
              exact hl
            · rw [if_neg hl] at ht; cases ht
          · cases ht
        · cases h
      · rw [if_neg hx] at h
        rw [List.any_cons, List.any_cons, List.any_nil, Bool.or_false, Bool.or_eq_false_iff] at hs
        split at h
        · rename_i o xa xb ho ha hb2
          cases h
          obtain ⟨b1, b2, i, b3, b4⟩ := b2_hc g ho
          rw [ev_p2]
          exact k_b2 g hb b1 b2 hs.1 hs.2 (ih g ha).1 (ih g hb2).1 b3 b4
        · cases h
    · cases h
theorem s_part (ih : SE G C lev rec) (g : Good G C Wx lev X c) : ∀ {o : Option Expr} {l : List Ex}, optE (rec c) o = some l → ∃ t, PO X o t ∧ ∀ {σ : L2.St} {H : Hp} {Q : Option Int → Hp → Prop}, tI G Wx (fun H φ1 H1 (w : Option Int) (v : Option Int) => w = v) (fun ρ S => (evWs C l ρ S).bd partI) σ H Q → t σ H Q := by
  intro o l h
  cases o with
  | none =>
    cases h
    refine ⟨_, po_none, fun {σ H Q} q => ?_⟩
    obtain ⟨φ, ρ, S, R, sl, q⟩ := q
    dsimp only at q
    rw [ev_ws0] at q
    exact q none H φ (Ext.refl _ _) R rfl
  | some e =>
    obtain ⟨y, hy, rfl⟩ := Option.map_eq_some_iff.mp h
    refine ⟨_, po_some (ih g hy).1, fun {σ H Q} q => ?_⟩
    have e : (fun ρ S => (evWs C [y] ρ S).bd partI) = fun ρ S => (evK C y ρ S).bd fun w S => partI [w] S := by
      funext ρ S
      rw [ev_ws, bd_bd, ev_ws0]
      rfl
    rw [e] at q
    refine tI.bd (F := fun w _ S => partI [w] S) q fun φ ρ S v φ1 H1 w S1 R sl e R1 l h => ?_
    cases w with
    | lis ds => exact h.elim
    | val d =>
      cases d with
      | int i =>
        have e2 := rp_int l.1
        exact ⟨i, e2, h (some i) H1 φ1 e R1 rfl⟩
      | _ => exact h.elim
/-! ### u[lo:v + w].replace(y, z) -/
theorem peo_slice {r : V → Option Int → Option Int → Hp → VK → Prop} {e v w : Expr} {lo : Option Expr} {te tv tw : TE} {tl : TO} {p2 p3 : Pos} (hr : SlR X r) (he : PE X e te) (hl : PO X lo tl) (hv : PE X v tv) (hw : PE X w tw)
    {pins : List (Addr × Obj)} {s : Shared} {σ : L2.St} {H : Hp} {Q : VK} (I : L2.Inv X pins σ H s)
    (h : te σ H fun x H1 => tl σ H1 fun l H2 => tv σ H2 fun y H3 => tw σ H3 fun z H4 => ∃ i j, y = .int i ∧ z = .int j ∧ r x l (some (i + j)) H4 Q) :
    wpAny (model X.prog X.w) X.A (eval (.Subscript e (.Slice lo (some (.BinOp v .Add w p3)) none p2) pos) X.env) (fun v s' => 1 ≤ s'.toks ∧ EP X pins σ Q v s') X.xe s := by
  refine Subscript_ (thn (he.run pins s σ H _ I h) fun vx s1 ⟨x, H1, I1, r1, q1⟩ => ?_)
  refine wpAny_Slice (thn (hl.run pins s1 σ H1 _ I1 q1) fun vl s2 ⟨l, H2, I2, pl, q2⟩ => ?_)
  rw [evalPart_some]
  refine wpAny_BinOp (thn (hv.run pins s2 σ H2 _ I2 q2) fun vy s3 ⟨y, H3, I3, r3, q3⟩ => thn (hw.run pins s3 σ H3 _ I3 q3) fun vz s4 ⟨z, H4, I4, r4, q4⟩ => ?_)
  obtain ⟨i, j, rfl, rfl, q5⟩ := q4
  obtain ⟨t3, rfl⟩ := r3
  obtain ⟨t4, rfl⟩ := r4
  refine PySem.P.add_int ?_
  rw [evalPart_none]
  refine wpAny_pure ?_
  have I5 : L2.Inv X pins σ H4 { s4 with toks := s4.toks + 1 } := I4.tok _
  have I6 : L2.Inv X pins σ H4 { s4 with toks := s4.toks + 1, heap := s4.heap.push { cls := .type "slice", data := .fields #[vl, .int (i + j) s4.toks, .none] } } := I5.kept (t' := s4.toks + 1) fun b ob q => Heap.get?_push_of_some _ q
  obtain ⟨T, id, hT, ht, hg⟩ := hr pins { s4 with toks := s4.toks + 1, heap := s4.heap.push { cls := .type "slice", data := .fields #[vl, .int (i + j) s4.toks, .none] } } σ H4 x vx vl (.int (i + j) s4.toks) l (some (i + j)) s4.heap.objs.size Q I6 r1 (Heap.IsSliceOf.new ..) pl (.int (i + j) s4.toks) q5
  show wpAny (model X.prog X.w) X.A (subscriptTail e (.Slice lo (some (.BinOp v .Add w p3)) none p2) vx (.ref s4.heap.objs.size)) _ X.xe { s4 with toks := s4.toks + 1, heap := s4.heap.push { cls := .type "slice", data := .fields #[vl, .int (i + j) s4.toks, .none] } }
  exact wpAny_mono (PySem.wpAny_toks_of (n := 1) (by show 1 ≤ s4.toks + 1; omega) (tail_any (ops := [.ref s4.heap.objs.size, vx]) ht hT hg (by with_unfolding_all rfl))) (fun _ _ q => q) fun _ _ q => q.2
theorem s_repl {o a b : Expr} {m : Str} {apos : Pos} (ih : SE G C lev rec) (g : Good G C Wx lev X c) (hl : (apos.endLine == pos.line) = true) (h : replStep rec c o m a b = some x) : PE X (.Call (.Attribute o m apos) [a, b] [] pos) (tK G Wx (evK C x)) := by
  unfold replStep at h
  split at h
  · rename_i u lo v w p3 p2 p1 y j0 c0 z j1 c1
    by_cases hk : (decide (m = ("replace" : Str)) && !(y == z)) = true
    · rw [if_pos hk] at h
      simp only [Bool.and_eq_true, decide_eq_true_eq, Bool.not_eq_true'] at hk
      obtain ⟨hm, hyz⟩ := hk
      subst hm
      split at h
      · rename_i xu xlo xv xw hu hlo hv hw
        cases h
        obtain ⟨tl, pl, il⟩ := s_part ih g hlo
        refine ⟨fun pins s σ H Q I q => ?_⟩
        rw [ev_repl] at q
        have q2 : tK G Wx (evK C xu) σ H fun v H1 => tl σ H1 fun l H2 => tK G Wx (evK C xv) σ H2 fun y3 H3 => tK G Wx (evK C xw) σ H3 fun z4 H4 => ∃ i j, y3 = .int i ∧ z4 = .int j ∧ rSl G v l (some (i + j)) H4 fun r H5 => ∃ r', r = .str r' ∧ r'.length + (r'.length + 1) * z.length ≤ 16777216 ∧ Q (.str (Txt.replace r' y z)) H5 := by
          refine tI.bd (F := fun x ρ S => ((evWs C xlo ρ S).bd partI).bd fun l S => (evK C xv ρ S).bd fun p S => (evK C xw ρ S).bd fun q S => replC x l p q y z S) q fun φ ρ S v φ1 H1 w1 S1 R sl e R1 l1 h1 => ?_
          refine il (tI.next (L := fun H φ1 H1 (w : Option Int) (v : Option Int) => w = v) (F := fun l S => (evK C xv ρ S).bd fun p S => (evK C xw ρ S).bd fun q S => replC w1 l p q y z S) R sl e R1 h1 fun l H2 φ2 l' S2 e2 R2 l2 h2 => ?_)
          have l2 : l' = l := l2
          subst l2
          refine tI.next (F := fun p S => (evK C xw ρ S).bd fun q S => replC w1 l' p q y z S) R sl (e.trans e2) R2 h2 fun vy H3 φ3 wy S3 e3 R3 l3 h3 => ?_
          refine tI.next (F := fun q S => replC w1 l' wy q y z S) R sl ((e.trans e2).trans e3) R3 h3 fun vz H4 φ4 wz S4 e4 R4 l4 h4 => ?_
          unfold replC at h4
          split at h4
          · rename_i i j
            refine ⟨i, j, rp_int l3.1, rp_int l4.1, φ4, w1, S4, fun c d H' => Wx c d σ H', R4, RpW.mono ((e2.trans e3).trans e4) R1 l1.1, ?_⟩
            refine (Post.bd (L := RlW G) (h4.sh (((e.trans e2).trans e3).trans e4) R4 mnW)).mono fun r H5 ⟨φ5, w5, S5, _, e5, R5, l5, h5⟩ => ?_
            unfold replW at h5
            split at h5
            · rename_i r' _
              by_cases hc : r'.length + (r'.length + 1) * z.length ≤ 16777216
              · rw [if_pos hc] at h5
                exact ⟨r', rp_str l5.1, hc, h5 _ _ _ e5 R5 (rl_val rp_st)⟩
              · rw [if_neg hc] at h5; exact h5.elim
            · exact h5.elim
          · exact h4.elim
        refine PySem.Call_method2 (base_ok rfl) (by rfl) hl (wpAny_mono (peo_slice (o_sl g.hK) (ih g hu).1 pl (ih g hv).1 (ih g hw).1 I q2) (fun vo s1 qo => ?_) fun _ _ z => z)
        obtain ⟨hk, v', H1, I1, r1, r', e1, hb, qo⟩ := qo
        subst e1
        obtain ⟨tx, e2⟩ := r1
        subst e2
        refine ⟨"str", _, F.plainAttrs_str, F.slot_str_replace, F.type_str_replace, typeIs_str _ _ _, (fun _ e => nomatch e), Calls.callWith_builtin rfl (Calls.evalArgs_plain (Calls.spliced_cons ?_))⟩
        refine Calls.Constant_str (Calls.spliced_cons (Calls.Constant_str (Calls.spliced_nil ?_)))
        exact PySem.SC.replace (by show s1.toks ≠ 0; omega) (by show s1.toks + 1 ≠ 0; omega) (by show s1.toks ≠ s1.toks + 1; omega) hyz hb fun t' k => ⟨.str (Txt.replace r' y z), H1, I1.tok k, ⟨t', rfl⟩, qo⟩
      · cases h
    · rw [if_neg hk] at h; cases h
  · cases h
/-! ### f-strings -/
theorem rfmt {φ : List Addr} {H : Hp} {S : Store} {w : W} {v : V} {xk : XK} {Q : VK} (R : Rel G φ H S) (r : RpW G φ H w v) (h : Post G (RlW G) φ H (p1 .fmt w S) xk Q) :
    (∃ y : Str, v = .str y ∧ y.length ≤ sizeLine ∧ Q (.str y) H) ∨ ∃ i : Int, v = .int i ∧ i.natAbs.log2 < 1920 ∧ Q (.str (toString i)) H := by
  unfold p1 at h
  dsimp only at h
  split at h
  · rename_i y
    by_cases hc : y.length ≤ sizeLine
    · rw [if_pos hc] at h; exact .inl ⟨y, rp_str r, hc, vv_ok R h rp_st⟩
    · rw [if_neg hc] at h; exact h.elim
  · rename_i i
    by_cases hc : i.natAbs.log2 < 1920
    · rw [if_pos hc] at h; exact .inr ⟨i, rp_int r, hc, vv_ok R h rp_st⟩
    · rw [if_neg hc] at h; exact h.elim
  · exact h.elim
theorem s_fmt {e : Expr} {y : Ex} (ih : SE G C lev rec) (g : Good G C Wx lev X c) (h : fmtStep rec c e = some y) : PE X e (tK G Wx (evK C y)) := by
  unfold fmtStep at h
  split at h
  · obtain ⟨z, hz, rfl⟩ := Option.map_eq_some_iff.mp h
    rw [ev_p1]
    refine (pe_fmt (ih g hz).1).im fun σ H Q q => ?_
    exact tI.bd (F := fun w _ S => p1 .fmt w S) q fun φ ρ S v φ1 H1 w S1 R sl e R1 l h => rfmt R1 l.1 (h.sh e R1 mnW)
  · cases h
    rw [ev_c]
    exact k_const pe_str fun _ _ => by unfold Rp; rfl
  · cases h
theorem s_fmts (ih : SE G C lev rec) (g : Good G C Wx lev X c) : ∀ {es : List Expr} {xs : List Ex}, mapO (fmtStep rec c) es = some xs →
    ∃ ts, PJ X es ts ∧ ∀ (acc : Str) (σ : L2.St) (H : Hp) (Q : VK), tK G Wx (fun ρ S => evJ C xs ρ S acc) σ H Q → tJs ts acc σ H fun out H1 => Q (.str out) H1
  | [], xs, h => by
    rw [mapO_nil h]
    refine ⟨[], .nil, fun acc σ H Q q => ?_⟩
    rw [ev_j0] at q
    obtain ⟨φ, ρ, S, R, sl, q⟩ := q
    exact vv_ok R q rp_st
  | e :: es, xs, h => by
    obtain ⟨y, ys, h1, h2, rfl⟩ := mapO_cons h
    obtain ⟨ts, hp, hq⟩ := s_fmts ih g h2
    refine ⟨_ :: ts, .cons (s_fmt ih g h1) hp, fun acc σ H Q q => ?_⟩
    rw [ev_j] at q
    refine tI.bd (F := fun w ρ S => match w with
      | .val (.str y) => if (acc ++ y).length ≤ sizeLine then evJ C ys ρ S (acc ++ y) else .bad
      | _ => .bad) q fun φ ρ S v φ1 H1 w S1 R sl e R1 l h => ?_
    split at h
    · rename_i z
      by_cases hc : (acc ++ z).length ≤ sizeLine
      · rw [if_pos hc] at h
        exact ⟨z, rp_str l.1, hc, hq _ _ _ _ (tI.go (A := fun ρ S => evJ C ys ρ S (acc ++ z)) R sl e R1 mnW h)⟩
      · rw [if_neg hc] at h; exact h.elim
    · exact h.elim
theorem s_meth {o : Expr} {m : Str} {es : List Expr} {apos : Pos} (ih : SE G C lev rec) (g : Good G C Wx lev X c) (hl : (apos.endLine == pos.line) = true) (h : methStep rec c o m es = some x) : PE X (.Call (.Attribute o m apos) es [] pos) (tK G Wx (evK C x)) := by
  unfold methStep at h
  by_cases hk : (baseOk o && !es.any isStar) = false
  · rw [if_pos hk] at h; cases h
  rw [if_neg hk] at h
  simp only [Bool.not_eq_false, Bool.and_eq_true, Bool.not_eq_true'] at hk
  obtain ⟨hb, hs⟩ := hk
  split at h
  · split at h
    · rename_i k p xo hm ho
      cases h
      rw [ev_m0]
      unfold m0Of at hm
      split at hm
      · rename_i e; subst e; cases hm
        exact k_m0 "list" F.plainAttrs_list F.slot_list_pop F.type_list_pop m_pop (fun φ H S w x R r q => is_list g.hK R r q) (ih g ho).1 hb hl
      · cases hm
    · cases h
  · rename_i a
    have hsa : isStar a = false := by simpa using hs
    split at h
    · rename_i k p xo xa hm ho ha
      cases h
      rw [ev_m1]
      unfold m1Of at hm
      split at hm
      · rename_i e; subst e; cases hm
        exact k_m1 "list" F.plainAttrs_list F.slot_list_append F.type_list_append m_append (fun φ H S w x R r q => is_list g.hK R r q) (ih g ho).1 (ih g ha).1 hsa hb hl
      split at hm
      · rename_i e; subst e; cases hm
        exact k_m1 "list" F.plainAttrs_list F.slot_list_extend F.type_list_extend m_extend (fun φ H S w x R r q => is_list g.hK R r q) (ih g ho).1 (ih g ha).1 hsa hb hl
      split at hm
      · rename_i e; subst e; cases hm
        exact k_m1 "str" F.plainAttrs_str F.slot_str_join F.type_str_join (m_join g.hK) (fun φ H S w x R r q => is_str r q) (ih g ho).1 (ih g ha).1 hsa hb hl
      split at hm
      · rename_i e; subst e; cases hm
        exact k_m1 "str" F.plainAttrs_str F.slot_str_split F.type_str_split m_split (fun φ H S w x R r q => is_str r q) (ih g ho).1 (ih g ha).1 hsa hb hl
      · cases hm
    · cases h
  · exact s_repl ih g hl h
  · cases h

theorem s_ix {a b : Expr} (ih : SE G C lev rec) (g : Good G C Wx lev X c) (h : eStep rec c (.Subscript a b pos) = some x) : PE X (.Subscript a b pos) (tK G Wx (evK C x)) := by
  by_cases hb : isSlice b = true
  · cases b <;> try cases hb
    rename_i lo hi st p2
    cases st with
    | some st => dsimp only [eStep] at h; cases h
    | none =>
      dsimp only [eStep] at h
      split at h
      · rename_i xa l u ha hl hu
        cases h
        obtain ⟨tl, pl, il⟩ := s_part ih g hl
        obtain ⟨tu, pu, iu⟩ := s_part ih g hu
        refine (pe_slice (o_sl g.hK) (ih g ha).1 pl pu).im fun σ H Q q => ?_
        rw [ev_sl] at q
        refine tI.bd (F := fun x ρ S => ((evWs C l ρ S).bd partI).bd fun i S => ((evWs C u ρ S).bd partI).bd fun j S => cutW x i j S) q fun φ ρ S v φ1 H1 x S1 R sl e R1 lx h => ?_
        refine il (tI.next (L := fun H φ1 H1 (w : Option Int) (v : Option Int) => w = v) (F := fun i S => ((evWs C u ρ S).bd partI).bd fun j S => cutW x i j S) R sl e R1 h fun i H2 φ2 i' S2 e2 R2 l2 h2 => ?_)
        have l2 : i' = i := l2
        subst l2
        refine iu (tI.next (L := fun H φ1 H1 (w : Option Int) (v : Option Int) => w = v) (F := fun j S => cutW x i' j S) R sl (e.trans e2) R2 h2 fun j H3 φ3 j' S3 e3 R3 l3 h3 => ?_)
        have l3 : j' = j := l3
        subst l3
        exact ⟨φ3, x, S3, _, R3, RpW.mono (e2.trans e3) R1 lx.1, h3.sh ((e.trans e2).trans e3) R3 mnW⟩
      · cases h
  · have hb : isSlice b = false := by simpa using hb
    have h : (match rec c a, rec c b with | some a, some b => some (Ex.p2 .ix a b) | _, _ => none) = some x := by
      cases b <;> first | exact h | cases hb
    split at h
    · rename_i xa xb ha hb2
      cases h
      rw [ev_p2]
      exact k_ix (o_ix g.hK g.hu) (ih g ha).1 (ih g hb2).1 (plainIx_ok hb)
    · cases h

/-! ### what is walked, comprehensions -/
theorem ita_1 {k : IK} {a : Ex} : itA C k [a] = fun ρ S => (evK C a ρ S).bd fun w S => itsA k [w] S := by
  funext ρ S
  unfold itA
  rw [ev_ws, bd_bd, ev_ws0]
  rfl
theorem ita_2 {k : IK} {a b : Ex} : itA C k [a, b] = fun ρ S => (evK C a ρ S).bd fun w S => (evK C b ρ S).bd fun w2 S => itsA k [w, w2] S := by
  funext ρ S
  unfold itA
  simp only [ev_ws, ev_ws0, bd_bd]
  rfl
theorem ita_3 {k : IK} {a b d : Ex} : itA C k [a, b, d] = fun ρ S => (evK C a ρ S).bd fun w S => (evK C b ρ S).bd fun w2 S => (evK C d ρ S).bd fun w3 S => itsA k [w, w2, w3] S := by
  funext ρ S
  unfold itA
  simp only [ev_ws, ev_ws0, bd_bd]
  rfl
theorem s_it {tg e : Expr} {k : IK} {is : List Ex} (ih : SE G C lev rec) (g : Good G C Wx lev X c) (h : iStep rec c e = some (k, is)) (ht : tupT k tg = true) : PI X tg e (tIts G Wx (itA C k is)) := by
  have plain : ∀ {e : Expr}, (rec c e).map (fun a => (IK.it, [a])) = some (k, is) → PI X tg e (tIts G Wx (itA C k is)) := by
    intro e h
    obtain ⟨y, hy, q⟩ := Option.map_eq_some_iff.mp h
    cases q
    rw [ita_1]
    exact ki_it (ih g hy).1 g.hK
  unfold iStep at h
  split at h
  · rename_i n p es kw pos
    by_cases hb : (c.blt n && kw.isEmpty) = true
    · rw [if_pos hb] at h
      rw [Bool.and_eq_true] at hb
      obtain ⟨hb, hkw⟩ := hb
      cases kw with
      | cons _ _ => cases hkw
      | nil =>
      by_cases h1 : n = ("range" : Str)
      · rw [if_pos h1] at h
        subst h1
        obtain ⟨hg, hm⟩ := blt_of g hb (by decide +kernel)
        split at h
        · rename_i a
          by_cases hs : isStar a = true
          · rw [if_pos hs] at h; cases h
          rw [if_neg hs] at h
          obtain ⟨y, hy, q⟩ := Option.map_eq_some_iff.mp h
          cases q
          rw [ita_1]
          exact ki_rng1 (g.glb _ hg) hm (ih g hy).1 (star_cons (by simpa using hs))
        · rename_i a b
          by_cases hs : (isStar a || isStar b) = true
          · rw [if_pos hs] at h; cases h
          rw [if_neg hs] at h
          simp only [Bool.not_eq_true, Bool.or_eq_false_iff] at hs
          split at h
          · rename_i xa xb ha hb2
            cases h
            rw [ita_2]
            have e1 : starEach [b] X.env = [(false, eval b X.env)] := star_cons hs.2
            exact ki_rng2 (g.glb _ hg) hm (ih g ha).1 (ih g hb2).1 (by rw [star_cons hs.1, e1]) e1
          · cases h
        · rename_i a b d
          by_cases hs : (isStar a || isStar b || isStar d) = true
          · rw [if_pos hs] at h; cases h
          rw [if_neg hs] at h
          simp only [Bool.not_eq_true, Bool.or_eq_false_iff] at hs
          split at h
          · rename_i xa xb xd ha hb2 hd
            cases h
            rw [ita_3]
            exact ki_rng3 (g.glb _ hg) hm (ih g ha).1 (ih g hb2).1 (ih g hd).1 (star_cons hs.1.1) (star_cons hs.1.2) (star_cons hs.2) (star_any (by simp [hs.1.2, hs.2]))
          · cases h
        · cases h
      rw [if_neg h1] at h
      by_cases h2 : n = ("zip" : Str)
      · rw [if_pos h2] at h
        subst h2
        obtain ⟨hg, hm⟩ := blt_of g hb (by decide +kernel)
        split at h
        · rename_i a b
          by_cases hs : (isStar a || isStar b) = true
          · rw [if_pos hs] at h; cases h
          rw [if_neg hs] at h
          simp only [Bool.not_eq_true, Bool.or_eq_false_iff] at hs
          split at h
          · rename_i xa xb ha hb2
            cases h
            rw [ita_2]
            cases tg <;> try cases ht
            exact ki_zip (g.glb _ hg) hm (ih g ha).1 (ih g hb2).1 g.hK (star_cons hs.1) (star_cons hs.2) (star_any (by simp [hs.2]))
          · cases h
        · cases h
      rw [if_neg h2] at h
      by_cases h3 : n = ("enumerate" : Str)
      · rw [if_pos h3] at h
        subst h3
        obtain ⟨hg, hm⟩ := blt_of g hb (by decide +kernel)
        split at h
        · rename_i a
          by_cases hs : isStar a = true
          · rw [if_pos hs] at h; cases h
          rw [if_neg hs] at h
          obtain ⟨y, hy, q⟩ := Option.map_eq_some_iff.mp h
          cases q
          rw [ita_1]
          cases tg <;> try cases ht
          exact ki_enm (g.glb _ hg) hm (ih g hy).1 g.hK (star_cons (by simpa using hs))
        · cases h
      rw [if_neg h3] at h
      by_cases h4 : n = ("reversed" : Str)
      · rw [if_pos h4] at h
        subst h4
        obtain ⟨hg, hm⟩ := blt_of g hb (by decide +kernel)
        split at h
        · rename_i a
          by_cases hs : isStar a = true
          · rw [if_pos hs] at h; cases h
          rw [if_neg hs] at h
          obtain ⟨y, hy, q⟩ := Option.map_eq_some_iff.mp h
          cases q
          rw [ita_1]
          exact ki_rev (g.glb _ hg) hm (ih g hy).1 g.hK (star_cons (by simpa using hs))
        · cases h
      rw [if_neg h4] at h
      exact plain h
    · rw [if_neg hb] at h
      exact plain h
  · by_cases hs : isSet e = true
    · rw [if_pos hs] at h; cases h
    · rw [if_neg hs] at h; exact plain h
theorem s_tg {tg : Expr} {t : Tg} (g : Good G C Wx lev X c) (h : tgE c tg = some t) : PG X tg (gTg G.K t) := by
  unfold tgE at h
  split at h
  · rename_i n p
    by_cases hl : c.loc n = true
    · rw [if_pos hl] at h
      obtain ⟨i, hi, rfl⟩ := Option.map_eq_some_iff.mp h
      obtain ⟨l1, l2⟩ := g.loc n hl
      exact pg_name (by rw [g.hN]; exact g.nd) (by rw [g.hN]; exact ixOf_get hi) l1 l2
    · rw [if_neg hl] at h; cases h
  · rename_i es k p
    obtain ⟨is, hi, rfl⟩ := Option.map_eq_some_iff.mp h
    have many : ∀ {es : List Expr} {is : List Nat}, mapO (fun e => match e with | Expr.Name x _ => if c.loc x = true then ixOf c.N x else none | _ => none) es = some is →
        PGs X es (gNames is) ∧ (assignEach es X.env).length = is.length ∧ (assignEach es X.env).findIdx? (·.1) = none := by
      intro es
      induction es with
      | nil => intro is h; rw [mapO_nil h]; exact ⟨pgs_nil, rfl, rfl⟩
      | cons e es ihe =>
        intro is h
        obtain ⟨i, is, h1, h2, rfl⟩ := mapO_cons h
        obtain ⟨j1, j2, j3⟩ := ihe h2
        cases e with
        | Name n p =>
          dsimp only at h1
          by_cases hl : c.loc n = true
          · rw [if_pos hl] at h1
            obtain ⟨l1, l2⟩ := g.loc n hl
            have p1 : PG X (.Name n p) (gName i) := pg_name (by rw [g.hN]; exact g.nd) (by rw [g.hN]; exact ixOf_get h1) l1 l2
            refine ⟨pgs_cons p1 j1 rfl, ?_, ?_⟩
            · show (_ :: assignEach es X.env).length = _
              rw [List.length_cons, List.length_cons, j2]
            · show ((false, _) :: assignEach es X.env).findIdx? (·.1) = none
              rw [List.findIdx?_cons, j3]
              rfl
          · rw [if_neg hl] at h1; cases h1
        | _ => cases h1
    obtain ⟨m1, m2, m3⟩ := many hi
    unfold gTg
    rw [← g.hK]
    exact pg_tup g.calm m1 m2 m3
  · cases h
theorem comp_parts {elt tg iter : Expr} {ifs : List Expr} {sc : Scope} (ih : SE G C lev rec) (g : Good G C Wx lev X c) (h : compStep rec c elt tg iter ifs sc = some x) :
    ∃ t k is cs y own, x = .comp t k is cs y (own.map (·.2)) ∧ tgE ⟨c.N, c.gl, sc⟩ tg = some t ∧ PI X tg iter (tIts G Wx (itA C k is)) ∧ BlkOk X.N X.env.scope sc own ∧
      (∀ (s : Shared) (H : Hp) (Ca : Addr) (cl : List (Str × Addr)) (fp : List Addr), PG (X.blk s H sc (compEnvC sc cl Ca X.env) fp) tg (gTg G.K t)) ∧
      (∀ (s : Shared) (H : Hp) (Ca : Addr) (cl : List (Str × Addr)) (fp : List Addr), PTs (X.blk s H sc (compEnvC sc cl Ca X.env) fp) ifs (tBo G WxF (evCs C cs))) ∧
      (∀ (s : Shared) (H : Hp) (Ca : Addr) (cl : List (Str × Addr)) (fp : List Addr), PE (X.blk s H sc (compEnvC sc cl Ca X.env) fp) elt (tD G WxF (evD C y))) ∧
      (∀ y, foldedSetIterable iter X.env y = pure y) ∧ ∀ i ∈ t.slots, i ∈ own.map (·.2) := by
  unfold compStep at h
  by_cases hb : (blkC c.N c.sc sc (ownE c.N sc) && !isSet iter) = true
  · rw [if_pos hb] at h
    rw [Bool.and_eq_true] at hb
    obtain ⟨hb, hset⟩ := hb
    have B := blkOk_by hb
    have B : BlkOk X.N X.env.scope sc (ownE c.N sc) := ⟨B.kind, B.uniq, by rw [g.hN]; exact B.ix, fun y hy e => g.cf _ (B.free y hy e), by rw [g.hN]; exact B.own⟩
    split at h
    · rename_i t k is e ht hi he
      by_cases hk : (tupT k tg && t.slots.all fun i => decide (i ∈ (ownE c.N sc).map (·.2))) = true
      · rw [if_pos hk] at h
        rw [Bool.and_eq_true] at hk
        obtain ⟨hk, hsl⟩ := hk
        have hown : ∀ i ∈ t.slots, i ∈ (ownE c.N sc).map (·.2) := fun i hi => by
          have q := List.all_eq_true.mp hsl i hi
          exact of_decide_eq_true q
        have hI := s_it (tg := tg) ih g hi hk
        have hF : ∀ y, foldedSetIterable iter X.env y = pure y := fold_ok (by simpa using hset)
        split at h
        · cases h
          exact ⟨t, k, is, [], e, _, rfl, ht, hI, B, fun s H Ca cl fp => s_tg (g.blk sc s H Ca cl fp) ht, fun s H Ca cl fp => by rw [ev_cs0]; exact kt_nil, fun s H Ca cl fp => k_D (ih (g.blk sc s H Ca cl fp) he).1, hF, hown⟩
        · obtain ⟨y, hy, rfl⟩ := Option.map_eq_some_iff.mp h
          exact ⟨t, k, is, [y], e, _, rfl, ht, hI, B, fun s H Ca cl fp => s_tg (g.blk sc s H Ca cl fp) ht, fun s H Ca cl fp => by rw [ev_cs1]; exact kt_one (ih (g.blk sc s H Ca cl fp) hy).2, fun s H Ca cl fp => k_D (ih (g.blk sc s H Ca cl fp) he).1, hF, hown⟩
        · cases h
      · rw [if_neg hk] at h; cases h
    · cases h
  · rw [if_neg hb] at h; cases h
theorem s_comp {elt tg iter : Expr} {ifs : List Expr} {sc : Scope} (ih : SE G C lev rec) (g : Good G C Wx lev X c) (h : compStep rec c elt tg iter ifs sc = some x) : PE X (.ListComp elt [⟨tg, iter, ifs, 0⟩] sc pos) (tK G Wx (evK C x)) := by
  obtain ⟨t, k, is, cs, y, own, rfl, ht, hI, B, p1, p2, p3, hF, hown⟩ := comp_parts ih g h
  rw [ev_comp]
  exact k_comp g.calm (by rw [g.hN]; exact g.nd) hI B p1 p2 p3 hF hown

theorem pps_of (ih : SE G C lev rec) (g : Good G C Wx lev X c) : ∀ {keys : List (Option Expr)} {values es : List Expr} {xs : List Ex}, flatE keys values = some es → mapO (rec c) es = some xs →
    keys.all (·.isSome) = true ∧ keys.length = values.length ∧ ∃ trs, PPs X pos keys values trs ∧ ∀ σ H Q, tDs G Wx (evDs C xs) σ H (fun vs H' => ∀ ps, flatV ps = vs → Q ps H') → tPairs trs σ H Q
  | [], [], es, xs, h, hm => by
    cases h
    rw [mapO_nil hm]
    refine ⟨rfl, rfl, [], pps_nil, fun σ H Q q => ?_⟩
    obtain ⟨φ, ρ, S, R, sl, q⟩ := q
    rw [ev_ds0] at q
    exact q [] H φ (Ext.refl _ _) R (by show Rps G φ H [] []; unfold Rps; rfl) [] rfl
  | some k :: ks, v :: vs, es, xs, h, hm => by
    obtain ⟨r, hr, rfl⟩ := Option.map_eq_some_iff.mp (show (flatE ks vs).map (fun r => k :: v :: r) = some es from h)
    obtain ⟨xk, xs1, hk, hm1, rfl⟩ := mapO_cons hm
    obtain ⟨xv, xs2, hv, hm2, rfl⟩ := mapO_cons hm1
    obtain ⟨h1, h2, trs, hp, hq⟩ := pps_of ih g hr hm2
    refine ⟨by rw [List.all_cons, h1]; rfl, by rw [List.length_cons, List.length_cons, h2], _ :: trs, pps_cons (k_D (ih g hk).1) (k_D (ih g hv).1) hp, fun σ H Q q => ?_⟩
    rw [ev_ds, ev_ds] at q
    refine tI.bd (F := fun d ρ S => ((evD C xv ρ S).bd fun d2 S => (evDs C xs2 ρ S).bd fun ds S => Mi.R.ok (d2 :: ds) S).bd fun ds S => Mi.R.ok (d :: ds) S) q fun φ ρ S x φ1 H1 d S1 R sl e R1 l h => ?_
    rw [bd_bd] at h
    refine tI.next R sl e R1 h fun y H2 φ2 d2 S2 e2 R2 l2 h2 => hq _ _ _ ?_
    rw [bd_bd] at h2
    refine tI.next (L := RlDs G) R sl (e.trans e2) R2 h2 fun us H3 φ3 ds S3 e3 R3 l3 h3 ps hps => ?_
    refine Post.ok (L := RlDs G) (a := d :: d2 :: ds) (b := x :: y :: us) h3 ((e.trans e2).trans e3) R3 ?_ ((x, y) :: ps) (by rw [← hps]; rfl)
    show Rps G φ3 H3 (d :: d2 :: ds) (x :: y :: us)
    unfold Rps
    refine ⟨x, y :: us, rfl, Rp.mono ((e2.trans e3).toKeep R1) _ _ l, ?_⟩
    unfold Rps
    exact ⟨y, us, rfl, Rp.mono (e3.toKeep R2) _ _ l2, l3⟩
  | some k :: ks, [], es, xs, h, hm => by cases h
  | none :: ks, v, es, xs, h, hm => by cases v <;> cases h
  | [], v :: vs, es, xs, h, hm => by cases h
theorem s_dict {keys : List (Option Expr)} {values : List Expr} (ih : SE G C lev rec) (g : Good G C Wx lev X c) (h : eStep rec c (.Dict keys values pos) = some x) : PE X (.Dict keys values pos) (tK G Wx (evK C x)) := by
  dsimp only [eStep] at h
  split at h
  · rename_i es he
    by_cases hl : keys.length ≤ 15
    · rw [if_pos hl] at h
      obtain ⟨xs, hx, rfl⟩ := Option.map_eq_some_iff.mp h
      rw [ev_dict]
      cases keys with
      | nil =>
        cases values with
        | cons _ _ => cases he
        | nil =>
          cases he
          rw [mapO_nil hx, ev_ds0]
          exact k_dsp0
      | cons k ks =>
        obtain ⟨h1, h2, trs, hp, hq⟩ := pps_of (pos := pos) ih g he hx
        exact k_dsp hp h1 h2 (by simp) hl hq
    · rw [if_neg hl] at h; cases h
  · cases h
theorem s_srt {n k y : Str} {es : List Expr} {p pf kpos : Pos} (ih : SE G C lev rec) (g : Good G C Wx lev X c) (h : srtStep rec c n es k y = some x) : PE X (.Call (.Name n p) es [⟨some k, .Name y pf, kpos⟩] pos) (tK G Wx (evK C x)) := by
  unfold srtStep at h
  split at h
  · rename_i a
    by_cases hk : (c.blt n && decide (n = ("sorted" : Str)) && decide (k = ("key" : Str)) && !isStar a && c.glb y && okName y) = true
    · rw [if_pos hk] at h
      simp only [Bool.and_eq_true, Bool.not_eq_true', decide_eq_true_eq] at hk
      obtain ⟨⟨⟨⟨⟨k1, rfl⟩, rfl⟩, k4⟩, k5⟩, k6⟩ := hk
      split at h
      · rename_i i xa hi ha
        cases h
        rw [ev_srt]
        exact k_srt (x := "sorted") (k := "key") g k1 k5 hi k6 k4 (ih g ha).1
      · cases h
    · rw [if_neg hk] at h; cases h
  · cases h
theorem s_step (ih : SE G C lev rec) : SE G C lev (eStep rec) := by
  intro Wx X c e x g h
  cases e with
  | Name n pos => exact s_name g h
  | Constant k kd pos => exact s_const h
  | BinOp a op b pos => exact s_bin ih g h
  | UnaryOp op a pos => exact s_un ih g h
  | BoolOp op es pos => exact s_bool ih g h
  | IfExp t a b pos => exact s_ite ih g h
  | Compare a ops es pos => exact s_cmp ih g h
  | Call f es kw pos =>
    dsimp only [eStep] at h
    split at h
    · cases f with
      | Name n p => exact both (s_call ih g h)
      | Attribute o m apos =>
        dsimp only at h
        by_cases hl : (apos.endLine == pos.line) = false
        · rw [if_pos hl] at h; cases h
        · rw [if_neg hl] at h
          exact both (s_meth ih g (by simpa using hl) h)
      | _ => cases h
    · cases f with
      | Name n p => exact both (s_srt ih g h)
      | _ => cases h
    · cases h
  | Dict keys values pos => exact both (s_dict ih g h)
  | Subscript a b pos => exact both (s_ix ih g h)
  | Tuple es k pos => exact s_tup ih g h
  | List es pos => exact s_list ih g h
  | ListComp elt gs sc pos =>
    dsimp only [eStep] at h
    split at h
    · exact both (s_comp ih g h)
    · cases h
  | JoinedStr es pos =>
    dsimp only [eStep] at h
    split at h
    · obtain ⟨xs, hx, rfl⟩ := Option.map_eq_some_iff.mp h
      obtain ⟨ts, hp, hq⟩ := s_fmts ih g hx
      refine both ?_
      rw [ev_fst]
      exact (pe_joined hp).im fun σ H Q q => hq _ _ _ _ q
    · cases h
  | _ => cases h
theorem s_all : ∀ n : Nat, SE G C lev (cE n)
  | 0 => fun _ h => by cases h
  | n + 1 => s_step (s_all n)
end
end Mi

/-! Mi, part J: the translation of statements, and that it tells the truth. -/
namespace Mi
open PySem L2 PyProof.Rows RT RZ

/-! ### the translation -/
def isComp : Expr → Bool
  | .ListComp _ _ _ _ => true | .SetComp _ _ _ _ => true | .DictComp _ _ _ _ _ => true | _ => false
def isTup : Expr → Bool
  | .Tuple _ _ _ => true | _ => false
/-- the name is stored ahead of the block's end -/
def swB (c : Ct) (y : Str) (py pos : Pos) (sc : Scope) : Bool := decide (c.sc.names.lookup y = some .local) && py.line == pos.line && !(sc.names.any fun (n, k) => n == y && (k == .local || k == .cell))
def isSub : Expr → Bool
  | .Subscript _ i _ => !isSlice i
  | _ => false
def sStep (n : Nat) (rec : Ct → List Stmt → Option (List Stm)) (c : Ct) : Stmt → Option Stm
  | .Assign [tg] e _ => match tg with
    | .Subscript o i _ => if isSlice i = true then none else match cE n c o, cE n c i, cE n c e with
      | some o, some i, some e => some (.setIx o i e)
      | _, _, _ => none
    | tg => if isTup tg && isTup e then none else match tgE c tg, cE n c e with
      | some t, some e => some (.set t e)
      | _, _ => none
  | .AugAssign (.Name x _) op e _ => if c.loc x = true then match ixOf c.N x, op, cE n c e with
      | some i, .Add, some e => some (.aug i .add e)
      | some i, .Sub, some e => some (.aug i .sub e)
      | _, _, _ => none
    else none
  | .Expr e _ => match e with
    | .Constant (.str _) _ _ => some .pass
    | e => if isComp e = true then none else (cE n c e).map .exp
  | .Return (some e) _ => (cE n c e).map .ret
  | .Return none _ => some (.ret (.c .non))
  | .If t a b _ => match cE n c t, rec c a, rec c b with
    | some t, some a, some b => some (.iff t a b)
    | _, _, _ => none
  | .For tg iter body [] _ => if isSet iter = true then none else match tgE c tg, cI n c iter, rec c body with
    | some t, some (k, is), some b => if tupT k tg = true then some (.for_ t k is b) else none
    | _, _, _ => none
  | .While t body [] _ => match cE n c t, rec c body with
    | some t, some b => some (.whl t b)
    | _, _ => none
  | .Pass _ => some .pass
  | .Break _ => some .brk
  | .Continue _ => some .cnt
  | _ => none
def cSs (n : Nat) : Nat → Ct → List Stmt → Option (List Stm)
  | 0 => fun _ _ => none
  | m + 1 => fun c l => mapO (sStep n (cSs n m) c) l

section
variable {C : Calls}
theorem ex_set {t : Tg} {e : Ex} : exS C (.set t e) = setA t (evD C e) := by funext ρ S; rw [exS]; try rfl
theorem ex_setIx {o i e : Ex} : exS C (.setIx o i e) = fun ρ S => (evD C e ρ S).st ρ fun d S => (evK C o ρ S).st ρ fun x S => (evK C i ρ S).st ρ fun y S => match setItem x y d S with
    | some S => .ok .nx ρ S
    | none => .bad := by funext ρ S; rw [exS]; try rfl
theorem ex_exp {e : Ex} : exS C (.exp e) = fun ρ S => (evK C e ρ S).st ρ fun _ S => .ok .nx ρ S := by funext ρ S; rw [exS]
theorem ex_ret {e : Ex} : exS C (.ret e) = fun ρ S => (evD C e ρ S).st ρ fun d S => .ok (.rt d) ρ S := by funext ρ S; rw [exS]
theorem ex_iff {c : Ex} {a b : List Stm} : exS C (.iff c a b) = fun ρ S => (evB C c ρ S).st ρ fun k S => if k = true then exSs C a ρ S else exSs C b ρ S := by funext ρ S; rw [exS]
theorem ex_for {t : Tg} {k : IK} {is : List Ex} {b : List Stm} : exS C (.for_ t k is b) = fun ρ S => (itA C k is ρ S).st ρ fun I S => forL I.live (bodyA t (exSs C b)) I.items ρ S := by
  funext ρ S
  rw [exS]
  unfold itA
  cases evWs C is ρ S with
  | ok ws S1 =>
    show _ = (itsA k ws S1).st ρ _
    unfold itsA
    show (match its k ws S1 with | some I => _ | none => _) = _
    cases its k ws S1 with
    | none => rfl
    | some I => rfl
  | ex c fs S => rfl
  | bad => rfl
theorem ex_whl {c : Ex} {b : List Stm} : exS C (.whl c b) = fun ρ S => whileR (evB C c) (exSs C b) ρ S := by funext ρ S; rw [exS]
theorem ex_brk : exS C .brk = fun ρ S => .ok .brk ρ S := by funext ρ S; rw [exS]
theorem ex_cnt : exS C .cnt = fun ρ S => .ok .cnt ρ S := by funext ρ S; rw [exS]
theorem ex_pass : exS C .pass = fun ρ S => .ok .nx ρ S := by funext ρ S; rw [exS]
theorem ex_aug {i : Nat} {o : P2} {e : Ex} : exS C (.aug i o e) = fun ρ S => match ρ[i]? with
    | some (some x) => (evK C e ρ S).st ρ fun y S => match augV o x y with
      | some d => .ok .nx (ρ.set i (some d)) S
      | none => .bad
    | _ => .bad := by funext ρ S; rw [exS]; try rfl
theorem ex_ss0 : exSs C [] = fun ρ S => .ok .nx ρ S := by funext ρ S; rw [exSs]
theorem ex_ss {s : Stm} {r : List Stm} : exSs C (s :: r) = fun ρ S => (exS C s ρ S).sq fun ρ S => exSs C r ρ S := by funext ρ S; rw [exSs]
end

/-! ### it tells the truth -/
structure GoodS (G : Gb) (C : Calls) (Wx : WX) (lev : Nat) (X : Cx) (c : Ct) : Prop extends Good G C Wx lev X c where
  sc : X.env.scope = c.sc
  kind : c.sc.kind = .function
  own : PassesOwn (model X.prog X.w) X.A X.env X.xe
def SS (G : Gb) (C : Calls) (lev : Nat) (rec : Ct → List Stmt → Option (List Stm)) : Prop := ∀ {Wx : WX} {X : Cx} {c : Ct} {l : List Stmt} {x : List Stm}, GoodS G C Wx lev X c → rec c l = some x → PSs X l (tS G Wx (exSs C x))
section
variable {G : Gb} {C : Calls} {lev n : Nat} {rec : Ct → List Stmt → Option (List Stm)} {Wx : WX} {X : Cx} {c : Ct} {x : Stm} {pos : Pos} {D : Ends}
theorem sw_no {e : Expr} {t : Option Expr} {l : Nat} {env : PySem.Env} (h : isComp e = false) : swapsWith e t l env = pure false := by
  cases e <;> first | rfl | cases h
theorem sw_val {elt : Expr} {gs : List Comprehension} {sc : Scope} {pos py : Pos} {y : Str} {l : Nat} (g : GoodS G C Wx lev X c) : swapsWith (.ListComp elt gs sc pos) (some (.Name y py)) l X.env = pure (swB c y py pos sc) := by
  have hb : X.env.blockKind = .function := by unfold Env.blockKind; rw [g.sc, g.kind]; rfl
  unfold swapsWith swB
  have hk : X.env.kindOf y = c.sc.names.lookup y := by unfold Env.kindOf; rw [g.sc]
  simp only [hb, hk, Expr.pos]
  have e : (c.sc.names.lookup y == some NameKind.local) = decide (c.sc.names.lookup y = some NameKind.local) := by
    by_cases q : c.sc.names.lookup y = some NameKind.local
    · rw [q]; rfl
    · rw [decide_eq_false q]; simpa using q
  rw [← e]
  rfl
theorem t_exp {e : Expr} {y : Ex} (g : GoodS G C Wx lev X c) (h : cE n c e = some y) (hc : isComp e = false) : PS X (.Expr e pos) (tS G Wx (exS C (.exp y))) := by
  rw [ex_exp]
  exact k_exp (s_all n g.toGood h).1 (sw_no hc)
theorem t_aug {y : Str} {py : Pos} {op : Operator} {e : Expr} (g : GoodS G C Wx lev X c) (h : sStep n rec c (.AugAssign (.Name y py) op e pos) = some x) : PS X (.AugAssign (.Name y py) op e pos) (tS G Wx (exS C x)) := by
  dsimp only [sStep] at h
  by_cases hl : c.loc y = true
  · rw [if_pos hl] at h
    obtain ⟨l1, l2⟩ := g.loc y hl
    have hnd : X.N.Nodup := by rw [g.hN]; exact g.nd
    split at h
    · rename_i i xe hi he
      cases h
      rw [ex_aug]
      exact (ps_aug hnd (by rw [g.hN]; exact ixOf_get hi) l1 (s_all n g.toGood he).1 ip_add l2).im fun _ _ _ q => aug_im augAdd q
    · rename_i i xe hi he
      cases h
      rw [ex_aug]
      exact (ps_aug hnd (by rw [g.hN]; exact ixOf_get hi) l1 (s_all n g.toGood he).1 ip_sub l2).im fun _ _ _ q => aug_im augSub q
    · cases h
  · rw [if_neg hl] at h; cases h

/-! ### o[i] = v -/
/-- the empty dict's keys may be tuples -/
theorem Inv.retype {pins : List (Addr × Obj)} {σ : L2.St} {H : Hp} {s : Shared} {a : Addr} (I : Inv X pins σ H s) (h : H a = some (.dK [])) : Inv X pins σ (upd H a (.dT [])) s := by
  obtain ⟨_, hd, vs, kv, o, es, ep, h1, h2, h3, h4⟩ := (show ObjOk X.prog X.w H s.heap a (.dK []) from I.hok a _ h)
  cases kv
  have he : es.toList = [] := by
    obtain ⟨_, p, _⟩ := h4
    generalize es.toList = l at p
    cases p
    rfl
  have q := I.write (x := a) (e := a) (o := .dT []) (h' := s.heap) (t' := s.toks) (by rw [h]; trivial) (.inl rfl) (fun _ _ _ e => e) ⟨o, h1⟩ ⟨Nat.zero_le _, hd, [], .nil, o, es, ep, h1, h2, h3, he, List.nodup_nil⟩
  exact q
def rIx (G : Gb) : TSet := fun o i v H Q => ∃ φ w1 w2 d S S', Rel G φ H S ∧ RpW G φ H w1 o ∧ RpW G φ H w2 i ∧ Rp G φ H d v ∧ setItem w1 w2 d S = some S' ∧ ∀ H', Ext φ H φ H' → Rel G φ H' S' → Q H'
theorem set_mi (hu : X.A.units + 64 < cLine) : PSet X (rIx G) := by
  intro pins s σ H o i v ov iv u Q I ro ri rv h
  obtain ⟨φ, w1, w2, d, S, S', R, r1, r2, rd, h, hQ⟩ := h
  have hu1 : X.A.units + 1 < cLine := by omega
  unfold Mi.setItem at h
  split at h
  · rename_i n
    unfold RpW Rp at r1
    obtain ⟨a, rfl, ha⟩ := r1
    split at h
    · rename_i ds hs
      split at h
      · rename_i k
        obtain ⟨j, hj, rfl⟩ := Option.map_eq_some_iff.mp h
        obtain ⟨vs, h1, h2⟩ := R.obj n a _ ha hs
        have e := rp_int r2
        subst e
        refine set_list pins s σ H _ _ v ov iv u Q I ro ri rv ⟨a, vs, k, j, rfl, rfl, h1, by rw [← h2.len]; exact hj, ?_⟩
        have kp := keep_write (u := .lst (vs.set j v)) R ha
        exact hQ _ (Ext.write R ha) (R.write ha ⟨_, upd_same, Rps.set (Rp.mono kp _ _ rd) j (Rps.mono kp _ _ h2)⟩)
      · cases h
    · rename_i o ho hs
      split at h
      · rename_i kd
        obtain ⟨o', ho', rfl⟩ := Option.map_eq_some_iff.mp h
        have r2 : Rp G φ H kd i := r2
        cases o with
        | lst ds => exact (ho ds rfl).elim
        | ins c fs => cases ho'
        | dk kvs =>
          obtain ⟨vs, h1, h2⟩ := R.obj n a _ ha hs
          unfold putO at ho'
          dsimp only at ho'
          cases hk : kd.key with
          | some k =>
            simp only [hk] at ho'
            by_cases hl : kvs.length < sizeLine
            · rw [if_pos hl] at ho'
              cases ho'
              have e := key_v hk r2
              subst e
              have kp := keep_write (u := .dK (putK vs k v)) R ha
              refine set_dict hu1 pins s σ H _ _ v ov iv u Q I ro ri rv ⟨a, _, rfl, DPut.k h1 (by rw [← h2.length]; exact hl), ?_⟩
              exact hQ _ (Ext.write R ha) (R.write ha ⟨_, upd_same, RpKV.mono kp _ _ (h2.put rd)⟩)
            · rw [if_neg hl] at ho'; cases ho'
          | none =>
            simp only [hk] at ho'
            cases hkt : kd.keyT with
            | none => simp only [hkt] at ho'; cases ho'
            | some k =>
              simp only [hkt] at ho'
              by_cases he : kvs.isEmpty = true
              · rw [if_pos he] at ho'
                cases ho'
                have e : kvs = [] := by simpa using he
                subst e
                have e : vs = [] := h2
                subst e
                obtain ⟨b, rfl, hb⟩ := keyT_v hkt r2
                have I2 := Inv.retype I h1
                have kp1 := keep_write (u := .dT []) R ha
                have hb2 : upd H a (.dT []) b = some (.tup (k.map kV)) := by
                  rw [upd_ne]
                  · exact hb
                  · rintro rfl; rw [h1] at hb; cases hb
                refine set_dict hu1 pins s σ _ _ _ v ov iv u Q I2 ro ri rv ⟨a, _, rfl, DPut.t (kvs := []) upd_same hb2 (by decide), ?_⟩
                have eu : upd (upd H a (.dT [])) a (.dT (putK [] k v)) = upd H a (.dT (putK [] k v)) := upd_upd
                rw [eu]
                have kp := keep_write (u := .dT (putK [] k v)) R ha
                exact hQ _ (Ext.write R ha) (R.write ha ⟨_, upd_same, v, [], rfl, Rp.mono kp _ _ rd, rfl⟩)
              · rw [if_neg he] at ho'; cases ho'
        | dt kvs =>
          obtain ⟨vs, h1, h2⟩ := R.obj n a _ ha hs
          unfold putO at ho'
          dsimp only at ho'
          cases hkt : kd.keyT with
          | none => simp only [hkt] at ho'; cases ho'
          | some k =>
            simp only [hkt] at ho'
            by_cases hl : kvs.length < sizeLine
            · rw [if_pos hl] at ho'
              cases ho'
              obtain ⟨b, rfl, hb⟩ := keyT_v hkt r2
              have kp := keep_write (u := .dT (putK vs k v)) R ha
              refine set_dict hu1 pins s σ H _ _ v ov iv u Q I ro ri rv ⟨a, _, rfl, DPut.t h1 hb (by rw [← h2.length]; exact hl), ?_⟩
              exact hQ _ (Ext.write R ha) (R.write ha ⟨_, upd_same, RpKV.mono kp _ _ (h2.put rd)⟩)
            · rw [if_neg hl] at ho'; cases ho'
      · cases h
    · cases h
  · cases h

/-! ### name = .., a, b = .., o[i] = .. -/
theorem t_ix {o i e : Expr} {tpos : Pos} {xo xi xe : Ex} (g : GoodS G C Wx lev X c) (ho : cE n c o = some xo) (hi : cE n c i = some xi) (he : cE n c e = some xe) (hs : isSlice i = false) :
    PS X (.Assign [.Subscript o i tpos] e pos) (tS G Wx (exS C (.setIx xo xi xe))) := by
  have hsw : swapsWithSole [.Subscript o i tpos] e pos.line X.env = pure false := by cases e <;> rfl
  have hw : swappedStores [.Subscript o i tpos] e X.env = pure none := by cases e <;> rfl
  have hg : PG X (.Subscript o i tpos) (gSub (tK G Wx (evK C xo)) (tK G Wx (evK C xi)) (rIx G)) := pg_sub (s_all n g.toGood ho).1 (s_all n g.toGood hi).1 (set_mi g.hu) (by intro _; cases i <;> first | rfl | cases hs)
  refine (ps_asg (k_D (s_all n g.toGood he).1) hg hsw hw).im fun D σ H q => ?_
  rw [ex_setIx] at q
  refine tS.bd (F := fun d ρ S => (evK C xo ρ S).st ρ fun x S => (evK C xi ρ S).st ρ fun y S => match Mi.setItem x y d S with
    | some S => .ok .nx ρ S
    | none => .bad) q fun φ ρ S v φ1 H1 d S1 R sl e R1 l h => ?_
  refine tS.next (L := RlW G) (F := fun x S => (evK C xi ρ S).st ρ fun y S => match Mi.setItem x y d S with
    | some S => .ok .nx ρ S
    | none => .bad) R sl e R1 h fun vo H2 φ2 xo S2 e2 R2 l2 h2 => ?_
  refine tS.next (L := RlW G) (F := fun y S => match Mi.setItem xo y d S with
    | some S => .ok .nx ρ S
    | none => .bad) R sl (e.trans e2) R2 h2 fun vi H3 φ3 xi S3 e3 R3 l3 h3 => ?_
  cases qi : Mi.setItem xo xi d S3 with
  | none => simp only [qi] at h3; exact h3.elim
  | some S4 =>
    simp only [qi] at h3
    refine ⟨φ3, xo, xi, d, S3, S4, R3, RpW.mono e3 R2 l2.1, l3.1, Rp.mono ((e2.trans e3).toKeep R1) _ _ l, qi, fun H4 e4 R4 => ?_⟩
    exact h3 σ H4 φ3 (((e.trans e2).trans e3).trans e4) R4 (sl.mono ((((e.trans e2).trans e3).trans e4).toKeep R))
theorem t_set {tg e : Expr} {t : Tg} {xe : Ex} (g : GoodS G C Wx lev X c) (ht : tgE c tg = some t) (he : cE n c e = some xe) (hh : (isTup tg && isTup e) = false) : PS X (.Assign [tg] e pos) (tS G Wx (exS C (.set t xe))) := by
  have hg := s_tg g.toGood ht
  have h3 : (assignEach [tg] X.env).map (·.2) = [assign tg X.env] := by
    unfold tgE at ht
    split at ht <;> first | rfl | cases ht
  have plain : swapsWithSole [tg] e pos.line X.env = pure false → swappedStores [tg] e X.env = pure none → PS X (.Assign [tg] e pos) (tS G Wx (exS C (.set t xe))) := by
    intro h1 h2
    rw [ex_set]
    exact (ps_asg (k_D (s_all n g.toGood he).1) hg h1 h2 (h1 := h3)).im fun _ _ _ q => set_im q
  have hw : swappedStores [tg] e X.env = pure none := by
    unfold tgE at ht
    split at ht
    · cases e <;> rfl
    · cases e <;> first | rfl | cases hh
    · cases ht
  by_cases hc : isComp e = false
  · exact plain (sw_no hc) hw
  · unfold tgE at ht
    split at ht
    · rename_i y py
      cases e <;> try exact absurd rfl hc
      · rename_i elt gs sc lpos
        have sv : swapsWithSole [.Name y py] (.ListComp elt gs sc lpos) pos.line X.env = pure (swB c y py lpos sc) := sw_val (l := pos.line) g
        cases hb : swB c y py lpos sc with
        | false => rw [hb] at sv; exact plain sv hw
        | true =>
          rw [hb] at sv
          unfold swB at hb
          simp only [Bool.and_eq_true, decide_eq_true_eq] at hb
          have hyl : X.env.scope.names.lookup y = some .local := by rw [g.sc]; exact hb.1.1
          by_cases hl : c.loc y = true
          · rw [if_pos hl] at ht
            obtain ⟨i, hi, rfl⟩ := Option.map_eq_some_iff.mp ht
            cases n with
            | zero => cases he
            | succ m =>
              have he : eStep (cE m) c (.ListComp elt gs sc lpos) = some xe := he
              dsimp only [eStep] at he
              split at he
              · obtain ⟨t2, k, is, cs, z, own, rfl, ht2, hI, B, p1, p2, p3, hF, hown⟩ := comp_parts (s_all m) g.toGood he
                refine (ps_setLc g.calm (by rw [g.hN]; exact g.nd) (by rw [g.hN]; exact ixOf_get hi) hyl sv hI B p1 p2 p3 hF).im fun D σ H q => ?_
                rw [ex_set] at q
                refine comp_im hown ?_
                rw [← ev_comp]
                exact set_imK q
              · cases he
          · rw [if_neg hl] at ht; cases ht
      · cases n with
        | zero => cases he
        | succ n => cases he
      · cases n with
        | zero => cases he
        | succ n => cases he
    · refine plain ?_ hw
      cases e <;> rfl
    · cases ht

theorem ts_step {m : Nat} {st : Stmt} (ih : SS G C lev rec) (g : GoodS G C Wx lev X c) (h : sStep n rec c st = some x) : PS X st (tS G Wx (exS C x)) := by
  cases st with
  | Assign tgs e pos =>
    cases tgs with
    | nil => cases h
    | cons tg r =>
      cases r with
      | cons _ _ => cases h
      | nil =>
        have plain : ((if (isTup tg && isTup e) = true then none else match tgE c tg, cE n c e with
          | some t, some e => some (.set t e)
          | _, _ => none) = some x) → PS X (.Assign [tg] e pos) (tS G Wx (exS C x)) := by
          intro h
          by_cases hh : (isTup tg && isTup e) = true
          · rw [if_pos hh] at h; cases h
          · rw [if_neg hh] at h
            split at h
            · rename_i t xe ht he
              cases h
              exact t_set g ht he (by simpa using hh)
            · cases h
        cases tg with
        | Subscript o i tpos =>
          have h : (if isSlice i = true then none else match cE n c o, cE n c i, cE n c e with
            | some o, some i, some e => some (Stm.setIx o i e)
            | _, _, _ => none) = some x := h
          by_cases hs : isSlice i = true
          · rw [if_pos hs] at h; cases h
          · rw [if_neg hs] at h
            split at h
            · rename_i xo xi xe ho hi he
              cases h
              exact t_ix g ho hi he (by simpa using hs)
            · cases h
        | _ => exact plain h
  | AugAssign tg op e pos =>
    cases tg with
    | Name y py => exact t_aug (rec := rec) g h
    | _ => cases h
  | Expr e pos =>
    have go : ((if isComp e = true then none else (cE n c e).map Stm.exp) = some x) → PS X (.Expr e pos) (tS G Wx (exS C x)) := by
      intro h
      by_cases hc : isComp e = true
      · rw [if_pos hc] at h; cases h
      · rw [if_neg hc] at h
        obtain ⟨y, hy, rfl⟩ := Option.map_eq_some_iff.mp h
        exact t_exp g hy (by simpa using hc)
    cases e with
    | Constant k kd cpos =>
      cases k with
      | str z =>
        cases h
        rw [ex_pass]
        exact k_doc
      | _ => exact go h
    | _ => exact go h
  | Return o pos =>
    cases o with
    | none =>
      cases h
      refine (ps_retN (pos := pos)).im fun D σ H q => ?_
      rw [ex_ret] at q
      obtain ⟨φ, ρ, S, R, sl, q⟩ := q
      have q : PostS G Wx φ H (((evK C (.c .non) ρ S).bd toD).st ρ fun d S => .ok (.rt d) ρ S) D := q
      rw [ev_c] at q
      exact q .non H φ (Ext.refl _ _) R (by unfold Rp; rfl)
    | some e =>
      obtain ⟨y, hy, rfl⟩ := Option.map_eq_some_iff.mp (show (cE n c e).map Stm.ret = some x from h)
      rw [ex_ret]
      exact k_ret (k_D (s_all n g.toGood hy).1)
  | If t a b pos =>
    have h : (match cE n c t, rec c a, rec c b with
      | some t, some a, some b => some (Stm.iff t a b)
      | _, _, _ => none) = some x := h
    split at h
    · rename_i xt xa xb ht ha hb
      cases h
      rw [ex_iff]
      exact k_if (s_all n g.toGood ht).2 (ih g ha) (ih g hb)
    · cases h
  | For tg iter body els pos =>
    cases els with
    | cons _ _ => cases h
    | nil =>
      have h : (if isSet iter = true then none else match tgE c tg, cI n c iter, rec c body with
        | some t, some (k, is), some b => if tupT k tg = true then some (Stm.for_ t k is b) else none
        | _, _, _ => none) = some x := h
      by_cases hs : isSet iter = true
      · rw [if_pos hs] at h; cases h
      · rw [if_neg hs] at h
        split at h
        · rename_i t k is b ht hi hb
          by_cases hk : tupT k tg = true
          · rw [if_pos hk] at h
            cases h
            rw [ex_for]
            exact k_for g.own g.calm (s_it (s_all n) g.toGood hi hk) (s_tg g.toGood ht) (ih g hb) (fold_ok (by simpa using hs))
          · rw [if_neg hk] at h; cases h
        · cases h
  | While t body els pos =>
    cases els with
    | cons _ _ => cases h
    | nil =>
      have h : (match cE n c t, rec c body with
        | some t, some b => some (Stm.whl t b)
        | _, _ => none) = some x := h
      split at h
      · rename_i xt xb ht hb
        cases h
        rw [ex_whl]
        exact k_whl g.own (s_all n g.toGood ht).2 (ih g hb)
      · cases h
  | Pass pos => cases h; rw [ex_pass]; exact k_pass
  | Break pos => cases h; rw [ex_brk]; exact k_brk
  | Continue pos => cases h; rw [ex_cnt]; exact k_cnt
  | _ => cases h
theorem ss_step {l : List Stmt} {xs : List Stm} (ih : SS G C lev rec) (g : GoodS G C Wx lev X c) (h : mapO (sStep n rec c) l = some xs) : PSs X l (tS G Wx (exSs C xs)) := by
  induction l generalizing xs with
  | nil => rw [mapO_nil h, ex_ss0]; exact k_nil
  | cons st l ihl =>
    obtain ⟨y, ys, h1, h2, rfl⟩ := mapO_cons h
    rw [ex_ss]
    exact k_cons (ts_step (m := 0) ih g h1) (ihl h2)
theorem ss_all : ∀ m : Nat, SS G C lev (cSs n m)
  | 0 => fun _ h => by cases h
  | m + 1 => fun g h => ss_step (ss_all m) g h
end
end Mi

/-! Mi, part K: a call's end; the defs. -/
namespace Mi
open PySem L2 PyProof.Rows RT RZ

section
variable {G : Gb} {φ φ' : List Addr} {H : Hp}
theorem get_back (p : φ <+: φ') {n : Nat} {a : Addr} (hn : n < φ.length) (h : φ'[n]? = some a) : φ[n]? = some a := by
  obtain ⟨t, rfl⟩ := p
  rw [List.getElem?_append_left hn] at h
  exact h
mutual
theorem Rp.back (p : φ <+: φ') : ∀ (d : Mi.D) (v : V), d.und φ.length = true → Rp G φ' H d v → Rp G φ H d v
  | .non, _, _, h => by unfold Rp at h ⊢; exact h
  | .bl _, _, _, h => by unfold Rp at h ⊢; exact h
  | .int _, _, _, h => by unfold Rp at h ⊢; exact h
  | .str _, _, _, h => by unfold Rp at h ⊢; exact h
  | .tup ds, _, u, h => by
    unfold Rp at h ⊢
    unfold D.und at u
    obtain ⟨a, vs, e, ha, hr⟩ := h
    exact ⟨a, vs, e, ha, Rps.back p ds vs u hr⟩
  | .ls ds, _, u, h => by
    unfold Rp at h ⊢
    unfold D.und at u
    obtain ⟨a, vs, e, ha, hr⟩ := h
    exact ⟨a, vs, e, ha, Rps.back p ds vs u hr⟩
  | .kt ds, _, u, h => by
    unfold Rp at h ⊢
    unfold D.und at u
    obtain ⟨a, vs, e, ha, hr⟩ := h
    exact ⟨a, vs, e, ha, Rps.back p ds vs u hr⟩
  | .ref n, _, u, h => by
    unfold Rp at h ⊢
    unfold D.und at u
    obtain ⟨a, e, ha⟩ := h
    exact ⟨a, e, get_back p (of_decide_eq_true u) ha⟩
theorem Rps.back (p : φ <+: φ') : ∀ (ds : List Mi.D) (vs : List V), D.unds φ.length ds = true → Rps G φ' H ds vs → Rps G φ H ds vs
  | [], _, _, h => by unfold Rps at h ⊢; exact h
  | d :: ds, _, u, h => by
    unfold Rps at h ⊢
    unfold D.unds at u
    rw [Bool.and_eq_true] at u
    obtain ⟨v, r, e, h1, h2⟩ := h
    exact ⟨v, r, e, Rp.back p d v u.1 h1, Rps.back p ds r u.2 h2⟩
end
theorem RpKV.back {κ : Type} (p : φ <+: φ') : ∀ {kvs : List (κ × Mi.D)} {vs : List (κ × V)}, D.unds φ.length (kvs.map (·.2)) = true → RpKV G φ' H kvs vs → RpKV G φ H kvs vs
  | [], _, _, h => h
  | q :: r, _, u, h => by
    rw [List.map_cons] at u
    unfold D.unds at u
    rw [Bool.and_eq_true] at u
    obtain ⟨v, t, e, h1, h2⟩ := h
    exact ⟨v, t, e, Rp.back p _ v u.1 h1, RpKV.back p u.2 h2⟩
theorem RpO.back (p : φ <+: φ') {o : O} {a : Addr} (u : o.und φ.length = true) (h : RpO G φ' H o a) : RpO G φ H o a := by
  cases o with
  | lst ds => obtain ⟨vs, h1, h2⟩ := h; exact ⟨vs, h1, Rps.back p _ _ u h2⟩
  | dk ds => obtain ⟨vs, h1, h2⟩ := h; exact ⟨vs, h1, RpKV.back p u h2⟩
  | dt ds => obtain ⟨vs, h1, h2⟩ := h; exact ⟨vs, h1, RpKV.back p u h2⟩
  | ins c ds => obtain ⟨C, dx, vs, h0, h1, h2⟩ := h; exact ⟨C, dx, vs, h0, h1, RpKV.back p u h2⟩
mutual
theorem Rp.und : ∀ (d : Mi.D) (v : V), Rp G φ H d v → d.und φ.length = true
  | .non, _, _ => by unfold D.und; rfl
  | .bl _, _, _ => by unfold D.und; rfl
  | .int _, _, _ => by unfold D.und; rfl
  | .str _, _, _ => by unfold D.und; rfl
  | .tup ds, _, h => by
    unfold Rp at h
    unfold D.und
    obtain ⟨a, vs, e, ha, hr⟩ := h
    exact Rps.und ds vs hr
  | .ls ds, _, h => by
    unfold Rp at h
    unfold D.und
    obtain ⟨a, vs, e, ha, hr⟩ := h
    exact Rps.und ds vs hr
  | .kt ds, _, h => by
    unfold Rp at h
    unfold D.und
    obtain ⟨a, vs, e, ha, hr⟩ := h
    exact Rps.und ds vs hr
  | .ref n, _, h => by
    unfold Rp at h
    unfold D.und
    obtain ⟨a, e, ha⟩ := h
    exact decide_eq_true (List.getElem?_eq_some_iff.mp ha).1
theorem Rps.und : ∀ (ds : List Mi.D) (vs : List V), Rps G φ H ds vs → D.unds φ.length ds = true
  | [], _, _ => by unfold D.unds; rfl
  | d :: ds, _, h => by
    unfold Rps at h
    unfold D.unds
    obtain ⟨v, r, e, h1, h2⟩ := h
    rw [Rp.und d v h1, Rps.und ds r h2]
    rfl
end
theorem RpKV.und {κ : Type} : ∀ {kvs : List (κ × Mi.D)} {vs : List (κ × V)}, RpKV G φ H kvs vs → D.unds φ.length (kvs.map (·.2)) = true
  | [], _, _ => by unfold D.unds; rfl
  | q :: r, _, h => by
    obtain ⟨v, t, e, h1, h2⟩ := h
    rw [List.map_cons]
    unfold D.unds
    rw [Rp.und _ v h1, RpKV.und h2]
    rfl
theorem RpO.und {o : O} {a : Addr} (h : RpO G φ H o a) : o.und φ.length = true := by
  cases o with
  | lst ds => obtain ⟨vs, h1, h2⟩ := h; exact Rps.und _ _ h2
  | dk ds => obtain ⟨vs, h1, h2⟩ := h; exact RpKV.und h2
  | dt ds => obtain ⟨vs, h1, h2⟩ := h; exact RpKV.und h2
  | ins c ds => obtain ⟨C, dx, vs, h0, h1, h2⟩ := h; exact RpKV.und h2
theorem Rel.back {H' : Hp} {S S' : Store} (R : Rel G φ H S) (e : Ext φ H φ' H') (R' : Rel G φ' H' S') (k : keeps S S') : Rel G φ H' (S'.take S.length) := by
  have hl : S.length ≤ S'.length := by
    rw [← R.len, ← R'.len]
    obtain ⟨t, ht⟩ := e.pre
    rw [← ht, List.length_append]
    omega
  refine ⟨by rw [List.length_take, R.len]; omega, R.nd, fun n a o h1 h2 => ?_⟩
  have hn : n < S.length := by rw [← R.len]; exact (List.getElem?_eq_some_iff.mp h1).1
  rw [List.getElem?_take_of_lt hn] at h2
  have q := R'.obj n a o (e.get h1) h2
  refine RpO.back e.pre ?_ q
  rcases k n o hn h2 with z | z
  · exact RpO.und (R.obj n a o h1 z)
  · rw [R.len]; exact z
theorem Ext.back {H' : Hp} (e : Ext φ H φ' H') : Ext φ H φ H' := ⟨List.prefix_refl _, e.keep, fun _ h => .inl h⟩
theorem pack_post {S S' : Store} {d : Mi.D} {xk : XK} {Q : VK} (R : Rel G φ H S) (h : Post G (RlD G) φ H (pack S d S') xk Q) {v : V} {H' : Hp} (e : Ext φ H φ' H') (R' : Rel G φ' H' S') (r : Rp G φ' H' d v) : Q v H' := by
  unfold pack at h
  by_cases k : keeps S S'
  · rw [if_pos k] at h
    by_cases u : d.und S.length = true
    · rw [if_pos u] at h
      exact h v H' φ e.back (R.back e R' k) (Rp.back e.pre d v (by rw [R.len]; exact u) r)
    · rw [if_neg u] at h
      have keep : Post G (RlD G) φ H (.ok d S') xk Q → Q v H' := fun h => h v H' φ' e R' r
      cases d with
      | ref m =>
        dsimp only at h
        cases hm : S'[m]? with
        | none => rw [hm] at h; exact keep h
        | some o =>
          rw [hm] at h
          dsimp only at h
          by_cases uo : o.und S.length = true
          · rw [if_pos uo] at h
            unfold Rp at r
            obtain ⟨a, rfl, ha⟩ := r
            have hge : S.length ≤ m := by
              by_cases q : m < S.length
              · exact absurd (by unfold D.und; exact decide_eq_true q) u
              · omega
            have na : a ∉ φ := fun hmem => by
              obtain ⟨i, hi, ei⟩ := List.getElem_of_mem hmem
              have e1 : φ'[i]? = some a := e.get (by rw [List.getElem?_eq_getElem hi, ei])
              obtain ⟨hi', ei'⟩ := List.getElem?_eq_some_iff.mp e1
              obtain ⟨hm', em'⟩ := List.getElem?_eq_some_iff.mp ha
              have z : i = m := (List.getElem?_inj hi' R'.nd).mp (e1.trans ha.symm)
              rw [R.len] at hi
              omega
            have q := R'.obj m a o ha hm
            have q := RpO.back e.pre (by rw [R.len]; exact uo) q
            refine h _ H' (φ ++ [a]) ⟨List.prefix_append _ _, e.keep, fun x hx => ?_⟩ ((R.back e R' k).more na q) ?_
            · rcases List.mem_append.mp hx with z | z
              · exact .inl z
              · simp at z; subst z
                exact e.new x (List.mem_of_getElem? ha)
            · show Rp G _ _ (.ref S.length) _
              unfold Rp
              exact ⟨a, rfl, by rw [← R.len]; simp⟩
          · rw [if_neg uo] at h; exact keep h
      | _ => exact keep h
  · rw [if_neg k] at h
    exact h v H' φ' e R' r
end

/-! ### the defs -/
/-- a look at the names of a def's scope -/
def scC (N P : List Str) (sc : Scope) : Bool :=
  decide (sc.kind = .function) && !sc.isCoroutine && !sc.isGenerator && decide N.Nodup && decide (N.take P.length = P) && P.all (fun x => decide (sc.names.lookup x = some .local) || decide (sc.names.lookup x = some .cell)) && sc.names.all (fun y => !decide (y.2 = .free))
theorem fnScope_by {N P : List Str} {sc : Scope} (h : scC N P sc = true) : FnScope N P sc := by
  unfold scC at h
  simp only [Bool.and_eq_true, Bool.not_eq_true', decide_eq_true_eq, List.all_eq_true, Bool.or_eq_true, decide_eq_false_iff_not] at h
  obtain ⟨⟨⟨⟨⟨⟨h1, h2⟩, h3⟩, h4⟩, h5⟩, h6⟩, h7⟩ := h
  exact ⟨h1, h2, h3, h4, h5, h6, h7⟩
/-- what is known of a def of the table -/
structure DefOk (G : Gb) (tab : Nat → Option Fn) (gl : List (Str × Gl)) (x : Str) (i : Nat) (f : Addr) (fd : FuncData) (ps : List Str) : Prop where
  ex : ∃ (st : Stmt) (N : List Str) (F : Fn), L2.Fun G.K x x st f fd ∧ scC N ps (defScope st) = true ∧ cSs 100 100 ⟨N, gl, defScope st⟩ (defBody st) = some F.body ∧ tab i = some F ∧ F.np = ps.length ∧ F.nl = N.length
/-- what is known of the text's top -/
structure TopOk (G : Gb) (tab : Nat → Option Fn) (gl : List (Str × Gl)) (mg : Str → Option Value) : Prop where
  fns : ∀ x i, gl.lookup x = some (.fn i) → ∃ f fd ps, mg x = some (.ref f) ∧ PySem.W.keepIn G.K (.ref f) = true ∧ Binds G.K fd ps [] ∧ DefOk G tab gl x i f fd ps
  cst : ∀ x d, gl.lookup x = some (.cst d) → ∃ v u, mg x = some u ∧ L2.RelV v u ∧ ∀ φ H, Rp G φ H d v
  blt : ∀ x ∈ bltNames, gl.lookup x = none → mg x = none
section
variable {G : Gb} {tab : Nat → Option Fn} {gl : List (Str × Gl)} {mg : Str → Option Value} {P : Program} {w : World} {base : Heap}
theorem sl_start {φ : List Addr} {H : Hp} {ds : List Mi.D} {vs : List V} {N : List Str} (r : Rps G φ H ds vs) : Sl G φ H (ds.map some ++ List.replicate (N.length - ds.length) none) (L2.start N vs) := by
  unfold L2.start
  rw [r.len]
  refine ⟨by simp [r.len], fun i d h => ?_⟩
  by_cases hi : i < ds.length
  · rw [List.getElem?_append_left (by simpa using hi), List.getElem?_map] at h
    obtain ⟨d', h1, h2⟩ := Option.map_eq_some_iff.mp h
    cases h2
    obtain ⟨v, h3, h4⟩ := r.get h1
    refine ⟨v, ?_, h4⟩
    rw [List.getElem?_append_left (by rw [List.length_map, ← r.len]; exact hi), List.getElem?_map, h3]
    rfl
  · rw [List.getElem?_append_right (by simpa using hi), List.getElem?_replicate] at h
    split at h <;> cases h
theorem def_ok (T : TopOk G tab gl mg) : ∀ (n : Nat) (x : Str) (i : Nat) (f : Addr) (fd : FuncData) (ps : List Str), DefOk G tab gl x i f fd ps → FnOk P w G.K mg base (L2.CX P w) (3 * n) f fd ps (spI G (run tab n) i)
  | 0, x, i, f, fd, ps, _ => ⟨fun vs H Q E ⟨φ, S, ds, _, _, h⟩ => by unfold run at h; exact h.elim, fun A outer s H args us vs Q E _ _ _ _ ⟨φ, S, ds, _, _, h⟩ => by unfold run at h; exact h.elim⟩
  | n + 1, x, i, f, fd, ps, D => by
    obtain ⟨st, N, F, hF, hsc, htr, htab, hnp, hnl⟩ := D.ex
    obtain ⟨oc, od, kV, doc, pm, an, cdv, ct, osl, rfl, lk, hcd⟩ := hF.ex
    have Sc := fnScope_by hsc
    -- what a run of it is
    have key : ∀ vs H Q E, spI G (run tab (n + 1)) i vs H Q E → vs.length = ps.length ∧ ∃ φ S ds, Rel G φ H S ∧ Rps G φ H ds vs ∧ ds.length = F.np ∧ Post G (RlD G) φ H (match exSs (run tab n) F.body (ds.map some ++ List.replicate (F.nl - F.np) none) S with
        | .ok (.rt d) _ S' => pack S d S'
        | .ok .nx _ S' => pack S .non S'
        | .ok _ _ _ => .bad
        | .ex c fs _ S' => .ex c fs S'
        | .bad => .bad) E Q := by
      intro vs H Q E h
      obtain ⟨φ, S, ds, R, r, h⟩ := h
      unfold run at h
      rw [htab] at h
      dsimp only at h
      by_cases hl : ds.length = F.np
      · rw [if_pos hl] at h
        exact ⟨by rw [← r.len, hl, hnp], φ, S, ds, R, r, hl, h⟩
      · rw [if_neg hl] at h; exact h.elim
    refine fn_of lk hcd Sc (fun vs H Q E h => (key vs H Q E h).1) fun A outer s H vs Q E hr h => ?_
    obtain ⟨_, φ, S, ds, R, r, hl, h⟩ := key vs H Q E h
    have tk : Takes (cxOf (L2.CX P w) P w G.K mg base N x (defScope st) f cdv A outer s H E) (fun cls d _ H => E cls d H) := takes_of rfl rfl rfl rfl
    have g : GoodS G (run tab n) (fun cls d _ H => E cls d H) (3 * n) (cxOf (L2.CX P w) P w G.K mg base N x (defScope st) f cdv A outer s H E) ⟨N, gl, defScope st⟩ :=
      { hK := rfl
        hN := rfl
        nd := Sc.nd
        vis := fun y hy => by
          unfold Ct.vis at hy
          have hy : (match (defScope st).names.lookup y with | some .local => true | some .cell => true | some .free => true | _ => false) = true := hy
          show (defScope st).names.lookup y = _ ∨ (defScope st).names.lookup y = _ ∨ (defScope st).names.lookup y = _
          split at hy
          · exact .inl (by assumption)
          · exact .inr (.inl (by assumption))
          · exact .inr (.inr (by assumption))
          · cases hy
        glb := fun y hy => show (defScope st).names.lookup y = some .globalImplicit from of_decide_eq_true hy
        loc := fun y hy => by
          unfold Ct.loc at hy
          have hy : (match (defScope st).names.lookup y with | some .local => true | some .cell => true | _ => false) = true := hy
          refine ⟨?_, .inl rfl⟩
          show (defScope st).names.lookup y = _ ∨ (defScope st).names.lookup y = _
          split at hy
          · exact .inl (by assumption)
          · exact .inr (by assumption)
          · cases hy
        cf := fun y h => h
        calm := rfl
        hu := by
          have := hr.un
          show (A.deeper (envOfC x (defScope st) s.heap.objs.size f cdv)).units + 64 < cLine
          omega
        room := hr
        fns := fun y j hj => by
          obtain ⟨f2, fd2, ps2, h1, h2, h3, h4⟩ := T.fns y j hj
          exact ⟨f2, fd2, ps2, h1, h2, h3, def_ok T n y j f2 fd2 ps2 h4⟩
        cst := T.cst
        blt := T.blt
        pas := fun σ pins H s e s' I cx => passes_call (W := fun cls d _ H => E cls d H) (E := E) tk (fun cls d σ H h => h) pins σ H s e s' I cx
        sc := rfl
        kind := Sc.kind
        own := passes_of rfl }
    refine ⟨_, ss_all 100 g htr, φ, _, S, R, sl_start r, ?_⟩
    rw [← hnl, hl]
    cases q : exSs (run tab n) F.body (ds.map some ++ List.replicate (F.nl - F.np) none) S with
    | bad => rw [q] at h; exact h.elim
    | ex c fs ρ' S' =>
      rw [q] at h
      exact fun cls dx σ' H' φ' e R' sl x => h cls dx H' φ' e R' x
    | ok fl ρ' S' =>
      rw [q] at h
      cases fl with
      | nx => exact fun σ' H' φ' e R' sl => pack_post R h e R' (by unfold Rp; rfl)
      | rt d => exact fun v H' φ' e R' r' => pack_post R h e R' r'
      | brk => exact h.elim
      | cnt => exact h.elim
end
end Mi

/-! Mi, part P: the law's end. -/
namespace Mi
open PySem L2 PyProof.Rows RT RZ
/-- no class of the text's own -/
def gb0 (K : PySem.W.Frag) : Gb := ⟨K, fun _ => none, fun _ => none⟩
theorem ints_rps {G : Gb} {φ : List Addr} {H : Hp} : ∀ ns : List Int, Rps G φ H (ns.map Mi.D.int) (ns.map V.int)
  | [] => by show Rps G φ H [] []; unfold Rps; rfl
  | n :: ns => by
    rw [List.map_cons, List.map_cons]
    unfold Rps
    exact ⟨.int n, _, rfl, by unfold Rp; rfl, ints_rps ns⟩
theorem rel0 {G : Gb} {H : Hp} : Rel G [] H [] := ⟨rfl, List.nodup_nil, fun n a o h _ => by simp at h⟩
theorem lis_of {K : PySem.W.Frag} {H : Hp} {a : Addr} {xs : List V} (hO : Only H) (h : SqL K H a xs) : LisA K H a xs := by
  rcases h with (h | ⟨o, h⟩) | h
  · rcases hO a with z | ⟨o, ys, z⟩
    · rw [z] at h; cases h
    · rw [z] at h; cases h
  · exact .inl ⟨o, h⟩
  · exact .inr h
/-- what is known of a row of the table of globals -/
def TopQ (G : Gb) (tab : Nat → Option Fn) (gl : List (Str × Gl)) (mg : Str → Option Value) (p : Str × Gl) : Prop := match p.2 with
  | .fn i => ∃ f fd ps, mg p.1 = some (.ref f) ∧ PySem.W.keepIn G.K (.ref f) = true ∧ Binds G.K fd ps [] ∧ DefOk G tab gl p.1 i f fd ps
  | .cst d => ∃ v u, mg p.1 = some u ∧ L2.RelV v u ∧ ∀ φ H, Rp G φ H d v
theorem lookup_mem {α : Type} {x : Str} {v : α} : ∀ {l : List (Str × α)}, l.lookup x = some v → (x, v) ∈ l
  | [], h => by cases h
  | (y, w) :: r, h => by
    rw [List.lookup_cons] at h
    cases e : x == y with
    | true =>
      rw [e] at h
      cases h
      have q : x = y := by simpa using e
      subst q
      exact List.mem_cons_self
    | false =>
      rw [e] at h
      exact List.mem_cons_of_mem _ (lookup_mem h)
theorem topOk_of {G : Gb} {tab : Nat → Option Fn} {gl : List (Str × Gl)} {mg : Str → Option Value} (h : ∀ p ∈ gl, TopQ G tab gl mg p) (hb : ∀ x ∈ bltNames, mg x = none) : TopOk G tab gl mg :=
  ⟨fun x i hi => h _ (lookup_mem hi), fun x d hd => h _ (lookup_mem hd), fun x hx _ => hb x hx⟩
/-- a law of the given script, from what run tells -/
theorem walk_mi {l : PySem.W.OpenLaw} {n k i : Nat} {q : Program} {loose : List Str} {XP : (Str → Option Value) → Heap → Prop} {YP : World → Heap → Prop} {d : DefRec} {K : Params → PySem.W.Frag} {tab : Nat → Option Fn} {gl : List (Str × Gl)} {x y : Str}
    (hn : l.most = some n) (hn2 : n ≤ sizeLine) (hdf : d.params.defaults = []) (hr : Room (3 * k) callerA)
    (hY : ∀ (w : World) (h : Heap), YP w h → (K w.params).In h)
    (F : ∀ (w : World) (mg : Str → Option Value) (fa : Addr) (h : Heap), (K w.params).In h → h.Ns mainGlobals mg → mg d.name = some (.ref fa) →
      ∃ fd : FuncData, (∀ (s : Shared) (u : Value), BindsTo s fd ⟨[u], []⟩ [(x, u)]) ∧ TopOk (gb0 (K w.params)) tab gl mg ∧ DefOk (gb0 (K w.params)) tab gl y i fa fd [x])
    (hlaw : ∀ ns : List Int, ns.length ≤ n → ∃ S, run tab k i [.ls (ns.map Mi.D.int)] [] = .ok (.bl true) S) :
    PySem.W.WalkO q loose XP YP l.row.toRowW d [] (fun f vs => PySem.call f vs) := by
  refine L2.walk_of (n := n) (k := 3 * k) (x := x) (K := K) (CX := fun w => L2.CX l.prog w) (sp := fun w => spI (gb0 (K w.params)) (run tab k) i) hn hn2 hdf hr hY (fun w mg fa h KX G hmg => ?_) (fun w H a ns hl hO hS => ?_) fun w H s e s' h => ?_
  · obtain ⟨fd, hb, T, D⟩ := F w mg fa h KX G hmg
    exact ⟨fd, hb, fun base _ _ => def_ok T k y i fa fd [x] D⟩
  · obtain ⟨S, hrun⟩ := hlaw ns hl
    refine ⟨[], [], [.ls (ns.map Mi.D.int)], rel0, ?_, ?_⟩
    · unfold Rps
      refine ⟨.ref a, [], rfl, ?_, ?_⟩
      · unfold Rp
        exact ⟨a, ns.map V.int, rfl, lis_of hO hS, ints_rps ns⟩
      · unfold Rps; rfl
    · rw [hrun]
      intro v H' φ' _ _ r
      have r : Rp (gb0 (K w.params)) φ' H' (.bl true) v := r
      unfold Rp at r
      exact r
  · obtain ⟨_, _, _, _, _, _, _, _, _, _, _, _, hF⟩ := h
    exact hF.elim
end Mi

/-! Mi, part Q: reckoning with run. -/
namespace Mi
open PySem
abbrev CF := Nat → List D → Store → R D
/-- a call's end -/
noncomputable def fin (S : Store) (r : RS) : R D := match r with
  | .ok (.rt d) _ S' => pack S d S'
  | .ok .nx _ S' => pack S .non S'
  | .ok _ _ _ => .bad
  | .ex c fs _ S' => .ex c fs S'
  | .bad => .bad
theorem run_fin {tab : Nat → Option Fn} {n i : Nat} {F : Fn} {ds : List D} {S : Store} (h : tab i = some F) (hl : ds.length = F.np) : run tab (n + 1) i ds S = fin S (exSs (run tab n) F.body (ds.map some ++ List.replicate (F.nl - F.np) none) S) := by
  unfold run
  rw [h]
  dsimp only
  rw [if_pos hl]
  rfl
theorem keeps_refl (S : Store) : keeps S S := fun i o _ h => .inl h
theorem keeps_app (S T : Store) : keeps S (S ++ T) := fun i o h e => .inl (by rw [List.getElem?_append_left h] at e; exact e)
theorem pack_app {S T : Store} {d : D} (h : d.und S.length = true) : pack S d (S ++ T) = .ok d S := by
  unfold pack
  rw [if_pos (keeps_app S T), if_pos h, List.take_left]
theorem pack_same {S : Store} {d : D} (h : d.und S.length = true) : pack S d S = .ok d S := by
  have := pack_app (T := []) h
  rwa [List.append_nil] at this
/-- one place that stood is written, with what knows nothing new -/
theorem pack_set {S T : Store} {d : D} {k : Nat} {o : O} (hk : k < S.length) (ho : o.und S.length = true) (h : d.und S.length = true) : pack S d ((S.set k o) ++ T) = .ok d (S.set k o) := by
  unfold pack
  have hkp : keeps S (S.set k o ++ T) := fun i u hi e => by
    rw [List.getElem?_append_left (by rw [List.length_set]; exact hi)] at e
    by_cases z : k = i
    · subst z
      rw [List.getElem?_set_self hk] at e
      cases e
      exact .inr ho
    · rw [List.getElem?_set_ne z] at e
      exact .inl e
  have ht : (S.set k o ++ T).take S.length = S.set k o := by
    rw [List.take_append_of_le_length (by rw [List.length_set]; exact Nat.le_refl _), List.take_of_length_le (by rw [List.length_set]; exact Nat.le_refl _)]
  rw [if_pos hkp, if_pos h, ht]
/-- a new object that knows nothing new is handed out -/
theorem pack_new {S : Store} {o : O} (ho : o.und S.length = true) : pack S (.ref S.length) (S ++ [o]) = .ok (.ref S.length) (S ++ [o]) := by
  unfold pack
  rw [if_pos (keeps_app S [o]), if_neg (by unfold D.und; simp)]
  dsimp only
  rw [List.getElem?_append_right (Nat.le_refl _), Nat.sub_self]
  show (if o.und S.length = true then _ else _) = _
  rw [if_pos ho, List.take_left]

@[simp] theorem und_int {k : Nat} {i : Int} : D.und k (.int i) = true := by unfold D.und; rfl
@[simp] theorem und_str {k : Nat} {i : Str} : D.und k (.str i) = true := by unfold D.und; rfl
@[simp] theorem und_bl {k : Nat} {i : Bool} : D.und k (.bl i) = true := by unfold D.und; rfl
@[simp] theorem und_non {k : Nat} : D.und k .non = true := by unfold D.und; rfl
@[simp] theorem und_tup {k : Nat} {ds : List D} : D.und k (.tup ds) = D.unds k ds := by rw [D.und]
@[simp] theorem unds_nil {k : Nat} : D.unds k [] = true := by unfold D.unds; rfl
@[simp] theorem unds_cons {k : Nat} {d : D} {r : List D} : D.unds k (d :: r) = (D.und k d && D.unds k r) := by rw [D.unds]
@[simp] theorem und_ref {k n : Nat} : D.und k (.ref n) = decide (n < k) := by rw [D.und]

/-! ### operations -/
section
variable {S : Store}
@[simp] theorem py_int {i : Int} : W.py S (.val (.int i)) = some (.int i) := rfl
@[simp] theorem py_str {x : Str} : W.py S (.val (.str x)) = some (.str x) := rfl
@[simp] theorem py_bl {b : Bool} : W.py S (.val (.bl b)) = some (.bool b) := rfl
@[simp] theorem py_non : W.py S (.val .non) = some .none := rfl
theorem eq_ii {i j : Int} : p2 .eq (.val (.int i)) (.val (.int j)) S = .ok (.val (.bl (decide (i = j)))) S := by
  show vv (.bl (i == j)) S = _
  by_cases h : i = j
  · subst h; simp [vv]
  · rw [decide_eq_false h]; have : (i == j) = false := by simpa using h
    rw [this]; rfl
theorem ne_ii {i j : Int} : p2 .ne (.val (.int i)) (.val (.int j)) S = .ok (.val (.bl (!decide (i = j)))) S := by
  show vv (.bl (!(i == j))) S = _
  by_cases h : i = j
  · subst h; simp [vv]
  · rw [decide_eq_false h]; have : (i == j) = false := by simpa using h
    rw [this]; rfl
theorem eq_ss {i j : Str} : p2 .eq (.val (.str i)) (.val (.str j)) S = .ok (.val (.bl (decide (i = j)))) S := by
  show vv (.bl (i == j)) S = _
  by_cases h : i = j
  · subst h; simp [vv]
  · rw [decide_eq_false h]; have : (i == j) = false := by simpa using h
    rw [this]; rfl
theorem ne_ss {i j : Str} : p2 .ne (.val (.str i)) (.val (.str j)) S = .ok (.val (.bl (!decide (i = j)))) S := by
  show vv (.bl (!(i == j))) S = _
  by_cases h : i = j
  · subst h; simp [vv]
  · rw [decide_eq_false h]; have : (i == j) = false := by simpa using h
    rw [this]; rfl
theorem lt_ii {i j : Int} : p2 .lt (.val (.int i)) (.val (.int j)) S = .ok (.val (.bl (decide (i < j)))) S := by
  have e : W.dataLt (.int i) (.int j) = decide (i < j) := by simp [W.dataLt, W.keyToks, PyProof.Rows.lex_cons, PyProof.Rows.itemLt, PyProof.Rows.lexLt]
  show ob (some (W.dataLt (.int i) (.int j))) S = _
  rw [e]; rfl
theorem lt_ss {i j : Str} : p2 .lt (.val (.str i)) (.val (.str j)) S = .ok (.val (.bl (decide (i.cps.toList < j.cps.toList)))) S := by
  have e : W.dataLt (.str i) (.str j) = decide (i.cps.toList < j.cps.toList) := by simp [W.dataLt, W.keyToks, PyProof.Rows.lex_cons, PyProof.Rows.itemLt, PyProof.Rows.lexLt]
  show ob (some (W.dataLt (.str i) (.str j))) S = _
  rw [e]; rfl
end
end Mi

/-! the defs of the law in the small language -/
namespace Mi.L
open PySem L2 Mi
def top (i : Nat) : Stmt := PySem.Challenge.pw_papervault_k91_records_read.main.body.getD i (.Pass ⟨0, 0, 0, 0⟩)
def glT : List (Str × Mi.Gl) := [("text_codes", .fn 0), ("codes_of", .fn 1), ("seal", .fn 2), ("check_of", .fn 3), ("record", .fn 4), ("number_at", .fn 5), ("is_payload", .fn 6), ("record_at", .fn 7), ("records", .fn 8), ("_law_cell_at", .fn 9), ("_law_mixed", .fn 10), ("_law_sign", .fn 11), ("_law_lists", .fn 12), ("_law_sealed", .fn 13), ("_law_check", .fn 14), ("_law_record", .fn 15), ("_law_number", .fn 16), ("_law_good", .fn 17), ("_law_read", .fn 18), ("_law_spoilt", .fn 19), ("_law_of", .fn 20), ("_law_odd", .fn 21), ("law", .fn 22), ("MOST_SEAL", .cst (.int 2305843009213693951)), ("BASE", .cst (.int 1234567890123456789)), ("BEGIN", .cst (.int 7)), ("HALF", .cst (.int 1000000000000000)), ("LEAST", .cst (.int 1000000000000000000000000000000)), ("FIGURES", .cst (.str "0123456789")), ("PIECE", .cst (.int 50)), ("MOST_FIGURES", .cst (.int 20))]
abbrev s0 : Stmt := top 6
def N0 : List Str := ["text", "found", "at", "code", "sign"]
def P0 : List Str := ["text"]
def b0_0 : List Stm := [.set (.nm 3) (.p2 .add (.p2 .mul (.c (.int 128)) (.v 3)) (.p1 .ord (.v 4)))]
def b0_1 : List Stm := [.set (.nm 3) (.c (.int 0)), .for_ (.nm 4) .it [(.sl (.v 0) [(.v 2)] [(.p2 .add (.v 2) (.c (.int 7)))])] b0_0, .exp (.m1 .list .append (.v 1) (.v 3))]
/-- text_codes -/
def b0 : List Stm := [.set (.nm 1) (.disp []), .for_ (.nm 2) .rng3 [(.c (.int 0)), (.p1 .len (.v 0)), (.c (.int 7))] b0_1, .ret (.v 1)]
theorem c0 : cSs 100 100 ⟨N0, glT, defScope s0⟩ (defBody s0) = some b0 := by kernel_rfl
theorem sc0 : scC N0 P0 (defScope s0) = true := by decide +kernel
abbrev s1 : Stmt := top 7
def N1 : List Str := ["thing", "found", "part"]
def P1 : List Str := ["thing"]
def b1_0 : List Stm := [.exp (.m1 .list .extend (.v 1) (.call 1 [(.v 2)]))]
/-- codes_of -/
def b1 : List Stm := [.iff (.p1 .isN (.v 0)) [.ret (.disp [(.c (.int 1))])] [], .iff (.isi [.int] (.v 0)) [.ret (.disp [(.c (.int 2)), (.p2 .fdiv (.p2 .add (.v 0) (.c (.int 1000000000000000000000000000000))) (.c (.int 1000000000000000))), (.p2 .mod (.p2 .add (.v 0) (.c (.int 1000000000000000000000000000000))) (.c (.int 1000000000000000)))])] [], .iff (.isi [.str] (.v 0)) [.ret (.p2 .add (.disp [(.c (.int 3)), (.p1 .len (.v 0))]) (.call 0 [(.v 0)]))] [], .set (.nm 1) (.disp [(.c (.int 4)), (.p1 .len (.v 0))]), .for_ (.nm 2) .it [(.v 0)] b1_0, .ret (.v 1)]
theorem c1 : cSs 100 100 ⟨N1, glT, defScope s1⟩ (defBody s1) = some b1 := by kernel_rfl
theorem sc1 : scC N1 P1 (defScope s1) = true := by decide +kernel
abbrev s2 : Stmt := top 8
def N2 : List Str := ["thing", "last", "code"]
def P2 : List Str := ["thing"]
def b2_0 : List Stm := [.set (.nm 1) (.p2 .mod (.p2 .add (.p2 .mul (.v 1) (.c (.int 1234567890123456789))) (.v 2)) (.c (.int 2305843009213693951)))]
/-- seal -/
def b2 : List Stm := [.set (.nm 1) (.c (.int 7)), .for_ (.nm 2) .it [(.call 1 [(.v 0)])] b2_0, .ret (.p2 .add (.v 1) (.c (.int 1)))]
theorem c2 : cSs 100 100 ⟨N2, glT, defScope s2⟩ (defBody s2) = some b2 := by kernel_rfl
theorem sc2 : scC N2 P2 (defScope s2) = true := by decide +kernel
abbrev s3 : Stmt := top 13
def N3 : List Str := ["text", "found", "start"]
def P3 : List Str := ["text"]
def b3_0 : List Stm := [.set (.nm 1) (.call 2 [(.tup [(.v 1), (.repl (.v 0) [(.v 2)] (.v 2) (.c (.int 50)) "\n" ";")])])]
/-- check_of -/
def b3 : List Stm := [.set (.nm 1) (.c (.int 0)), .for_ (.nm 2) .rng3 [(.c (.int 0)), (.p1 .len (.v 0)), (.c (.int 50))] b3_0, .ret (.v 1)]
theorem c3 : cSs 100 100 ⟨N3, glT, defScope s3⟩ (defBody s3) = some b3 := by kernel_rfl
theorem sc3 : scC N3 P3 (defScope s3) = true := by decide +kernel
abbrev s4 : Stmt := top 14
def N4 : List Str := ["texts", "payload", "text", "size", "check"]
def P4 : List Str := ["texts"]
/-- record -/
def b4 : List Stm := [.set (.nm 1) (.m1 .str .join (.c (.str "")) (.comp (.nm 2) .it [(.v 0)] [] (.p2 .add (.v 2) (.c (.str "\n"))) [2])), .set (.nm 3) (.p1 .len (.v 1)), .set (.nm 4) (.call 3 [(.v 1)]), .ret (.fst [(.p1 .fmt (.v 3)), (.c (.str ":")), (.p1 .fmt (.v 1)), (.p1 .fmt (.v 4)), (.c (.str "\n"))])]
theorem c4 : cSs 100 100 ⟨N4, glT, defScope s4⟩ (defBody s4) = some b4 := by kernel_rfl
theorem sc4 : scC N4 P4 (defScope s4) = true := by decide +kernel
abbrev s5 : Stmt := top 15
def N5 : List Str := ["text", "at", "mark", "behind", "figures"]
def P5 : List Str := ["text", "at", "mark"]
def b5_0 : List Stm := [.aug 3 .add (.c (.int 1))]
/-- number_at -/
def b5 : List Stm := [.set (.nm 3) (.v 1), .whl (.and_ (.p2 .lt (.v 3) (.p1 .len (.v 0))) (.and_ (.p2 .inn (.p2 .ix (.v 0) (.v 3)) (.c (.str "0123456789"))) (.p2 .le (.p2 .sub (.v 3) (.v 1)) (.c (.int 20))))) b5_0, .set (.nm 4) (.sl (.v 0) [(.v 1)] [(.v 3)]), .iff (.or_ (.p2 .eq (.v 4) (.c (.str ""))) (.or_ (.p2 .gt (.p1 .len (.v 4)) (.c (.int 20))) (.and_ (.p2 .eq (.p2 .ix (.v 4) (.c (.int 0))) (.c (.str "0"))) (.p2 .ne (.v 4) (.c (.str "0")))))) [.ret (.c .non)] [], .iff (.p2 .ne (.sl (.v 0) [(.v 3)] [(.p2 .add (.v 3) (.c (.int 1)))]) (.v 2)) [.ret (.c .non)] [], .ret (.tup [(.p1 .int_ (.v 4)), (.p2 .add (.v 3) (.c (.int 1)))])]
theorem c5 : cSs 100 100 ⟨N5, glT, defScope s5⟩ (defBody s5) = some b5 := by kernel_rfl
theorem sc5 : scC N5 P5 (defScope s5) = true := by decide +kernel
abbrev s6 : Stmt := top 16
def N6 : List Str := ["text", "sign"]
def P6 : List Str := ["text"]
def b6_0 : List Stm := [.iff (.and_ (.p2 .ne (.v 1) (.c (.str "\n"))) (.or_ (.p2 .lt (.p1 .ord (.v 1)) (.c (.int 32))) (.or_ (.p2 .gt (.p1 .ord (.v 1)) (.c (.int 126))) (.p2 .eq (.p1 .ord (.v 1)) (.c (.int 37)))))) [.ret (.c (.bl false))] []]
/-- is_payload -/
def b6 : List Stm := [.iff (.p2 .ne (.sl (.v 0) [(.p1 .neg (.c (.int 1)))] []) (.c (.str "\n"))) [.ret (.c (.bl false))] [], .for_ (.nm 1) .it [(.v 0)] b6_0, .ret (.c (.bl true))]
theorem c6 : cSs 100 100 ⟨N6, glT, defScope s6⟩ (defBody s6) = some b6 := by kernel_rfl
theorem sc6 : scC N6 P6 (defScope s6) = true := by decide +kernel
abbrev s7 : Stmt := top 17
def N7 : List Str := ["text", "at", "head", "size", "first", "payload", "tail"]
def P7 : List Str := ["text", "at"]
/-- record_at -/
def b7 : List Stm := [.set (.nm 2) (.call 5 [(.v 0), (.v 1), (.c (.str ":"))]), .iff (.p1 .isN (.v 2)) [.ret (.c .non)] [], .set (.tp [3, 4]) (.v 2), .set (.nm 5) (.sl (.v 0) [(.v 4)] [(.p2 .add (.v 4) (.v 3))]), .iff (.or_ (.p2 .lt (.p1 .len (.v 5)) (.v 3)) (.not_ (.call 6 [(.v 5)]))) [.ret (.c .non)] [], .set (.nm 6) (.call 5 [(.v 0), (.p2 .add (.v 4) (.v 3)), (.c (.str "\n"))]), .iff (.or_ (.p1 .isN (.v 6)) (.p2 .ne (.p2 .ix (.v 6) (.c (.int 0))) (.call 3 [(.v 5)]))) [.ret (.c .non)] [], .ret (.tup [(.m1 .str .split (.sl (.v 5) [] [(.p1 .neg (.c (.int 1)))]) (.c (.str "\n"))), (.p2 .ix (.v 6) (.c (.int 1)))])]
theorem c7 : cSs 100 100 ⟨N7, glT, defScope s7⟩ (defBody s7) = some b7 := by kernel_rfl
theorem sc7 : scC N7 P7 (defScope s7) = true := by decide +kernel
abbrev s8 : Stmt := top 18
def N8 : List Str := ["text", "lists", "ends", "at", "found", "texts"]
def P8 : List Str := ["text"]
def b8_0 : List Stm := [.set (.nm 4) (.call 7 [(.v 0), (.v 3)]), .iff (.p1 .isN (.v 4)) [.ret (.tup [(.v 1), (.v 2)])] [], .set (.tp [5, 3]) (.v 4), .exp (.m1 .list .append (.v 1) (.v 5)), .exp (.m1 .list .append (.v 2) (.v 3))]
/-- records -/
def b8 : List Stm := [.set (.nm 1) (.disp []), .set (.nm 2) (.disp []), .set (.nm 3) (.c (.int 0)), .whl (.c (.bl true)) b8_0]
theorem c8 : cSs 100 100 ⟨N8, glT, defScope s8⟩ (defBody s8) = some b8 := by kernel_rfl
theorem sc8 : scC N8 P8 (defScope s8) = true := by decide +kernel
abbrev s9 : Stmt := top 20
def N9 : List Str := ["script", "k"]
def P9 : List Str := ["script", "k"]
/-- _law_cell_at -/
def b9 : List Stm := [.iff (.p2 .lt (.v 1) (.p1 .len (.v 0))) [.ret (.p2 .ix (.v 0) (.v 1))] [], .ret (.c (.int 0))]
theorem c9 : cSs 100 100 ⟨N9, glT, defScope s9⟩ (defBody s9) = some b9 := by kernel_rfl
theorem sc9 : scC N9 P9 (defScope s9) = true := by decide +kernel
abbrev s10 : Stmt := top 21
def N10 : List Str := ["cell", "k", "number"]
def P10 : List Str := ["cell", "k"]
/-- _law_mixed -/
def b10 : List Stm := [.set (.nm 2) (.p2 .mod (.p2 .add (.p2 .add (.p2 .mul (.p2 .mod (.v 0) (.c (.int 2147483629))) (.p2 .add (.p2 .mul (.c (.int 2)) (.v 1)) (.c (.int 60607)))) (.p2 .mul (.c (.int 29)) (.v 1))) (.c (.int 7))) (.c (.int 2147483587))), .ret (.p2 .fdiv (.p2 .mod (.p2 .mul (.v 2) (.v 2)) (.c (.int 2147483563))) (.c (.int 3)))]
theorem c10 : cSs 100 100 ⟨N10, glT, defScope s10⟩ (defBody s10) = some b10 := by kernel_rfl
theorem sc10 : scC N10 P10 (defScope s10) = true := by decide +kernel
abbrev s11 : Stmt := top 22
def N11 : List Str := ["number", "some"]
def P11 : List Str := ["number"]
/-- _law_sign -/
def b11 : List Stm := [.set (.nm 1) (.c (.str " !\"#$&'()*+,-./0123456789:;<=>?@ABCDEFGHIJKLMNOPQRSTUVWXYZ[\\]^_`")), .set (.nm 1) (.p2 .add (.v 1) (.c (.str "abcdefghijklmnopqrstuvwxyz{|}~"))), .ret (.p2 .ix (.v 1) (.p2 .mod (.v 0) (.c (.int 94))))]
theorem c11 : cSs 100 100 ⟨N11, glT, defScope s11⟩ (defBody s11) = some b11 := by kernel_rfl
theorem sc11 : scC N11 P11 (defScope s11) = true := by decide +kernel
abbrev s12 : Stmt := top 23
def N12 : List Str := ["cells", "lists", "cell", "text", "k"]
def P12 : List Str := ["cells"]
def b12_0 : List Stm := [.set (.nm 3) (.m1 .str .join (.c (.str "")) (.comp (.nm 4) .rng1 [(.p2 .mod (.call 10 [(.v 2), (.c (.int 1))]) (.p2 .ix (.disp [(.c (.int 6)), (.c (.int 71))]) (.p2 .mod (.v 2) (.c (.int 2)))))] [] (.call 11 [(.call 10 [(.v 2), (.p2 .add (.c (.int 5)) (.v 4))])]) [4])), .iff (.or_ (.p2 .eq (.v 1) (.disp [])) (.or_ (.p2 .eq (.p2 .mod (.call 10 [(.v 2), (.c (.int 2))]) (.p2 .ix (.disp [(.c (.int 2)), (.c (.int 12))]) (.p2 .mod (.p2 .ix (.v 0) (.c (.int 0))) (.c (.int 2))))) (.c (.int 0))) (.p2 .gt (.p1 .len (.p2 .ix (.v 1) (.p1 .neg (.c (.int 1))))) (.p2 .ix (.disp [(.c (.int 3)), (.c (.int 19))]) (.p2 .mod (.p2 .ix (.v 0) (.c (.int 0))) (.c (.int 2))))))) [.exp (.m1 .list .append (.v 1) (.disp []))] [], .setIx (.v 1) (.p1 .neg (.c (.int 1))) (.p2 .add (.p2 .ix (.v 1) (.p1 .neg (.c (.int 1)))) (.disp [(.v 3)]))]
/-- _law_lists -/
def b12 : List Stm := [.set (.nm 1) (.disp []), .for_ (.nm 2) .it [(.v 0)] b12_0, .ret (.v 1)]
theorem c12 : cSs 100 100 ⟨N12, glT, defScope s12⟩ (defBody s12) = some b12 := by kernel_rfl
theorem sc12 : scC N12 P12 (defScope s12) = true := by decide +kernel
abbrev s13 : Stmt := top 24
def N13 : List Str := ["number", "piece", "codes", "start", "group", "sign", "got", "code"]
def P13 : List Str := ["number", "piece"]
def b13_0 : List Stm := [.set (.nm 4) (.p2 .add (.p2 .mul (.v 4) (.c (.int 128))) (.p1 .ord (.v 5)))]
def b13_1 : List Stm := [.set (.nm 4) (.c (.int 0)), .for_ (.nm 5) .it [(.sl (.v 1) [(.v 3)] [(.p2 .add (.v 3) (.c (.int 7)))])] b13_0, .exp (.m1 .list .append (.v 2) (.v 4))]
def b13_2 : List Stm := [.set (.nm 6) (.p2 .mod (.p2 .add (.p2 .mul (.v 6) (.c (.int 1234567890123456789))) (.v 7)) (.p2 .sub (.p2 .pow (.c (.int 2)) (.c (.int 61))) (.c (.int 1))))]
/-- _law_sealed -/
def b13 : List Stm := [.set (.nm 2) (.disp [(.c (.int 4)), (.c (.int 2)), (.c (.int 2)), (.p2 .fdiv (.p2 .add (.v 0) (.p2 .pow (.c (.int 10)) (.c (.int 30)))) (.p2 .pow (.c (.int 10)) (.c (.int 15)))), (.p2 .mod (.p2 .add (.v 0) (.p2 .pow (.c (.int 10)) (.c (.int 30)))) (.p2 .pow (.c (.int 10)) (.c (.int 15)))), (.c (.int 3)), (.p1 .len (.v 1))]), .for_ (.nm 3) .rng3 [(.c (.int 0)), (.p1 .len (.v 1)), (.c (.int 7))] b13_1, .set (.nm 6) (.c (.int 7)), .for_ (.nm 7) .it [(.v 2)] b13_2, .ret (.p2 .add (.v 6) (.c (.int 1)))]
theorem c13 : cSs 100 100 ⟨N13, glT, defScope s13⟩ (defBody s13) = some b13 := by kernel_rfl
theorem sc13 : scC N13 P13 (defScope s13) = true := by decide +kernel
abbrev s14 : Stmt := top 25
def N14 : List Str := ["payload", "got", "start"]
def P14 : List Str := ["payload"]
def b14_0 : List Stm := [.set (.nm 1) (.call 13 [(.v 1), (.repl (.v 0) [(.v 2)] (.v 2) (.c (.int 50)) "\n" ";")])]
/-- _law_check -/
def b14 : List Stm := [.set (.nm 1) (.c (.int 0)), .for_ (.nm 2) .rng3 [(.c (.int 0)), (.p1 .len (.v 0)), (.c (.int 50))] b14_0, .ret (.v 1)]
theorem c14 : cSs 100 100 ⟨N14, glT, defScope s14⟩ (defBody s14) = some b14 := by kernel_rfl
theorem sc14 : scC N14 P14 (defScope s14) = true := by decide +kernel
abbrev s15 : Stmt := top 26
def N15 : List Str := ["texts", "payload", "text"]
def P15 : List Str := ["texts"]
/-- _law_record -/
def b15 : List Stm := [.set (.nm 1) (.m1 .str .join (.c (.str "")) (.comp (.nm 2) .it [(.v 0)] [] (.p2 .add (.v 2) (.c (.str "\n"))) [2])), .ret (.p2 .add (.p2 .add (.p2 .add (.p2 .add (.p1 .str_ (.p1 .len (.v 1))) (.c (.str ":"))) (.v 1)) (.p1 .str_ (.call 14 [(.v 1)]))) (.c (.str "\n")))]
theorem c15 : cSs 100 100 ⟨N15, glT, defScope s15⟩ (defBody s15) = some b15 := by kernel_rfl
theorem sc15 : scC N15 P15 (defScope s15) = true := by decide +kernel
abbrev s16 : Stmt := top 27
def N16 : List Str := ["text", "figure"]
def P16 : List Str := ["text"]
/-- _law_number -/
def b16 : List Stm := [.iff (.or_ (.p2 .eq (.v 0) (.c (.str ""))) (.or_ (.p2 .gt (.p1 .len (.v 0)) (.c (.int 20))) (.and_ (.p2 .eq (.p2 .ix (.v 0) (.c (.int 0))) (.c (.str "0"))) (.p2 .gt (.p1 .len (.v 0)) (.c (.int 1)))))) [.ret (.p1 .neg (.c (.int 1)))] [], .iff (.not_ (.p1 .all_ (.comp (.nm 1) .it [(.v 0)] [] (.p2 .inn (.v 1) (.c (.str "0123456789"))) [1]))) [.ret (.p1 .neg (.c (.int 1)))] [], .ret (.p1 .int_ (.v 0))]
theorem c16 : cSs 100 100 ⟨N16, glT, defScope s16⟩ (defBody s16) = some b16 := by kernel_rfl
theorem sc16 : scC N16 P16 (defScope s16) = true := by decide +kernel
abbrev s17 : Stmt := top 28
def N17 : List Str := ["payload", "sign"]
def P17 : List Str := ["payload"]
/-- _law_good -/
def b17 : List Stm := [.iff (.p2 .ne (.sl (.v 0) [(.p1 .neg (.c (.int 1)))] []) (.c (.str "\n"))) [.ret (.c (.bl false))] [], .ret (.p1 .all_ (.comp (.nm 1) .it [(.v 0)] [] (.or_ (.p2 .eq (.v 1) (.c (.str "\n"))) (.p2 .eq (.call 11 [(.p2 .sub (.p2 .sub (.p1 .ord (.v 1)) (.c (.int 32))) (.p1 .int_ (.p2 .gt (.p1 .ord (.v 1)) (.c (.int 37)))))]) (.v 1))) [1]))]
theorem c17 : cSs 100 100 ⟨N17, glT, defScope s17⟩ (defBody s17) = some b17 := by kernel_rfl
theorem sc17 : scC N17 P17 (defScope s17) = true := by decide +kernel
abbrev s18 : Stmt := top 29
def N18 : List Str := ["text", "lists", "ends", "at", "head", "much", "first", "payload", "tail"]
def P18 : List Str := ["text"]
def b18_0 : List Stm := [.set (.nm 4) (.p2 .ix (.m1 .str .split (.sl (.v 0) [(.v 3)] []) (.c (.str ":"))) (.c (.int 0))), .set (.nm 5) (.call 16 [(.v 4)]), .set (.nm 6) (.p2 .add (.p2 .add (.v 3) (.p1 .len (.v 4))) (.c (.int 1))), .set (.nm 7) (.sl (.v 0) [(.v 6)] [(.p2 .add (.v 6) (.p2 .max_ (.c (.int 0)) (.v 5)))]), .set (.nm 8) (.m1 .str .split (.sl (.v 0) [(.p2 .add (.v 6) (.p2 .max_ (.c (.int 0)) (.v 5)))] []) (.c (.str "\n"))), .iff (.or_ (.p2 .lt (.v 5) (.c (.int 0))) (.or_ (.p2 .lt (.p1 .len (.v 7)) (.v 5)) (.or_ (.not_ (.call 17 [(.v 7)])) (.p2 .lt (.p1 .len (.v 8)) (.c (.int 2)))))) [.ret (.tup [(.v 1), (.v 2)])] [], .iff (.p2 .ne (.call 16 [(.p2 .ix (.v 8) (.c (.int 0)))]) (.call 14 [(.v 7)])) [.ret (.tup [(.v 1), (.v 2)])] [], .exp (.m1 .list .append (.v 1) (.m1 .str .split (.sl (.v 7) [] [(.p1 .neg (.c (.int 1)))]) (.c (.str "\n")))), .set (.nm 3) (.p2 .add (.p2 .add (.p2 .add (.v 6) (.v 5)) (.p1 .len (.p2 .ix (.v 8) (.c (.int 0))))) (.c (.int 1))), .exp (.m1 .list .append (.v 2) (.v 3))]
/-- _law_read -/
def b18 : List Stm := [.set (.nm 1) (.disp []), .set (.nm 2) (.disp []), .set (.nm 3) (.c (.int 0)), .whl (.c (.bl true)) b18_0]
theorem c18 : cSs 100 100 ⟨N18, glT, defScope s18⟩ (defBody s18) = some b18 := by kernel_rfl
theorem sc18 : scC N18 P18 (defScope s18) = true := by decide +kernel
abbrev s19 : Stmt := top 30
def N19 : List Str := ["text", "cell", "more", "at", "sign"]
def P19 : List Str := ["text", "cell", "more"]
/-- _law_spoilt -/
def b19 : List Stm := [.set (.nm 3) (.p2 .mod (.p2 .fdiv (.v 1) (.c (.int 4))) (.p2 .add (.p1 .len (.v 0)) (.c (.int 1)))), .set (.nm 4) (.p2 .ix (.c (.str "0123456789:\n")) (.p2 .mod (.call 10 [(.v 2), (.c (.int 3))]) (.c (.int 12)))), .iff (.p2 .eq (.p2 .mod (.call 10 [(.v 2), (.c (.int 4))]) (.c (.int 3))) (.c (.int 0))) [.set (.nm 4) (.call 11 [(.call 10 [(.v 2), (.c (.int 6))])])] [], .iff (.p2 .eq (.p2 .mod (.v 1) (.c (.int 4))) (.c (.int 0))) [.ret (.sl (.v 0) [] [(.v 3)])] [], .iff (.p2 .eq (.p2 .mod (.v 1) (.c (.int 4))) (.c (.int 1))) [.ret (.p2 .add (.p2 .add (.sl (.v 0) [] [(.v 3)]) (.v 4)) (.sl (.v 0) [(.v 3)] []))] [], .iff (.p2 .eq (.p2 .mod (.v 1) (.c (.int 4))) (.c (.int 2))) [.ret (.p2 .add (.p2 .add (.sl (.v 0) [] [(.v 3)]) (.v 4)) (.sl (.v 0) [(.p2 .add (.v 3) (.c (.int 1)))] []))] [], .ret (.p2 .add (.sl (.v 0) [] [(.v 3)]) (.sl (.v 0) [(.p2 .add (.v 3) (.c (.int 1)))] []))]
theorem c19 : cSs 100 100 ⟨N19, glT, defScope s19⟩ (defBody s19) = some b19 := by kernel_rfl
theorem sc19 : scC N19 P19 (defScope s19) = true := by decide +kernel
abbrev s20 : Stmt := top 31
def N20 : List Str := ["payload"]
def P20 : List Str := ["payload"]
/-- _law_of -/
def b20 : List Stm := [.ret (.p2 .add (.p2 .add (.p2 .add (.p2 .add (.p1 .str_ (.p1 .len (.v 0))) (.c (.str ":"))) (.v 0)) (.p1 .str_ (.call 14 [(.v 0)]))) (.c (.str "\n")))]
theorem c20 : cSs 100 100 ⟨N20, glT, defScope s20⟩ (defBody s20) = some b20 := by kernel_rfl
theorem sc20 : scC N20 P20 (defScope s20) = true := by decide +kernel
abbrev s21 : Stmt := top 32
def N21 : List Str := ["text", "cell", "some"]
def P21 : List Str := ["text", "cell"]
/-- _law_odd -/
def b21 : List Stm := [.set (.nm 2) (.disp [(.c (.str "0:0\n")), (.call 20 [(.c (.str "ab"))]), (.call 20 [(.c (.str "a\tb\n"))]), (.call 20 [(.c (.str "\n"))]), (.p2 .add (.call 20 [(.c (.str "a\n"))]) (.call 20 [(.c (.str "\n\n"))]))]), .ret (.disp [(.p2 .add (.p2 .add (.v 0) (.p2 .ix (.v 2) (.p2 .mod (.v 1) (.c (.int 5))))) (.call 20 [(.c (.str "z\n"))])), (.p2 .add (.p2 .ix (.v 2) (.p2 .mod (.p2 .fdiv (.v 1) (.c (.int 5))) (.c (.int 5)))) (.v 0))])]
theorem c21 : cSs 100 100 ⟨N21, glT, defScope s21⟩ (defBody s21) = some b21 := by kernel_rfl
theorem sc21 : scC N21 P21 (defScope s21) = true := by decide +kernel
abbrev s22 : Stmt := top 33
def N22 : List Str := ["script", "lists", "text", "texts", "handed", "made", "payload", "one", "spoilt", "odd", "told", "got", "other"]
def P22 : List Str := ["script"]
def b22_0 : List Stm := [.set (.nm 4) (.p1 .list_ (.v 3)), .set (.nm 5) (.call 4 [(.v 4)]), .set (.nm 6) (.m1 .str .join (.c (.str "")) (.comp (.nm 7) .it [(.v 3)] [] (.p2 .add (.v 7) (.c (.str "\n"))) [7])), .iff (.or_ (.p2 .ne (.v 5) (.call 15 [(.v 3)])) (.or_ (.p2 .ne (.v 4) (.v 3)) (.p2 .ne (.call 3 [(.v 6)]) (.call 14 [(.v 6)])))) [.ret (.c (.bl false))] [], .set (.nm 2) (.p2 .add (.v 2) (.v 5))]
def b22_1 : List Stm := [.exp (.m1 .list .append (.v 3) (.c (.int 7))), .iff (.p2 .ne (.p1 .len (.comp (.nm 12) .it [(.p2 .ix (.v 11) (.c (.int 0)))] [(.p2 .eq (.sl (.v 12) [(.p1 .neg (.c (.int 1)))] []) (.disp [(.c (.int 7))]))] (.v 12) [12])) (.c (.int 1))) [.ret (.c (.bl false))] [], .exp (.m0 .list .pop (.v 3))]
def b22_2 : List Stm := [.set (.nm 11) (.call 8 [(.v 10)]), .iff (.or_ (.not_ (.isi [.tuple] (.v 11))) (.p2 .ne (.v 11) (.call 18 [(.v 10)]))) [.ret (.c (.bl false))] [], .iff (.and_ (.p2 .nin (.c (.str "\t")) (.v 10)) (.p2 .ne (.call 3 [(.v 10)]) (.call 14 [(.v 10)]))) [.ret (.c (.bl false))] [], .for_ (.nm 3) .it [(.p2 .ix (.v 11) (.c (.int 0)))] b22_1]
/-- law -/
def b22 : List Stm := [.set (.nm 1) (.call 12 [(.sl (.v 0) [(.c (.int 2))] [(.c (.int 62))])]), .set (.nm 2) (.c (.str "")), .for_ (.nm 3) .it [(.v 1)] b22_0, .set (.nm 8) (.call 19 [(.v 2), (.call 9 [(.v 0), (.c (.int 0))]), (.call 9 [(.v 0), (.c (.int 1))])]), .set (.nm 9) (.call 21 [(.v 2), (.call 9 [(.v 0), (.c (.int 1))])]), .for_ (.nm 10) .it [(.p2 .add (.disp [(.v 2), (.v 8), (.c (.str "")), (.p2 .add (.v 2) (.c (.str "7"))), (.p2 .add (.v 8) (.sl (.v 8) [] [(.c (.int 20))]))]) (.v 9))] b22_2, .ret (.and_ (.p2 .eq (.p2 .ix (.call 8 [(.v 2)]) (.c (.int 0))) (.v 1)) (.p2 .eq (.call 3 [(.c (.str ""))]) (.c (.int 0))))]
theorem c22 : cSs 100 100 ⟨N22, glT, defScope s22⟩ (defBody s22) = some b22 := by kernel_rfl
theorem sc22 : scC N22 P22 (defScope s22) = true := by decide +kernel
def tab : Nat → Option Fn
  | 0 => some ⟨1, 5, b0⟩
  | 1 => some ⟨1, 3, b1⟩
  | 2 => some ⟨1, 3, b2⟩
  | 3 => some ⟨1, 3, b3⟩
  | 4 => some ⟨1, 5, b4⟩
  | 5 => some ⟨3, 5, b5⟩
  | 6 => some ⟨1, 2, b6⟩
  | 7 => some ⟨2, 7, b7⟩
  | 8 => some ⟨1, 6, b8⟩
  | 9 => some ⟨2, 2, b9⟩
  | 10 => some ⟨2, 3, b10⟩
  | 11 => some ⟨1, 2, b11⟩
  | 12 => some ⟨1, 5, b12⟩
  | 13 => some ⟨2, 8, b13⟩
  | 14 => some ⟨1, 3, b14⟩
  | 15 => some ⟨1, 3, b15⟩
  | 16 => some ⟨1, 2, b16⟩
  | 17 => some ⟨1, 2, b17⟩
  | 18 => some ⟨1, 9, b18⟩
  | 19 => some ⟨3, 5, b19⟩
  | 20 => some ⟨1, 1, b20⟩
  | 21 => some ⟨2, 3, b21⟩
  | 22 => some ⟨1, 13, b22⟩
  | _ => none
end Mi.L

/-! Mi, part R: reckoning with texts as lists of signs, with loops. -/
namespace Mi
open PySem
abbrev tx (l : List Nat) : D := .str (SX.S l)
theorem tx_inj {a b : List Nat} (h : tx a = tx b) : a = b := SX.S_inj (by injection h)
theorem S_surj (z : Str) : ∃ l : List Nat, z = SX.S l := ⟨_, (SX.S_tl z).symm⟩
theorem S_eqP {a b : List Nat} : (SX.S a = SX.S b) = (a = b) := propext ⟨SX.S_inj, fun h => by rw [h]⟩
def rp1 (y z : Nat) (l : List Nat) : List Nat := l.map fun c => if c = y then z else c
theorem replL_one {y z : Nat} : ∀ l : List Nat, StrLaws.replL [y] [z] l = rp1 y z l
  | [] => StrLaws.replL_nil
  | c :: r => by
    by_cases h : c = y
    · rw [StrLaws.replL_hit (by simp) (by simp [h])]
      show [z] ++ StrLaws.replL [y] [z] r = _
      rw [replL_one r]
      unfold rp1
      rw [List.map_cons, if_pos h]; rfl
    · rw [StrLaws.replL_miss (by simp [h]), replL_one r]
      unfold rp1
      rw [List.map_cons, if_neg h]
section
variable {S : Store} {a b l : List Nat} {c : Nat}
theorem len_tx (h : l.length ≤ sizeLine) : p1 .len (.val (tx l)) S = .ok (.val (.int l.length)) S := by
  show (if (SX.S l).length ≤ sizeLine then vv (.int (SX.S l).length) S else .bad) = _
  rw [SX.S_len, if_pos h]; rfl
theorem add_tx (h : a.length + b.length ≤ sizeLine) : p2 .add (.val (tx a)) (.val (tx b)) S = .ok (.val (tx (a ++ b))) S := by
  show (if (SX.S a).length + (SX.S b).length ≤ sizeLine then vv (.str (SX.S a ++ SX.S b)) S else .bad) = _
  rw [SX.S_len, SX.S_len, if_pos h, SX.S_cat]; rfl
theorem eq_tx : p2 .eq (.val (tx a)) (.val (tx b)) S = .ok (.val (.bl (decide (a = b)))) S := by
  rw [eq_ss]; simp only [S_eqP]
theorem ne_tx : p2 .ne (.val (tx a)) (.val (tx b)) S = .ok (.val (.bl (!decide (a = b)))) S := by
  rw [ne_ss]; simp only [S_eqP]
theorem ix_tx {i : Int} (h : L2.atI l i = some c) (hz : l.length ≤ sizeLine) : p2 .ix (.val (tx l)) (.val (.int i)) S = .ok (.val (tx [c])) S := by
  show (match L2.atI l i with | some c => if (SX.S l).length ≤ sizeLine then vv (.str ⟨#[c]⟩) S else .bad | none => .bad) = _
  rw [h, SX.S_len]
  show (if l.length ≤ sizeLine then _ else _) = _
  rw [if_pos hz]; rfl
theorem in_tx : p2 .inn (.val (tx [c])) (.val (tx l)) S = .ok (.val (.bl (decide (c ∈ l)))) S := by
  show ob (some (!(Builtin.Str.occurrences (SX.S l) (SX.S [c]) 0 (SX.S l).length 1).isEmpty)) S = _
  rw [SX.in_one]; rfl
theorem nin_tx : p2 .nin (.val (tx [c])) (.val (tx l)) S = .ok (.val (.bl (!decide (c ∈ l)))) S := by
  show ob ((some (!(Builtin.Str.occurrences (SX.S l) (SX.S [c]) 0 (SX.S l).length 1).isEmpty)).map (!·)) S = _
  rw [SX.in_one]; rfl
theorem cut_tx {lo hi : Option Int} (hz : l.length ≤ sizeLine) : cutW (.val (tx l)) lo hi S = .ok (.val (tx (cutD l lo hi))) S := by
  show (if (SX.S l).length ≤ sizeLine then vv (.str (L2.cutS (SX.S l) lo hi)) S else .bad) = _
  rw [SX.S_len, if_pos hz]; rfl
theorem ord_tx : p1 .ord (.val (tx [c])) S = .ok (.val (.int c)) S := rfl
theorem split_tx (hc : c < 256) (hz : a.length + 2 ≤ sizeLine) : p2 .split (.val (tx a)) (.val (tx [c])) S = .ok (.lis ((TL.spl [c] 0 [] a).map tx)) S := by
  show (if ((SX.S [c]).length == 0) = false ∧ (SX.S a).length + 2 ≤ sizeLine then R.ok (W.lis ((Txt.split (SX.S a) (SX.S [c])).map D.str)) S else .bad) = _
  rw [SX.S_len, SX.S_len, if_pos ⟨rfl, hz⟩, SX.split_S (by simp) (by simpa using hc), List.map_map]; rfl
theorem strsOf_tx : ∀ ys : List (List Nat), strsOf (ys.map tx) = some (ys.map SX.S)
  | [] => rfl
  | y :: ys => by rw [List.map_cons, strsOf, strsOf_tx ys]; rfl
theorem joinL_nil : ∀ ys : List (List Nat), TL.joinL [] ys = ys.flatten
  | [] => rfl
  | [p] => by simp [TL.joinL]
  | p :: q :: r => by
    show p ++ ([] ++ TL.joinL [] (q :: r)) = _
    rw [joinL_nil (q :: r)]; simp
theorem join_tx {ys : List (List Nat)} (hz : ys.flatten.length ≤ 16777216) : p2 .join (.val (tx [])) (.lis (ys.map tx)) S = .ok (.val (tx ys.flatten)) S := by
  show (match strsOf (ys.map tx) with | some ys => if joinFits (SX.S []) ys = true then vv (.str (Txt.join (SX.S []) ys)) S else .bad | none => .bad) = _
  rw [strsOf_tx]
  show (if joinFits (SX.S []) (ys.map SX.S) = true then _ else _) = _
  rw [if_pos]
  · rw [SX.join_S, joinL_nil]; rfl
  · unfold joinFits
    refine decide_eq_true ?_
    rw [SX.lens, SX.S_len]
    rw [List.length_flatten] at hz
    simp only [List.length_nil, Nat.mul_zero, Nat.add_zero]
    exact hz
theorem repl_S {y z : Nat} : Txt.replace (SX.S a) (SX.S [y]) (SX.S [z]) = SX.S (rp1 y z a) := by
  refine TL.ext_tl ?_
  show (Txt.replace (SX.S a) (SX.S [y]) (SX.S [z])).cps.toList = rp1 y z a
  rw [StrLaws.replace_list (by show 1 ≤ (SX.S [y]).length; rw [SX.S_len]; simp)]
  exact replL_one a
theorem replC_tx {y z : Nat} {i j : Int} {lo : Option Int} (hz : a.length ≤ 1000000) : replC (.val (tx a)) lo (.val (.int i)) (.val (.int j)) (SX.S [y]) (SX.S [z]) S = .ok (.val (tx (rp1 y z (cutD a lo (some (i + j)))))) S := by
  have hl : (cutD a lo (some (i + j))).length ≤ a.length := by
    unfold cutD
    rw [List.length_take, List.length_drop]; omega
  show (cutW (.val (tx a)) lo (some (i + j)) S).bd (fun x S => replW (SX.S [y]) (SX.S [z]) x S) = _
  rw [cut_tx (Nat.le_trans hz (by decide))]
  show (if (SX.S _).length + ((SX.S _).length + 1) * (SX.S [z]).length ≤ 16777216 then vv (.str (Txt.replace (SX.S _) (SX.S [y]) (SX.S [z]))) S else .bad) = _
  rw [SX.S_len, SX.S_len, if_pos (by simp; omega), repl_S]; rfl
theorem int_tx (h : a.all (fun c => decide (48 ≤ c) && decide (c ≤ 57)) = true) (hne : a ≠ []) (hl : a.length ≤ 640) : p1 .int_ (.val (tx a)) S = .ok (.val (.int ((NumText.digitsVal a : Nat) : Int))) S := by
  show (match intText? (SX.S a) with | some n => if (SX.S a).length ≤ 640 then vv (.int n) S else .bad | none => .bad) = _
  rw [SX.int_S h hne (by omega), SX.S_len]
  show (if a.length ≤ 640 then _ else _) = _
  rw [if_pos hl]; rfl
theorem log_ok {n : Nat} (h : n < 2 ^ 1000) : ((n : Int)).natAbs.log2 < 1920 := by
  show n.log2 < 1920
  by_cases z : n = 0
  · subst z; decide
  · exact Nat.lt_of_lt_of_le ((Nat.log2_lt z).mpr h) (by decide)
theorem str_tx {n : Nat} (h : n < 2 ^ 1000) : p1 .str_ (.val (.int n)) S = .ok (.val (tx (TL.numL n))) S := by
  show (if ((n : Int)).natAbs.log2 < 1920 then vv (.str (Str.ofString (toString (n : Int)))) S else .bad) = _
  rw [if_pos (log_ok h), SX.num_S]; rfl
theorem fmt_int {n : Nat} (h : n < 2 ^ 1000) : p1 .fmt (.val (.int n)) S = .ok (.val (tx (TL.numL n))) S := by
  show (if ((n : Int)).natAbs.log2 < 1920 then vv (.str (Str.ofString (toString (n : Int)))) S else .bad) = _
  rw [if_pos (log_ok h), SX.num_S]; rfl
theorem fmt_tx (h : a.length ≤ sizeLine) : p1 .fmt (.val (tx a)) S = .ok (.val (tx a)) S := by
  show (if (SX.S a).length ≤ sizeLine then vv (tx a) S else .bad) = _
  rw [SX.S_len, if_pos h]; rfl
theorem its_tx : its .it [.val (tx l)] S = some ⟨l.map fun c => tx [c], []⟩ := rfl
end

/-! ### numbers -/
section
variable {S : Store} {i j : Int}
theorem mod_ok (h : 0 < j) : p2 .mod (.val (.int i)) (.val (.int j)) S = .ok (.val (.int (i % j))) S := by
  show (if 0 < j then _ else _) = _
  rw [if_pos h]; rfl
theorem fdiv_ok (h : 0 < j) (h2 : j < 2 ^ 128) : p2 .fdiv (.val (.int i)) (.val (.int j)) S = .ok (.val (.int (i / j))) S := by
  show (if divFits j = true then _ else _) = _
  rw [if_pos]
  · rfl
  · unfold divFits
    refine decide_eq_true ⟨h, ?_⟩
    have : j.natAbs < 2 ^ 128 := by omega
    exact Nat.lt_trans (Nat.log2_lt (by omega) |>.mpr this) (by decide)
theorem mul_ok (h : i.natAbs < 2 ^ 200) (h2 : j.natAbs < 2 ^ 200) : p2 .mul (.val (.int i)) (.val (.int j)) S = .ok (.val (.int (i * j))) S := by
  show (if mulFits i j = true then _ else _) = _
  rw [if_pos]
  · rfl
  · unfold mulFits
    have lg : ∀ n : Nat, n < 2 ^ 200 → n.log2 < 200 := fun n hn => by
      by_cases z : n = 0
      · subst z; decide
      · exact (Nat.log2_lt z).mpr hn
    have := lg _ h
    have := lg _ h2
    exact decide_eq_true (by omega)
theorem pow_ok (h : 0 ≤ j ∧ j ≤ 1000000 ∧ i.natAbs < 2 ^ 64) : p2 .pow (.val (.int i)) (.val (.int j)) S = .ok (.val (.int (i ^ j.toNat))) S := by
  show (if 0 ≤ j ∧ j ≤ 1000000 ∧ i.natAbs < 2 ^ 64 then _ else _) = _
  rw [if_pos h]; rfl
theorem add_ok : p2 .add (.val (.int i)) (.val (.int j)) S = .ok (.val (.int (i + j))) S := rfl
theorem sub_ok : p2 .sub (.val (.int i)) (.val (.int j)) S = .ok (.val (.int (i - j))) S := rfl
theorem neg_ok : p1 .neg (.val (.int i)) S = .ok (.val (.int (-i))) S := rfl
theorem max_ok : p2 .max_ (.val (.int i)) (.val (.int j)) S = .ok (.val (.int (if j > i then j else i))) S := rfl
theorem dataLt_ii : W.dataLt (.int i) (.int j) = decide (i < j) := by simp [W.dataLt, W.keyToks, PyProof.Rows.lex_cons, PyProof.Rows.itemLt, PyProof.Rows.lexLt]
theorem gt_ii : p2 .gt (.val (.int i)) (.val (.int j)) S = .ok (.val (.bl (decide (j < i)))) S := by
  show ob (some (W.dataLt (.int j) (.int i))) S = _
  rw [dataLt_ii]; rfl
theorem le_ii : p2 .le (.val (.int i)) (.val (.int j)) S = .ok (.val (.bl (decide (i ≤ j)))) S := by
  show ob (some (!W.dataLt (.int j) (.int i))) S = _
  rw [dataLt_ii]
  have : (!decide (j < i)) = decide (i ≤ j) := by
    by_cases h : j < i
    · simp [h]
    · simp [h]; omega
  rw [this]; rfl
theorem ge_ii : p2 .ge (.val (.int i)) (.val (.int j)) S = .ok (.val (.bl (decide (j ≤ i)))) S := by
  show ob (some (!W.dataLt (.int i) (.int j))) S = _
  rw [dataLt_ii]
  have : (!decide (i < j)) = decide (j ≤ i) := by
    by_cases h : i < j
    · simp [h]
    · simp [h]; omega
  rw [this]; rfl
end

/-! ### lists at a place -/
section
variable {S : Store} {k : Nat} {ds : List D}
theorem seq_at (hS : S[k]? = some (.lst ds)) : W.seq S (.val (.ref k)) = some (false, ds) := by
  show (match S[k]? with | some (.lst ds) => _ | _ => _) = _
  rw [hS]
theorem its_at (hS : S[k]? = some (.lst ds)) : its .it [.val (.ref k)] S = some ⟨ds, [(k, ds)]⟩ := by
  unfold its
  dsimp only
  rw [seq_at hS]
  rfl
theorem live_at (hS : S[k]? = some (.lst ds)) : isLive [(k, ds)] S := fun p hp => by rw [List.mem_singleton.mp hp]; exact hS
theorem ix_at {i : Int} {d : D} (hS : S[k]? = some (.lst ds)) (h : L2.atI ds i = some d) : p2 .ix (.val (.ref k)) (.val (.int i)) S = .ok (.val d) S := by
  show (match W.seq S (.val (.ref k)) with | some (_, ds) => _ | none => _) = _
  rw [seq_at hS]
  show (match L2.atI ds i with | some d => vv d S | none => .bad) = _
  rw [h]; rfl
theorem ix_lis {i : Int} {d : D} (h : L2.atI ds i = some d) : p2 .ix (.lis ds) (.val (.int i)) S = .ok (.val d) S := by
  show (match L2.atI ds i with | some d => vv d S | none => .bad) = _
  rw [h]; rfl
theorem ix_tup {i : Int} {d : D} (h : L2.atI ds i = some d) : p2 .ix (.val (.tup ds)) (.val (.int i)) S = .ok (.val d) S := by
  show (match L2.atI ds i with | some d => vv d S | none => .bad) = _
  rw [h]; rfl
theorem len_at (hS : S[k]? = some (.lst ds)) : p1 .len (.val (.ref k)) S = .ok (.val (.int ds.length)) S := by
  show (match W.seq S (.val (.ref k)) with | some (_, ds) => vv (.int ds.length) S | none => .bad) = _
  rw [seq_at hS]; rfl
theorem len_lis : p1 .len (.lis ds) S = .ok (.val (.int ds.length)) S := rfl
theorem len_tup : p1 .len (.val (.tup ds)) S = .ok (.val (.int ds.length)) S := rfl
theorem isLst_at (hS : S[k]? = some (.lst ds)) : isLst S (.val (.ref k)) = true := by
  show (match S[k]? with | some (.lst _) => true | _ => false) = true
  rw [hS]
theorem isK_at (hS : S[k]? = some (.lst ds)) : MK.list.is S (.val (.ref k)) = true := by
  show (match S[k]? with | some (.lst _) => true | _ => false) = true
  rw [hS]
theorem app_at {w : D} (hS : S[k]? = some (.lst ds)) (hz : ds.length < sizeLine) : p2 .append (.val (.ref k)) (.val w) S = .ok (.val .non) (S.set k (.lst (ds ++ [w]))) := by
  show (match S[k]? with | some (.lst ds) => if ds.length < sizeLine then vv .non (S.set k (.lst (ds ++ [w]))) else .bad | _ => .bad) = _
  rw [hS]
  show (if ds.length < sizeLine then _ else _) = _
  rw [if_pos hz]; rfl
theorem app_lis {es : List D} (hS : S[k]? = some (.lst ds)) (hz : ds.length < sizeLine) : p2 .append (.val (.ref k)) (.lis es) S = .ok (.val .non) ((S.set k (.lst (ds ++ [.ref S.length]))) ++ [.lst es]) := by
  have hk : k < S.length := (List.getElem?_eq_some_iff.mp hS).1
  show (match (S ++ [O.lst es])[k]? with | some (.lst ds) => if ds.length < sizeLine then vv .non ((S ++ [O.lst es]).set k (.lst (ds ++ [D.ref S.length]))) else .bad | _ => .bad) = _
  rw [List.getElem?_append_left hk, hS]
  show (if ds.length < sizeLine then _ else _) = _
  rw [if_pos hz, List.set_append_left _ _ hk]; rfl
theorem ext_lis {es : List D} (hS : S[k]? = some (.lst ds)) (hz : ds.length + es.length ≤ sizeLine) : p2 .extend (.val (.ref k)) (.lis es) S = .ok (.val .non) (S.set k (.lst (ds ++ es))) := by
  show (match S[k]? with | some (.lst ds) => (match W.seq S (.lis es) with | some (_, es) => if (isLst S (.lis es) && decide (ds.length + es.length ≤ sizeLine)) = true then vv .non (S.set k (.lst (ds ++ es))) else .bad | _ => .bad) | _ => .bad) = _
  rw [hS]
  show (if (true && decide (ds.length + es.length ≤ sizeLine)) = true then _ else _) = _
  rw [if_pos (by simpa using hz)]; rfl
theorem ext_at {m : Nat} {es : List D} (hS : S[k]? = some (.lst ds)) (hm : S[m]? = some (.lst es)) (hz : ds.length + es.length ≤ sizeLine) : p2 .extend (.val (.ref k)) (.val (.ref m)) S = .ok (.val .non) (S.set k (.lst (ds ++ es))) := by
  have hq := seq_at hm
  have hl := isLst_at hm
  show (match S[k]? with | some (.lst ds) => (match W.seq S (.val (.ref m)) with | some (_, es) => if (isLst S (.val (.ref m)) && decide (ds.length + es.length ≤ sizeLine)) = true then vv .non (S.set k (.lst (ds ++ es))) else .bad | _ => .bad) | _ => .bad) = _
  rw [hS]
  dsimp only
  rw [hq]
  dsimp only
  rw [hl, if_pos (by simpa using hz)]; rfl
theorem add_lis {xs ys : List D} (h : xs.length + ys.length ≤ sizeLine) : p2 .add (.lis xs) (.lis ys) S = .ok (.lis (xs ++ ys)) S := by
  show (if (true && true && decide (xs.length + ys.length ≤ sizeLine)) = true then _ else _) = _
  rw [if_pos (by simpa using h)]
theorem add_at {xs : List D} (hS : S[k]? = some (.lst ds)) (h : ds.length + xs.length ≤ sizeLine) : p2 .add (.val (.ref k)) (.lis xs) S = .ok (.lis (ds ++ xs)) S := by
  have hq := seq_at hS
  have hl := isLst_at hS
  show (match W.seq S (.val (.ref k)), W.seq S (.lis xs) with
      | some (false, xs'), some (false, ys) => if (isLst S (.val (.ref k)) && isLst S (.lis xs) && decide (xs'.length + ys.length ≤ sizeLine)) = true then R.ok (W.lis (xs' ++ ys)) S else .bad
      | some (true, xs'), some (true, ys) => if (!xs'.isEmpty && !ys.isEmpty && decide (xs'.length + ys.length ≤ sizeLine)) = true then vv (.tup (xs' ++ ys)) S else .bad
      | _, _ => .bad) = _
  rw [hq, hl]
  show (if (true && true && decide (ds.length + xs.length ≤ sizeLine)) = true then _ else _) = _
  rw [if_pos (by simpa using h)]
theorem lis_add_at {xs : List D} (hS : S[k]? = some (.lst ds)) (h : xs.length + ds.length ≤ sizeLine) : p2 .add (.lis xs) (.val (.ref k)) S = .ok (.lis (xs ++ ds)) S := by
  have hq := seq_at hS
  have hl := isLst_at hS
  show (match W.seq S (.lis xs), W.seq S (.val (.ref k)) with
      | some (false, xs'), some (false, ys) => if (isLst S (.lis xs) && isLst S (.val (.ref k)) && decide (xs'.length + ys.length ≤ sizeLine)) = true then R.ok (W.lis (xs' ++ ys)) S else .bad
      | some (true, xs'), some (true, ys) => if (!xs'.isEmpty && !ys.isEmpty && decide (xs'.length + ys.length ≤ sizeLine)) = true then vv (.tup (xs' ++ ys)) S else .bad
      | _, _ => .bad) = _
  rw [hq, hl]
  show (if (true && true && decide (xs.length + ds.length ≤ sizeLine)) = true then _ else _) = _
  rw [if_pos (by simpa using h)]
theorem setItem_at {i : Int} {d : D} {j : Nat} (hS : S[k]? = some (.lst ds)) (h : L2.ixN ds.length i = some j) : setItem (.val (.ref k)) (.val (.int i)) d S = some (S.set k (.lst (ds.set j d))) := by
  unfold setItem
  simp only [hS, h]
  rfl
theorem list_at (hS : S[k]? = some (.lst ds)) : p1 .list_ (.val (.ref k)) S = .ok (.lis ds) S := by
  show (match W.seq S (.val (.ref k)) with | some (_, ds) => R.ok (W.lis ds) S | none => .bad) = _
  rw [seq_at hS]
theorem pop_at {d : D} (hS : S[k]? = some (.lst (ds ++ [d]))) : p1 .pop (.val (.ref k)) S = .ok (.val d) (S.set k (.lst ds)) := by
  show (match S[k]? with | some (.lst ds) => (match ds.getLast? with | some d => R.ok (W.val d) (S.set k (.lst ds.dropLast)) | none => .bad) | _ => .bad) = _
  rw [hS]; simp
theorem all_lis {bs : List Bool} : p1 .all_ (.lis (bs.map D.bl)) S = .ok (.val (.bl (bs.all id))) S := by
  have : ∀ bs : List Bool, blsOf (bs.map D.bl) = some bs := by
    intro bs
    induction bs with
    | nil => rfl
    | cons b r ih => rw [List.map_cons, blsOf, ih]; rfl
  show (match blsOf (bs.map D.bl) with | some bs => vv (.bl (bs.all id)) S | none => .bad) = _
  rw [this]; rfl
theorem cut_at {lo hi : Option Int} (hS : S[k]? = some (.lst ds)) : cutW (.val (.ref k)) lo hi S = .ok (.lis (cutD ds lo hi)) S := by
  show (match W.seq S (.val (.ref k)) with | some (true, ds) => _ | some (false, ds) => _ | none => _) = _
  rw [seq_at hS]
theorem cut_ls {lo hi : Option Int} : cutW (.val (.ls ds)) lo hi S = .ok (.lis (cutD ds lo hi)) S := rfl
end
theorem ixN_at {i : Int} {n : Nat} (h : 0 ≤ i) (h2 : i < (n : Int)) : L2.ixN n i = some i.toNat := by
  unfold L2.ixN
  rw [if_pos h, if_pos (by omega)]
theorem atI_at {α : Type} {l : List α} {i : Int} {x : α} (h : 0 ≤ i) (h2 : l[i.toNat]? = some x) : L2.atI l i = some x := by
  have hl : i.toNat < l.length := (List.getElem?_eq_some_iff.mp h2).1
  unfold L2.atI
  rw [ixN_at h (by omega)]
  exact h2
theorem at_map {α : Type} {f : α → D} {l : List α} {r : Int} (h : 0 ≤ r) (h2 : r < (l.length : Int)) : ∃ x ∈ l, L2.atI (l.map f) r = some (f x) := by
  have hi : r.toNat < l.length := by omega
  exact ⟨l[r.toNat], List.getElem_mem hi, atI_at h (by rw [List.getElem?_map, List.getElem?_eq_getElem hi]; rfl)⟩
theorem cutD_map {α β : Type} (f : α → β) (xs : List α) (lo hi : Option Int) : cutD (xs.map f) lo hi = (cutD xs lo hi).map f := by
  unfold cutD
  rw [List.length_map, List.map_take, List.map_drop]
theorem cutD_le {α : Type} (xs : List α) (lo hi : Option Int) : (cutD xs lo hi).length ≤ xs.length := by
  unfold cutD
  rw [List.length_take, List.length_drop]
  omega
theorem cutD_nat {α : Type} (xs : List α) (a b : Nat) : cutD xs (some (a : Int)) (some (b : Int)) = (xs.drop a).take (b - a) := by
  unfold cutD
  rw [HT.sIx_nat, HT.sIx_nat]
  by_cases h : a ≤ xs.length
  · rw [Nat.min_eq_left h]
    by_cases h2 : b ≤ xs.length
    · rw [Nat.min_eq_left h2]
    · rw [Nat.min_eq_right (by omega), List.take_of_length_le (by rw [List.length_drop]; omega), List.take_of_length_le (by rw [List.length_drop]; omega)]
  · rw [Nat.min_eq_right (show xs.length ≤ a by omega), List.drop_eq_nil_of_le (Nat.le_refl _), List.drop_eq_nil_of_le (show xs.length ≤ a by omega), List.take_nil, List.take_nil]
theorem cutD_from {α : Type} (xs : List α) (a : Nat) : cutD xs (some (a : Int)) none = xs.drop a := by
  unfold cutD
  rw [HT.sIx_nat, HT.sIx_none]
  by_cases h : a ≤ xs.length
  · rw [Nat.min_eq_left h, List.take_of_length_le (by rw [List.length_drop]; omega)]
  · rw [Nat.min_eq_right (by omega), List.drop_eq_nil_of_le (Nat.le_refl _), List.drop_eq_nil_of_le (by omega), List.take_nil]
theorem cutD_to {α : Type} (xs : List α) (b : Nat) : cutD xs none (some (b : Int)) = xs.take b := by
  unfold cutD
  rw [HT.sIx_nat, HT.sIx_none, List.drop_zero, Nat.sub_zero]
  by_cases h : b ≤ xs.length
  · rw [Nat.min_eq_left h]
  · rw [Nat.min_eq_right (by omega), List.take_of_length_le (Nat.le_refl _), List.take_of_length_le (by omega)]

/-! ### loops -/
@[simp] theorem isLive_nil {S : Store} : isLive [] S := fun p hp => by cases hp
theorem forL_nx {live : List (Nat × List D)} {turn : D → Env → Store → RS} {d : D} {r : List D} {ρ ρ' : Env} {S S' : Store} (h : isLive live S) (ht : turn d ρ S = .ok .nx ρ' S') : forL live turn (d :: r) ρ S = forL live turn r ρ' S' := by
  rw [forL, if_pos h, ht]
theorem forL_rt {live : List (Nat × List D)} {turn : D → Env → Store → RS} {d x : D} {r : List D} {ρ ρ' : Env} {S S' : Store} (h : isLive live S) (ht : turn d ρ S = .ok (.rt x) ρ' S') : forL live turn (d :: r) ρ S = .ok (.rt x) ρ' S' := by
  rw [forL, if_pos h, ht]
theorem forL_end {live : List (Nat × List D)} {turn : D → Env → Store → RS} {ρ : Env} {S : Store} (h : isLive live S) : forL live turn [] ρ S = .ok .nx ρ S := by
  rw [forL, if_pos h]
/-- a loop that goes from state to state -/
theorem forL_fold {α : Type} {live : List (Nat × List D)} {S : Store} (hl : isLive live S) {turn : D → Env → Store → RS} (E : α → Env) (step : α → D → α) : ∀ (ds : List D) (s : α), (∀ d ∈ ds, ∀ s, turn d (E s) S = .ok .nx (E (step s d)) S) → forL live turn ds (E s) S = .ok .nx (E (ds.foldl step s)) S
  | [], s, _ => forL_end hl
  | d :: r, s, h => by
    rw [forL_nx hl (h d List.mem_cons_self s), List.foldl_cons]
    exact forL_fold hl E step r (step s d) fun e he => h e (List.mem_cons_of_mem _ he)
/-- the same with an invariant of the states -/
theorem forL_foldI {α : Type} {live : List (Nat × List D)} {S : Store} (hl : isLive live S) {turn : D → Env → Store → RS} (E : α → Env) (step : α → D → α) (I : α → Prop) : ∀ (ds : List D) (s : α), I s → (∀ d ∈ ds, ∀ s, I s → turn d (E s) S = .ok .nx (E (step s d)) S ∧ I (step s d)) → forL live turn ds (E s) S = .ok .nx (E (ds.foldl step s)) S ∧ I (ds.foldl step s)
  | [], s, hI, _ => ⟨forL_end hl, hI⟩
  | d :: r, s, hI, h => by
    obtain ⟨h1, h2⟩ := h d List.mem_cons_self s hI
    rw [forL_nx hl h1, List.foldl_cons]
    exact forL_foldI hl E step I r (step s d) h2 fun e he => h e (List.mem_cons_of_mem _ he)
/-- a loop whose turns leave the store and the rest of the names -/
theorem forL_inv {live : List (Nat × List D)} {S : Store} (hl : isLive live S) {turn : D → Env → Store → RS} {I : Env → Prop} : ∀ (ds : List D) (ρ : Env), (∀ d ∈ ds, ∀ ρ, I ρ → ∃ ρ', turn d ρ S = .ok .nx ρ' S ∧ I ρ') → I ρ → ∃ ρ', forL live turn ds ρ S = .ok .nx ρ' S ∧ I ρ'
  | [], ρ, _, h => ⟨ρ, forL_end hl, h⟩
  | d :: r, ρ, ht, h => by
    obtain ⟨ρ1, h1, h2⟩ := ht d List.mem_cons_self ρ h
    obtain ⟨ρ2, h3, h4⟩ := forL_inv hl r ρ1 (fun e he => ht e (List.mem_cons_of_mem _ he)) h2
    exact ⟨ρ2, by rw [forL_nx hl h1, h3], h4⟩
/-- .. with a store that grows or changes: the invariant speaks of both -/
theorem forL_invS {live : List (Nat × List D)} {turn : D → Env → Store → RS} {I : List D → Env → Store → Prop} (hl : ∀ l ρ S, I l ρ S → isLive live S) : ∀ (ds : List D) (ρ : Env) (S : Store), (∀ d r ρ S, I (d :: r) ρ S → ∃ ρ' S', turn d ρ S = .ok .nx ρ' S' ∧ I r ρ' S') → I ds ρ S → ∃ ρ' S', forL live turn ds ρ S = .ok .nx ρ' S' ∧ I [] ρ' S'
  | [], ρ, S, _, h => ⟨ρ, S, forL_end (hl _ _ _ h), h⟩
  | d :: r, ρ, S, ht, h => by
    obtain ⟨ρ1, S1, h1, h2⟩ := ht d r ρ S h
    obtain ⟨ρ2, S2, h3, h4⟩ := forL_invS hl r ρ1 S1 ht h2
    exact ⟨ρ2, S2, by rw [forL_nx (hl _ _ _ h) h1, h3], h4⟩
theorem whileF_more {c : Env → Store → R Bool} {b : Env → Store → RS} : ∀ {n m : Nat} {ρ : Env} {S : Store} {r : RS}, n ≤ m → whileF c b n ρ S = some r → whileF c b m ρ S = some r
  | 0, m, ρ, S, r, _, h => by rw [whileF] at h; cases h
  | n + 1, 0, ρ, S, r, hm, h => absurd hm (by omega)
  | n + 1, m + 1, ρ, S, r, hm, h => by
    rw [whileF] at h ⊢
    cases hc : c ρ S with
    | bad => simp only [hc] at h ⊢; exact h
    | ex k fs S1 => simp only [hc] at h ⊢; exact h
    | ok k S1 =>
      simp only [hc] at h ⊢
      cases k with
      | false => exact h
      | true =>
        dsimp only at h ⊢
        cases hb : b ρ S1 with
        | bad => simp only [hb] at h ⊢; exact h
        | ex k fs ρ1 S1 => simp only [hb] at h ⊢; exact h
        | ok f ρ1 S2 =>
          cases f with
          | nx => simp only [hb] at h ⊢; exact whileF_more (by omega) h
          | cnt => simp only [hb] at h ⊢; exact whileF_more (by omega) h
          | brk => simp only [hb] at h ⊢; exact h
          | rt d => simp only [hb] at h ⊢; exact h
theorem whileF_go {c : Env → Store → R Bool} {b : Env → Store → RS} {n : Nat} {ρ ρ' : Env} {S S1 S2 : Store} {r : RS} (hc : c ρ S = .ok true S1) (hb : b ρ S1 = .ok .nx ρ' S2) (h : whileF c b n ρ' S2 = some r) : whileF c b (n + 1) ρ S = some r := by
  rw [whileF, hc]
  dsimp only
  rw [hb]
  exact h
theorem whileF_end {c : Env → Store → R Bool} {b : Env → Store → RS} {n : Nat} {ρ : Env} {S S1 : Store} (hc : c ρ S = .ok false S1) : whileF c b (n + 1) ρ S = some (.ok .nx ρ S1) := by
  rw [whileF, hc]
theorem whileF_rt {c : Env → Store → R Bool} {b : Env → Store → RS} {n : Nat} {ρ ρ' : Env} {S S1 S2 : Store} {d : D} (hc : c ρ S = .ok true S1) (hb : b ρ S1 = .ok (.rt d) ρ' S2) : whileF c b (n + 1) ρ S = some (.ok (.rt d) ρ' S2) := by
  rw [whileF, hc]
  dsimp only
  rw [hb]

/-! ### comprehensions -/
theorem compL_pure {live : List (Nat × List D)} {S : Store} (hl : isLive live S) {turn : D → Store → R (Option D)} {f : D → D} : ∀ (ds acc : List D), (∀ d ∈ ds, turn d S = .ok (some (f d)) S) → acc.length + ds.length ≤ sizeLine → compL live turn ds S acc = .ok (acc ++ ds.map f) S
  | [], acc, _, _ => by rw [compL, if_pos hl, List.map_nil, List.append_nil]
  | d :: r, acc, h, hz => by
    rw [List.length_cons] at hz
    rw [compL, if_pos hl, h d List.mem_cons_self]
    show (if acc.length < sizeLine then compL live turn r S (acc ++ [f d]) else .bad) = _
    rw [if_pos (by omega), compL_pure hl r (acc ++ [f d]) (fun e he => h e (List.mem_cons_of_mem _ he)) (by rw [List.length_append]; simp; omega)]
    simp
theorem comp_pure {C : CF} {ρ : Env} {S S' : Store} {i : Nat} {k : IK} {is : List Ex} {e : Ex} {own : List Nat} {ws : List W} {I : Its} {f : D → D} (h1 : evWs C is ρ S = .ok ws S') (h2 : its k ws S' = some I) (hl : isLive I.live S') (hz : I.items.length ≤ sizeLine)
    (ht : ∀ d ∈ I.items, evD C e ((wipeD ρ own).set i (some d)) S' = .ok (f d) S') : evK C (.comp (.nm i) k is [] e own) ρ S = .ok (.lis (I.items.map f)) S' := by
  rw [evK, h1]
  show (match its k ws S' with
    | some I => (compL I.live (fun d S => match bindTg (.nm i) d (wipeD ρ own) with
        | some ρ' => ((evCs C [] ρ' S).bd fun b S => if b = true then ((evK C e ρ' S).bd toD).bd fun d S => .ok (some d) S else .ok none S).nox
        | none => .bad) I.items S' []).bd fun ds S => .ok (W.lis ds) S
    | none => .bad) = _
  rw [h2]
  dsimp only
  rw [compL_pure (f := f) hl I.items [] (fun d hd => ?_) (by simpa using hz), List.nil_append]
  · rfl
  · show ((evCs C [] ((wipeD ρ own).set i (some d)) S').bd fun b S => if b = true then ((evK C e ((wipeD ρ own).set i (some d)) S).bd toD).bd fun d S => .ok (some d) S else .ok none S).nox = _
    have := ht d hd
    unfold evD at this
    rw [evCs]
    show (((evK C e ((wipeD ρ own).set i (some d)) S').bd toD).bd fun d S => R.ok (some d) S).nox = _
    rw [this]
    rfl
theorem compL_filter {live : List (Nat × List D)} {S : Store} (hl : isLive live S) {turn : D → Store → R (Option D)} {g : D → Option D} : ∀ (ds acc : List D), (∀ d ∈ ds, turn d S = .ok (g d) S) → acc.length + ds.length ≤ sizeLine → compL live turn ds S acc = .ok (acc ++ ds.filterMap g) S
  | [], acc, _, _ => by rw [compL, if_pos hl, List.filterMap_nil, List.append_nil]
  | d :: r, acc, h, hz => by
    rw [List.length_cons] at hz
    rw [compL, if_pos hl, h d List.mem_cons_self]
    cases hg : g d with
    | none =>
      show compL live turn r S acc = _
      rw [compL_filter hl r acc (fun e he => h e (List.mem_cons_of_mem _ he)) (by omega), List.filterMap_cons, hg]
    | some y =>
      show (if acc.length < sizeLine then compL live turn r S (acc ++ [y]) else .bad) = _
      rw [if_pos (by omega), compL_filter hl r (acc ++ [y]) (fun e he => h e (List.mem_cons_of_mem _ he)) (by rw [List.length_append]; simp; omega), List.filterMap_cons, hg]
      simp
theorem comp_filter {C : CF} {ρ : Env} {S S' : Store} {i : Nat} {k : IK} {is : List Ex} {c e : Ex} {own : List Nat} {ws : List W} {I : Its} {p : D → Bool} {f : D → D} (h1 : evWs C is ρ S = .ok ws S') (h2 : its k ws S' = some I) (hl : isLive I.live S') (hz : I.items.length ≤ sizeLine)
    (hc : ∀ d ∈ I.items, evB C c ((wipeD ρ own).set i (some d)) S' = .ok (p d) S') (ht : ∀ d ∈ I.items, p d = true → evD C e ((wipeD ρ own).set i (some d)) S' = .ok (f d) S') : evK C (.comp (.nm i) k is [c] e own) ρ S = .ok (.lis ((I.items.filter p).map f)) S' := by
  rw [evK, h1]
  show (match its k ws S' with
    | some I => (compL I.live (fun d S => match bindTg (.nm i) d (wipeD ρ own) with
        | some ρ' => ((evCs C [c] ρ' S).bd fun b S => if b = true then ((evK C e ρ' S).bd toD).bd fun d S => .ok (some d) S else .ok none S).nox
        | none => .bad) I.items S' []).bd fun ds S => .ok (W.lis ds) S
    | none => .bad) = _
  rw [h2]
  dsimp only
  rw [compL_filter (g := fun d => if p d = true then some (f d) else none) hl I.items [] (fun d hd => ?_) (by simpa using hz), List.nil_append]
  · show R.ok _ _ = _
    congr 2
    generalize I.items = l
    clear hc ht
    induction l with
    | nil => rfl
    | cons d r ih =>
      rw [List.filterMap_cons, List.filter_cons]
      by_cases h : p d = true
      · simp only [h, if_true, List.map_cons, ih]
      · simp only [h, if_false, ih]; simp [ih]
  · show ((evCs C [c] ((wipeD ρ own).set i (some d)) S').bd fun b S => if b = true then ((evK C e ((wipeD ρ own).set i (some d)) S).bd toD).bd fun d S => .ok (some d) S else .ok none S).nox = _
    have hc := hc d hd
    have ht := ht d hd
    unfold evB at hc
    unfold evD at ht
    rw [evCs, hc]
    cases hp : p d with
    | false => rfl
    | true =>
      show (((evCs C [] ((wipeD ρ own).set i (some d)) S').bd fun b S => if b = true then ((evK C e ((wipeD ρ own).set i (some d)) S).bd toD).bd fun d S => .ok (some d) S else .ok none S)).nox = _
      rw [evCs]
      show (((evK C e ((wipeD ρ own).set i (some d)) S').bd toD).bd fun d S => R.ok (some d) S).nox = _
      rw [ht hp]
      rfl
/-! ### loops over mapped lists -/
theorem forL_foldM {α β : Type} {live : List (Nat × List D)} {S : Store} (hl : isLive live S) {turn : D → Env → Store → RS} {g : β → D} (E : α → Env) (step : α → β → α) : ∀ (bs : List β) (s : α), (∀ b ∈ bs, ∀ s, turn (g b) (E s) S = .ok .nx (E (step s b)) S) → forL live turn (bs.map g) (E s) S = .ok .nx (E (bs.foldl step s)) S
  | [], s, _ => forL_end hl
  | b :: r, s, h => by
    rw [List.map_cons, forL_nx hl (h b List.mem_cons_self s), List.foldl_cons]
    exact forL_foldM hl E step r (step s b) fun e he => h e (List.mem_cons_of_mem _ he)
theorem forL_foldMI {α β : Type} {live : List (Nat × List D)} {S : Store} (hl : isLive live S) {turn : D → Env → Store → RS} {g : β → D} (E : α → Env) (step : α → β → α) (I : α → Prop) : ∀ (bs : List β) (s : α), I s → (∀ b ∈ bs, ∀ s, I s → turn (g b) (E s) S = .ok .nx (E (step s b)) S ∧ I (step s b)) → forL live turn (bs.map g) (E s) S = .ok .nx (E (bs.foldl step s)) S ∧ I (bs.foldl step s)
  | [], s, hI, _ => ⟨forL_end hl, hI⟩
  | b :: r, s, hI, h => by
    obtain ⟨h1, h2⟩ := h b List.mem_cons_self s hI
    rw [List.map_cons, forL_nx hl h1, List.foldl_cons]
    exact forL_foldMI hl E step I r (step s b) h2 fun e he => h e (List.mem_cons_of_mem _ he)
/-- a loop whose names and store are told by a state -/
theorem forL_J {α β : Type} {live : List (Nat × List D)} {turn : D → Env → Store → RS} {g : β → D} (step : α → β → α) (J : List β → α → Env → Store → Prop) (hl : ∀ l s ρ S, J l s ρ S → isLive live S)
    (ht : ∀ b r s ρ S, J (b :: r) s ρ S → ∃ ρ' S', turn (g b) ρ S = .ok .nx ρ' S' ∧ J r (step s b) ρ' S') : ∀ (bs : List β) (s : α) (ρ : Env) (S : Store), J bs s ρ S → ∃ ρ' S', forL live turn (bs.map g) ρ S = .ok .nx ρ' S' ∧ J [] (bs.foldl step s) ρ' S'
  | [], s, ρ, S, h => ⟨ρ, S, forL_end (hl _ _ _ _ h), h⟩
  | b :: r, s, ρ, S, h => by
    obtain ⟨ρ1, S1, h1, h2⟩ := ht b r s ρ S h
    obtain ⟨ρ2, S2, h3, h4⟩ := forL_J step J hl ht r (step s b) ρ1 S1 h2
    exact ⟨ρ2, S2, by rw [List.map_cons, forL_nx (hl _ _ _ _ h) h1, h3], h4⟩
/-- the starts 0, c, 2 c, .. below n -/
def stn (c n : Nat) : List Nat := (List.range (steps 0 n c)).map fun i => i * c
abbrev dn (n : Nat) : D := .int (n : Nat)
theorem its_r3 {S : Store} {c n : Nat} (hc : 0 < c) (hc2 : c < 1000000) (hn : n ≤ 2 ^ 40) : its .rng3 [.val (.int 0), .val (.int n), .val (.int c)] S = some ⟨(stn c n).map dn, []⟩ := by
  unfold its
  dsimp only
  rw [if_pos]
  · unfold stn intsD
    rw [List.map_map]
    congr 2
    refine List.map_congr_left fun i _ => ?_
    show D.int (0 + (i : Int) * c) = D.int ((i * c : Nat) : Int)
    congr 1
    rw [Int.zero_add, Int.natCast_mul]
  · unfold fits62
    simp only [Bool.and_eq_true, decide_eq_true_eq]
    omega
theorem steps_le {n c : Nat} (hc : 0 < c) : steps 0 n c ≤ n := by
  unfold steps
  split
  · have h : ((n : Int) - 0 - 1) / c ≤ (n : Int) - 1 := by
      have := Int.ediv_le_self (a := (n : Int) - 1) (b := c) (by omega)
      simpa using this
    omega
  · omega
theorem stn_len {n c : Nat} (hc : 0 < c) : (stn c n).length ≤ n := by
  unfold stn
  rw [List.length_map, List.length_range]
  exact steps_le hc
theorem cut_n {S : Store} {l : List Nat} {a : Nat} {c : Int} (hc : 0 ≤ c) (hz : l.length ≤ sizeLine) : cutW (.val (tx l)) (some (a : Int)) (some ((a : Int) + c)) S = .ok (.val (tx ((l.drop a).take c.toNat))) S := by
  rw [show (a : Int) + c = ((a + c.toNat : Nat) : Int) by omega, cut_tx hz, cutD_nat, Nat.add_sub_cancel_left]
@[simp] theorem unds_ints {k : Nat} : ∀ l : List Int, D.unds k (l.map D.int) = true
  | [] => by simp
  | x :: r => by rw [List.map_cons, unds_cons, und_int, unds_ints r]; rfl
@[simp] theorem unds_tx {k : Nat} : ∀ l : List (List Nat), D.unds k (l.map tx) = true
  | [] => by simp
  | x :: r => by rw [List.map_cons, unds_cons, und_str, unds_tx r]; rfl
theorem at_new {S : Store} {o : O} : (S ++ [o])[S.length]? = some o := by simp
theorem set_new {S : Store} {o o' : O} : (S ++ [o]).set S.length o' = S ++ [o'] := by
  rw [List.set_append_right _ _ (Nat.le_refl _), Nat.sub_self]; rfl
/-! ### steps -/
section
variable {C : CF} {ρ ρ' : Env} {S S' S'' : Store}
@[simp] theorem e_c {d : D} : evK C (.c d) ρ S = .ok (.val d) S := by rw [evK]; rfl
theorem e_v0 {i : Nat} : evK C (.v i) ρ S = (match ρ[i]? with | some (some d) => vv d S | _ => .bad) := by rw [evK]; try rfl
@[simp] theorem e_v {i : Nat} {d : D} (h : ρ[i]? = some (some d)) : evK C (.v i) ρ S = .ok (.val d) S := by rw [e_v0, h]; rfl
@[simp] theorem e_p1 {o : P1} {a : Ex} : evK C (.p1 o a) ρ S = (evK C a ρ S).bd fun x S => p1 o x S := by rw [evK]
@[simp] theorem e_p2 {o : P2} {a b : Ex} : evK C (.p2 o a b) ρ S = (evK C a ρ S).bd fun x S => (evK C b ρ S).bd fun y S => p2 o x y S := by rw [evK]
@[simp] theorem e_isi {ts : List Ty} {a : Ex} : evK C (.isi ts a) ρ S = (evK C a ρ S).bd fun x S => isiW ts x S := by rw [evK]
@[simp] theorem e_and {a b : Ex} : evK C (.and_ a b) ρ S = ((evK C a ρ S).bd toB).bd fun c S => if c = true then evK C b ρ S else vv (.bl false) S := by rw [evK]
@[simp] theorem e_or {a b : Ex} : evK C (.or_ a b) ρ S = ((evK C a ρ S).bd toB).bd fun c S => if c = true then vv (.bl true) S else evK C b ρ S := by rw [evK]
@[simp] theorem e_not {a : Ex} : evK C (.not_ a) ρ S = ((evK C a ρ S).bd toB).bd fun c S => vv (.bl (!c)) S := by rw [evK]
@[simp] theorem e_ite {c a b : Ex} : evK C (.ite c a b) ρ S = ((evK C c ρ S).bd toB).bd fun k S => if k = true then evK C a ρ S else evK C b ρ S := by rw [evK]
@[simp] theorem e_tup {es : List Ex} : evK C (.tup es) ρ S = (evDs C es ρ S).bd fun ds S => if ds.length ≤ sizeLine then vv (.tup ds) S else .bad := by rw [evK]
@[simp] theorem e_disp {es : List Ex} : evK C (.disp es) ρ S = (evDs C es ρ S).bd fun ds S => if ds.length ≤ sizeLine then .ok (.lis ds) S else .bad := by rw [evK]
@[simp] theorem e_sl {a : Ex} {lo hi : List Ex} : evK C (.sl a lo hi) ρ S = (evK C a ρ S).bd fun x S => ((evWs C lo ρ S).bd partI).bd fun l S => ((evWs C hi ρ S).bd partI).bd fun h S => cutW x l h S := by rw [evK]
@[simp] theorem e_call {f : Nat} {es : List Ex} : evK C (.call f es) ρ S = (evDs C es ρ S).bd fun ds S => (C f ds S).bd fun d S => vv d S := by rw [evK]
@[simp] theorem e_m0 {k : MK} {o : P1} {a : Ex} : evK C (.m0 k o a) ρ S = (evK C a ρ S).bd fun x S => if k.is S x = true then p1 o x S else .bad := by rw [evK]
@[simp] theorem e_m1 {k : MK} {o : P2} {a b : Ex} : evK C (.m1 k o a b) ρ S = (evK C a ρ S).bd fun x S => if k.is S x = true then (evK C b ρ S).bd fun y S => p2 o x y S else .bad := by rw [evK]
@[simp] theorem e_repl {a v w : Ex} {lo : List Ex} {y z : Str} : evK C (.repl a lo v w y z) ρ S = (evK C a ρ S).bd fun x S => ((evWs C lo ρ S).bd partI).bd fun l S => (evK C v ρ S).bd fun p S => (evK C w ρ S).bd fun q S => replC x l p q y z S := by rw [evK]
@[simp] theorem e_fst {es : List Ex} : evK C (.fst es) ρ S = evJ C es ρ S Str.empty := by rw [evK]
@[simp] theorem e_j0 {acc : Str} : evJ C [] ρ S acc = .ok (.val (.str acc)) S := by rw [evJ]; rfl
@[simp] theorem e_ds0 : evDs C [] ρ S = .ok [] S := by rw [evDs]
@[simp] theorem e_ds {e : Ex} {r : List Ex} : evDs C (e :: r) ρ S = ((evK C e ρ S).bd toD).bd fun d S => (evDs C r ρ S).bd fun ds S => .ok (d :: ds) S := by rw [evDs]
@[simp] theorem e_ws0 : evWs C [] ρ S = .ok [] S := by rw [evWs]
@[simp] theorem e_ws {e : Ex} {r : List Ex} : evWs C (e :: r) ρ S = (evK C e ρ S).bd fun d S => (evWs C r ρ S).bd fun ds S => .ok (d :: ds) S := by rw [evWs]
@[simp] theorem e_D {e : Ex} : evD C e ρ S = (evK C e ρ S).bd toD := rfl
@[simp] theorem e_B {e : Ex} : evB C e ρ S = (evK C e ρ S).bd toB := rfl
@[simp] theorem bd_ok' {α β : Type} {a : α} {f : α → Store → R β} : (R.ok a S).bd f = f a S := rfl
@[simp] theorem toD_val {d : D} : toD (.val d) S = .ok d S := rfl
@[simp] theorem toD_lis {ds : List D} : toD (.lis ds) S = .ok (.ref S.length) (S ++ [.lst ds]) := rfl
@[simp] theorem toB_bl {b : Bool} : toB (.val (.bl b)) S = .ok b S := rfl
@[simp] theorem vv_ok' {d : D} : vv d S = .ok (.val d) S := rfl
@[simp] theorem partI0 : partI [] S = .ok none S := rfl
@[simp] theorem partI1 {i : Int} : partI [.val (.int i)] S = .ok (some i) S := rfl
theorem x_nil : exSs C [] ρ S = .ok .nx ρ S := by rw [exSs]
theorem x_set {i : Nat} {e : Ex} {r : List Stm} {d : D} (h : evD C e ρ S = .ok d S') : exSs C (.set (.nm i) e :: r) ρ S = exSs C r (ρ.set i (some d)) S' := by
  rw [exSs, exS, h]; rfl
theorem x_tp {is : List Nat} {e : Ex} {r : List Stm} {ds : List D} (h : evD C e ρ S = .ok (.tup ds) S') (h2 : bindTs is ds ρ = some ρ') : exSs C (.set (.tp is) e :: r) ρ S = exSs C r ρ' S' := by
  rw [exSs, exS, h]
  show (match bindTs is ds ρ with | some ρ => RS.ok .nx ρ S' | none => .bad).sq _ = _
  rw [h2]; rfl
theorem x_exp {e : Ex} {r : List Stm} {w : W} (h : evK C e ρ S = .ok w S') : exSs C (.exp e :: r) ρ S = exSs C r ρ S' := by
  rw [exSs, exS, h]; rfl
theorem x_ret {e : Ex} {r : List Stm} {d : D} (h : evD C e ρ S = .ok d S') : exSs C (.ret e :: r) ρ S = .ok (.rt d) ρ S' := by
  rw [exSs, exS, h]; rfl
theorem x_ix {o i e : Ex} {r : List Stm} {d : D} {S1 S2 S3 S4 : Store} {w v : W} (h : evD C e ρ S = .ok d S1) (h2 : evK C o ρ S1 = .ok w S2) (h3 : evK C i ρ S2 = .ok v S3) (h4 : setItem w v d S3 = some S4) : exSs C (.setIx o i e :: r) ρ S = exSs C r ρ S4 := by
  rw [exSs, exS, h]
  show (((evK C o ρ S1).st ρ fun x S => (evK C i ρ S).st ρ fun y S => match setItem x y d S with
    | some S => .ok .nx ρ S
    | none => .bad) : RS).sq _ = _
  rw [h2]
  show (((evK C i ρ S2).st ρ fun y S => match setItem w y d S with
    | some S => .ok .nx ρ S
    | none => .bad) : RS).sq _ = _
  rw [h3]
  show ((match setItem w v d S3 with
    | some S => .ok .nx ρ S
    | none => .bad) : RS).sq _ = _
  rw [h4]; rfl
theorem x_ift {c : Ex} {a b r : List Stm} (h : evB C c ρ S = .ok true S') : exSs C (.iff c a b :: r) ρ S = (exSs C a ρ S').sq fun ρ S => exSs C r ρ S := by
  rw [exSs, exS, h]; rfl
theorem x_iff {c : Ex} {a b r : List Stm} (h : evB C c ρ S = .ok false S') : exSs C (.iff c a b :: r) ρ S = (exSs C b ρ S').sq fun ρ S => exSs C r ρ S := by
  rw [exSs, exS, h]; rfl
theorem y_set {i : Nat} {e : Ex} {r : List Stm} (d : D) (h : evD C e ρ S = .ok d S) : exSs C (.set (.nm i) e :: r) ρ S = exSs C r (ρ.set i (some d)) S := x_set h
theorem y_tp {is : List Nat} {e : Ex} {r : List Stm} (ds : List D) (h : evD C e ρ S = .ok (.tup ds) S) (h2 : bindTs is ds ρ = some ρ') : exSs C (.set (.tp is) e :: r) ρ S = exSs C r ρ' S := x_tp h h2
theorem y_exp {e : Ex} {r : List Stm} (w : W) (h : evK C e ρ S = .ok w S) : exSs C (.exp e :: r) ρ S = exSs C r ρ S := x_exp h
theorem y_ret {e : Ex} {r : List Stm} {d : D} (h : evD C e ρ S = .ok d S) : exSs C (.ret e :: r) ρ S = .ok (.rt d) ρ S := x_ret h
/-- an if without else, not taken -/
theorem x_if0 {c : Ex} {a r : List Stm} (h : evB C c ρ S = .ok false S') : exSs C (.iff c a [] :: r) ρ S = exSs C r ρ S' := by
  rw [x_iff h, x_nil]; rfl
/-- an if that returns -/
theorem x_if1 {c e : Ex} {b r : List Stm} {d : D} (h : evB C c ρ S = .ok true S') (h2 : evD C e ρ S' = .ok d S'') : exSs C (.iff c [.ret e] b :: r) ρ S = .ok (.rt d) ρ S'' := by
  rw [x_ift h, x_ret h2]; rfl
theorem y_if0 {c : Ex} {a r : List Stm} (h : evB C c ρ S = .ok false S) : exSs C (.iff c a [] :: r) ρ S = exSs C r ρ S := x_if0 h
theorem y_ift {c : Ex} {a b r : List Stm} (h : evB C c ρ S = .ok true S) : exSs C (.iff c a b :: r) ρ S = (exSs C a ρ S).sq fun ρ S => exSs C r ρ S := x_ift h
theorem y_iff {c : Ex} {a b r : List Stm} (h : evB C c ρ S = .ok false S) : exSs C (.iff c a b :: r) ρ S = (exSs C b ρ S).sq fun ρ S => exSs C r ρ S := x_iff h
theorem y_if1 {c e : Ex} {b r : List Stm} {d : D} (h : evB C c ρ S = .ok true S) (h2 : evD C e ρ S = .ok d S) : exSs C (.iff c [.ret e] b :: r) ρ S = .ok (.rt d) ρ S := x_if1 h h2
theorem x_for {i : Nat} {k : IK} {is : List Ex} {b r : List Stm} {ws : List W} {I : Its} (h : evWs C is ρ S = .ok ws S') (h2 : its k ws S' = some I) (h3 : forL I.live (fun d ρ S => exSs C b (ρ.set i (some d)) S) I.items ρ S' = .ok .nx ρ' S'') : exSs C (.for_ (.nm i) k is b :: r) ρ S = exSs C r ρ' S'' := by
  rw [exSs, exS, h]
  show ((match its k ws S' with
    | some I => forL I.live (fun d ρ S => exSs C b (ρ.set i (some d)) S) I.items ρ S'
    | none => .bad) : RS).sq _ = _
  rw [h2]
  dsimp only
  rw [h3]; rfl
theorem x_forR {i : Nat} {k : IK} {is : List Ex} {b r : List Stm} {ws : List W} {I : Its} {d : D} (h : evWs C is ρ S = .ok ws S') (h2 : its k ws S' = some I) (h3 : forL I.live (fun d ρ S => exSs C b (ρ.set i (some d)) S) I.items ρ S' = .ok (.rt d) ρ' S'') : exSs C (.for_ (.nm i) k is b :: r) ρ S = .ok (.rt d) ρ' S'' := by
  rw [exSs, exS, h]
  show ((match its k ws S' with
    | some I => forL I.live (fun d ρ S => exSs C b (ρ.set i (some d)) S) I.items ρ S'
    | none => .bad) : RS).sq _ = _
  rw [h2]
  dsimp only
  rw [h3]; rfl
theorem x_whl {c : Ex} {b r : List Stm} {n : Nat} (h : whileF (evB C c) (exSs C b) n ρ S = some (.ok .nx ρ' S')) : exSs C (.whl c b :: r) ρ S = exSs C r ρ' S' := by
  rw [exSs, exS, whileR_of h]; rfl
theorem x_whlR {c : Ex} {b r : List Stm} {n : Nat} {d : D} (h : whileF (evB C c) (exSs C b) n ρ S = some (.ok (.rt d) ρ' S')) : exSs C (.whl c b :: r) ρ S = .ok (.rt d) ρ' S' := by
  rw [exSs, exS, whileR_of h]; rfl
theorem x_aug {i : Nat} {o : P2} {e : Ex} {r : List Stm} {x d : D} {w : W} (h : ρ[i]? = some (some x)) (h2 : evK C e ρ S = .ok w S') (h3 : augV o x w = some d) : exSs C (.aug i o e :: r) ρ S = exSs C r (ρ.set i (some d)) S' := by
  rw [exSs, exS, h]
  show (((evK C e ρ S).st ρ fun y S => match augV o x y with
      | some d => .ok .nx (ρ.set i (some d)) S
      | none => .bad) : RS).sq _ = _
  rw [h2]
  show ((match augV o x w with
      | some d => .ok .nx (ρ.set i (some d)) S'
      | none => .bad) : RS).sq _ = _
  rw [h3]; rfl
theorem r_run {tab : Nat → Option Fn} {n i : Nat} {F : Fn} {ds : List D} {d : D} {r : R D} (h : tab i = some F) (hl : ds.length = F.np) (hx : ∃ ρ', exSs (run tab n) F.body (ds.map some ++ List.replicate (F.nl - F.np) none) S = .ok (.rt d) ρ' S') (hp : pack S d S' = r) : run tab (n + 1) i ds S = r := by
  obtain ⟨_, hx⟩ := hx
  rw [run_fin h hl, hx]; exact hp
theorem r_runN {tab : Nat → Option Fn} {n i : Nat} {F : Fn} {ds : List D} {r : R D} (h : tab i = some F) (hl : ds.length = F.np) (hx : ∃ ρ', exSs (run tab n) F.body (ds.map some ++ List.replicate (F.nl - F.np) none) S = .ok .nx ρ' S') (hp : pack S .non S' = r) : run tab (n + 1) i ds S = r := by
  obtain ⟨_, hx⟩ := hx
  rw [run_fin h hl, hx]; exact hp
end
/-- a new object behind others that nobody knows -/
theorem pack_fresh {S T : Store} {m : Nat} {o : O} (hm : S.length ≤ m) (hT : (S ++ T)[m]? = some o) (ho : o.und S.length = true) : pack S (.ref m) (S ++ T) = .ok (.ref S.length) (S ++ [o]) := by
  unfold pack
  rw [if_pos (keeps_app S T), if_neg (by unfold D.und; simp; exact hm)]
  dsimp only
  rw [hT]
  show (if o.und S.length = true then _ else _) = _
  rw [if_pos ho, List.take_left]
theorem fold_snoc {α β : Type} (f : α → β) : ∀ (bs : List α) (acc : List β), bs.foldl (fun s a => s ++ [f a]) acc = acc ++ bs.map f
  | [], acc => by simp
  | b :: r, acc => by rw [List.foldl_cons, fold_snoc f r]; simp
/-- a part of an f-string -/
theorem y_j {C : CF} {ρ : Env} {S : Store} {e : Ex} {r : List Ex} {a y : List Nat} (h : evK C e ρ S = .ok (.val (tx y)) S) (hz : (a ++ y).length ≤ sizeLine) : evJ C (e :: r) ρ S (SX.S a) = evJ C r ρ S (SX.S (a ++ y)) := by
  rw [evJ, h]
  show (if (SX.S a ++ SX.S y).length ≤ sizeLine then evJ C r ρ S (SX.S a ++ SX.S y) else .bad) = _
  rw [SX.S_cat, SX.S_len, if_pos hz]
/-- it returns -/
abbrev Rt (r : RS) (d : D) (S' : Store) : Prop := ∃ ρ', r = .ok (.rt d) ρ' S'
theorem Rt.go {a b : RS} {d : D} {S' : Store} (h : a = b) (k : Rt b d S') : Rt a d S' := by rw [h]; exact k
theorem Rt.fin {a : RS} {d : D} {ρ : Env} {S' : Store} (h : a = .ok (.rt d) ρ S') : Rt a d S' := ⟨ρ, h⟩
end Mi

namespace Mi.L
open PySem Mi
/-- plain signs -/
def low (l : List Nat) : Prop := ∀ x ∈ l, x < 128
theorem low_drop {l : List Nat} (h : low l) (a : Nat) : low (l.drop a) := fun x hx => h x (List.mem_of_mem_drop hx)
theorem low_take {l : List Nat} (h : low l) (a : Nat) : low (l.take a) := fun x hx => h x (List.mem_of_mem_take hx)
theorem low_app {l m : List Nat} (h : low l) (h2 : low m) : low (l ++ m) := fun x hx => (List.mem_append.mp hx).elim (h x) (h2 x)
def code7 (l : List Nat) : Int := l.foldl (fun (c : Int) (x : Nat) => 128 * c + x) 0
def cds (l : List Nat) : List Int := (stn 7 l.length).map fun a => code7 ((l.drop a).take 7)
theorem p128 : ∀ (k : Nat), k ≤ 27 → (128 : Int) ^ k ≤ 128 ^ 27 := by decide +kernel
theorem r_text_codes {n : Nat} {S : Store} {l : List Nat} (hz : l.length ≤ 1000000) (hl : low l) : run tab (n + 1) 0 [tx l] S = .ok (.ref S.length) (S ++ [.lst ((cds l).map D.int)]) := by
  have hz' : l.length ≤ sizeLine := Nat.le_trans hz (by decide)
  have i3 : ∀ T : Store, its .rng3 [.val (.int 0), .val (.int l.length), .val (.int 7)] T = some ⟨(stn 7 l.length).map dn, []⟩ := fun T => its_r3 (by decide) (by decide) (Nat.le_trans hz (by decide))
  have hs7 := stn_len (n := l.length) (c := 7) (by decide)
  obtain ⟨ρ', S', lp, y2, y3, y4, rfl, rfl, _⟩ := forL_J (live := []) (turn := fun d ρ S => exSs (run tab n) b0_1 (ρ.set 2 (some d)) S) (g := dn) (α := List Int) (fun s a => s ++ [code7 ((l.drop a).take 7)])
    (fun r s ρ T => ∃ x2 x3 x4 : Option D, ρ = [some (tx l), some (.ref S.length), x2, x3, x4] ∧ T = S ++ [.lst (s.map D.int)] ∧ s.length + r.length ≤ sizeLine)
    (fun _ _ _ _ _ => isLive_nil) (fun a r s ρ T ⟨x2, x3, x4, h1, h2, h3⟩ => by
      subst h1; subst h2
      have hk : ((l.drop a).take 7).length ≤ 7 := List.length_take_le _ _
      obtain ⟨ρ', S', lp, y, k, rfl, rfl, _⟩ := forL_J (live := []) (turn := fun d ρ S => exSs (run tab n) b0_0 (ρ.set 4 (some d)) S) (g := fun c => tx [c]) (α := Int) (fun (c : Int) (x : Nat) => 128 * c + x)
        (fun r c ρ T => ∃ (y : Option D) (k : Nat), ρ = [some (tx l), some (.ref S.length), some (.int a), some (.int c), y] ∧ T = S ++ [.lst (s.map D.int)] ∧ low r ∧ 0 ≤ c ∧ c < 128 ^ k ∧ k + r.length ≤ 27)
        (fun _ _ _ _ _ => isLive_nil) (fun b r c ρ T ⟨y, k, h1, h2, h3, h4, h5, h6⟩ => by
          subst h1; subst h2
          rw [List.length_cons] at h6
          have hb := p128 k (by omega)
          have hb2 : (128 : Int) ^ 27 < 2 ^ 200 := by decide
          have he : (128 : Int) ^ (k + 1) = 128 ^ k * 128 := Int.pow_succ _ _
          have ha : b < 128 := h3 b List.mem_cons_self
          have m1 : ∀ T : Store, p2 .mul (.val (.int 128)) (.val (.int c)) T = .ok (.val (.int (128 * c))) T := fun T => mul_ok (by decide) (by omega)
          have o1 : ∀ T : Store, p1 .ord (.val (tx [b])) T = .ok (.val (.int b)) T := fun T => ord_tx
          refine ⟨_, _, ?_, some (tx [b]), k + 1, rfl, rfl, fun z hz => h3 z (List.mem_cons_of_mem _ hz), by omega, by rw [he]; omega, by omega⟩
          refine (y_set (.int (128 * c + b)) (by simp [m1, add_ok, o1])).trans ?_
          exact x_nil) ((l.drop a).take 7) 0 [some (tx l), some (.ref S.length), some (.int a), some (.int 0), x4] (S ++ [.lst (s.map D.int)])
        ⟨x4, 0, rfl, rfl, low_take (low_drop hl a) 7, by decide, by decide, by omega⟩
      rw [List.length_cons] at h3
      have cu := cut_n (S := S ++ [.lst (s.map D.int)]) (l := l) (a := a) (c := 7) (by decide) hz'
      have ap := app_at (k := S.length) (w := .int (code7 ((l.drop a).take 7))) (at_new (S := S) (o := .lst (s.map D.int))) (by rw [List.length_map]; omega)
      have ik := isK_at (at_new (S := S) (o := .lst (s.map D.int)))
      have it : ∀ T : Store, its .it [.val (tx ((l.drop a).take 7))] T = some ⟨((l.drop a).take 7).map fun c => tx [c], []⟩ := fun T => its_tx
      rw [set_new] at ap
      refine ⟨_, S ++ [.lst (s.map D.int ++ [.int (code7 ((l.drop a).take 7))])], ?_, some (dn a), some (.int (code7 ((l.drop a).take 7))), y, rfl, by rw [List.map_append]; rfl, by rw [List.length_append, List.length_singleton]; omega⟩
      have pi : ∀ (i : Int) (T : Store), partI [.val (.int i)] T = .ok (some i) T := fun i T => rfl
      show exSs (run tab n) b0_1 [some (tx l), some (.ref S.length), some (dn a), x3, x4] _ = _
      unfold code7 at *
      generalize ((l.drop a).take 7).foldl (fun (c : Int) (x : Nat) => 128 * c + x) 0 = cc at *
      generalize S ++ [O.lst (s.map D.int ++ [D.int cc])] = T2 at *
      generalize S ++ [O.lst (s.map D.int)] = T1 at *
      rw [show (Int.toNat 7) = 7 from rfl] at cu
      generalize (l.drop a).take 7 = pc at *
      rw [show b0_1 = [.set (.nm 3) (.c (.int 0)), .for_ (.nm 4) .it [(.sl (.v 0) [(.v 2)] [(.p2 .add (.v 2) (.c (.int 7)))])] b0_0, .exp (.m1 .list .append (.v 1) (.v 3))] from rfl]
      refine (y_set (.int 0) (by simp)).trans ?_
      refine (x_for (S' := T1) (ws := [.val (tx pc)]) (by simp [add_ok, cu]) (it _) lp).trans ?_
      refine (x_exp (w := .val .non) (S' := T2) (by simp [ik, ap])).trans ?_
      exact x_nil)
    (stn 7 l.length) [] [some (tx l), some (.ref S.length), none, none, none] (S ++ [.lst []]) ⟨none, none, none, rfl, rfl, by simp only [List.length_nil]; omega⟩
  have ec : (stn 7 l.length).foldl (fun s a => s ++ [code7 ((l.drop a).take 7)]) [] = cds l := by
    unfold cds
    have : ∀ (bs : List Nat) (acc : List Int), bs.foldl (fun s a => s ++ [code7 ((l.drop a).take 7)]) acc = acc ++ bs.map fun a => code7 ((l.drop a).take 7) := by
      intro bs
      induction bs with
      | nil => intro acc; simp
      | cons b r ih => intro acc; rw [List.foldl_cons, ih]; simp
    rw [this, List.nil_append]
  rw [ec] at lp
  refine r_run (F := ⟨1, 5, b0⟩) rfl rfl ?_ (pack_new (unds_ints _))
  apply Exists.intro
  refine (x_set (d := .ref S.length) (S' := S ++ [.lst []]) (by simp)).trans ?_
  refine (x_for (S' := S ++ [.lst []]) (ws := [.val (.int 0), .val (.int l.length), .val (.int 7)]) (by simp [len_tx hz']) (its_r3 (c := 7) (n := l.length) (by decide) (by decide) (Nat.le_trans hz (by decide))) lp).trans ?_
  exact y_ret (by simp)
end Mi.L

namespace Mi.L
open PySem Mi
/-! ### seals -/
def ic (i : Int) : List Int := [2, (i + 1000000000000000000000000000000) / 1000000000000000, (i + 1000000000000000000000000000000) % 1000000000000000]
def sc (l : List Nat) : List Int := [3, (l.length : Int)] ++ cds l
def pc (i : Int) (l : List Nat) : List Int := [4, 2] ++ ic i ++ sc l
def slf (cs : List Int) : Int := cs.foldl (fun h c => (h * 1234567890123456789 + c) % 2305843009213693951) 7
def sl (cs : List Int) : Int := slf cs + 1
theorem isN_int {S : Store} {i : Int} : p1 .isN (.val (.int i)) S = .ok (.val (.bl false)) S := rfl
theorem isN_tx {S : Store} {l : List Nat} : p1 .isN (.val (tx l)) S = .ok (.val (.bl false)) S := rfl
theorem isN_tup {S : Store} {ds : List D} : p1 .isN (.val (.tup ds)) S = .ok (.val (.bl false)) S := rfl
theorem isi_int {S : Store} {i : Int} : isiW [.int] (.val (.int i)) S = .ok (.val (.bl true)) S := rfl
theorem isi_int_tx {S : Store} {l : List Nat} : isiW [.int] (.val (tx l)) S = .ok (.val (.bl false)) S := rfl
theorem isi_int_tup {S : Store} {ds : List D} : isiW [.int] (.val (.tup ds)) S = .ok (.val (.bl false)) S := rfl
theorem isi_str_tx {S : Store} {l : List Nat} : isiW [.str] (.val (tx l)) S = .ok (.val (.bl true)) S := rfl
theorem isi_str_tup {S : Store} {ds : List D} : isiW [.str] (.val (.tup ds)) S = .ok (.val (.bl false)) S := rfl
theorem sz2 : (2 : Nat) ≤ sizeLine := by decide
theorem sz3 : (3 : Nat) ≤ sizeLine := by decide
theorem r_codes_int {n : Nat} {S : Store} {i : Int} : run tab (n + 1) 1 [.int i] S = .ok (.ref S.length) (S ++ [.lst ((ic i).map D.int)]) := by
  refine r_run (F := ⟨1, 3, b1⟩) rfl rfl ?_ (pack_new (unds_ints _))
  apply Exists.intro
  refine (y_if0 (by simp [isN_int])).trans ?_
  refine x_if1 (S' := S) (by simp [isi_int]) ?_
  have f1 := fdiv_ok (S := S) (i := i + 1000000000000000000000000000000) (j := 1000000000000000) (by decide) (by decide)
  have m1 := mod_ok (S := S) (i := i + 1000000000000000000000000000000) (j := 1000000000000000) (by decide)
  simp [add_ok, f1, m1, sz3, ic]
theorem cds_len (l : List Nat) : (cds l).length ≤ l.length := by
  unfold cds
  rw [List.length_map]
  exact stn_len (by decide)
theorem r_codes_str {n : Nat} {S : Store} {l : List Nat} (hz : l.length ≤ 1000000) (hl : low l) : run tab (n + 2) 1 [tx l] S = .ok (.ref S.length) (S ++ [.lst ((sc l).map D.int)]) := by
  have hz' : l.length ≤ sizeLine := Nat.le_trans hz (by decide)
  have hc := cds_len l
  have h1 := r_text_codes (n := n) (S := S) hz hl
  have ad := lis_add_at (xs := [.int 3, .int l.length]) (at_new (S := S) (o := .lst ((cds l).map D.int))) (by simp only [List.length_cons, List.length_nil, List.length_map]; exact Nat.le_trans (by omega : _ ≤ 1000002) (by decide))
  refine r_run (F := ⟨1, 3, b1⟩) rfl rfl (d := .ref (S.length + 1)) (S' := S ++ [.lst ((cds l).map D.int), .lst ((sc l).map D.int)]) ?_ (pack_fresh (by omega) (by rw [List.getElem?_append_right (by omega), Nat.add_sub_cancel_left]; rfl) (unds_ints _))
  apply Exists.intro
  refine (y_if0 (by simp [isN_tx])).trans ?_
  refine (y_if0 (by simp [isi_int_tx])).trans ?_
  refine x_if1 (S' := S) (by simp [isi_str_tx]) ?_
  simp [len_tx hz', sz2, h1, ad, sc]
theorem r_codes_pair {n : Nat} {S : Store} {i : Int} {l : List Nat} (hz : l.length ≤ 1000000) (hl : low l) : run tab (n + 3) 1 [.tup [.int i, tx l]] S = .ok (.ref S.length) (S ++ [.lst ((pc i l).map D.int)]) := by
  have hc := cds_len l
  obtain ⟨A, hA⟩ : ∃ A, A = [D.int 4, D.int 2] ++ (ic i).map D.int := ⟨_, rfl⟩
  obtain ⟨I, hI⟩ : ∃ I, I = (ic i).map D.int := ⟨_, rfl⟩
  obtain ⟨L, hL⟩ : ∃ L, L = (sc l).map D.int := ⟨_, rfl⟩
  obtain ⟨B, hB⟩ : ∃ B, B = (pc i l).map D.int := ⟨_, rfl⟩
  obtain ⟨Z, hZ⟩ : ∃ Z, Z = [D.int 4, D.int 2] := ⟨_, rfl⟩
  have hAB : A ++ L = B := by rw [hA, hL, hB]; simp [pc]
  have hZI : Z ++ I = A := by rw [hZ, hI, hA]
  have c1 := r_codes_int (n := n + 1) (S := S ++ [.lst Z]) (i := i)
  have c2 := r_codes_str (n := n) (S := S ++ [.lst A, .lst I]) hz hl
  have hIl : I.length = 3 := by rw [hI]; simp [ic]
  have hAl : A.length = 5 := by rw [hA]; simp [ic]
  have hZl : Z.length = 2 := by rw [hZ]; rfl
  have hLl : L.length ≤ 1000002 := by rw [hL]; unfold sc; simp; omega
  rw [← hI] at c1
  rw [← hL] at c2
  refine r_run (F := ⟨1, 3, b1⟩) rfl rfl (d := .ref S.length) (S' := S ++ [.lst B, .lst I, .lst L]) ?_ (pack_fresh (Nat.le_refl _) (by simp [hB]) (unds_ints _))
  apply Exists.intro
  refine (y_if0 (by simp [isN_tup])).trans ?_
  refine (y_if0 (by simp [isi_int_tup])).trans ?_
  refine (y_if0 (by simp [isi_str_tup])).trans ?_
  refine (x_set (d := .ref S.length) (S' := S ++ [.lst Z]) (by simp [len_tup, sz2, hZ])).trans ?_
  refine (x_for (S' := S ++ [.lst Z]) (S'' := S ++ [.lst B, .lst I, .lst L]) (ws := [.val (.tup [.int i, tx l])]) (I := ⟨[.int i, tx l], []⟩) (ρ' := [some (.tup [.int i, tx l]), some (.ref S.length), some (tx l)]) (by simp) rfl ?_).trans ?_
  · refine (forL_nx isLive_nil (ρ' := [some (.tup [.int i, tx l]), some (.ref S.length), some (.int i)]) (S' := S ++ [.lst A, .lst I]) ?_).trans ?_
    · refine (x_exp (w := .val .non) (S' := S ++ [.lst A, .lst I]) ?_).trans x_nil
      have hk : MK.list.is (S ++ [O.lst Z]) (.val (.ref S.length)) = true := isK_at at_new
      have ex := ext_at (S := S ++ [O.lst Z] ++ [.lst I]) (k := S.length) (ds := Z) (m := (S ++ [O.lst Z]).length) (es := I) (by simp) (by simp) (by rw [hIl, hZl]; decide)
      have st : (S ++ [O.lst Z] ++ [O.lst I]).set S.length (.lst (Z ++ I)) = S ++ [.lst A, .lst I] := by simp [hZI]
      rw [st] at ex
      show evK (run tab (n + 2)) (.m1 .list .extend (.v 1) (.call 1 [.v 2])) [some (.tup [.int i, tx l]), some (.ref S.length), some (.int i)] (S ++ [O.lst Z]) = _
      have v1 : ∀ T, evK (run tab (n + 2)) (.v 1) [some (.tup [.int i, tx l]), some (.ref S.length), some (.int i)] T = .ok (.val (.ref S.length)) T := fun T => e_v rfl
      have v2 : ∀ T, evK (run tab (n + 2)) (.v 2) [some (.tup [.int i, tx l]), some (.ref S.length), some (.int i)] T = .ok (.val (.int i)) T := fun T => e_v rfl
      simp only [e_m1, v1, v2, e_call, e_ds, e_ds0, bd_ok', hk, if_true, toD_val, c1, vv_ok', ex]
    · refine (forL_nx isLive_nil (ρ' := [some (.tup [.int i, tx l]), some (.ref S.length), some (tx l)]) (S' := S ++ [.lst B, .lst I, .lst L]) ?_).trans (forL_end isLive_nil)
      refine (x_exp (w := .val .non) (S' := S ++ [.lst B, .lst I, .lst L]) ?_).trans x_nil
      have hk : MK.list.is (S ++ [O.lst A, .lst I]) (.val (.ref S.length)) = true := isK_at (ds := A) (by simp)
      have ex := ext_at (S := S ++ [O.lst A, .lst I] ++ [.lst L]) (k := S.length) (ds := A) (m := (S ++ [O.lst A, .lst I]).length) (es := L) (by simp) (by simp) (Nat.le_trans (by omega : _ ≤ 1000010) (by decide))
      have st : (S ++ [O.lst A, O.lst I] ++ [O.lst L]).set S.length (.lst (A ++ L)) = S ++ [.lst B, .lst I, .lst L] := by simp [hAB]
      rw [st] at ex
      show evK (run tab (n + 2)) (.m1 .list .extend (.v 1) (.call 1 [.v 2])) [some (.tup [.int i, tx l]), some (.ref S.length), some (tx l)] (S ++ [O.lst A, O.lst I]) = _
      have v1 : ∀ T, evK (run tab (n + 2)) (.v 1) [some (.tup [.int i, tx l]), some (.ref S.length), some (tx l)] T = .ok (.val (.ref S.length)) T := fun T => e_v rfl
      have v2 : ∀ T, evK (run tab (n + 2)) (.v 2) [some (.tup [.int i, tx l]), some (.ref S.length), some (tx l)] T = .ok (.val (tx l)) T := fun T => e_v rfl
      simp only [e_m1, v1, v2, e_call, e_ds, e_ds0, bd_ok', hk, if_true, toD_val, c2, vv_ok', ex]
  · exact y_ret (by simp)
end Mi.L

namespace Mi.L
open PySem Mi
theorem slf_rng : ∀ (cs : List Int) (s : Int), 0 ≤ s → s < 2305843009213693951 → 0 ≤ cs.foldl (fun h c => (h * 1234567890123456789 + c) % 2305843009213693951) s ∧ cs.foldl (fun h c => (h * 1234567890123456789 + c) % 2305843009213693951) s < 2305843009213693951
  | [], s, h0, h1 => ⟨h0, h1⟩
  | c :: r, s, h0, h1 => by
    rw [List.foldl_cons]
    exact slf_rng r _ (Int.emod_nonneg _ (by decide)) (Int.emod_lt_of_pos _ (by decide))
theorem sl_rng (cs : List Int) : 1 ≤ sl cs ∧ sl cs ≤ 2305843009213693951 := by
  have := slf_rng cs 7 (by decide) (by decide)
  unfold sl slf
  omega
theorem r_seal {n : Nat} {S : Store} {i : Int} {l : List Nat} (hz : l.length ≤ 1000000) (hl : low l) : run tab (n + 4) 2 [.tup [.int i, tx l]] S = .ok (.int (sl (pc i l))) S := by
  have c1 := r_codes_pair (n := n) (S := S) (i := i) hz hl
  obtain ⟨ρ', S', lp, x, rfl, rfl, _⟩ := forL_J (live := [(S.length, (pc i l).map D.int)]) (turn := fun d ρ S => exSs (run tab (n + 3)) b2_0 (ρ.set 2 (some d)) S) (g := D.int) (α := Int) (fun h c => (h * 1234567890123456789 + c) % 2305843009213693951)
    (fun r s ρ T => ∃ x : Option D, ρ = [some (.tup [.int i, tx l]), some (.int s), x] ∧ T = S ++ [.lst ((pc i l).map D.int)] ∧ 0 ≤ s ∧ s < 2305843009213693951)
    (fun _ _ _ _ ⟨_, _, h, _⟩ => by rw [h]; exact live_at at_new) (fun c r s ρ T ⟨x, h1, h2, h3, h4⟩ => by
      subst h1; subst h2
      refine ⟨_, _, ?_, some (.int c), rfl, rfl, Int.emod_nonneg _ (by decide), Int.emod_lt_of_pos _ (by decide)⟩
      have m1 := mul_ok (S := S ++ [.lst ((pc i l).map D.int)]) (i := s) (j := 1234567890123456789) (by omega) (by decide)
      have m2 := mod_ok (S := S ++ [.lst ((pc i l).map D.int)]) (i := s * 1234567890123456789 + c) (j := 2305843009213693951) (by decide)
      refine (y_set (.int ((s * 1234567890123456789 + c) % 2305843009213693951)) ?_).trans x_nil
      simp [m1, m2, add_ok]) (pc i l) 7 [some (.tup [.int i, tx l]), some (.int 7), none] (S ++ [.lst ((pc i l).map D.int)]) ⟨none, rfl, rfl, by decide, by decide⟩
  refine r_run (F := ⟨1, 3, b2⟩) rfl rfl ?_ (pack_app (T := [.lst ((pc i l).map D.int)]) und_int)
  apply Exists.intro
  refine (y_set (.int 7) (by simp)).trans ?_
  refine (x_for (S' := S ++ [.lst ((pc i l).map D.int)]) (ws := [.val (.ref S.length)]) (by simp [c1]) (its_at at_new) lp).trans ?_
  exact y_ret (by simp [add_ok]; rfl)
/-- the check -/
def ckf (l : List Nat) (f : Int) (a : Nat) : Int := sl (pc f (rp1 10 59 ((l.drop a).take 50)))
def ck (l : List Nat) : Int := (stn 50 l.length).foldl (ckf l) 0
theorem ck_rng (l : List Nat) : 0 ≤ ck l ∧ ck l ≤ 2305843009213693951 := by
  have : ∀ (bs : List Nat) (s : Int), 0 ≤ s → s ≤ 2305843009213693951 → 0 ≤ bs.foldl (ckf l) s ∧ bs.foldl (ckf l) s ≤ 2305843009213693951 := by
    intro bs
    induction bs with
    | nil => intro s h0 h1; exact ⟨h0, h1⟩
    | cons b r ih =>
      intro s h0 h1
      rw [List.foldl_cons]
      have := sl_rng (pc s (rp1 10 59 ((l.drop b).take 50)))
      exact ih _ (by unfold ckf; omega) (by unfold ckf; omega)
  exact this _ 0 (by decide) (by decide)
theorem low_rp {l : List Nat} {y z : Nat} (hz : z < 128) (h : low l) : low (rp1 y z l) := by
  intro x hx
  unfold rp1 at hx
  obtain ⟨c, hc, rfl⟩ := List.mem_map.mp hx
  by_cases e : c = y
  · rw [if_pos e]; exact hz
  · rw [if_neg e]; exact h c hc
theorem rp_len {l : List Nat} {y z : Nat} : (rp1 y z l).length = l.length := by unfold rp1; rw [List.length_map]
theorem nl_S : (("\n" : String) : Str) = SX.S [10] := by decide +kernel
theorem sc_S : ((";" : String) : Str) = SX.S [59] := by decide +kernel
theorem rc50 {S : Store} {l : List Nat} {a : Nat} (hz : l.length ≤ 1000000) : replC (.val (tx l)) (some (a : Int)) (.val (.int a)) (.val (.int 50)) "\n" ";" S = .ok (.val (tx (rp1 10 59 ((l.drop a).take 50)))) S := by
  rw [nl_S, sc_S, replC_tx hz, show (a : Int) + 50 = ((a + 50 : Nat) : Int) by omega, cutD_nat, Nat.add_sub_cancel_left]
theorem pc_len (l : List Nat) (a k : Nat) : (rp1 10 59 ((l.drop a).take k)).length ≤ l.length := by
  rw [rp_len, List.length_take, List.length_drop]; omega
theorem r_check {n : Nat} {S : Store} {l : List Nat} (hz : l.length ≤ 1000000) (hl : low l) : run tab (n + 5) 3 [tx l] S = .ok (.int (ck l)) S := by
  have hz' : l.length ≤ sizeLine := Nat.le_trans hz (by decide)
  obtain ⟨ρ', S', lp, x, rfl, rfl⟩ := forL_J (live := []) (turn := fun d ρ S => exSs (run tab (n + 4)) b3_0 (ρ.set 2 (some d)) S) (g := dn) (α := Int) (ckf l)
    (fun r s ρ T => ∃ x : Option D, ρ = [some (tx l), some (.int s), x] ∧ S = T)
    (fun _ _ _ _ _ => isLive_nil) (fun a r s ρ T ⟨x, h1, h2⟩ => by
      subst h1; subst h2
      refine ⟨_, _, ?_, some (dn a), rfl, rfl⟩
      have sl1 := r_seal (n := n) (S := S) (i := s) (l := rp1 10 59 ((l.drop a).take 50)) (Nat.le_trans (pc_len l a 50) hz) (low_rp (by decide) (low_take (low_drop hl a) 50))
      refine (y_set (.int (ckf l s a)) ?_).trans x_nil
      simp [rc50 hz, sz2, sl1, ckf]) (stn 50 l.length) 0 [some (tx l), some (.int 0), none] S ⟨none, rfl, rfl⟩
  refine r_run (F := ⟨1, 3, b3⟩) rfl rfl ?_ (pack_same und_int)
  apply Exists.intro
  refine (y_set (.int 0) (by simp)).trans ?_
  refine (x_for (S' := S) (ws := [.val (.int 0), .val (.int l.length), .val (.int 50)]) (by simp [len_tx hz']) (its_r3 (c := 50) (n := l.length) (by decide) (by decide) (Nat.le_trans hz (by decide))) lp).trans ?_
  exact y_ret (by simp; rfl)
end Mi.L

namespace Mi.L
open PySem Mi
theorem code7_alt (l : List Nat) : ∀ c : Int, l.foldl (fun (c : Int) (x : Nat) => c * 128 + x) c = l.foldl (fun (c : Int) (x : Nat) => 128 * c + x) c := by
  induction l with
  | nil => intro c; rfl
  | cons a r ih => intro c; rw [List.foldl_cons, List.foldl_cons, ih, Int.mul_comm]
theorem p10_30 {S : Store} : p2 .pow (.val (.int 10)) (.val (.int 30)) S = .ok (.val (.int 1000000000000000000000000000000)) S := pow_ok (by decide)
theorem p10_15 {S : Store} : p2 .pow (.val (.int 10)) (.val (.int 15)) S = .ok (.val (.int 1000000000000000)) S := pow_ok (by decide)
theorem p2_61 {S : Store} : p2 .pow (.val (.int 2)) (.val (.int 61)) S = .ok (.val (.int 2305843009213693952)) S := pow_ok (by decide)
theorem sub_61 {S : Store} : p2 .sub (.val (.int 2305843009213693952)) (.val (.int 1)) S = .ok (.val (.int 2305843009213693951)) S := rfl
theorem sz7 : (7 : Nat) ≤ sizeLine := by decide
theorem r_lsealed {n : Nat} {S : Store} {i : Int} {l : List Nat} (hz : l.length ≤ 1000000) (hl : low l) : run tab (n + 1) 13 [.int i, tx l] S = .ok (.int (sl (pc i l))) S := by
  have hz' : l.length ≤ sizeLine := Nat.le_trans hz (by decide)
  have hs7 := stn_len (n := l.length) (c := 7) (by decide)
  have hsz : (1000007 : Nat) ≤ sizeLine := by decide
  obtain ⟨H, hH⟩ : ∃ H : List Int, H = [4, 2, 2, (i + 1000000000000000000000000000000) / 1000000000000000, (i + 1000000000000000000000000000000) % 1000000000000000, 3, (l.length : Int)] := ⟨_, rfl⟩
  have hHl : H.length = 7 := by rw [hH]; rfl
  obtain ⟨ρ', S', lp, y3, y4, y5, rfl, rfl, _⟩ := forL_J (live := []) (turn := fun d ρ S => exSs (run tab n) b13_1 (ρ.set 3 (some d)) S) (g := dn) (α := List Int) (fun s a => s ++ [code7 ((l.drop a).take 7)])
    (fun r s ρ T => ∃ x3 x4 x5 : Option D, ρ = [some (.int i), some (tx l), some (.ref S.length), x3, x4, x5, none, none] ∧ S ++ [.lst (s.map D.int)] = T ∧ s.length + r.length ≤ 1000007)
    (fun _ _ _ _ _ => isLive_nil) (fun a r s ρ T ⟨x2, x3, x4, h1, h2, h3⟩ => by
      subst h1; subst h2
      have hk : ((l.drop a).take 7).length ≤ 7 := List.length_take_le _ _
      obtain ⟨ρ', S', lp, y, k, rfl, rfl, _⟩ := forL_J (live := []) (turn := fun d ρ S => exSs (run tab n) b13_0 (ρ.set 5 (some d)) S) (g := fun c => tx [c]) (α := Int) (fun (c : Int) (x : Nat) => c * 128 + x)
        (fun r c ρ T => ∃ (y : Option D) (k : Nat), ρ = [some (.int i), some (tx l), some (.ref S.length), some (.int a), some (.int c), y, none, none] ∧ S ++ [.lst (s.map D.int)] = T ∧ low r ∧ 0 ≤ c ∧ c < 128 ^ k ∧ k + r.length ≤ 27)
        (fun _ _ _ _ _ => isLive_nil) (fun b r c ρ T ⟨y, k, h1, h2, h3, h4, h5, h6⟩ => by
          subst h1; subst h2
          rw [List.length_cons] at h6
          have hb := p128 k (by omega)
          have hb2 : (128 : Int) ^ 27 < 2 ^ 200 := by decide
          have he : (128 : Int) ^ (k + 1) = 128 ^ k * 128 := Int.pow_succ _ _
          have ha : b < 128 := h3 b List.mem_cons_self
          have m1 : ∀ T : Store, p2 .mul (.val (.int c)) (.val (.int 128)) T = .ok (.val (.int (c * 128))) T := fun T => mul_ok (by omega) (by decide)
          have o1 : ∀ T : Store, p1 .ord (.val (tx [b])) T = .ok (.val (.int b)) T := fun T => ord_tx
          refine ⟨_, _, ?_, some (tx [b]), k + 1, rfl, rfl, fun z hz => h3 z (List.mem_cons_of_mem _ hz), by omega, by rw [he]; omega, by omega⟩
          refine (y_set (.int (c * 128 + b)) (by simp [m1, add_ok, o1])).trans ?_
          exact x_nil) ((l.drop a).take 7) 0 [some (.int i), some (tx l), some (.ref S.length), some (.int a), some (.int 0), x4, none, none] (S ++ [.lst (s.map D.int)])
        ⟨x4, 0, rfl, rfl, low_take (low_drop hl a) 7, by decide, by decide, by omega⟩
      rw [List.length_cons] at h3
      rw [code7_alt] at lp
      have cu := cut_n (S := S ++ [.lst (s.map D.int)]) (l := l) (a := a) (c := 7) (by decide) hz'
      have ap := app_at (k := S.length) (w := .int (code7 ((l.drop a).take 7))) (at_new (S := S) (o := .lst (s.map D.int))) (by rw [List.length_map]; omega)
      have ik := isK_at (at_new (S := S) (o := .lst (s.map D.int)))
      have it : ∀ T : Store, its .it [.val (tx ((l.drop a).take 7))] T = some ⟨((l.drop a).take 7).map fun c => tx [c], []⟩ := fun T => its_tx
      rw [set_new] at ap
      refine ⟨_, S ++ [.lst (s.map D.int ++ [.int (code7 ((l.drop a).take 7))])], ?_, some (dn a), some (.int (code7 ((l.drop a).take 7))), y, rfl, by rw [List.map_append]; rfl, by rw [List.length_append, List.length_singleton]; omega⟩
      show exSs (run tab n) b13_1 [some (.int i), some (tx l), some (.ref S.length), some (dn a), x3, x4, none, none] _ = _
      unfold code7 at *
      generalize ((l.drop a).take 7).foldl (fun (c : Int) (x : Nat) => 128 * c + x) 0 = cc at *
      generalize S ++ [O.lst (s.map D.int ++ [D.int cc])] = T2 at *
      generalize S ++ [O.lst (s.map D.int)] = T1 at *
      rw [show (Int.toNat 7) = 7 from rfl] at cu
      generalize (l.drop a).take 7 = pc at *
      refine (y_set (.int 0) (by simp)).trans ?_
      refine (x_for (S' := T1) (ws := [.val (tx pc)]) (by simp [add_ok, cu]) (it _) lp).trans ?_
      refine (x_exp (w := .val .non) (S' := T2) (by simp [ik, ap])).trans ?_
      exact x_nil)
    (stn 7 l.length) H [some (.int i), some (tx l), some (.ref S.length), none, none, none, none, none] (S ++ [.lst (H.map D.int)]) ⟨none, none, none, rfl, rfl, by rw [hHl]; omega⟩
  have ec : (stn 7 l.length).foldl (fun s a => s ++ [code7 ((l.drop a).take 7)]) H = pc i l := by
    rw [fold_snoc, hH]
    rfl
  rw [ec] at lp
  obtain ⟨ρ', S', lp2, x, rfl, rfl, _⟩ := forL_J (live := [(S.length, (pc i l).map D.int)]) (turn := fun d ρ S => exSs (run tab n) b13_2 (ρ.set 7 (some d)) S) (g := D.int) (α := Int) (fun h c => (h * 1234567890123456789 + c) % 2305843009213693951)
    (fun r s ρ T => ∃ x : Option D, ρ = [some (.int i), some (tx l), some (.ref S.length), y3, y4, y5, some (.int s), x] ∧ S ++ [.lst ((pc i l).map D.int)] = T ∧ 0 ≤ s ∧ s < 2305843009213693951)
    (fun _ _ _ _ ⟨_, _, h, _⟩ => by rw [← h]; exact live_at at_new) (fun c r s ρ T ⟨x, h1, h2, h3, h4⟩ => by
      subst h1; subst h2
      refine ⟨_, _, ?_, some (.int c), rfl, rfl, Int.emod_nonneg _ (by decide), Int.emod_lt_of_pos _ (by decide)⟩
      have m1 := mul_ok (S := S ++ [.lst ((pc i l).map D.int)]) (i := s) (j := 1234567890123456789) (by omega) (by decide)
      have m2 := mod_ok (S := S ++ [.lst ((pc i l).map D.int)]) (i := s * 1234567890123456789 + c) (j := 2305843009213693951) (by decide)
      refine (y_set (.int ((s * 1234567890123456789 + c) % 2305843009213693951)) ?_).trans x_nil
      simp [m1, m2, add_ok, p2_61, sub_61]) (pc i l) 7 [some (.int i), some (tx l), some (.ref S.length), y3, y4, y5, some (.int 7), none] (S ++ [.lst ((pc i l).map D.int)]) ⟨none, rfl, rfl, by decide, by decide⟩
  refine r_run (F := ⟨2, 8, b13⟩) rfl rfl ?_ (pack_app (T := [.lst ((pc i l).map D.int)]) und_int)
  apply Exists.intro
  have f1 := fdiv_ok (S := S) (i := i + 1000000000000000000000000000000) (j := 1000000000000000) (by decide) (by decide)
  have m1 := mod_ok (S := S) (i := i + 1000000000000000000000000000000) (j := 1000000000000000) (by decide)
  refine (x_set (d := .ref S.length) (S' := S ++ [.lst (H.map D.int)]) (by simp [add_ok, p10_30, p10_15, f1, m1, len_tx hz', sz7, hH])).trans ?_
  refine (x_for (S' := S ++ [.lst (H.map D.int)]) (ws := [.val (.int 0), .val (.int l.length), .val (.int 7)]) (by simp [len_tx hz']) (its_r3 (c := 7) (n := l.length) (by decide) (by decide) (Nat.le_trans hz (by decide))) lp).trans ?_
  refine (y_set (.int 7) (by simp)).trans ?_
  refine (x_for (S' := S ++ [.lst ((pc i l).map D.int)]) (ws := [.val (.ref S.length)]) (by simp) (its_at at_new) lp2).trans ?_
  exact y_ret (by simp [add_ok]; rfl)
theorem r_lcheck {n : Nat} {S : Store} {l : List Nat} (hz : l.length ≤ 1000000) (hl : low l) : run tab (n + 2) 14 [tx l] S = .ok (.int (ck l)) S := by
  have hz' : l.length ≤ sizeLine := Nat.le_trans hz (by decide)
  obtain ⟨ρ', S', lp, x, rfl, rfl⟩ := forL_J (live := []) (turn := fun d ρ S => exSs (run tab (n + 1)) b14_0 (ρ.set 2 (some d)) S) (g := dn) (α := Int) (ckf l)
    (fun r s ρ T => ∃ x : Option D, ρ = [some (tx l), some (.int s), x] ∧ S = T)
    (fun _ _ _ _ _ => isLive_nil) (fun a r s ρ T ⟨x, h1, h2⟩ => by
      subst h1; subst h2
      refine ⟨_, _, ?_, some (dn a), rfl, rfl⟩
      have sl1 := r_lsealed (n := n) (S := S) (i := s) (l := rp1 10 59 ((l.drop a).take 50)) (Nat.le_trans (pc_len l a 50) hz) (low_rp (by decide) (low_take (low_drop hl a) 50))
      refine (y_set (.int (ckf l s a)) ?_).trans x_nil
      simp [rc50 hz, sl1, ckf]) (stn 50 l.length) 0 [some (tx l), some (.int 0), none] S ⟨none, rfl, rfl⟩
  refine r_run (F := ⟨1, 3, b14⟩) rfl rfl ?_ (pack_same und_int)
  apply Exists.intro
  refine (y_set (.int 0) (by simp)).trans ?_
  refine (x_for (S' := S) (ws := [.val (.int 0), .val (.int l.length), .val (.int 50)]) (by simp [len_tx hz']) (its_r3 (c := 50) (n := l.length) (by decide) (by decide) (Nat.le_trans hz (by decide))) lp).trans ?_
  exact y_ret (by simp; rfl)
end Mi.L

namespace Mi.L
open PySem Mi
/-! ### records -/
theorem e_S : (("" : String) : Str) = SX.S [] := by decide +kernel
theorem co_S : ((":" : String) : Str) = SX.S [58] := by decide +kernel
theorem S0 : Str.empty = SX.S [] := rfl
/-- the texts with line feeds -/
def pay (ts : List (List Nat)) : List Nat := (ts.map fun t => t ++ [10]).flatten
def ckn (l : List Nat) : Nat := (ck l).toNat
theorem ckn_eq (l : List Nat) : ((ckn l : Nat) : Int) = ck l := by
  have := (ck_rng l).1
  unfold ckn; omega
set_option exponentiation.threshold 2000
theorem ckn_lt (l : List Nat) : ckn l < 2 ^ 1000 := by
  have := ck_rng l
  have h : ckn l ≤ 2305843009213693951 := by unfold ckn; omega
  exact Nat.lt_of_le_of_lt h (by decide)
def recd (p : List Nat) : List Nat := TL.numL p.length ++ [58] ++ p ++ TL.numL (ckn p) ++ [10]
def recs (ts : List (List Nat)) : List Nat := recd (pay ts)
theorem num_len (n : Nat) (h : n < 10 ^ 30) : (TL.numL n).length ≤ 30 := TL.numL_len (by decide) h
theorem ckn_num (l : List Nat) : (TL.numL (ckn l)).length ≤ 30 := num_len _ (by
  have := ck_rng l
  have h : ckn l ≤ 2305843009213693951 := by unfold ckn; omega
  exact Nat.lt_of_le_of_lt h (by decide))
/-- a text and a line feed, for each of a list -/
theorem ev_pay {C : CF} {ρ : Env} {S : Store} {i j k : Nat} {ts : List (List Nat)} {own : List Nat} (hi : ρ[i]? = some (some (.ref k))) (hS : S[k]? = some (.lst (ts.map tx))) (hj : j < ρ.length) (hown : own = [j])
    (hz : (pay ts).length ≤ 1000000) : evK C (.m1 .str .join (.c (.str "")) (.comp (.nm j) .it [.v i] [] (.p2 .add (.v j) (.c (.str "\n"))) own)) ρ S = .ok (.val (tx (pay ts))) S := by
  subst hown
  have hlen : ts.length ≤ (pay ts).length := by
    unfold pay
    rw [List.length_flatten]
    clear hz hS
    induction ts with
    | nil => simp
    | cons t r ih => simp only [List.map_cons, List.sum_cons, List.length_cons, List.length_append, List.length_nil]; omega
  have hmem : ∀ t ∈ ts, t.length + 1 ≤ (pay ts).length := by
    intro t ht
    unfold pay
    rw [List.length_flatten]
    clear hz hS hlen
    induction ts with
    | nil => exact absurd ht List.not_mem_nil
    | cons t' r ih =>
      simp only [List.map_cons, List.sum_cons, List.length_append, List.length_cons, List.length_nil]
      rcases List.mem_cons.mp ht with e | h
      · subst e; omega
      · have := ih h; omega
  have cp := comp_pure (C := C) (ρ := ρ) (S := S) (S' := S) (i := j) (k := .it) (is := [.v i]) (e := .p2 .add (.v j) (.c (.str "\n"))) (own := [j]) (ws := [.val (.ref k)]) (I := ⟨ts.map tx, [(k, ts.map tx)]⟩) (f := fun d => match d with | .str x => .str (x ++ SX.S [10]) | d => d)
    (by rw [e_ws, e_v hi]; simp) (its_at hS) (live_at hS) (by rw [List.length_map]; exact Nat.le_trans (by omega : _ ≤ 1000000) (by decide)) (fun d hd => by
      obtain ⟨t, ht, rfl⟩ := List.mem_map.mp hd
      have hv : ((wipeD ρ [j]).set j (some (tx t)))[j]? = some (some (tx t)) := List.getElem?_set_self (by simp [wipeD]; exact hj)
      have ad := add_tx (S := S) (a := t) (b := [10]) (Nat.le_trans (by have := hmem t ht; simp; omega : _ ≤ 1000000) (by decide))
      rw [nl_S]
      show (evK C (.p2 .add (.v j) (.c (tx [10]))) ((wipeD ρ [j]).set j (some (tx t))) S).bd toD = _
      rw [e_p2, e_v hv, bd_ok', e_c, bd_ok', ad]
      show R.ok (D.str (SX.S (t ++ [10]))) S = R.ok (D.str (SX.S t ++ SX.S [10])) S
      rw [SX.S_cat])
  have hm : (ts.map tx).map (fun d => match d with | .str x => D.str (x ++ SX.S [10]) | d => d) = (ts.map fun t => t ++ [10]).map tx := by
    rw [List.map_map, List.map_map]
    refine List.map_congr_left fun t _ => ?_
    show D.str (SX.S t ++ SX.S [10]) = D.str (SX.S (t ++ [10]))
    rw [SX.S_cat]
  have jn := join_tx (S := S) (ys := ts.map fun t => t ++ [10]) (Nat.le_trans hz (by decide))
  dsimp only at cp
  rw [hm] at cp
  rw [e_m1, e_c, bd_ok', e_S]
  show (if MK.str.is S (.val (tx [])) = true then _ else _) = _
  rw [show MK.str.is S (.val (tx [])) = true from rfl, if_pos rfl, cp, bd_ok', jn]
  rfl
theorem recd_len (p : List Nat) (h : p.length ≤ 1000000) : (recd p).length ≤ p.length + 62 := by
  unfold recd
  have h1 := num_len p.length (Nat.lt_of_le_of_lt h (by decide))
  have h2 := ckn_num p
  simp only [List.length_append, List.length_cons, List.length_nil]; omega
theorem lowS_pay {ts : List (List Nat)} (h : ∀ t ∈ ts, low t) : low (pay ts) := by
  intro x hx
  unfold pay at hx
  obtain ⟨l, hl, hx⟩ := List.mem_flatten.mp hx
  obtain ⟨t, ht, rfl⟩ := List.mem_map.mp hl
  rcases List.mem_append.mp hx with h1 | h1
  · exact h t ht x h1
  · rw [List.mem_singleton.mp h1]; decide
theorem r_record {n : Nat} {S : Store} {k : Nat} {ts : List (List Nat)} (hS : S[k]? = some (.lst (ts.map tx))) (hz : (pay ts).length ≤ 900000) (hl : low (pay ts)) : run tab (n + 6) 4 [.ref k] S = .ok (tx (recs ts)) S := by
  have hz1 : (pay ts).length ≤ 1000000 := by omega
  have hz' : (pay ts).length ≤ sizeLine := Nat.le_trans hz1 (by decide)
  have ck1 := r_check (n := n) (S := S) hz1 hl
  have bs : (1000000 : Nat) ≤ sizeLine := by decide
  refine r_run (F := ⟨1, 5, b4⟩) rfl rfl ?_ (pack_same und_str)
  apply Exists.intro
  have ep := ev_pay (C := run tab (n + 5)) (ρ := [some (.ref k), none, none, none, none]) (i := 0) (j := 2) (own := [2]) rfl hS (by simp) rfl hz1
  refine (y_set (tx (pay ts)) ?_).trans ?_
  · show (evK _ _ _ _).bd toD = _
    refine (congrArg (fun r => R.bd r toD) ep).trans rfl
  refine (y_set (.int (pay ts).length) (by simp [len_tx hz'])).trans ?_
  refine (y_set (.int (ck (pay ts))) (by simp [ck1])).trans ?_
  refine y_ret ?_
  have f1 := fmt_int (S := S) (n := (pay ts).length) (Nat.lt_of_le_of_lt hz1 (by decide))
  have f2 := fmt_tx (S := S) hz'
  have f3 := fmt_int (S := S) (ckn_lt (pay ts))
  rw [ckn_eq] at f3
  have n1 := num_len (pay ts).length (Nat.lt_of_le_of_lt hz1 (by decide))
  have n2 := ckn_num (pay ts)
  show ((evK (run tab (n + 5)) (.fst [(.p1 .fmt (.v 3)), (.c (.str ":")), (.p1 .fmt (.v 1)), (.p1 .fmt (.v 4)), (.c (.str "\n"))]) _ S).bd toD) = _
  rw [e_fst, S0, y_j (y := TL.numL (pay ts).length) (by simp [f1]) (Nat.le_trans (by simp; omega : _ ≤ 1000000) bs),
    y_j (y := [58]) (by rw [e_c, co_S]) (Nat.le_trans (by simp; omega : _ ≤ 1000000) bs),
    y_j (y := pay ts) (by simp [f2]) (Nat.le_trans (by simp; omega : _ ≤ 1000000) bs),
    y_j (y := TL.numL (ckn (pay ts))) (by simp [f3]) (Nat.le_trans (by simp; omega : _ ≤ 1000000) bs),
    y_j (y := [10]) (by rw [e_c, nl_S]) (Nat.le_trans (by simp; omega : _ ≤ 1000000) bs), e_j0]
  rfl
theorem mk_rec {n : Nat} {S : Store} {p : List Nat} {e : Ex} {ρ : Env} (hz : p.length ≤ 900000) (hl : low p) (he : ∀ S, evK (run tab (n + 2)) e ρ S = .ok (.val (tx p)) S) :
    evK (run tab (n + 2)) (.p2 .add (.p2 .add (.p2 .add (.p2 .add (.p1 .str_ (.p1 .len e)) (.c (.str ":"))) e) (.p1 .str_ (.call 14 [e]))) (.c (.str "\n"))) ρ S = .ok (.val (tx (recd p))) S := by
  have hz1 : p.length ≤ 1000000 := by omega
  have bs : (1000000 : Nat) ≤ sizeLine := by decide
  have hz' : p.length ≤ sizeLine := Nat.le_trans hz1 bs
  have n1 := num_len p.length (Nat.lt_of_le_of_lt hz1 (by decide))
  have n2 := ckn_num p
  have ck1 := r_lcheck (n := n) (S := S) hz1 hl
  have f1 := str_tx (S := S) (n := p.length) (Nat.lt_of_le_of_lt hz1 (by decide))
  have f3 := str_tx (S := S) (ckn_lt p)
  rw [ckn_eq] at f3
  have a1 := add_tx (S := S) (a := TL.numL p.length) (b := [58]) (Nat.le_trans (by simp; omega : _ ≤ 1000000) bs)
  have a2 := add_tx (S := S) (a := TL.numL p.length ++ [58]) (b := p) (Nat.le_trans (by simp; omega : _ ≤ 1000000) bs)
  have a3 := add_tx (S := S) (a := TL.numL p.length ++ [58] ++ p) (b := TL.numL (ckn p)) (Nat.le_trans (by simp; omega : _ ≤ 1000000) bs)
  have a4 := add_tx (S := S) (a := TL.numL p.length ++ [58] ++ p ++ TL.numL (ckn p)) (b := [10]) (Nat.le_trans (by simp; omega : _ ≤ 1000000) bs)
  rw [co_S, nl_S]
  simp only [e_p2, e_p1, e_c, e_call, e_ds, e_ds0, he, bd_ok', len_tx hz', f1, toD_val, ck1, vv_ok', f3, a1, a2, a3, a4]
  rfl
theorem r_lof {n : Nat} {S : Store} {p : List Nat} (hz : p.length ≤ 900000) (hl : low p) : run tab (n + 3) 20 [tx p] S = .ok (tx (recd p)) S := by
  refine r_run (F := ⟨1, 1, b20⟩) rfl rfl ?_ (pack_same und_str)
  apply Exists.intro
  refine y_ret ?_
  have h := mk_rec (n := n) (S := S) (e := .v 0) (ρ := [some (tx p)]) hz hl (fun S => e_v rfl)
  exact (congrArg (fun r => R.bd r toD) h).trans rfl
theorem r_lrecord {n : Nat} {S : Store} {k : Nat} {ts : List (List Nat)} (hS : S[k]? = some (.lst (ts.map tx))) (hz : (pay ts).length ≤ 900000) (hl : low (pay ts)) : run tab (n + 3) 15 [.ref k] S = .ok (tx (recs ts)) S := by
  refine r_run (F := ⟨1, 3, b15⟩) rfl rfl ?_ (pack_same und_str)
  apply Exists.intro
  have ep := ev_pay (C := run tab (n + 2)) (ρ := [some (.ref k), none, none]) (i := 0) (j := 2) (own := [2]) rfl hS (by simp) rfl (by omega : (pay ts).length ≤ 1000000)
  refine (y_set (tx (pay ts)) ?_).trans ?_
  · exact (congrArg (fun r => R.bd r toD) ep).trans rfl
  refine y_ret ?_
  have h := mk_rec (n := n) (S := S) (e := .v 1) (ρ := [some (.ref k), some (tx (pay ts)), none]) hz hl (fun S => e_v rfl)
  exact (congrArg (fun r => R.bd r toD) h).trans rfl
end Mi.L

namespace Mi.L
open PySem Mi
/-! ### numbers read -/
def isD (c : Nat) : Bool := decide (48 ≤ c) && decide (c ≤ 57)
def dgs : List Nat := [48, 49, 50, 51, 52, 53, 54, 55, 56, 57]
theorem fig_S : (("0123456789" : String) : Str) = SX.S dgs := by decide +kernel
theorem nt_S : (("0" : String) : Str) = SX.S [48] := by decide +kernel
theorem mem_dgs (c : Nat) : decide (c ∈ dgs) = isD c := by
  unfold isD dgs
  rw [Bool.eq_iff_iff]
  simp only [decide_eq_true_eq, Bool.and_eq_true, List.mem_cons, List.not_mem_nil, or_false]
  omega
/-- how many figures stand at the front, of so many at most -/
def cnt : Nat → List Nat → Nat
  | 0, _ => 0
  | _ + 1, [] => 0
  | f + 1, c :: r => if isD c = true then cnt f r + 1 else 0
theorem cnt_le : ∀ (f : Nat) (l : List Nat), cnt f l ≤ l.length ∧ cnt f l ≤ f
  | 0, l => by simp [cnt]
  | f + 1, [] => by simp [cnt]
  | f + 1, c :: r => by
    unfold cnt
    have := cnt_le f r
    split
    · simp only [List.length_cons]; omega
    · simp
theorem cnt_take : ∀ (f : Nat) (l : List Nat), (l.take (cnt f l)).all isD = true
  | 0, l => by simp [cnt]
  | f + 1, [] => by simp [cnt]
  | f + 1, c :: r => by
    unfold cnt
    split
    · rename_i h
      rw [List.take_succ_cons, List.all_cons, h, cnt_take f r]; rfl
    · simp
abbrev wc : Ex := .and_ (.p2 .lt (.v 3) (.p1 .len (.v 0))) (.and_ (.p2 .inn (.p2 .ix (.v 0) (.v 3)) (.c (.str "0123456789"))) (.p2 .le (.p2 .sub (.v 3) (.v 1)) (.c (.int 20))))
theorem num_loop {C : CF} {S : Store} {t : List Nat} {a : Nat} {x2 x4 : Option D} (hz : t.length ≤ 1000000) : ∀ (f : Nat) (l : List Nat) (b : Nat), t.drop b = l → a ≤ b → b - a + f = 21 →
    ∃ m, whileF (evB C wc) (exSs C b5_0) m [some (tx t), some (dn a), x2, some (dn b), x4] S = some (.ok .nx [some (tx t), some (dn a), x2, some (dn (b + cnt f l)), x4] S) := by
  have hz' : t.length ≤ sizeLine := Nat.le_trans hz (by decide)
  have over : ∀ (b : Nat), t.length ≤ b → evB C wc [some (tx t), some (dn a), x2, some (dn b), x4] S = .ok false S := fun b hb => by
    have : ¬ ((b : Int) < t.length) := by omega
    simp [len_tx hz', lt_ii, this]
  have at' : ∀ (b c : Nat) (r : List Nat), t.drop b = c :: r → ((b : Int) < t.length) ∧ L2.atI t (b : Int) = some c := fun b c r h => by
    have hb : b < t.length := by
      by_cases q : b < t.length
      · exact q
      · rw [List.drop_eq_nil_of_le (by omega)] at h; cases h
    refine ⟨by omega, atI_at (by omega) ?_⟩
    rw [show ((b : Int)).toNat = b by omega]
    have := List.getElem?_drop (xs := t) (i := b) (j := 0)
    rw [h] at this
    simpa using this.symm
  intro f
  induction f with
  | zero =>
    intro l b h h1 h2
    refine ⟨1, ?_⟩
    have e : evB C wc [some (tx t), some (dn a), x2, some (dn b), x4] S = .ok false S := by
      cases l with
      | nil => exact over b (by have := congrArg List.length h; simp at this; omega)
      | cons c r =>
        obtain ⟨q1, q2⟩ := at' b c r h
        have ix := ix_tx (S := S) q2 hz'
        have le : ¬ ((b : Int) - a ≤ 20) := by omega
        cases hd : isD c with
        | true => simp [len_tx hz', lt_ii, q1, ix, fig_S, in_tx, mem_dgs, hd, sub_ok, le_ii, le]
        | false => simp [len_tx hz', lt_ii, q1, ix, fig_S, in_tx, mem_dgs, hd]
    rw [whileF_end e]
    simp [cnt]
  | succ f ih =>
    intro l b h h1 h2
    cases l with
    | nil =>
      refine ⟨1, ?_⟩
      rw [whileF_end (over b (by have := congrArg List.length h; simp at this; omega))]
      simp [cnt]
    | cons c r =>
      obtain ⟨q1, q2⟩ := at' b c r h
      have ix := ix_tx (S := S) q2 hz'
      have le : ((b : Int) - a ≤ 20) := by omega
      cases hd : isD c with
      | false =>
        refine ⟨1, ?_⟩
        have e : evB C wc [some (tx t), some (dn a), x2, some (dn b), x4] S = .ok false S := by simp [len_tx hz', lt_ii, q1, ix, fig_S, in_tx, mem_dgs, hd]
        rw [whileF_end e]
        unfold cnt
        rw [hd]
        simp
      | true =>
        have e : evB C wc [some (tx t), some (dn a), x2, some (dn b), x4] S = .ok true S := by simp [len_tx hz', lt_ii, q1, ix, fig_S, in_tx, mem_dgs, hd, sub_ok, le_ii, le]
        obtain ⟨m, hm⟩ := ih r (b + 1) (by rw [← List.tail_drop, h]; rfl) (by omega) (by omega)
        refine ⟨m + 1, whileF_go e (ρ' := [some (tx t), some (dn a), x2, some (dn (b + 1)), x4]) (S2 := S) ?_ ?_⟩
        · exact (x_aug (i := 3) (x := dn b) (d := dn (b + 1)) (w := .val (.int 1)) rfl (by simp) rfl).trans x_nil
        · have ec : cnt (f + 1) (c :: r) = cnt f r + 1 := by
            show (if isD c = true then cnt f r + 1 else 0) = _
            rw [if_pos hd]
          rw [hm, ec, show b + 1 + cnt f r = b + (cnt f r + 1) by omega]
/-- figures that write no number -/
def badG (g : List Nat) : Bool := decide (g = []) || (decide (20 < g.length) || (decide (g.head? = some 48) && !decide (g = [48])))
def numAt (t : List Nat) (a c : Nat) : Option (Nat × Nat) :=
  if badG ((t.drop a).take (cnt 21 (t.drop a))) = true then none else
  if (t.drop (a + cnt 21 (t.drop a))).take 1 = [c] then some (NumText.digitsVal ((t.drop a).take (cnt 21 (t.drop a))), a + cnt 21 (t.drop a) + 1) else none
def dnum : Option (Nat × Nat) → D
  | none => .non
  | some p => .tup [dn p.1, dn p.2]
abbrev bc : Ex := .or_ (.p2 .eq (.v 4) (.c (.str ""))) (.or_ (.p2 .gt (.p1 .len (.v 4)) (.c (.int 20))) (.and_ (.p2 .eq (.p2 .ix (.v 4) (.c (.int 0))) (.c (.str "0"))) (.p2 .ne (.v 4) (.c (.str "0")))))
theorem ev_badG {C : CF} {ρ : Env} {S : Store} {g : List Nat} (hg : ρ[4]? = some (some (tx g))) (hz : g.length ≤ 1000000) : evB C bc ρ S = .ok (badG g) S := by
  have hz' : g.length ≤ sizeLine := Nat.le_trans hz (by decide)
  have v4 := e_v (C := C) (S := S) hg
  cases g with
  | nil => simp [v4, e_S, eq_tx, badG]
  | cons c r =>
    have ix := ix_tx (S := S) (l := c :: r) (i := 0) (c := c) (atI_at (by decide) rfl) hz'
    have ln := len_tx (S := S) hz'
    rw [show bc = .or_ (.p2 .eq (.v 4) (.c (tx []))) (.or_ (.p2 .gt (.p1 .len (.v 4)) (.c (.int 20))) (.and_ (.p2 .eq (.p2 .ix (.v 4) (.c (.int 0))) (.c (tx [48]))) (.p2 .ne (.v 4) (.c (tx [48]))))) by unfold bc; rw [e_S, nt_S]]
    by_cases h1 : (20 : Int) < ((c :: r).length : Int)
    · have h2 : 20 < (c :: r).length := by omega
      have : badG (c :: r) = true := by unfold badG; rw [decide_eq_true h2]; simp
      rw [this]
      have d1 : decide ((20 : Int) < ((c :: r).length : Int)) = true := decide_eq_true h1
      simp only [e_B, e_or, e_p2, e_p1, v4, e_c, bd_ok', eq_tx, toB_bl, ln, gt_ii, d1, vv_ok', if_true, List.cons_ne_nil, decide_false, Bool.false_eq_true, if_false]
    · have h2 : ¬ 20 < (c :: r).length := by omega
      have d1 : decide ((20 : Int) < ((c :: r).length : Int)) = false := decide_eq_false h1
      simp only [e_B, e_or, e_and, e_p2, e_p1, v4, e_c, bd_ok', eq_tx, toB_bl, ln, gt_ii, d1, vv_ok', ix, ne_tx, reduceCtorEq, decide_false, Bool.false_eq_true, if_false]
      unfold badG
      rw [decide_eq_false h2]
      by_cases h3 : c = 48
      · subst h3; simp
      · simp [h3]
theorem isD_all {g : List Nat} (h : g.all isD = true) : g.all (fun c => decide (48 ≤ c) && decide (c ≤ 57)) = true := h
theorem r_number_at {n : Nat} {S : Store} {t : List Nat} {a c : Nat} (hz : t.length ≤ 1000000) : run tab (n + 1) 5 [tx t, dn a, tx [c]] S = .ok (dnum (numAt t a c)) S := by
  have hz' : t.length ≤ sizeLine := Nat.le_trans hz (by decide)
  obtain ⟨m, hm⟩ := num_loop (C := run tab n) (S := S) (t := t) (a := a) (x2 := some (tx [c])) (x4 := none) hz 21 (t.drop a) a rfl (Nat.le_refl _) (by omega)
  have hk := cnt_le 21 (t.drop a)
  have hc := cnt_take 21 (t.drop a)
  obtain ⟨k, ek⟩ : ∃ k, k = cnt 21 (t.drop a) := ⟨_, rfl⟩
  obtain ⟨g, eg⟩ : ∃ g, g = (t.drop a).take k := ⟨_, rfl⟩
  have hgl : g.length = k := by rw [eg, List.length_take]; omega
  have ct : cutW (.val (tx t)) (some (a : Int)) (some ((a + k : Nat) : Int)) S = .ok (.val (tx g)) S := by
    rw [cut_tx hz', cutD_nat, Nat.add_sub_cancel_left, eg]
  have ct2 : cutW (.val (tx t)) (some ((a + k : Nat) : Int)) (some (((a + k : Nat) : Int) + 1)) S = .ok (.val (tx ((t.drop (a + k)).take 1))) S := by
    rw [cut_n (c := 1) (by decide) hz']; rfl
  have na : numAt t a c = if badG g = true then none else if (t.drop (a + k)).take 1 = [c] then some (NumText.digitsVal g, a + k + 1) else none := by
    unfold numAt; rw [eg, ek]
  rw [← ek] at hm hc hk
  rw [← eg] at hc
  have eb := ev_badG (C := run tab n) (ρ := [some (tx t), some (dn a), some (tx [c]), some (dn (a + k)), some (tx g)]) (S := S) (g := g) rfl (by omega)
  refine r_run (F := ⟨3, 5, b5⟩) rfl rfl (S' := S) ?_ (pack_same ?_)
  · apply Exists.intro
    refine (y_set (dn a) (by simp)).trans ?_
    refine (x_whl (n := m) hm).trans ?_
    refine (y_set (tx g) ?_).trans ?_
    · have v3 : ((a + k : Nat) : Int) = (a : Int) + k := by omega
      simp [ct, -Int.natCast_add]
    rw [na]
    by_cases hb : badG g = true
    · rw [if_pos hb]
      exact y_if1 (eb.trans (by rw [hb])) (by simp; rfl)
    · rw [if_neg hb]
      refine (y_if0 (eb.trans (by simp only [Bool.not_eq_true] at hb; rw [hb]))).trans ?_
      by_cases hq : (t.drop (a + k)).take 1 = [c]
      · rw [if_pos hq]
        refine (y_if0 ?_).trans ?_
        · simp [ct2, -Int.natCast_add, add_ok, ne_tx, hq]
        · refine y_ret ?_
          have hne : g ≠ [] := fun e => hb (by unfold badG; rw [e]; simp)
          have it := int_tx (S := S) (a := g) (isD_all hc) hne (by omega)
          simp [it, add_ok, sz2, dnum]
      · rw [if_neg hq]
        refine y_if1 ?_ (by simp; rfl)
        simp [ct2, -Int.natCast_add, add_ok, ne_tx, hq]
  · rw [na]
    split
    · exact und_non
    · split
      · simp [dnum]
      · exact und_non
end Mi.L

namespace Mi.L
open PySem Mi
/-! ### payloads -/
theorem cut_last {α : Type} (l : List α) : cutD l (some (-1)) none = l.drop (l.length - 1) := by
  unfold cutD
  have h1 : HT.sIx l.length 0 (some (-1)) = l.length - 1 := by
    show (if (-1 : Int) < 0 then ((-1 : Int) + (l.length : Int)).toNat else min (-1 : Int).toNat l.length) = _
    rw [if_pos (by decide)]; omega
  rw [h1, HT.sIx_none, List.take_of_length_le (by rw [List.length_drop]; omega)]
theorem cut_but {α : Type} (l : List α) : cutD l none (some (-1)) = l.dropLast := by
  unfold cutD
  have h1 : HT.sIx l.length l.length (some (-1)) = l.length - 1 := by
    show (if (-1 : Int) < 0 then ((-1 : Int) + (l.length : Int)).toNat else min (-1 : Int).toNat l.length) = _
    rw [if_pos (by decide)]; omega
  rw [h1, HT.sIx_none, List.drop_zero, Nat.sub_zero, List.dropLast_eq_take]
def okc (c : Nat) : Bool := decide (c = 10) || (decide (32 ≤ c) && decide (c ≤ 126) && !decide (c = 37))
def okp (p : List Nat) : Bool := decide (p.drop (p.length - 1) = [10]) && p.all okc
theorem turn6 {C : CF} {S : Store} {x0 x1 : Option D} {c : Nat} : exSs C b6_0 [x0, some (tx [c])] S = if okc c = true then .ok .nx [x0, some (tx [c])] S else .ok (.rt (.bl false)) [x0, some (tx [c])] S := by
  have o1 : p1 .ord (.val (tx [c])) S = .ok (.val (.int c)) S := ord_tx
  have ev : evB C (.and_ (.p2 .ne (.v 1) (.c (.str "\n"))) (.or_ (.p2 .lt (.p1 .ord (.v 1)) (.c (.int 32))) (.or_ (.p2 .gt (.p1 .ord (.v 1)) (.c (.int 126))) (.p2 .eq (.p1 .ord (.v 1)) (.c (.int 37)))))) [x0, some (tx [c])] S = .ok (!okc c) S := by
    rw [nl_S]
    unfold okc
    by_cases h0 : c = 10
    · subst h0; simp [ne_tx]
    · by_cases h1 : (c : Int) < 32
      · have h1' : ¬ 32 ≤ c := by omega
        simp [ne_tx, h0, o1, lt_ii, h1, h1']
      · have h1' : 32 ≤ c := by omega
        by_cases h2 : (126 : Int) < c
        · have h2' : ¬ c ≤ 126 := by omega
          simp [ne_tx, h0, o1, lt_ii, gt_ii, h1, h1', h2, h2']
        · have h2' : c ≤ 126 := by omega
          by_cases h3 : c = 37
          · subst h3; simp [ne_tx, o1, lt_ii, gt_ii, eq_ii]
          · have h3' : ¬ (c : Int) = 37 := by omega
            simp [ne_tx, h0, o1, lt_ii, gt_ii, eq_ii, h1, h1', h2, h2', h3, h3']
  by_cases h : okc c = true
  · rw [if_pos h]
    exact (y_if0 (ev.trans (by rw [h]; rfl))).trans x_nil
  · rw [if_neg h]
    exact y_if1 (ev.trans (by simp only [Bool.not_eq_true] at h; rw [h]; rfl)) (by simp)
theorem loop6 {C : CF} {S : Store} {x0 : Option D} : ∀ (l : List Nat) (x1 : Option D), ∃ y, forL [] (fun d ρ S => exSs C b6_0 (ρ.set 1 (some d)) S) (l.map fun c => tx [c]) [x0, x1] S = if l.all okc = true then .ok .nx [x0, y] S else .ok (.rt (.bl false)) [x0, y] S
  | [], x1 => ⟨x1, by rw [List.map_nil, forL_end isLive_nil]; rfl⟩
  | c :: r, x1 => by
    have t := turn6 (C := C) (S := S) (x0 := x0) (x1 := x1) (c := c)
    by_cases h : okc c = true
    · rw [if_pos h] at t
      obtain ⟨y, hy⟩ := loop6 (C := C) (S := S) (x0 := x0) r (some (tx [c]))
      refine ⟨y, ?_⟩
      rw [List.map_cons, forL_nx (ρ' := [x0, some (tx [c])]) (S' := S) isLive_nil t, hy, List.all_cons, h, Bool.true_and]
    · rw [if_neg h] at t
      refine ⟨some (tx [c]), ?_⟩
      simp only [Bool.not_eq_true] at h
      rw [List.map_cons, forL_rt (ρ' := [x0, some (tx [c])]) (S' := S) isLive_nil t, List.all_cons, h, Bool.false_and]
      rfl
theorem r_is_payload {n : Nat} {S : Store} {p : List Nat} (hz : p.length ≤ 1000000) : run tab (n + 1) 6 [tx p] S = .ok (.bl (okp p)) S := by
  have hz' : p.length ≤ sizeLine := Nat.le_trans hz (by decide)
  have ct : cutW (.val (tx p)) (some (-1)) none S = .ok (.val (tx (p.drop (p.length - 1)))) S := by rw [cut_tx hz', cut_last]
  refine r_run (F := ⟨1, 2, b6⟩) rfl rfl ?_ (pack_same und_bl)
  unfold okp
  by_cases h : p.drop (p.length - 1) = [10]
  · obtain ⟨y, hy⟩ := loop6 (C := run tab n) (S := S) (x0 := some (tx p)) p none
    rw [decide_eq_true h, Bool.true_and]
    apply Exists.intro
    refine (y_if0 (by simp [neg_ok, ct, nl_S, ne_tx, h])).trans ?_
    cases ha : p.all okc with
    | true =>
      rw [ha, if_pos rfl] at hy
      refine (x_for (S' := S) (ws := [.val (tx p)]) (by simp) its_tx hy).trans ?_
      exact y_ret (by simp)
    | false =>
      rw [ha, if_neg (by decide)] at hy
      exact x_forR (S' := S) (ws := [.val (tx p)]) (by simp) its_tx hy
  · rw [decide_eq_false h, Bool.false_and]
    apply Exists.intro
    exact y_if1 (by simp [neg_ok, ct, nl_S, ne_tx, h]) (by simp)
/-! ### the law's signs -/
def sgs : List Nat := (List.range 95).filterMap fun i => if i = 5 then none else some (i + 32)
theorem sgs_S : ((" !\"#$&'()*+,-./0123456789:;<=>?@ABCDEFGHIJKLMNOPQRSTUVWXYZ[\\]^_`" : String) : Str) = SX.S (sgs.take 64) := by decide +kernel
theorem sgs_S2 : (("abcdefghijklmnopqrstuvwxyz{|}~" : String) : Str) = SX.S (sgs.drop 64) := by decide +kernel
theorem sgs_len : sgs.length = 94 := by decide +kernel
theorem sgs_ok : ∀ c ∈ sgs, 32 ≤ c ∧ c ≤ 126 ∧ c ≠ 37 := by decide +kernel
def sg (i : Int) : Nat := sgs.getD (i % 94).toNat 0
theorem sg_mem (i : Int) : sg i ∈ sgs := by
  unfold sg
  have h1 := Int.emod_nonneg i (show (94 : Int) ≠ 0 by decide)
  have h2 := Int.emod_lt_of_pos i (show (0 : Int) < 94 by decide)
  have h : (i % 94).toNat < sgs.length := by rw [sgs_len]; omega
  rw [List.getD_eq_getElem?_getD, List.getElem?_eq_getElem h]
  exact List.getElem_mem h
theorem r_sign {n : Nat} {S : Store} {i : Int} : run tab (n + 1) 11 [.int i] S = .ok (tx [sg i]) S := by
  have h1 := Int.emod_nonneg i (show (94 : Int) ≠ 0 by decide)
  have h2 := Int.emod_lt_of_pos i (show (0 : Int) < 94 by decide)
  have h : (i % 94).toNat < sgs.length := by rw [sgs_len]; omega
  have ad := add_tx (S := S) (a := sgs.take 64) (b := sgs.drop 64) (by rw [List.length_take, List.length_drop, sgs_len]; decide)
  rw [List.take_append_drop] at ad
  have ix := ix_tx (S := S) (l := sgs) (i := i % 94) (c := sg i) (atI_at h1 (by unfold sg; rw [List.getD_eq_getElem?_getD, List.getElem?_eq_getElem h]; rfl)) (by rw [sgs_len]; decide)
  have md := mod_ok (S := S) (i := i) (j := 94) (by decide)
  refine r_run (F := ⟨1, 2, b11⟩) rfl rfl ?_ (pack_same und_str)
  apply Exists.intro
  refine (y_set (tx (sgs.take 64)) (by simp [sgs_S])).trans ?_
  refine (y_set (tx sgs) (by simp [sgs_S2, ad])).trans ?_
  exact y_ret (by simp [md, ix])
theorem sg_fix : ∀ c : Nat, c < 127 → 32 ≤ c → c ≠ 37 → sg ((c : Int) - 32 - (if (37 : Int) < c then 1 else 0)) = c := by decide +kernel
theorem okc_sg (c : Nat) : okc c = (decide (c = 10) || decide (sg ((c : Int) - 32 - (if (37 : Int) < c then 1 else 0)) = c)) := by
  unfold okc
  by_cases h0 : c = 10
  · subst h0; rfl
  · rw [decide_eq_false h0, Bool.false_or, Bool.false_or]
    by_cases h : 32 ≤ c ∧ c ≤ 126 ∧ c ≠ 37
    · rw [decide_eq_true h.1, decide_eq_true h.2.1, decide_eq_false h.2.2, decide_eq_true (sg_fix c (by omega) h.1 h.2.2)]; rfl
    · have : ¬ sg ((c : Int) - 32 - (if (37 : Int) < c then 1 else 0)) = c := fun e => by
        have := sgs_ok _ (sg_mem ((c : Int) - 32 - (if (37 : Int) < c then 1 else 0)))
        rw [e] at this
        exact h this
      rw [decide_eq_false this]
      by_cases h1 : 32 ≤ c
      · by_cases h2 : c ≤ 126
        · have h3 : c = 37 := by
            by_cases q : c = 37
            · exact q
            · exact absurd ⟨h1, h2, q⟩ h
          rw [decide_eq_true h3]; simp
        · rw [decide_eq_false h2]; simp
      · rw [decide_eq_false h1]; simp
theorem r_lgood {n : Nat} {S : Store} {p : List Nat} (hz : p.length ≤ 1000000) : run tab (n + 2) 17 [tx p] S = .ok (.bl (okp p)) S := by
  have hz' : p.length ≤ sizeLine := Nat.le_trans hz (by decide)
  have ct : cutW (.val (tx p)) (some (-1)) none S = .ok (.val (tx (p.drop (p.length - 1)))) S := by rw [cut_tx hz', cut_last]
  refine r_run (F := ⟨1, 2, b17⟩) rfl rfl ?_ (pack_same und_bl)
  unfold okp
  by_cases h : p.drop (p.length - 1) = [10]
  · rw [decide_eq_true h, Bool.true_and]
    apply Exists.intro
    refine (y_if0 (by simp [neg_ok, ct, nl_S, ne_tx, h])).trans ?_
    refine y_ret ?_
    have cp := comp_pure (C := run tab (n + 1)) (ρ := [some (tx p), none]) (S := S) (S' := S) (i := 1) (k := .it) (is := [.v 0]) (e := .or_ (.p2 .eq (.v 1) (.c (.str "\n"))) (.p2 .eq (.call 11 [(.p2 .sub (.p2 .sub (.p1 .ord (.v 1)) (.c (.int 32))) (.p1 .int_ (.p2 .gt (.p1 .ord (.v 1)) (.c (.int 37)))))]) (.v 1))) (own := [1]) (ws := [.val (tx p)]) (I := ⟨p.map fun c => tx [c], []⟩)
      (f := fun d => match d with | .str x => .bl (okc (x.cps.getD 0 0)) | d => d) (by simp) its_tx isLive_nil (by rw [List.length_map]; exact hz') (fun d hd => by
        obtain ⟨c, hc, rfl⟩ := List.mem_map.mp hd
        show (evK _ _ [some (tx p), some (tx [c])] S).bd toD = .ok (.bl (okc c)) S
        have o1 : p1 .ord (.val (tx [c])) S = .ok (.val (.int c)) S := ord_tx
        have ib : ∀ b : Bool, p1 .int_ (.val (.bl b)) S = .ok (.val (.int (if b then 1 else 0))) S := fun b => rfl
        have sg1 := fun i => r_sign (n := n) (S := S) (i := i)
        have e2 : (if decide ((37 : Int) < c) = true then (1 : Int) else 0) = if (37 : Int) < c then 1 else 0 := by simp
        rw [nl_S]
        by_cases h0 : c = 10
        · subst h0; simp [eq_tx, okc]
        · rw [okc_sg]
          have d0 : decide (c = 10) = false := decide_eq_false h0
          have e1 : ([c] = [10]) = False := by simp [h0]
          simp [eq_tx, h0, o1, sub_ok, gt_ii, ib, sg1])
    have e3 : (p.map fun c => tx [c]).map (fun d => match d with | .str x => D.bl (okc (x.cps.getD 0 0)) | d => d) = (p.map okc).map D.bl := by
      rw [List.map_map, List.map_map]
      exact List.map_congr_left fun c _ => rfl
    dsimp only at cp
    rw [e3] at cp
    have al := all_lis (S := S) (bs := p.map okc)
    rw [List.all_map] at al
    show ((evK _ (.p1 .all_ _) [some (tx p), none] S).bd toD) = _
    rw [e_p1, cp, bd_ok', al]
    rfl
  · rw [decide_eq_false h, Bool.false_and]
    apply Exists.intro
    exact y_if1 (by simp [neg_ok, ct, nl_S, ne_tx, h]) (by simp)
end Mi.L

namespace Mi.L
open PySem Mi
/-! ### the law's numbers -/
def bl2 (h : List Nat) : Bool := decide (h = []) || (decide (20 < h.length) || (decide (h.head? = some 48) && decide (1 < h.length)))
def lnum (h : List Nat) : Int := if bl2 h = true then -1 else if h.all isD = true then ((NumText.digitsVal h : Nat) : Int) else -1
theorem r_lnumber {n : Nat} {S : Store} {h : List Nat} (hz : h.length ≤ 1000000) : run tab (n + 1) 16 [tx h] S = .ok (.int (lnum h)) S := by
  have hz' : h.length ≤ sizeLine := Nat.le_trans hz (by decide)
  have eb : evB (run tab n) (.or_ (.p2 .eq (.v 0) (.c (.str ""))) (.or_ (.p2 .gt (.p1 .len (.v 0)) (.c (.int 20))) (.and_ (.p2 .eq (.p2 .ix (.v 0) (.c (.int 0))) (.c (.str "0"))) (.p2 .gt (.p1 .len (.v 0)) (.c (.int 1)))))) [some (tx h), none] S = .ok (bl2 h) S := by
    cases h with
    | nil => simp [e_S, eq_tx, bl2]
    | cons c r =>
      have ix := ix_tx (S := S) (l := c :: r) (i := 0) (c := c) (atI_at (by decide) rfl) hz'
      have ln := len_tx (S := S) hz'
      have v4 : evK (run tab n) (.v 0) [some (tx (c :: r)), none] S = .ok (.val (tx (c :: r))) S := e_v rfl
      rw [e_S, nt_S]
      by_cases h1 : (20 : Int) < ((c :: r).length : Int)
      · have h2 : 20 < (c :: r).length := by omega
        have : bl2 (c :: r) = true := by unfold bl2; rw [decide_eq_true h2]; simp
        rw [this]
        have d1 : decide ((20 : Int) < ((c :: r).length : Int)) = true := decide_eq_true h1
        simp only [e_B, e_or, e_p2, e_p1, v4, e_c, bd_ok', eq_tx, toB_bl, ln, gt_ii, d1, vv_ok', if_true, reduceCtorEq, decide_false, Bool.false_eq_true, if_false]
      · have h2 : ¬ 20 < (c :: r).length := by omega
        have d1 : decide ((20 : Int) < ((c :: r).length : Int)) = false := decide_eq_false h1
        have d2 : decide ((1 : Int) < ((c :: r).length : Int)) = decide (1 < (c :: r).length) := by
          by_cases q : 1 < (c :: r).length
          · rw [decide_eq_true q, decide_eq_true (by omega)]
          · rw [decide_eq_false q, decide_eq_false (by omega)]
        simp only [e_B, e_or, e_and, e_p2, e_p1, v4, e_c, bd_ok', eq_tx, toB_bl, ln, gt_ii, d1, d2, vv_ok', ix, ne_tx, reduceCtorEq, decide_false, Bool.false_eq_true, if_false]
        unfold bl2
        rw [decide_eq_false h2]
        by_cases h3 : c = 48
        · subst h3; simp
        · simp [h3]
  refine r_run (F := ⟨1, 2, b16⟩) rfl rfl ?_ (pack_same und_int)
  apply Exists.intro
  unfold lnum
  by_cases hb : bl2 h = true
  · rw [if_pos hb]
    exact y_if1 (eb.trans (by rw [hb])) (by simp [neg_ok])
  · rw [if_neg hb]
    refine (y_if0 (eb.trans (by simp only [Bool.not_eq_true] at hb; rw [hb]))).trans ?_
    have cp := comp_pure (C := run tab n) (ρ := [some (tx h), none]) (S := S) (S' := S) (i := 1) (k := .it) (is := [.v 0]) (e := .p2 .inn (.v 1) (.c (.str "0123456789"))) (own := [1]) (ws := [.val (tx h)]) (I := ⟨h.map fun c => tx [c], []⟩)
      (f := fun d => match d with | .str x => .bl (isD (x.cps.getD 0 0)) | d => d) (by simp) its_tx isLive_nil (by rw [List.length_map]; exact hz') (fun d hd => by
        obtain ⟨c, hc, rfl⟩ := List.mem_map.mp hd
        show (evK _ _ [some (tx h), some (tx [c])] S).bd toD = .ok (.bl (isD c)) S
        simp [fig_S, in_tx, mem_dgs])
    have e3 : (h.map fun c => tx [c]).map (fun d => match d with | .str x => D.bl (isD (x.cps.getD 0 0)) | d => d) = (h.map isD).map D.bl := by
      rw [List.map_map, List.map_map]
      exact List.map_congr_left fun c _ => rfl
    dsimp only at cp
    rw [e3] at cp
    have al := all_lis (S := S) (bs := h.map isD)
    rw [List.all_map] at al
    have al2 : (h.all (id ∘ isD)) = h.all isD := rfl
    rw [al2] at al
    have en : evB (run tab n) (.not_ (.p1 .all_ (.comp (.nm 1) .it [.v 0] [] (.p2 .inn (.v 1) (.c (.str "0123456789"))) [1]))) [some (tx h), none] S = .ok (!h.all isD) S := by
      simp only [e_B, e_not, e_p1, cp, bd_ok', al, toB_bl, vv_ok']
    by_cases ha : h.all isD = true
    · rw [if_pos ha]
      refine (y_if0 (en.trans (by rw [ha]; rfl))).trans ?_
      have hne : h ≠ [] := fun e => hb (by unfold bl2; rw [e]; simp)
      have hl : h.length ≤ 20 := by
        have hb' : bl2 h = false := by simpa using hb
        unfold bl2 at hb'
        simp only [Bool.or_eq_false_iff, decide_eq_false_iff_not] at hb'
        omega
      exact y_ret (by simp [int_tx (S := S) ha hne (by omega)])
    · rw [if_neg ha]
      exact y_if1 (en.trans (by simp only [Bool.not_eq_true] at ha; rw [ha]; rfl)) (by simp [neg_ok])
/-! ### both read the same numbers -/
theorem cnt_app : ∀ (f : Nat) (h r : List Nat) (c : Nat), h.all isD = true → h.length < f → isD c = false → cnt f (h ++ c :: r) = h.length
  | 0, h, r, c, _, hl, _ => absurd hl (by omega)
  | f + 1, [], r, c, _, _, hc => by
    show (if isD c = true then cnt f r + 1 else 0) = 0
    rw [if_neg (by rw [hc]; decide)]
  | f + 1, d :: h, r, c, ha, hl, hc => by
    rw [List.all_cons, Bool.and_eq_true] at ha
    rw [List.length_cons] at hl
    show (if isD d = true then cnt f (h ++ c :: r) + 1 else 0) = _
    rw [if_pos ha.1, cnt_app f h r c ha.2 (by omega) hc, List.length_cons]
/-- figures that write a number -/
def good (h : List Nat) : Prop := bl2 h = false ∧ h.all isD = true
theorem good_len {h : List Nat} (g : good h) : h.length ≤ 20 ∧ h ≠ [] := by
  have hb := g.1
  unfold bl2 at hb
  simp only [Bool.or_eq_false_iff, decide_eq_false_iff_not] at hb
  exact ⟨by omega, hb.1⟩
theorem bad_iff {h : List Nat} : badG h = bl2 h := by
  unfold badG bl2
  congr 2
  cases h with
  | nil => rfl
  | cons c r =>
    by_cases e : c = 48
    · subst e
      cases r with
      | nil => rfl
      | cons d r => simp
    · simp [e]
theorem numAt_some {t : List Nat} {a c : Nat} {p : Nat × Nat} (hc : isD c = false) : numAt t a c = some p ↔ ∃ h r, t.drop a = h ++ c :: r ∧ good h ∧ p = (NumText.digitsVal h, a + h.length + 1) := by
  unfold numAt
  constructor
  · intro h
    split at h
    · cases h
    · rename_i hb
      split at h
      · rename_i hq
        cases h
        have hk := cnt_le 21 (t.drop a)
        have hl : ((t.drop a).take (cnt 21 (t.drop a))).length = cnt 21 (t.drop a) := by rw [List.length_take]; omega
        refine ⟨(t.drop a).take (cnt 21 (t.drop a)), (t.drop (a + cnt 21 (t.drop a))).drop 1, ?_, ⟨by rw [← bad_iff]; simpa using hb, cnt_take 21 _⟩, by rw [hl]⟩
        have e1 : t.drop (a + cnt 21 (t.drop a)) = [c] ++ (t.drop (a + cnt 21 (t.drop a))).drop 1 := by
          have := List.take_append_drop 1 (t.drop (a + cnt 21 (t.drop a)))
          rw [hq] at this; exact this.symm
        have e2 := List.take_append_drop (cnt 21 (t.drop a)) (t.drop a)
        rw [List.drop_drop] at e2
        rw [e1] at e2
        exact e2.symm
      · cases h
  · rintro ⟨h, r, e, g, rfl⟩
    obtain ⟨g1, g2⟩ := good_len g
    have ck : cnt 21 (t.drop a) = h.length := by rw [e]; exact cnt_app 21 h r c g.2 (by omega) hc
    have e1 : (t.drop a).take h.length = h := by rw [e, List.take_left]
    have e2 : t.drop (a + h.length) = c :: r := by rw [← List.drop_drop, e, List.drop_left]
    rw [ck, e1, if_neg (by rw [bad_iff, g.1]; decide), e2, if_pos (show List.take 1 (c :: r) = [c] from by simp)]
theorem numAt_none {t : List Nat} {a c : Nat} (hc : isD c = false) : (∀ h r, t.drop a = h ++ c :: r → ¬ good h) → numAt t a c = none := fun k => by
  cases q : numAt t a c with
  | none => rfl
  | some p =>
    obtain ⟨h, r, e, g, _⟩ := (numAt_some hc).mp q
    exact absurd g (k h r e)
theorem lnum_good {h : List Nat} (g : good h) : lnum h = ((NumText.digitsVal h : Nat) : Int) := by
  unfold lnum
  rw [g.1, if_neg (by decide), if_pos g.2]
theorem lnum_bad {h : List Nat} (g : ¬ good h) : lnum h = -1 := by
  unfold lnum
  split
  · rfl
  · rename_i hb
    split
    · rename_i ha
      exact absurd ⟨by simpa using hb, ha⟩ g
    · rfl
/-- cut at a sign -/
def cutc (c : Nat) (l : List Nat) : List (List Nat) := TL.spl [c] 0 [] l
theorem cutc_no {c : Nat} {l : List Nat} (h : c ∉ l) : cutc c l = [l] := by
  have := TL.spl_last1 (s := c) (S := []) (p := l) (acc := []) h
  rwa [List.nil_append] at this
theorem cutc_at {c : Nat} {h r : List Nat} (hh : c ∉ h) : cutc c (h ++ c :: r) = h :: cutc c r := by
  have := TL.spl_part1 (s := c) (S := []) (p := h) (rest := r) (acc := []) hh
  rw [List.nil_append] at this
  exact this
theorem cutc_ne (c : Nat) (l : List Nat) : cutc c l ≠ [] := by
  by_cases h : c ∈ l
  · obtain ⟨a, b, rfl, ha⟩ := List.eq_append_cons_of_mem h
    rw [cutc_at ha]; simp
  · rw [cutc_no h]; simp
theorem good_no {h : List Nat} {c : Nat} (hc : isD c = false) (g : good h) : c ∉ h := fun m => by
  have := List.all_eq_true.mp g.2 c m
  rw [hc] at this; cases this
/-- what the law looks at tells what the program reads -/
theorem numAt_cut {t : List Nat} {a c : Nat} (hc : isD c = false) : numAt t a c = match cutc c (t.drop a) with
    | [] => none
    | h :: q => if 0 ≤ lnum h ∧ q ≠ [] then some ((lnum h).toNat, a + h.length + 1) else none := by
  by_cases hm : c ∈ t.drop a
  · obtain ⟨h, r, e, hh⟩ := List.eq_append_cons_of_mem hm
    rw [e, cutc_at hh]
    dsimp only
    by_cases g : good h
    · rw [lnum_good g, if_pos ⟨by omega, cutc_ne _ _⟩]
      exact (numAt_some hc).mpr ⟨h, r, e, g, by simp⟩
    · rw [lnum_bad g, if_neg (by omega)]
      refine numAt_none hc fun h2 r2 e2 g2 => g ?_
      have h3 := good_no hc g2
      rw [e] at e2
      have z1 : cutc c (h ++ c :: r) = cutc c (h2 ++ c :: r2) := by rw [e2]
      rw [cutc_at hh, cutc_at h3] at z1
      injection z1 with z1 _
      rw [z1]; exact g2
  · rw [cutc_no hm]
    dsimp only
    rw [if_neg (by simp)]
    exact numAt_none hc fun h2 r2 e2 _ => hm (by rw [e2]; simp)
end Mi.L

namespace Mi.L
open PySem Mi
/-! ### the record at a place -/
def recAt (t : List Nat) (a : Nat) : Option (List (List Nat) × Nat) := match numAt t a 58 with
  | none => none
  | some q => if ((t.drop q.2).take q.1).length < q.1 ∨ okp ((t.drop q.2).take q.1) = false then none else
    match numAt t (q.2 + q.1) 10 with
    | none => none
    | some k => if (k.1 : Int) = ck ((t.drop q.2).take q.1) then some (cutc 10 ((t.drop q.2).take q.1).dropLast, k.2) else none
theorem isN_dnum {S : Store} {o : Option (Nat × Nat)} : p1 .isN (.val (dnum o)) S = .ok (.val (.bl o.isNone)) S := by cases o <;> rfl
theorem ne_dn {S : Store} {i j : Int} : p2 .ne (.val (.int i)) (.val (.int j)) S = .ok (.val (.bl (!decide (i = j)))) S := ne_ii
theorem und_dnum {k : Nat} {o : Option (Nat × Nat)} : D.und k (dnum o) = true := by cases o <;> simp [dnum]
theorem keep_pack {S T : Store} {ds : List D} (h : D.unds S.length ds = false) : pack S (.tup ds) (S ++ T) = .ok (.tup ds) (S ++ T) := by
  unfold pack
  rw [if_pos (keeps_app S T), if_neg (by rw [und_tup, h]; decide)]
theorem lit_co {C : CF} {ρ : Env} {S : Store} : evK C (.c (.str ":")) ρ S = .ok (.val (tx [58])) S := by rw [e_c, co_S]
theorem lit_nl {C : CF} {ρ : Env} {S : Store} : evK C (.c (.str "\n")) ρ S = .ok (.val (tx [10])) S := by rw [e_c, nl_S]
theorem r_record_none {n : Nat} {S : Store} {t : List Nat} {a : Nat} (hz : t.length ≤ 1000000) (hl : low t) (h : recAt t a = none) : run tab (n + 6) 7 [tx t, dn a] S = .ok .non S := by
  have hz' : t.length ≤ sizeLine := Nat.le_trans hz (by decide)
  have n1 := r_number_at (n := n + 4) (S := S) (t := t) (a := a) (c := 58) hz
  refine r_run (F := ⟨2, 7, b7⟩) rfl rfl ?_ (pack_same und_non)
  unfold recAt at h
  refine Rt.go (y_set (dnum (numAt t a 58)) (by simp [co_S, n1])) ?_
  cases q : numAt t a 58 with
  | none => exact Rt.fin (y_if1 (by simp [q, isN_dnum]) (by simp))
  | some q1 =>
    rw [q] at h
    dsimp only at h
    obtain ⟨z, f⟩ := q1
    dsimp only at h
    refine Rt.go (y_if0 (by simp [isN_dnum])) ?_
    refine Rt.go (y_tp [dn z, dn f] (by simp [dnum]) rfl) ?_
    have ct : cutW (.val (tx t)) (some (f : Int)) (some ((f : Int) + (z : Int))) S = .ok (.val (tx ((t.drop f).take z))) S := by
      rw [cut_n (c := (z : Int)) (by omega) hz']; rfl
    refine Rt.go (y_set (tx ((t.drop f).take z)) (by simp [bindTs, add_ok, ct])) ?_
    have pl : ((t.drop f).take z).length ≤ t.length := by rw [List.length_take, List.length_drop]; omega
    have ln := len_tx (S := S) (Nat.le_trans pl hz')
    have ip := r_is_payload (n := n + 4) (S := S) (Nat.le_trans pl hz)
    have c1 := r_check (n := n) (S := S) (Nat.le_trans pl hz) (low_take (low_drop hl f) z)
    obtain ⟨p, hp⟩ : ∃ p, p = (t.drop f).take z := ⟨_, rfl⟩
    rw [← hp] at h ln ip pl c1 ⊢
    have n2 := r_number_at (n := n + 4) (S := S) (t := t) (a := f + z) (c := 10) hz
    by_cases h1 : p.length < z
    · have h1' : (p.length : Int) < z := by omega
      exact Rt.fin (y_if1 (by simp [bindTs, ln, lt_ii, h1']) (by simp))
    · have h1' : ¬ (p.length : Int) < z := by omega
      cases h2 : okp p with
      | false => exact Rt.fin (y_if1 (by simp [bindTs, ln, lt_ii, h1', ip, h2]) (by simp))
      | true =>
        rw [if_neg (by rw [h2]; simp [h1])] at h
        refine Rt.go (y_if0 (by simp [bindTs, ln, lt_ii, h1', ip, h2])) ?_
        refine Rt.go (y_set (dnum (numAt t (f + z) 10)) ?_) ?_
        · have e : (f : Int) + z = ((f + z : Nat) : Int) := by omega
          simp [bindTs, add_ok, nl_S, e, n2, -Int.natCast_add]
        cases q2 : numAt t (f + z) 10 with
        | none => exact Rt.fin (y_if1 (by simp [bindTs, isN_dnum]) (by simp))
        | some k =>
          rw [q2] at h
          dsimp only at h
          have ix : p2 .ix (.val (dnum (some k))) (.val (.int 0)) S = .ok (.val (dn k.1)) S := ix_tup (ds := [dn k.1, dn k.2]) (atI_at (by decide) rfl)
          by_cases h3 : (k.1 : Int) = ck p
          · rw [if_pos h3] at h; cases h
          · exact Rt.fin (y_if1 (by simp [bindTs, isN_dnum, ix, c1, ne_ii, h3]) (by simp))
theorem r_record_some {n : Nat} {S : Store} {t : List Nat} {a : Nat} {w : List (List Nat) × Nat} (hz : t.length ≤ 1000000) (hl : low t) (h : recAt t a = some w) :
    run tab (n + 6) 7 [tx t, dn a] S = .ok (.tup [.ref S.length, dn w.2]) (S ++ [.lst (w.1.map tx)]) := by
  have hz' : t.length ≤ sizeLine := Nat.le_trans hz (by decide)
  have n1 := r_number_at (n := n + 4) (S := S) (t := t) (a := a) (c := 58) hz
  refine r_run (F := ⟨2, 7, b7⟩) rfl rfl ?_ (keep_pack (by simp))
  unfold recAt at h
  refine Rt.go (y_set (dnum (numAt t a 58)) (by simp [co_S, n1])) ?_
  cases q : numAt t a 58 with
  | none => rw [q] at h; cases h
  | some q1 =>
    rw [q] at h
    dsimp only at h
    obtain ⟨z, f⟩ := q1
    dsimp only at h
    refine Rt.go (y_if0 (by simp [isN_dnum])) ?_
    refine Rt.go (y_tp [dn z, dn f] (by simp [dnum]) rfl) ?_
    have ct : cutW (.val (tx t)) (some (f : Int)) (some ((f : Int) + (z : Int))) S = .ok (.val (tx ((t.drop f).take z))) S := by
      rw [cut_n (c := (z : Int)) (by omega) hz']; rfl
    refine Rt.go (y_set (tx ((t.drop f).take z)) (by simp [bindTs, add_ok, ct])) ?_
    have pl : ((t.drop f).take z).length ≤ t.length := by rw [List.length_take, List.length_drop]; omega
    have ln := len_tx (S := S) (Nat.le_trans pl hz')
    have ip := r_is_payload (n := n + 4) (S := S) (Nat.le_trans pl hz)
    have c1 := r_check (n := n) (S := S) (Nat.le_trans pl hz) (low_take (low_drop hl f) z)
    obtain ⟨p, hp⟩ : ∃ p, p = (t.drop f).take z := ⟨_, rfl⟩
    rw [← hp] at h ln ip pl c1 ⊢
    have n2 := r_number_at (n := n + 4) (S := S) (t := t) (a := f + z) (c := 10) hz
    by_cases h1 : p.length < z
    · rw [if_pos (Or.inl h1)] at h; cases h
    · have h1' : ¬ (p.length : Int) < z := by omega
      cases h2 : okp p with
      | false => rw [if_pos (Or.inr h2)] at h; cases h
      | true =>
        rw [if_neg (by rw [h2]; simp [h1])] at h
        refine Rt.go (y_if0 (by simp [bindTs, ln, lt_ii, h1', ip, h2])) ?_
        refine Rt.go (y_set (dnum (numAt t (f + z) 10)) ?_) ?_
        · have e : (f : Int) + z = ((f + z : Nat) : Int) := by omega
          simp [bindTs, add_ok, nl_S, e, n2, -Int.natCast_add]
        cases q2 : numAt t (f + z) 10 with
        | none => rw [q2] at h; cases h
        | some k =>
          rw [q2] at h
          dsimp only at h
          have ix : p2 .ix (.val (dnum (some k))) (.val (.int 0)) S = .ok (.val (dn k.1)) S := ix_tup (ds := [dn k.1, dn k.2]) (atI_at (by decide) rfl)
          have ix1 : ∀ T : Store, p2 .ix (.val (dnum (some k))) (.val (.int 1)) T = .ok (.val (dn k.2)) T := fun T => ix_tup (ds := [dn k.1, dn k.2]) (atI_at (by decide) rfl)
          by_cases h3 : (k.1 : Int) = ck p
          · rw [if_pos h3] at h
            cases h
            refine Rt.go (y_if0 (by simp [bindTs, isN_dnum, ix, c1, ne_ii, h3])) ?_
            have cb : cutW (.val (tx p)) none (some (-1)) S = .ok (.val (tx p.dropLast)) S := by rw [cut_tx (Nat.le_trans pl hz'), cut_but]
            have dl : p.dropLast.length ≤ p.length := by rw [List.length_dropLast]; omega
            have sp := split_tx (S := S) (a := p.dropLast) (c := 10) (by decide) (Nat.le_trans (by omega : _ ≤ 1000002) (by decide))
            refine Rt.fin (x_ret (S' := S ++ [.lst ((cutc 10 p.dropLast).map tx)]) ?_)
            have mi : MK.str.is S (.val (tx p.dropLast)) = true := rfl
            simp [bindTs, neg_ok, cb, nl_S, mi, sp, ix1, sz2, cutc]
          · rw [if_neg h3] at h; cases h
end Mi.L

namespace Mi.L
open PySem Mi
/-! ### all records -/
abbrev Rc := List (List Nat) × Nat
def rdf : Nat → List Nat → Nat → List Rc
  | 0, _, _ => []
  | f + 1, t, a => match recAt t a with
    | none => []
    | some w => w :: rdf f t w.2
theorem numAt_pos {t : List Nat} {a c : Nat} {p : Nat × Nat} (hc : isD c = false) (h : numAt t a c = some p) : a < p.2 ∧ p.2 ≤ t.length := by
  obtain ⟨h, r, e, g, rfl⟩ := (numAt_some hc).mp h
  have := congrArg List.length e
  rw [List.length_drop, List.length_append, List.length_cons] at this
  dsimp only
  omega
theorem recAt_pos {t : List Nat} {a : Nat} {w : Rc} (h : recAt t a = some w) : a < w.2 ∧ w.2 ≤ t.length := by
  unfold recAt at h
  split at h
  · cases h
  · rename_i q hq
    have p1 := numAt_pos (by decide) hq
    split at h
    · cases h
    · split at h
      · cases h
      · rename_i k hk
        have p2 := numAt_pos (by decide) hk
        split at h
        · cases h
          dsimp only
          omega
        · cases h
theorem recAt_end {t : List Nat} {a : Nat} (h : t.length < a) : recAt t a = none := by
  cases q : recAt t a with
  | none => rfl
  | some w => have := recAt_pos q; omega
def refs (B : Store) (r : List Rc) : List D := (List.range r.length).map fun i => D.ref (B.length + 2 + i)
def ends (r : List Rc) : List D := r.map fun q => dn q.2
def objs (r : List Rc) : List O := r.map fun q => O.lst (q.1.map tx)
def Tt (B : Store) (r : List Rc) : Store := B ++ ([O.lst (refs B r), O.lst (ends r)] ++ objs r)
theorem Tt_len (B : Store) (r : List Rc) : (Tt B r).length = B.length + 2 + r.length := by
  unfold Tt objs
  simp; omega
theorem Tt_0 (B : Store) (r : List Rc) : (Tt B r)[B.length]? = some (.lst (refs B r)) := by
  unfold Tt
  rw [List.getElem?_append_right (Nat.le_refl _), Nat.sub_self]; rfl
theorem Tt_1 (B : Store) (r : List Rc) : (Tt B r)[B.length + 1]? = some (.lst (ends r)) := by
  unfold Tt
  rw [List.getElem?_append_right (by omega), Nat.add_sub_cancel_left]; rfl
theorem refs_snoc (B : Store) (r : List Rc) (w : Rc) : refs B (r ++ [w]) = refs B r ++ [.ref (B.length + 2 + r.length)] := by
  unfold refs
  rw [List.length_append, List.length_singleton, List.range_succ, List.map_append]; rfl
theorem ends_snoc (r : List Rc) (w : Rc) : ends (r ++ [w]) = ends r ++ [dn w.2] := by unfold ends; rw [List.map_append]; rfl
theorem refs_len (B : Store) (r : List Rc) : (refs B r).length = r.length := by unfold refs; simp
theorem ends_len (r : List Rc) : (ends r).length = r.length := by unfold ends; simp
/-- behind one more record -/
def Tm (B : Store) (r : List Rc) (w : Rc) : Store := B ++ ([O.lst (refs B (r ++ [w])), O.lst (ends r)] ++ (objs r ++ [O.lst (w.1.map tx)]))
theorem Tm_set (B : Store) (r : List Rc) (w : Rc) : (Tt B r ++ [O.lst (w.1.map tx)]).set B.length (.lst (refs B r ++ [.ref (B.length + 2 + r.length)])) = Tm B r w := by
  unfold Tt Tm
  rw [← refs_snoc B r w, List.append_assoc, List.set_append_right _ _ (Nat.le_refl _), Nat.sub_self, List.append_assoc]; rfl
theorem Tm_1 (B : Store) (r : List Rc) (w : Rc) : (Tm B r w)[B.length + 1]? = some (.lst (ends r)) := by
  unfold Tm
  rw [List.getElem?_append_right (by omega), Nat.add_sub_cancel_left]; rfl
theorem Tm_set2 (B : Store) (r : List Rc) (w : Rc) : (Tm B r w).set (B.length + 1) (.lst (ends r ++ [dn w.2])) = Tt B (r ++ [w]) := by
  unfold Tt Tm objs
  rw [← ends_snoc r w, List.set_append_right _ _ (by omega), Nat.add_sub_cancel_left, List.map_append]; rfl
theorem isN_non {S : Store} : p1 .isN (.val .non) S = .ok (.val (.bl true)) S := rfl
theorem stop8 {n : Nat} {B T : Store} {t : List Nat} {a : Nat} {x4 x5 : Option D} (hz : t.length ≤ 1000000) (hl : low t) (h : recAt t a = none) : ∃ ρ', whileF (evB (run tab (n + 6)) (.c (.bl true))) (exSs (run tab (n + 6)) b8_0) 1 [some (tx t), some (.ref B.length), some (.ref (B.length + 1)), some (dn a), x4, x5] T = some (.ok (.rt (.tup [.ref B.length, .ref (B.length + 1)])) ρ' T) := by
  have rn := r_record_none (n := n) (S := T) hz hl h
  have e : Rt (exSs (run tab (n + 6)) b8_0 [some (tx t), some (.ref B.length), some (.ref (B.length + 1)), some (dn a), x4, x5] T) (.tup [.ref B.length, .ref (B.length + 1)]) T := by
    refine Rt.go (y_set .non (by simp [rn])) ?_
    exact Rt.fin (y_if1 (by simp [isN_non]) (by simp [sz2]))
  obtain ⟨ρ', e⟩ := e
  exact ⟨ρ', whileF_rt (S1 := T) (by simp) e⟩
theorem loop8 {n : Nat} {B : Store} {t : List Nat} (hz : t.length ≤ 1000000) (hl : low t) : ∀ (f a : Nat) (r : List Rc) (x4 x5 : Option D), t.length < a + f → r.length ≤ a → a ≤ t.length + 1 →
    ∃ m ρ', whileF (evB (run tab (n + 6)) (.c (.bl true))) (exSs (run tab (n + 6)) b8_0) m [some (tx t), some (.ref B.length), some (.ref (B.length + 1)), some (dn a), x4, x5] (Tt B r) = some (.ok (.rt (.tup [.ref B.length, .ref (B.length + 1)])) ρ' (Tt B (r ++ rdf f t a))) := by
  intro f
  induction f with
  | zero =>
    intro a r x4 x5 h1 h2 h3
    have e : rdf 0 t a = [] := rfl
    rw [e, List.append_nil]
    exact ⟨1, stop8 (n := n) hz hl (recAt_end (by omega))⟩
  | succ f ih =>
    intro a r x4 x5 h1 h2 h3
    cases q : recAt t a with
    | none =>
      have e : rdf (f + 1) t a = [] := by
        show (match recAt t a with | none => [] | some w => w :: rdf f t w.2) = _
        rw [q]
      rw [e, List.append_nil]
      exact ⟨1, stop8 (n := n) hz hl q⟩
    | some w =>
      have rs := r_record_some (n := n) (S := Tt B r) hz hl q
      have hp := recAt_pos q
      have tl := Tt_len B r
      rw [tl] at rs
      obtain ⟨m, ρ', hm⟩ := ih w.2 (r ++ [w]) (some (.tup [.ref (B.length + 2 + r.length), dn w.2])) (some (.ref (B.length + 2 + r.length))) (by omega) (by rw [List.length_append, List.length_singleton]; omega) (by omega)
      have bs : (1000001 : Nat) < sizeLine := by decide
      refine ⟨m + 1, ρ', whileF_go (S1 := Tt B r) (ρ' := [some (tx t), some (.ref B.length), some (.ref (B.length + 1)), some (dn w.2), some (.tup [.ref (B.length + 2 + r.length), dn w.2]), some (.ref (B.length + 2 + r.length))]) (S2 := Tt B (r ++ [w])) (by simp) ?_ ?_⟩
      · refine (x_set (d := .tup [.ref (B.length + 2 + r.length), dn w.2]) (S' := Tt B r ++ [.lst (w.1.map tx)]) (by simp [rs])).trans ?_
        refine (y_if0 (by simp [isN_tup])).trans ?_
        refine (y_tp [.ref (B.length + 2 + r.length), dn w.2] (by simp) rfl).trans ?_
        have g0 : (Tt B r ++ [O.lst (w.1.map tx)])[B.length]? = some (.lst (refs B r)) := by rw [List.getElem?_append_left (by rw [tl]; omega)]; exact Tt_0 B r
        have a1 := app_at (w := .ref (B.length + 2 + r.length)) g0 (by rw [refs_len]; omega)
        rw [Tm_set] at a1
        have k1 := isK_at g0
        refine (x_exp (w := .val .non) (S' := Tm B r w) (by simp [bindTs, k1, a1])).trans ?_
        have a2 := app_at (w := dn w.2) (Tm_1 B r w) (by rw [ends_len]; omega)
        rw [Tm_set2] at a2
        have k2 := isK_at (Tm_1 B r w)
        refine (x_exp (w := .val .non) (S' := Tt B (r ++ [w])) (by simp [bindTs, k2, a2])).trans ?_
        exact x_nil
      · rw [hm]
        have : rdf (f + 1) t a = w :: rdf f t w.2 := by
          show (match recAt t a with | none => [] | some w => w :: rdf f t w.2) = _
          rw [q]
        rw [this, List.append_assoc]; rfl
/-- the records of a text -/
def rall (t : List Nat) : List Rc := rdf (t.length + 1) t 0
theorem r_records {n : Nat} {S : Store} {t : List Nat} (hz : t.length ≤ 1000000) (hl : low t) : run tab (n + 7) 8 [tx t] S = .ok (.tup [.ref S.length, .ref (S.length + 1)]) (Tt S (rall t)) := by
  obtain ⟨m, ρ', hm⟩ := loop8 (n := n) (B := S) hz hl (t.length + 1) 0 [] none none (by omega) (by simp) (by omega)
  have t0 : Tt S [] = S ++ [.lst [], .lst []] := rfl
  refine r_run (F := ⟨1, 6, b8⟩) rfl rfl (d := .tup [.ref S.length, .ref (S.length + 1)]) (S' := Tt S (rall t)) ?_ (keep_pack (by simp))
  refine Rt.go (x_set (d := .ref S.length) (S' := S ++ [.lst []]) (by simp)) ?_
  refine Rt.go (x_set (d := .ref (S.length + 1)) (S' := Tt S []) (by simp [t0])) ?_
  refine Rt.go (y_set (.int 0) (by simp)) ?_
  exact Rt.fin (x_whlR hm)
end Mi.L

namespace Mi.L
open PySem Mi
theorem lnum_rng (h : List Nat) : lnum h = -1 ∨ 0 ≤ lnum h := by
  by_cases g : good h
  · rw [lnum_good g]; omega
  · rw [lnum_bad g]; omega
/-- what the law asks at a place: none where it ends -/
def lawAt (t : List Nat) (a : Nat) : Option Rc := match cutc 58 (t.drop a) with
  | [] => none
  | h :: _ =>
    let f := a + h.length + 1
    let z := (lnum h).toNat
    let p := (t.drop f).take z
    match cutc 10 (t.drop (f + z)) with
    | [] => none
    | k :: q2 => if lnum h < 0 ∨ (p.length : Int) < lnum h ∨ okp p = false ∨ q2 = [] then none else if lnum k = ck p then some (cutc 10 p.dropLast, f + z + k.length + 1) else none
theorem okp_nil : okp [] = false := by decide
theorem lawAt_eq (t : List Nat) (a : Nat) : lawAt t a = recAt t a := by
  unfold lawAt recAt
  rw [numAt_cut (t := t) (a := a) (c := 58) (by decide)]
  cases e1 : cutc 58 (t.drop a) with
  | nil => rfl
  | cons h q =>
    dsimp only
    cases e2 : cutc 10 (t.drop (a + h.length + 1 + (lnum h).toNat)) with
    | nil => exact absurd e2 (cutc_ne _ _)
    | cons k q2 =>
      dsimp only
      by_cases h1 : 0 ≤ lnum h
      · by_cases h2 : q = []
        · have hno : 58 ∉ t.drop a := fun m => by
            obtain ⟨x, y, e, hx⟩ := List.eq_append_cons_of_mem m
            rw [e, cutc_at hx] at e1
            injection e1 with _ e1
            exact cutc_ne _ _ (e1.trans h2)
          rw [cutc_no hno] at e1
          injection e1 with e1 _
          have : t.drop (a + h.length + 1) = [] := by
            apply List.drop_eq_nil_of_le
            have := congrArg List.length e1
            rw [List.length_drop] at this
            omega
          rw [this, List.take_nil, if_pos (.inr (.inr (.inl okp_nil))), if_neg (by simp [h2])]
        · have hif : (if 0 ≤ lnum h ∧ q ≠ [] then some ((lnum h).toNat, a + h.length + 1) else none) = some ((lnum h).toNat, a + h.length + 1) := if_pos ⟨h1, h2⟩
          rw [hif]
          dsimp only
          rw [numAt_cut (t := t) (a := a + h.length + 1 + (lnum h).toNat) (c := 10) (by decide), e2]
          dsimp only
          obtain ⟨p, hp⟩ : ∃ p, p = (t.drop (a + h.length + 1)).take (lnum h).toNat := ⟨_, rfl⟩
          rw [← hp]
          have hc := (ck_rng p).1
          by_cases h3 : (p.length : Int) < lnum h
          · rw [if_pos (.inr (.inl h3)), if_pos (.inl (by omega))]
          · cases h4 : okp p with
            | false => rw [if_pos (.inr (.inr (.inl rfl))), if_pos (.inr rfl)]
            | true =>
              have h3' : ¬ (p.length < (lnum h).toNat ∨ true = false) := by simp; omega
              rw [if_neg h3']
              by_cases h5 : q2 = []
              · rw [if_pos (.inr (.inr (.inr h5))), if_neg (by simp [h5])]
              · rw [if_neg (by simp [h5]; omega)]
                rcases lnum_rng k with h6 | h6
                · rw [if_neg (by omega), if_neg (by omega)]
                · have hif2 : (if 0 ≤ lnum k ∧ q2 ≠ [] then some ((lnum k).toNat, a + h.length + 1 + (lnum h).toNat + k.length + 1) else none) = some ((lnum k).toNat, a + h.length + 1 + (lnum h).toNat + k.length + 1) := if_pos ⟨h6, h5⟩
                  rw [hif2]
                  dsimp only
                  rw [show (((lnum k).toNat : Nat) : Int) = lnum k by omega]
      · have hif : (if 0 ≤ lnum h ∧ q ≠ [] then some ((lnum h).toNat, a + h.length + 1) else none) = none := if_neg (fun z => h1 z.1)
        rw [hif, if_pos (.inl (by omega))]
theorem split_cut {S : Store} {l : List Nat} {c : Nat} (hc : c < 256) (hz : l.length ≤ 1000000) : p2 .split (.val (tx l)) (.val (tx [c])) S = .ok (.lis ((cutc c l).map tx)) S := split_tx hc (Nat.le_trans (by omega : _ ≤ 1000002) (by decide))
theorem cutc_mem {c : Nat} : ∀ (m : Nat) (l : List Nat), l.length ≤ m → ∀ h ∈ cutc c l, h.length ≤ l.length
  | 0, l, hm, h, hh => by
    have : l = [] := List.length_eq_zero_iff.mp (by omega)
    subst this
    rw [cutc_no List.not_mem_nil] at hh
    rw [List.mem_singleton.mp hh]; exact Nat.le_refl _
  | m + 1, l, hm, h, hh => by
    by_cases q : c ∈ l
    · obtain ⟨x, y, rfl, hx⟩ := List.eq_append_cons_of_mem q
      rw [cutc_at hx] at hh
      rw [List.length_append, List.length_cons] at hm ⊢
      rcases List.mem_cons.mp hh with e | hh
      · rw [e]; omega
      · have := cutc_mem m y (by omega) h hh
        omega
    · rw [cutc_no q] at hh
      rw [List.mem_singleton.mp hh]; exact Nat.le_refl _
theorem cutc_count {c : Nat} : ∀ (m : Nat) (l : List Nat), l.length ≤ m → (cutc c l).length ≤ l.length + 1
  | 0, l, hm => by
    have : l = [] := List.length_eq_zero_iff.mp (by omega)
    subst this
    rw [cutc_no List.not_mem_nil]; simp
  | m + 1, l, hm => by
    by_cases q : c ∈ l
    · obtain ⟨x, y, rfl, hx⟩ := List.eq_append_cons_of_mem q
      rw [cutc_at hx]
      rw [List.length_append, List.length_cons] at hm
      have := cutc_count (c := c) m y (by omega)
      rw [List.length_cons, List.length_append, List.length_cons]; omega
    · rw [cutc_no q]; simp
/-- a turn of the law's reader, up to its first question -/
theorem law_head {n : Nat} {B T : Store} {t : List Nat} {a : Nat} {x4 x5 x6 x7 x8 : Option D} {h k : List Nat} {q q2 : List (List Nat)} (hz : t.length ≤ 1000000)
    (e1 : cutc 58 (t.drop a) = h :: q) (e2 : cutc 10 (t.drop (a + h.length + 1 + (lnum h).toNat)) = k :: q2) {Z : RS → Prop}
    (hk : Z (exSs (run tab (n + 3)) [.iff (.or_ (.p2 .lt (.v 5) (.c (.int 0))) (.or_ (.p2 .lt (.p1 .len (.v 7)) (.v 5)) (.or_ (.not_ (.call 17 [(.v 7)])) (.p2 .lt (.p1 .len (.v 8)) (.c (.int 2)))))) [.ret (.tup [(.v 1), (.v 2)])] [], .iff (.p2 .ne (.call 16 [(.p2 .ix (.v 8) (.c (.int 0)))]) (.call 14 [(.v 7)])) [.ret (.tup [(.v 1), (.v 2)])] [], .exp (.m1 .list .append (.v 1) (.m1 .str .split (.sl (.v 7) [] [(.p1 .neg (.c (.int 1)))]) (.c (.str "\n")))), .set (.nm 3) (.p2 .add (.p2 .add (.p2 .add (.v 6) (.v 5)) (.p1 .len (.p2 .ix (.v 8) (.c (.int 0))))) (.c (.int 1))), .exp (.m1 .list .append (.v 2) (.v 3))]
      [some (tx t), some (.ref B.length), some (.ref (B.length + 1)), some (dn a), some (tx h), some (.int (lnum h)), some (dn (a + h.length + 1)), some (tx ((t.drop (a + h.length + 1)).take (lnum h).toNat)), some (.ref T.length)] (T ++ [.lst ((k :: q2).map tx)]))) :
    Z (exSs (run tab (n + 3)) b18_0 [some (tx t), some (.ref B.length), some (.ref (B.length + 1)), some (dn a), x4, x5, x6, x7, x8] T) := by
  have hz' : t.length ≤ sizeLine := Nat.le_trans hz (by decide)
  have dl : ∀ i, (t.drop i).length ≤ t.length := fun i => by rw [List.length_drop]; omega
  have hh : h.length ≤ t.length := Nat.le_trans (cutc_mem _ _ (Nat.le_refl _) h (by rw [e1]; exact List.mem_cons_self)) (dl a)
  have c0 : cutW (.val (tx t)) (some (a : Int)) none T = .ok (.val (tx (t.drop a))) T := by rw [cut_tx hz', cutD_from]
  have s0 := split_cut (S := T) (l := t.drop a) (c := 58) (by decide) (Nat.le_trans (dl a) hz)
  rw [e1] at s0
  have mi : ∀ l T, MK.str.is T (.val (tx l)) = true := fun l T => rfl
  have i0 : ∀ (x : List Nat) (y : List (List Nat)) (T : Store), p2 .ix (.lis (tx x :: y.map tx)) (.val (.int 0)) T = .ok (.val (tx x)) T := fun x y T => ix_lis (atI_at (by decide) rfl)
  have ln := len_tx (S := T) (Nat.le_trans hh hz')
  have l16 := r_lnumber (n := n + 2) (S := T) (h := h) (Nat.le_trans hh hz)
  obtain ⟨f, hf⟩ : ∃ f, f = a + h.length + 1 := ⟨_, rfl⟩
  obtain ⟨z, hzz⟩ : ∃ z, z = (lnum h).toNat := ⟨_, rfl⟩
  have mx : (if lnum h > 0 then lnum h else 0) = (z : Int) := by
    rcases lnum_rng h with r | r <;> split <;> omega
  have mx2 := max_ok (S := T) (i := 0) (j := lnum h)
  rw [mx] at mx2
  have ef : ((a : Int) + h.length) + 1 = (f : Int) := by omega
  have c1 : cutW (.val (tx t)) (some (f : Int)) (some ((f : Int) + (z : Int))) T = .ok (.val (tx ((t.drop f).take z))) T := by rw [cut_n (c := (z : Int)) (by omega) hz']; rfl
  have c2 : cutW (.val (tx t)) (some ((f : Int) + (z : Int))) none T = .ok (.val (tx (t.drop (f + z)))) T := by rw [show (f : Int) + z = ((f + z : Nat) : Int) by omega, cut_tx hz', cutD_from]
  have s1 := split_cut (S := T) (l := t.drop (f + z)) (c := 10) (by decide) (Nat.le_trans (dl _) hz)
  rw [← hf, ← hzz] at e2 hk
  rw [e2] at s1
  have go : ∀ {x y : RS}, x = y → Z y → Z x := fun h k => h ▸ k
  refine go (y_set (tx h) ?_) ?_
  · simp [c0, co_S, mi, s0, i0]
  refine go (y_set (.int (lnum h)) ?_) ?_
  · simp [l16]
  refine go (y_set (dn f) ?_) ?_
  · simp [ln, add_ok, ef]
  refine go (y_set (tx ((t.drop f).take z)) ?_) ?_
  · simp [mx2, add_ok, c1]
  refine go (x_set (d := .ref T.length) (S' := T ++ [.lst ((k :: q2).map tx)]) ?_) ?_
  · simp [mx2, add_ok, c2, nl_S, mi, s1]
  exact hk


/-- the law's store: its lists, and what else was made -/
def Ls (B : Store) (ns : List Nat) (r : List Rc) (X : Store) : Store := B ++ ([O.lst (ns.map D.ref), O.lst (ends r)] ++ X)
def Fits (B : Store) (X : Store) : List Nat → List Rc → Prop
  | [], [] => True
  | n :: ns, w :: r => (∃ i, n = B.length + 2 + i ∧ X[i]? = some (.lst (w.1.map tx))) ∧ Fits B X ns r
  | _, _ => False
theorem Fits.more {B X : Store} (Y : Store) : ∀ {ns : List Nat} {r : List Rc}, Fits B X ns r → Fits B (X ++ Y) ns r
  | [], [], _ => trivial
  | n :: ns, w :: r, ⟨⟨i, h1, h2⟩, h3⟩ => ⟨⟨i, h1, by rw [List.getElem?_append_left (List.getElem?_eq_some_iff.mp h2).1]; exact h2⟩, h3.more Y⟩
  | [], _ :: _, h => h.elim
  | _ :: _, [], h => h.elim
theorem Fits.snoc {B X : Store} {n : Nat} {w : Rc} (hn : ∃ i, n = B.length + 2 + i ∧ X[i]? = some (.lst (w.1.map tx))) : ∀ {ns : List Nat} {r : List Rc}, Fits B X ns r → Fits B X (ns ++ [n]) (r ++ [w])
  | [], [], _ => ⟨hn, trivial⟩
  | m :: ns, v :: r, ⟨h1, h3⟩ => ⟨h1, h3.snoc hn⟩
  | [], _ :: _, h => h.elim
  | _ :: _, [], h => h.elim
theorem Ls_0 (B : Store) (ns : List Nat) (r : List Rc) (X : Store) : (Ls B ns r X)[B.length]? = some (.lst (ns.map D.ref)) := by
  unfold Ls
  rw [List.getElem?_append_right (Nat.le_refl _), Nat.sub_self]; rfl
theorem Ls_1 (B : Store) (ns : List Nat) (r : List Rc) (X : Store) : (Ls B ns r X)[B.length + 1]? = some (.lst (ends r)) := by
  unfold Ls
  rw [List.getElem?_append_right (by omega), Nat.add_sub_cancel_left]; rfl
theorem Ls_len (B : Store) (ns : List Nat) (r : List Rc) (X : Store) : (Ls B ns r X).length = B.length + 2 + X.length := by
  unfold Ls; simp; omega
theorem Ls_app (B : Store) (ns : List Nat) (r : List Rc) (X Y : Store) : Ls B ns r X ++ Y = Ls B ns r (X ++ Y) := by
  unfold Ls; simp
theorem Ls_set0 (B : Store) (ns : List Nat) (r : List Rc) (X : Store) (n : Nat) : (Ls B ns r X).set B.length (.lst (ns.map D.ref ++ [.ref n])) = Ls B (ns ++ [n]) r X := by
  unfold Ls
  rw [List.set_append_right _ _ (Nat.le_refl _), Nat.sub_self, List.map_append]; rfl
theorem Ls_set1 (B : Store) (ns : List Nat) (r : List Rc) (X : Store) (w : Rc) : (Ls B ns r X).set (B.length + 1) (.lst (ends r ++ [dn w.2])) = Ls B ns (r ++ [w]) X := by
  unfold Ls
  rw [List.set_append_right _ _ (by omega), Nat.add_sub_cancel_left, ends_snoc]; rfl
theorem law_turn {n : Nat} {B X : Store} {ns : List Nat} {r : List Rc} {t : List Nat} {a : Nat} {x4 x5 x6 x7 x8 : Option D} (hz : t.length ≤ 1000000) (hl : low t) (hr : ns.length ≤ 1000000) (hr2 : r.length ≤ 1000000) :
    (recAt t a = none → ∃ X', Rt (exSs (run tab (n + 3)) b18_0 [some (tx t), some (.ref B.length), some (.ref (B.length + 1)), some (dn a), x4, x5, x6, x7, x8] (Ls B ns r X)) (.tup [.ref B.length, .ref (B.length + 1)]) (Ls B ns r (X ++ X'))) ∧
    (∀ w, recAt t a = some w → ∃ X' i y4 y5 y6 y7 y8, (X ++ X')[i]? = some (.lst (w.1.map tx)) ∧ exSs (run tab (n + 3)) b18_0 [some (tx t), some (.ref B.length), some (.ref (B.length + 1)), some (dn a), x4, x5, x6, x7, x8] (Ls B ns r X) =
      .ok .nx [some (tx t), some (.ref B.length), some (.ref (B.length + 1)), some (dn w.2), y4, y5, y6, y7, y8] (Ls B (ns ++ [B.length + 2 + i]) (r ++ [w]) (X ++ X'))) := by
  cases e1 : cutc 58 (t.drop a) with
  | nil => exact absurd e1 (cutc_ne _ _)
  | cons h q =>
    cases e2 : cutc 10 (t.drop (a + h.length + 1 + (lnum h).toNat)) with
    | nil => exact absurd e2 (cutc_ne _ _)
    | cons k q2 =>
      have la := lawAt_eq t a
      unfold lawAt at la
      rw [e1] at la
      dsimp only at la
      rw [e2] at la
      dsimp only at la
      have hz' : t.length ≤ sizeLine := Nat.le_trans hz (by decide)
      have dl : ∀ i, (t.drop i).length ≤ t.length := fun i => by rw [List.length_drop]; omega
      have hkl : k.length ≤ t.length := Nat.le_trans (cutc_mem _ _ (Nat.le_refl _) k (by rw [e2]; exact List.mem_cons_self)) (dl _)
      have hcn := cutc_count (c := 10) _ (t.drop (a + h.length + 1 + (lnum h).toNat)) (Nat.le_refl _)
      rw [e2] at hcn
      obtain ⟨T, hT⟩ : ∃ T, T = Ls B ns r (X ++ [.lst ((k :: q2).map tx)]) := ⟨_, rfl⟩
      have hT2 : Ls B ns r X ++ [.lst ((k :: q2).map tx)] = T := by rw [hT, Ls_app]
      have hLl := Ls_len B ns r X
      obtain ⟨p, hp⟩ : ∃ p, p = (t.drop (a + h.length + 1)).take (lnum h).toNat := ⟨_, rfl⟩
      have pl : p.length ≤ t.length := by rw [hp, List.length_take, List.length_drop]; omega
      have plow : low p := by rw [hp]; exact low_take (low_drop hl _) _
      rw [← hp] at la
      have gT : T[(Ls B ns r X).length]? = some (.lst ((k :: q2).map tx)) := by rw [← hT2]; exact at_new
      have l7 := len_tx (S := T) (Nat.le_trans pl hz')
      have g17 := r_lgood (n := n + 1) (S := T) (p := p) (Nat.le_trans pl hz)
      have l8 := len_at gT
      have c14 := r_lcheck (n := n + 1) (S := T) (Nat.le_trans pl hz) plow
      have i8 := ix_at (i := 0) gT (atI_at (by decide) rfl)
      have c16 := r_lnumber (n := n + 2) (S := T) (h := k) (Nat.le_trans hkl hz)
      have n2 : decide (((((k :: q2).map tx).length : Nat) : Int) < 2) = decide (q2 = []) := by
        cases q2 <;> simp <;> omega
      have q1 : evB (run tab (n + 3)) (.or_ (.p2 .lt (.v 5) (.c (.int 0))) (.or_ (.p2 .lt (.p1 .len (.v 7)) (.v 5)) (.or_ (.not_ (.call 17 [(.v 7)])) (.p2 .lt (.p1 .len (.v 8)) (.c (.int 2))))))
          [some (tx t), some (.ref B.length), some (.ref (B.length + 1)), some (dn a), some (tx h), some (.int (lnum h)), some (dn (a + h.length + 1)), some (tx p), some (.ref (Ls B ns r X).length)] T = .ok (decide (lnum h < 0 ∨ (p.length : Int) < lnum h ∨ okp p = false ∨ q2 = [])) T := by
        by_cases h1 : lnum h < 0
        · simp [lt_ii, h1]
        · by_cases h2 : (p.length : Int) < lnum h
          · simp [lt_ii, h1, l7, h2]
          · cases h3 : okp p with
            | false => simp [lt_ii, h1, l7, h2, g17, h3]
            | true =>
              have v8 := l8
              simp [lt_ii, h1, l7, h2, g17, h3]
              rw [show (D.ref (Ls B ns r X).length) = .ref (Ls B ns r X).length from rfl, l8, bd_ok', lt_ii, n2]
              simp
      constructor
      · intro hn
        rw [hn] at la
        refine ⟨[.lst ((k :: q2).map tx)], ?_⟩
        refine law_head (B := B) (Z := fun x => Rt x (.tup [.ref B.length, .ref (B.length + 1)]) (Ls B ns r (X ++ [.lst ((k :: q2).map tx)]))) hz e1 e2 ?_
        rw [hT2, ← hp, ← hT]
        by_cases h1 : lnum h < 0 ∨ (p.length : Int) < lnum h ∨ okp p = false ∨ q2 = []
        · exact Rt.fin (y_if1 (q1.trans (by rw [decide_eq_true h1])) (by simp [sz2]))
        · rw [if_neg h1] at la
          refine Rt.go (y_if0 (q1.trans (by rw [decide_eq_false h1]))) ?_
          have h2 : ¬ lnum k = ck p := fun e => by rw [if_pos e] at la; cases la
          exact Rt.fin (y_if1 (by simp [i8, c16, c14, ne_ii, h2]) (by simp [sz2]))
      · intro w hw
        rw [hw] at la
        have h1 : ¬ (lnum h < 0 ∨ (p.length : Int) < lnum h ∨ okp p = false ∨ q2 = []) := fun e => by rw [if_pos e] at la; cases la
        rw [if_neg h1] at la
        have h2 : lnum k = ck p := by
          by_cases e : lnum k = ck p
          · exact e
          · rw [if_neg e] at la; cases la
        rw [if_pos h2] at la
        cases la
        have zz : (((lnum h).toNat : Nat) : Int) = lnum h := by
          rcases lnum_rng h with e | e <;> omega
        obtain ⟨es, hes⟩ : ∃ es, es = (cutc 10 p.dropLast).map tx := ⟨_, rfl⟩
        obtain ⟨T2, hT2'⟩ : ∃ T2, T2 = Ls B (ns ++ [B.length + 2 + (X.length + 1)]) r (X ++ [.lst ((k :: q2).map tx), .lst es]) := ⟨_, rfl⟩
        have g0 : T[B.length]? = some (.lst (ns.map D.ref)) := by rw [hT]; exact Ls_0 _ _ _ _
        have bs : (1000001 : Nat) < sizeLine := by decide
        have a1 := app_lis (es := es) g0 (by rw [List.length_map]; omega)
        have tl : T.length = B.length + 2 + (X.length + 1) := by rw [hT, Ls_len]; simp
        rw [tl, hT, Ls_set0, Ls_app, ← hT, List.append_assoc] at a1
        have a1 : p2 .append (.val (.ref B.length)) (.lis es) T = .ok (.val .non) T2 := by rw [a1, hT2']; rfl
        have k1 := isK_at g0
        have cb : cutW (.val (tx p)) none (some (-1)) T = .ok (.val (tx p.dropLast)) T := by rw [cut_tx (Nat.le_trans pl hz'), cut_but]
        have dl2 : p.dropLast.length ≤ p.length := by rw [List.length_dropLast]; omega
        have sp := split_cut (S := T) (l := p.dropLast) (c := 10) (by decide) (by omega)
        rw [← hes] at sp
        have mi : ∀ l T, MK.str.is T (.val (tx l)) = true := fun l T => rfl
        have g8 : T2[(Ls B ns r X).length]? = some (.lst ((k :: q2).map tx)) := by
          rw [hT2', Ls_len]
          unfold Ls
          rw [List.getElem?_append_right (by omega), show B.length + 2 + X.length - B.length = X.length + 2 by omega, List.getElem?_append_right (by simp)]
          simp
        have i8' := ix_at (i := 0) g8 (atI_at (by decide) rfl)
        have lk := len_tx (S := T2) (Nat.le_trans hkl hz')
        have g1 : T2[B.length + 1]? = some (.lst (ends r)) := by rw [hT2']; exact Ls_1 _ _ _ _
        have k2 := isK_at g1
        obtain ⟨e, he⟩ : ∃ e, e = a + h.length + 1 + (lnum h).toNat + k.length + 1 := ⟨_, rfl⟩
        have a2 := app_at (w := dn e) g1 (by rw [ends_len]; omega)
        rw [hT2', Ls_set1 (w := (cutc 10 p.dropLast, e)), ← hT2'] at a2
        have av : ((a + h.length + 1 : Nat) : Int) + lnum h + (k.length : Int) + 1 = (e : Int) := by omega
        refine ⟨[.lst ((k :: q2).map tx), .lst es], X.length + 1, some (tx h), some (.int (lnum h)), some (dn (a + h.length + 1)), some (tx p), some (.ref (Ls B ns r X).length), by rw [hes]; simp, ?_⟩
        rw [← he]
        refine law_head (B := B) (Z := fun x => x = .ok .nx [some (tx t), some (.ref B.length), some (.ref (B.length + 1)), some (dn e), some (tx h), some (.int (lnum h)), some (dn (a + h.length + 1)), some (tx p), some (.ref (Ls B ns r X).length)] (Ls B (ns ++ [B.length + 2 + (X.length + 1)]) (r ++ [(cutc 10 p.dropLast, e)]) (X ++ [.lst ((k :: q2).map tx), .lst es]))) hz e1 e2 ?_
        rw [hT2, ← hp]
        generalize (Ls B ns r X).length = m8 at *
        refine (y_if0 (q1.trans (by rw [decide_eq_false h1]))).trans ?_
        refine (y_if0 (by simp [i8, c16, c14, ne_ii, h2])).trans ?_
        refine (x_exp (w := .val .non) (S' := T2) (by simp [k1, neg_ok, cb, nl_S, mi, sp, a1])).trans ?_
        refine (y_set (dn e) (by simp [add_ok, i8', lk, av, -Int.natCast_add])).trans ?_
        refine (x_exp (w := .val .non) (by simp [k2, a2]; rfl)).trans ?_
        exact x_nil
end Mi.L

namespace Mi.L
open PySem Mi
theorem Fits.len {B X : Store} : ∀ {ns : List Nat} {r : List Rc}, Fits B X ns r → ns.length = r.length
  | [], [], _ => rfl
  | n :: ns, w :: r, ⟨_, h⟩ => by rw [List.length_cons, List.length_cons, h.len]
  | [], _ :: _, h => h.elim
  | _ :: _, [], h => h.elim
theorem loop18 {n : Nat} {B : Store} {t : List Nat} (hz : t.length ≤ 900000) (hl : low t) : ∀ (f a : Nat) (r : List Rc) (ns : List Nat) (X : Store) (x4 x5 x6 x7 x8 : Option D), t.length < a + f → r.length ≤ a → a ≤ t.length + 1 → Fits B X ns r →
    ∃ m ρ' X' ns', whileF (evB (run tab (n + 3)) (.c (.bl true))) (exSs (run tab (n + 3)) b18_0) m [some (tx t), some (.ref B.length), some (.ref (B.length + 1)), some (dn a), x4, x5, x6, x7, x8] (Ls B ns r X) = some (.ok (.rt (.tup [.ref B.length, .ref (B.length + 1)])) ρ' (Ls B ns' (r ++ rdf f t a) X')) ∧ Fits B X' ns' (r ++ rdf f t a) := by
  intro f
  have stop : ∀ (a : Nat) (r : List Rc) (ns : List Nat) (X : Store) (x4 x5 x6 x7 x8 : Option D), r.length ≤ a → a ≤ t.length + 1 → Fits B X ns r → recAt t a = none →
      ∃ ρ' X' ns', whileF (evB (run tab (n + 3)) (.c (.bl true))) (exSs (run tab (n + 3)) b18_0) 1 [some (tx t), some (.ref B.length), some (.ref (B.length + 1)), some (dn a), x4, x5, x6, x7, x8] (Ls B ns r X) = some (.ok (.rt (.tup [.ref B.length, .ref (B.length + 1)])) ρ' (Ls B ns' r X')) ∧ Fits B X' ns' r := by
    intro a r ns X x4 x5 x6 x7 x8 h2 h3 hf q
    have hfl := hf.len
    obtain ⟨X', ρ', e⟩ := (law_turn (n := n) (B := B) (X := X) (ns := ns) (r := r) (t := t) (a := a) (x4 := x4) (x5 := x5) (x6 := x6) (x7 := x7) (x8 := x8) (by omega) hl (by omega) (by omega)).1 q
    exact ⟨ρ', X ++ X', ns, whileF_rt (S1 := Ls B ns r X) (by simp) e, hf.more X'⟩
  induction f with
  | zero =>
    intro a r ns X x4 x5 x6 x7 x8 h1 h2 h3 hf
    have e : rdf 0 t a = [] := rfl
    rw [e, List.append_nil]
    obtain ⟨ρ', X', ns', k1, k2⟩ := stop a r ns X x4 x5 x6 x7 x8 h2 h3 hf (recAt_end (by omega))
    exact ⟨1, ρ', X', ns', k1, k2⟩
  | succ f ih =>
    intro a r ns X x4 x5 x6 x7 x8 h1 h2 h3 hf
    cases q : recAt t a with
    | none =>
      have e : rdf (f + 1) t a = [] := by
        show (match recAt t a with | none => [] | some w => w :: rdf f t w.2) = _
        rw [q]
      rw [e, List.append_nil]
      obtain ⟨ρ', X', ns', k1, k2⟩ := stop a r ns X x4 x5 x6 x7 x8 h2 h3 hf q
      exact ⟨1, ρ', X', ns', k1, k2⟩
    | some w =>
      have e : rdf (f + 1) t a = w :: rdf f t w.2 := by
        show (match recAt t a with | none => [] | some w => w :: rdf f t w.2) = _
        rw [q]
      have hp := recAt_pos q
      have hfl := hf.len
      obtain ⟨X', i, y4, y5, y6, y7, y8, g, hx⟩ := (law_turn (n := n) (B := B) (X := X) (ns := ns) (r := r) (t := t) (a := a) (x4 := x4) (x5 := x5) (x6 := x6) (x7 := x7) (x8 := x8) (by omega) hl (by omega) (by omega)).2 w q
      have hf2 : Fits B (X ++ X') (ns ++ [B.length + 2 + i]) (r ++ [w]) := (hf.more X').snoc ⟨i, rfl, g⟩
      obtain ⟨m, ρ', X2, ns2, k1, k2⟩ := ih w.2 (r ++ [w]) (ns ++ [B.length + 2 + i]) (X ++ X') y4 y5 y6 y7 y8 (by omega) (by rw [List.length_append, List.length_singleton]; omega) (by omega) hf2
      rw [List.append_assoc, List.singleton_append, ← e] at k1 k2
      exact ⟨m + 1, ρ', X2, ns2, whileF_go (S1 := Ls B ns r X) (by simp) hx k1, k2⟩
theorem r_lread {n : Nat} {S : Store} {t : List Nat} (hz : t.length ≤ 900000) (hl : low t) : ∃ X ns, run tab (n + 4) 18 [tx t] S = .ok (.tup [.ref S.length, .ref (S.length + 1)]) (Ls S ns (rall t) X) ∧ Fits S X ns (rall t) := by
  obtain ⟨m, ρ', X, ns, hm, hf⟩ := loop18 (n := n) (B := S) hz hl (t.length + 1) 0 [] [] [] none none none none none (by omega) (by simp) (by omega) trivial
  have t0 : Ls S [] [] [] = S ++ [.lst [], .lst []] := rfl
  refine ⟨X, ns, ?_, hf⟩
  refine r_run (F := ⟨1, 9, b18⟩) rfl rfl (d := .tup [.ref S.length, .ref (S.length + 1)]) (S' := Ls S ns (rall t) X) ?_ (keep_pack (by simp))
  refine Rt.go (x_set (d := .ref S.length) (S' := S ++ [.lst []]) (by simp)) ?_
  refine Rt.go (x_set (d := .ref (S.length + 1)) (S' := Ls S [] [] []) (by simp [t0])) ?_
  refine Rt.go (y_set (.int 0) (by simp)) ?_
  exact Rt.fin (x_whlR hm)
/-! ### both results, as data -/
def rpy (r : List Rc) : PyData := .tuple [.list (r.map fun q => .list (q.1.map fun t => .str (SX.S t))), .list (r.map fun q => .int (q.2 : Nat))]
theorem py_txs {S : Store} {k : Nat} : ∀ ts : List (List Nat), mapO (toPy S (k + 1)) (ts.map tx) = some (ts.map fun t => PyData.str (SX.S t))
  | [] => rfl
  | t :: ts => by
    rw [List.map_cons, mapO, py_txs ts]; rfl
theorem py_ends {S : Store} {k : Nat} : ∀ r : List Rc, mapO (toPy S (k + 1)) (ends r) = some (r.map fun q => PyData.int (q.2 : Nat))
  | [] => rfl
  | q :: r => by
    show mapO (toPy S (k + 1)) (dn q.2 :: ends r) = _
    rw [mapO, py_ends r]; rfl
theorem py_lst {S : Store} {k n : Nat} {ds : List D} (h : S[n]? = some (.lst ds)) : toPy S (k + 1) (.ref n) = (mapO (toPy S k) ds).map PyData.list := by
  show (match S[n]? with | some (.lst ds) => (mapO (toPy S k) ds).map PyData.list | _ => none) = _
  rw [h]
theorem py_refs {S : Store} {k : Nat} {B X Y : Store} (hB : ∀ i o, X[i]? = some o → S[B.length + 2 + i]? = some o) : ∀ {ns : List Nat} {r : List Rc}, Fits B X ns r → mapO (toPy S (k + 2)) (ns.map D.ref) = some (r.map fun q => PyData.list (q.1.map fun t => PyData.str (SX.S t)))
  | [], [], _ => rfl
  | n :: ns, w :: r, ⟨⟨i, h1, h2⟩, h3⟩ => by
    have := hB i _ h2
    rw [← h1] at this
    rw [List.map_cons, mapO, py_lst this, py_txs, py_refs (Y := Y) hB h3]; rfl
  | [], _ :: _, h => h.elim
  | _ :: _, [], h => h.elim
theorem py_res {S : Store} {A E : Nat} {r : List Rc} {rs : List D} (h1 : S[A]? = some (.lst rs)) (h2 : S[E]? = some (.lst (ends r))) (h3 : mapO (toPy S 38) rs = some (r.map fun q => PyData.list (q.1.map fun t => PyData.str (SX.S t)))) :
    W.py S (.val (.tup [.ref A, .ref E])) = some (rpy r) := by
  show (mapO (toPy S 39) [.ref A, .ref E]).map PyData.tuple = _
  rw [mapO, mapO, mapO, py_lst h1, py_lst h2, h3, py_ends]
  rfl
theorem eq_same {S : Store} {x y : W} {a : PyData} (h1 : x.py S = some a) (h2 : y.py S = some a) : p2 .eq x y S = .ok (.val (.bl true)) S := by
  show (match x.py S, y.py S with | some a, some b => vv (.bl (PyData.eqv a b)) S | _, _ => .bad) = _
  rw [h1, h2]
  dsimp only
  rw [PySem.SeqAt.eqv_refl_plain a (py_ok h1).1]; rfl
theorem ne_same {S : Store} {x y : W} {a : PyData} (h1 : x.py S = some a) (h2 : y.py S = some a) : p2 .ne x y S = .ok (.val (.bl false)) S := by
  show (match x.py S, y.py S with | some a, some b => vv (.bl (!PyData.eqv a b)) S | _, _ => .bad) = _
  rw [h1, h2]
  dsimp only
  rw [PySem.SeqAt.eqv_refl_plain a (py_ok h1).1]; rfl
end Mi.L

namespace Mi.L
open PySem Mi
/-! ### what the law draws -/
def mx0 (c k : Int) : Int := (c % 2147483629 * (2 * k + 60607) + 29 * k + 7) % 2147483587
def mx (c k : Int) : Int := mx0 c k * mx0 c k % 2147483563 / 3
theorem mx_rng (c k : Int) : 0 ≤ mx c k ∧ mx c k < 2147483563 := by
  unfold mx
  have h1 := Int.emod_nonneg (mx0 c k * mx0 c k) (show (2147483563 : Int) ≠ 0 by decide)
  have h2 := Int.emod_lt_of_pos (mx0 c k * mx0 c k) (show (0 : Int) < 2147483563 by decide)
  omega
theorem r_mixed {n : Nat} {S : Store} {c k : Int} (h0 : 0 ≤ k) (h1 : k ≤ 1000) : run tab (n + 1) 10 [.int c, .int k] S = .ok (.int (mx c k)) S := by
  have q1 := Int.emod_nonneg c (show (2147483629 : Int) ≠ 0 by decide)
  have q2 := Int.emod_lt_of_pos c (show (0 : Int) < 2147483629 by decide)
  have m1 := mul_ok (S := S) (i := 2) (j := k) (by decide) (by omega)
  have m2 := mul_ok (S := S) (i := c % 2147483629) (j := 2 * k + 60607) (by omega) (by omega)
  have m3 := mul_ok (S := S) (i := 29) (j := k) (by decide) (by omega)
  have md := fun i j h => mod_ok (S := S) (i := i) (j := j) h
  have e0 : (c % 2147483629 * (2 * k + 60607) + 29 * k + 7) % 2147483587 = mx0 c k := rfl
  have r1 : 0 ≤ mx0 c k := Int.emod_nonneg _ (by decide)
  have r2 : mx0 c k < 2147483587 := Int.emod_lt_of_pos _ (by decide)
  have m4 := mul_ok (S := S) (i := mx0 c k) (j := mx0 c k) (by omega) (by omega)
  have fd := fdiv_ok (S := S) (i := mx0 c k * mx0 c k % 2147483563) (j := 3) (by decide) (by decide)
  refine r_run (F := ⟨2, 3, b10⟩) rfl rfl ?_ (pack_same und_int)
  refine Rt.go (y_set (.int (mx0 c k)) (by simp [m1, m2, m3, md, add_ok, e0])) ?_
  exact Rt.fin (y_ret (by simp [m4, md, fd, mx]))
theorem r_cell {n : Nat} {S : Store} {ns : List Int} {i : Int} (h0 : 0 ≤ i) : ∃ z : Int, run tab (n + 1) 9 [.ls (ns.map D.int), .int i] S = .ok (.int z) S := by
  have len : p1 .len (.val (.ls (ns.map D.int))) S = .ok (.val (.int ns.length)) S := by
    show vv (.int ((ns.map D.int).length : Int)) S = _
    rw [List.length_map]; rfl
  by_cases h : i < ns.length
  · obtain ⟨z, _, hz⟩ := at_map (f := D.int) (l := ns) h0 h
    have ix : p2 .ix (.val (.ls (ns.map D.int))) (.val (.int i)) S = .ok (.val (.int z)) S := by
      show (match L2.atI (ns.map D.int) i with | some d => vv d S | none => .bad) = _
      rw [hz]; rfl
    refine ⟨z, r_run (F := ⟨2, 2, b9⟩) rfl rfl ?_ (pack_same und_int)⟩
    generalize ns.map D.int = ml at *
    exact Rt.fin (y_if1 (by simp [len, lt_ii, h]) (by simp [ix]))
  · refine ⟨0, r_run (F := ⟨2, 2, b9⟩) rfl rfl ?_ (pack_same und_int)⟩
    generalize ns.map D.int = ml at *
    refine Rt.go (y_if0 (by simp [len, lt_ii, h])) ?_
    exact Rt.fin (y_ret (by simp))
/-- an item of a written list, by a remainder -/
theorem ix2 {S : Store} {a b c : Int} : p2 .ix (.lis [.int a, .int b]) (.val (.int (c % 2))) S = .ok (.val (.int (if c % 2 = 0 then a else b))) S := by
  have h1 := Int.emod_nonneg c (show (2 : Int) ≠ 0 by decide)
  have h2 := Int.emod_lt_of_pos c (show (0 : Int) < 2 by decide)
  by_cases h : c % 2 = 0
  · rw [h, if_pos rfl]
    exact ix_lis (atI_at (by decide) rfl)
  · have : c % 2 = 1 := by omega
    rw [this, if_neg (by decide)]
    exact ix_lis (atI_at (by decide) rfl)
theorem its_r1 {S : Store} {m : Nat} (h : m ≤ 2 ^ 40) : its .rng1 [.val (.int m)] S = some ⟨(List.range m).map dn, []⟩ := by
  unfold its
  dsimp only
  rw [if_pos]
  · unfold intsD
    rw [Int.toNat_natCast]
  · unfold fits62
    simp only [decide_eq_true_eq]
    omega
def sgn (c : Int) (m : Nat) : List Nat := (List.range m).map fun (i : Nat) => sg (mx c (5 + (i : Int)))
theorem sgn_ok (c : Int) (m : Nat) : ∀ x ∈ sgn c m, x ∈ sgs := by
  intro x hx
  unfold sgn at hx
  obtain ⟨i, _, rfl⟩ := List.mem_map.mp hx
  exact sg_mem _
theorem flat1 {α : Type} : ∀ l : List α, (l.map fun x => [x]).flatten = l
  | [] => rfl
  | x :: r => by rw [List.map_cons, List.flatten_cons, flat1 r]; rfl
theorem ev_text {n : Nat} {S : Store} {c : Int} {x0 x1 x3 x4 : Option D} : ∃ m : Nat, m ≤ 70 ∧ evD (run tab (n + 2)) (.m1 .str .join (.c (.str "")) (.comp (.nm 4) .rng1 [(.p2 .mod (.call 10 [(.v 2), (.c (.int 1))]) (.p2 .ix (.disp [(.c (.int 6)), (.c (.int 71))]) (.p2 .mod (.v 2) (.c (.int 2)))))] [] (.call 11 [(.call 10 [(.v 2), (.p2 .add (.c (.int 5)) (.v 4))])]) [4])) [x0, x1, some (.int c), x3, x4] S = .ok (tx (sgn c m)) S := by
  have r1 := mx_rng c 1
  obtain ⟨j, hj, hj2⟩ : ∃ j : Int, (if c % 2 = 0 then (6 : Int) else 71) = j ∧ 0 < j ∧ j ≤ 71 := ⟨_, rfl, by split <;> decide⟩
  have q1 := Int.emod_nonneg (mx c 1) (show j ≠ 0 by omega)
  have q2 := Int.emod_lt_of_pos (mx c 1) hj2.1
  obtain ⟨m, hm⟩ : ∃ m : Nat, (m : Int) = mx c 1 % j := ⟨(mx c 1 % j).toNat, by omega⟩
  have ml : m ≤ 70 := by omega
  refine ⟨m, ml, ?_⟩
  have g1 := r_mixed (n := n + 1) (S := S) (c := c) (k := 1) (by decide) (by decide)
  have i2 := ix2 (S := S) (a := 6) (b := 71) (c := c)
  rw [hj] at i2
  have md := fun i j h => mod_ok (S := S) (i := i) (j := j) h
  have md2 := mod_ok (S := S) (i := mx c 1) (j := j) hj2.1
  rw [← hm] at md2
  have ew : evWs (run tab (n + 2)) [(.p2 .mod (.call 10 [(.v 2), (.c (.int 1))]) (.p2 .ix (.disp [(.c (.int 6)), (.c (.int 71))]) (.p2 .mod (.v 2) (.c (.int 2)))))] [x0, x1, some (.int c), x3, x4] S = .ok [.val (.int m)] S := by
    simp [g1, sz2, md, i2, md2]
  have cp := comp_pure (C := run tab (n + 2)) (ρ := [x0, x1, some (.int c), x3, x4]) (S := S) (S' := S) (i := 4) (k := .rng1) (is := [(.p2 .mod (.call 10 [(.v 2), (.c (.int 1))]) (.p2 .ix (.disp [(.c (.int 6)), (.c (.int 71))]) (.p2 .mod (.v 2) (.c (.int 2)))))]) (e := .call 11 [(.call 10 [(.v 2), (.p2 .add (.c (.int 5)) (.v 4))])]) (own := [4]) (I := ⟨(List.range m).map dn, []⟩)
    (f := fun d => match d with | .int i => tx [sg (mx c (5 + i))] | d => d) ew (its_r1 (by omega)) isLive_nil (by simp; exact Nat.le_trans (by omega : _ ≤ 70) (by decide)) (fun d hd => by
      obtain ⟨i, hi, rfl⟩ := List.mem_map.mp hd
      have hi := List.mem_range.mp hi
      have g2 := r_mixed (n := n + 1) (S := S) (c := c) (k := 5 + (i : Int)) (by omega) (by omega)
      have g3 := fun z => r_sign (n := n + 1) (S := S) (i := z)
      show (evK _ _ [x0, x1, some (.int c), x3, some (dn i)] S).bd toD = _
      simp [add_ok, g2, g3])
  have e3 : ((List.range m).map dn).map (fun d => match d with | .int i => tx [sg (mx c (5 + i))] | d => d) = ((sgn c m).map fun x => [x]).map tx := by
    unfold sgn
    rw [List.map_map, List.map_map, List.map_map]
    exact List.map_congr_left fun i _ => rfl
  dsimp only at cp
  rw [e3] at cp
  have jn := join_tx (S := S) (ys := (sgn c m).map fun x => [x]) (by rw [flat1]; unfold sgn; simp; omega)
  rw [flat1] at jn
  show (evK _ _ _ _).bd toD = _
  rw [e_m1, e_c, bd_ok', e_S]
  show R.bd (if MK.str.is S (.val (tx [])) = true then _ else _) toD = _
  rw [show MK.str.is S (.val (tx [])) = true from rfl, if_pos rfl, cp, bd_ok', jn]
  rfl
end Mi.L

namespace Mi.L
open PySem Mi
theorem ixN_last {n : Nat} : L2.ixN (n + 1) (-1) = some n := by
  unfold L2.ixN
  rw [if_neg (by decide)]
  simp; try omega
theorem atI_last {α : Type} {l : List α} {x : α} : L2.atI (l ++ [x]) (-1) = some x := by
  unfold L2.atI
  rw [List.length_append, List.length_singleton, ixN_last]
  simp
theorem x_if_exp {C : CF} {ρ : Env} {S S' : Store} {c e : Ex} {b r : List Stm} {w : W} (h : evB C c ρ S = .ok true S) (h2 : evK C e ρ S = .ok w S') : exSs C (.iff c [.exp e] b :: r) ρ S = exSs C r ρ S' := by
  rw [x_ift h, x_exp h2, x_nil]; rfl
/-! ### the law's lists -/
def Lq (B : Store) (ns : List Nat) (X : Store) : Store := B ++ ([O.lst (ns.map D.ref)] ++ X)
def FL (B X : Store) : List Nat → List (List (List Nat)) → Prop
  | [], [] => True
  | n :: ns, w :: r => (∃ i, n = B.length + 1 + i ∧ X[i]? = some (.lst (w.map tx))) ∧ FL B X ns r
  | _, _ => False
theorem FL.more {B X : Store} (Y : Store) : ∀ {ns : List Nat} {r : List (List (List Nat))}, FL B X ns r → FL B (X ++ Y) ns r
  | [], [], _ => trivial
  | n :: ns, w :: r, ⟨⟨i, h1, h2⟩, h3⟩ => ⟨⟨i, h1, by rw [List.getElem?_append_left (List.getElem?_eq_some_iff.mp h2).1]; exact h2⟩, h3.more Y⟩
  | [], _ :: _, h => h.elim
  | _ :: _, [], h => h.elim
theorem FL.snoc {B X : Store} {n : Nat} {w : List (List Nat)} (hn : ∃ i, n = B.length + 1 + i ∧ X[i]? = some (.lst (w.map tx))) : ∀ {ns : List Nat} {r : List (List (List Nat))}, FL B X ns r → FL B X (ns ++ [n]) (r ++ [w])
  | [], [], _ => ⟨hn, trivial⟩
  | m :: ns, v :: r, ⟨h1, h3⟩ => ⟨h1, h3.snoc hn⟩
  | [], _ :: _, h => h.elim
  | _ :: _, [], h => h.elim
theorem FL.split {B X : Store} {w : List (List Nat)} : ∀ {ns : List Nat} {r : List (List (List Nat))}, FL B X ns (r ++ [w]) → ∃ ms n, ns = ms ++ [n] ∧ FL B X ms r ∧ ∃ i, n = B.length + 1 + i ∧ X[i]? = some (.lst (w.map tx))
  | [], r, h => by cases r <;> exact h.elim
  | n :: ns, [], ⟨h1, h2⟩ => by
    cases ns with
    | nil => exact ⟨[], n, rfl, trivial, h1⟩
    | cons m ms => exact h2.elim
  | n :: ns, v :: r, ⟨h1, h2⟩ => by
    obtain ⟨ms, m, rfl, h3, h4⟩ := FL.split h2
    exact ⟨n :: ms, m, rfl, ⟨h1, h3⟩, h4⟩
theorem FL.len {B X : Store} : ∀ {ns : List Nat} {r : List (List (List Nat))}, FL B X ns r → ns.length = r.length
  | [], [], _ => rfl
  | n :: ns, w :: r, ⟨_, h⟩ => by rw [List.length_cons, List.length_cons, h.len]
  | [], _ :: _, h => h.elim
  | _ :: _, [], h => h.elim
theorem Lq_0 (B : Store) (ns : List Nat) (X : Store) : (Lq B ns X)[B.length]? = some (.lst (ns.map D.ref)) := by
  unfold Lq
  rw [List.getElem?_append_right (Nat.le_refl _), Nat.sub_self]; rfl
theorem Lq_x (B : Store) (ns : List Nat) (X : Store) (i : Nat) : (Lq B ns X)[B.length + 1 + i]? = X[i]? := by
  unfold Lq
  rw [List.getElem?_append_right (by omega), show B.length + 1 + i - B.length = i + 1 by omega]; rfl
theorem Lq_b (B : Store) (ns : List Nat) (X : Store) {k : Nat} {o : O} (h : B[k]? = some o) : (Lq B ns X)[k]? = some o := by
  unfold Lq
  rw [List.getElem?_append_left (List.getElem?_eq_some_iff.mp h).1]; exact h
theorem Lq_len (B : Store) (ns : List Nat) (X : Store) : (Lq B ns X).length = B.length + 1 + X.length := by
  unfold Lq; simp; omega
theorem Lq_app (B : Store) (ns : List Nat) (X Y : Store) : Lq B ns X ++ Y = Lq B ns (X ++ Y) := by
  unfold Lq; simp
theorem Lq_set (B : Store) (ns ms : List Nat) (X : Store) : (Lq B ns X).set B.length (.lst (ms.map D.ref)) = Lq B ms X := by
  unfold Lq
  rw [List.set_append_right _ _ (Nat.le_refl _), Nat.sub_self]; rfl
def GG (k : Nat) (ls : List (List (List Nat))) : Prop := ls.length ≤ k ∧ (∀ l ∈ ls, l ≠ [] ∧ ∀ t ∈ l, ∀ c ∈ t, c ∈ sgs) ∧ (ls.map fun l => (pay l).length).sum ≤ 71 * k
theorem pay_snoc (l : List (List Nat)) (t : List Nat) : pay (l ++ [t]) = pay l ++ (t ++ [10]) := by unfold pay; simp
theorem py_FL {S : Store} {k : Nat} {B X : Store} (hB : ∀ i o, X[i]? = some o → S[B.length + 1 + i]? = some o) : ∀ {ns : List Nat} {r : List (List (List Nat))}, FL B X ns r → mapO (toPy S (k + 2)) (ns.map D.ref) = some (r.map fun q => PyData.list (q.map fun t => PyData.str (SX.S t)))
  | [], [], _ => rfl
  | n :: ns, w :: r, ⟨⟨i, h1, h2⟩, h3⟩ => by
    have := hB i _ h2
    rw [← h1] at this
    rw [List.map_cons, mapO, py_lst this, py_txs, py_FL hB h3]; rfl
  | [], _ :: _, h => h.elim
  | _ :: _, [], h => h.elim
theorem py_Lq {B X : Store} {ns : List Nat} {ls : List (List (List Nat))} (h : FL B X ns ls) : W.py (Lq B ns X) (.val (.ref B.length)) = some (.list (ls.map fun q => PyData.list (q.map fun t => PyData.str (SX.S t)))) := by
  show toPy (Lq B ns X) 40 (.ref B.length) = _
  rw [py_lst (Lq_0 B ns X), py_FL (fun i o hi => by rw [Lq_x]; exact hi) h]; rfl
theorem eq_nil {S : Store} {w : W} {ys : List PyData} (h : w.py S = some (.list ys)) : p2 .eq w (.lis []) S = .ok (.val (.bl (decide (ys = [])))) S := by
  show (match w.py S, W.py S (.lis []) with | some a, some b => vv (.bl (PyData.eqv a b)) S | _, _ => .bad) = _
  rw [h]
  show vv (.bl (PyData.eqvAll ys [])) S = _
  cases ys with
  | nil => rfl
  | cons y r => rfl
theorem turn12 {n : Nat} {B X : Store} {ns : List Nat} {ls : List (List (List Nat))} {k kc : Nat} {cs : List Int} {c : Int} {x3 x4 : Option D} (hc : B[kc]? = some (.lst (cs.map D.int))) (hcs : cs ≠ []) (hf : FL B X ns ls) (hg : GG k ls) (hk : k ≤ 1000) :
    ∃ X' ns' ls' y3 y4, exSs (run tab (n + 2)) b12_0 [some (.ref kc), some (.ref B.length), some (.int c), x3, x4] (Lq B ns X) = .ok .nx [some (.ref kc), some (.ref B.length), some (.int c), y3, y4] (Lq B ns' (X ++ X')) ∧ FL B (X ++ X') ns' ls' ∧ GG (k + 1) ls' ∧ ls' ≠ [] := by
  obtain ⟨m, hm, et⟩ := ev_text (n := n) (S := Lq B ns X) (c := c) (x0 := some (.ref kc)) (x1 := some (.ref B.length)) (x3 := x3) (x4 := x4)
  obtain ⟨t, ht⟩ : ∃ t, t = sgn c m := ⟨_, rfl⟩
  have tl : t.length ≤ 70 := by rw [ht]; unfold sgn; simp; exact hm
  have tok : ∀ x ∈ t, x ∈ sgs := by rw [ht]; exact sgn_ok c m
  rw [← ht] at et
  have hfl := hf.len
  have bs : (100000 : Nat) < sizeLine := by decide
  -- from the place behind the test on
  have rest : ∀ (Y : Store) (ms : List Nat) (q : Nat) (rs : List (List (List Nat))) (l : List (List Nat)), FL B (X ++ Y) ms rs → (∃ i, q = B.length + 1 + i ∧ (X ++ Y)[i]? = some (.lst (l.map tx))) → l.length ≤ 90000 →
      exSs (run tab (n + 2)) [.setIx (.v 1) (.p1 .neg (.c (.int 1))) (.p2 .add (.p2 .ix (.v 1) (.p1 .neg (.c (.int 1)))) (.disp [(.v 3)]))] [some (.ref kc), some (.ref B.length), some (.int c), some (tx t), x4] (Lq B (ms ++ [q]) (X ++ Y)) =
        .ok .nx [some (.ref kc), some (.ref B.length), some (.int c), some (tx t), x4] (Lq B (ms ++ [B.length + 1 + (X ++ Y).length]) (X ++ (Y ++ [.lst ((l ++ [t]).map tx)]))) ∧ FL B (X ++ (Y ++ [.lst ((l ++ [t]).map tx)])) (ms ++ [B.length + 1 + (X ++ Y).length]) (rs ++ [l ++ [t]]) := by
    intro Y ms q rs l h1 ⟨i, h2, h3⟩ h4
    constructor
    · have g0 := Lq_0 B (ms ++ [q]) (X ++ Y)
      have gq : (Lq B (ms ++ [q]) (X ++ Y))[q]? = some (.lst (l.map tx)) := by rw [h2, Lq_x]; exact h3
      have i1 := ix_at (i := -1) g0 (d := .ref q) (by rw [List.map_append]; exact atI_last)
      have a1 := add_at (xs := [tx t]) gq (by simp; omega)
      have e1 : l.map tx ++ [tx t] = (l ++ [t]).map tx := by simp
      rw [e1] at a1
      refine (x_ix (d := .ref (B.length + 1 + (X ++ Y).length)) (S1 := Lq B (ms ++ [q]) ((X ++ Y) ++ [.lst ((l ++ [t]).map tx)])) (S2 := Lq B (ms ++ [q]) ((X ++ Y) ++ [.lst ((l ++ [t]).map tx)])) (S3 := Lq B (ms ++ [q]) ((X ++ Y) ++ [.lst ((l ++ [t]).map tx)])) (w := .val (.ref B.length)) (v := .val (.int (-1))) (S4 := Lq B (ms ++ [B.length + 1 + (X ++ Y).length]) ((X ++ Y) ++ [.lst ((l ++ [t]).map tx)])) ?_ (by simp) (by simp [neg_ok]) ?_).trans ?_
      · have sz1 : (1 : Nat) ≤ sizeLine := by decide
        have la := Lq_app B (ms ++ [q]) (X ++ Y) [.lst ((l ++ [t]).map tx)]
        have ll := Lq_len B (ms ++ [q]) (X ++ Y)
        rw [← la, ← ll]
        generalize (l ++ [t]).map tx = lt at *
        generalize Lq B (ms ++ [q]) (X ++ Y) = L0 at *
        simp [neg_ok, i1, sz1, a1]
      · have g2 := Lq_0 B (ms ++ [q]) ((X ++ Y) ++ [.lst ((l ++ [t]).map tx)])
        rw [setItem_at (j := ms.length) g2 (by rw [List.length_map, List.length_append, List.length_singleton, ixN_last])]
        have : ((ms ++ [q]).map D.ref).set ms.length (.ref (B.length + 1 + (X ++ Y).length)) = (ms ++ [B.length + 1 + (X ++ Y).length]).map D.ref := by
          rw [List.map_append, List.map_append, List.set_append_right _ _ (by simp), List.length_map, Nat.sub_self]; rfl
        rw [this, Lq_set]
      · rw [x_nil, List.append_assoc]
    · rw [← List.append_assoc]
      refine (h1.more _).snoc ⟨(X ++ Y).length, rfl, by simp⟩
  -- the test
  obtain ⟨b, hb, hb2⟩ : ∃ b, evB (run tab (n + 2)) (.or_ (.p2 .eq (.v 1) (.disp [])) (.or_ (.p2 .eq (.p2 .mod (.call 10 [(.v 2), (.c (.int 2))]) (.p2 .ix (.disp [(.c (.int 2)), (.c (.int 12))]) (.p2 .mod (.p2 .ix (.v 0) (.c (.int 0))) (.c (.int 2))))) (.c (.int 0))) (.p2 .gt (.p1 .len (.p2 .ix (.v 1) (.p1 .neg (.c (.int 1))))) (.p2 .ix (.disp [(.c (.int 3)), (.c (.int 19))]) (.p2 .mod (.p2 .ix (.v 0) (.c (.int 0))) (.c (.int 2)))))))
      [some (.ref kc), some (.ref B.length), some (.int c), some (tx t), x4] (Lq B ns X) = .ok b (Lq B ns X) ∧ (ls = [] → b = true) := by
    have e1 := eq_nil (py_Lq hf)
    have z0 : (0 : Nat) ≤ sizeLine := Nat.zero_le _
    rcases List.eq_nil_or_concat ls with hls | ⟨init, l, hls⟩
    · refine ⟨true, ?_, fun _ => rfl⟩
      rw [hls] at e1
      simp [e1]
    · have hls2 : ls = init ++ [l] := by rw [hls]; simp
      subst hls2
      obtain ⟨ms, q, hns, h3, i, h4, h5⟩ := hf.split
      have dn0 : decide (((init ++ [l]).map fun q => PyData.list (q.map fun t => PyData.str (SX.S t))) = []) = false := decide_eq_false (by simp)
      rw [dn0] at e1
      obtain ⟨z, zs, hz⟩ : ∃ z zs, cs = z :: zs := by cases cs with | nil => exact absurd rfl hcs | cons z zs => exact ⟨z, zs, rfl⟩
      have gc := Lq_b B ns X hc
      have i0 := ix_at (i := 0) gc (d := .int z) (by rw [hz]; exact atI_at (by decide) rfl)
      have md := fun i j h => mod_ok (S := Lq B ns X) (i := i) (j := j) h
      have g1 := r_mixed (n := n + 1) (S := Lq B ns X) (c := c) (k := 2) (by decide) (by decide)
      have j1 := ix2 (S := Lq B ns X) (a := 2) (b := 12) (c := z)
      have j2 := ix2 (S := Lq B ns X) (a := 3) (b := 19) (c := z)
      obtain ⟨u, hu, hu2⟩ : ∃ u : Int, (if z % 2 = 0 then (2 : Int) else 12) = u ∧ 0 < u := ⟨_, rfl, by split <;> decide⟩
      rw [hu] at j1
      have md2 := mod_ok (S := Lq B ns X) (i := mx c 2) (j := u) hu2
      have g0 := Lq_0 B ns X
      have il := ix_at (i := -1) g0 (d := .ref q) (by rw [hns, List.map_append]; exact atI_last)
      have gq : (Lq B ns X)[q]? = some (.lst (l.map tx)) := by rw [h4, Lq_x]; exact h5
      have lq := len_at gq
      by_cases h6 : mx c 2 % u = 0
      · refine ⟨true, ?_, fun e => by simp at e⟩
        simp [e1, g1, sz2, i0, md, j1, md2, eq_ii, h6]
      · refine ⟨decide ((if z % 2 = 0 then (3 : Int) else 19) < ((l.map tx).length : Int)), ?_, fun e => by simp at e⟩
        generalize (l.map tx).length = ll at *
        generalize (if z % 2 = 0 then (3 : Int) else 19) = u2 at *
        simp [e1, g1, sz2, i0, md, j1, md2, eq_ii, h6, neg_ok, il, lq, j2, gt_ii]
  have fin : ∀ (Y : Store) (ms : List Nat) (q : Nat) (rs : List (List (List Nat))) (l : List (List Nat)), FL B (X ++ Y) ms rs → (∃ i, q = B.length + 1 + i ∧ (X ++ Y)[i]? = some (.lst (l.map tx))) → l.length ≤ 90000 → GG (k + 1) (rs ++ [l ++ [t]]) →
      exSs (run tab (n + 2)) b12_0 [some (.ref kc), some (.ref B.length), some (.int c), x3, x4] (Lq B ns X) = exSs (run tab (n + 2)) [.setIx (.v 1) (.p1 .neg (.c (.int 1))) (.p2 .add (.p2 .ix (.v 1) (.p1 .neg (.c (.int 1)))) (.disp [(.v 3)]))] [some (.ref kc), some (.ref B.length), some (.int c), some (tx t), x4] (Lq B (ms ++ [q]) (X ++ Y)) →
      ∃ X' ns' ls' y3 y4, exSs (run tab (n + 2)) b12_0 [some (.ref kc), some (.ref B.length), some (.int c), x3, x4] (Lq B ns X) = .ok .nx [some (.ref kc), some (.ref B.length), some (.int c), y3, y4] (Lq B ns' (X ++ X')) ∧ FL B (X ++ X') ns' ls' ∧ GG (k + 1) ls' ∧ ls' ≠ [] := by
    intro Y ms q rs l h1 h2 h3 h4 h5
    obtain ⟨r1, r2⟩ := rest Y ms q rs l h1 h2 h3
    exact ⟨_, _, _, _, _, h5.trans r1, r2, h4, by simp⟩
  have ptl : (pay [t]).length = t.length + 1 := by unfold pay; simp
  obtain ⟨g1, g2, g3⟩ := hg
  cases b with
  | true =>
    refine fin [.lst []] ns (B.length + 1 + X.length) ls [] (hf.more _) ⟨X.length, rfl, by simp⟩ (by simp) ⟨by rw [List.length_append, List.length_singleton]; omega, ?_, ?_⟩ ?_
    · intro l hl
      rcases List.mem_append.mp hl with h | h
      · exact g2 l h
      · rw [List.mem_singleton.mp h, List.nil_append]
        exact ⟨by simp, fun t' ht' => by rw [List.mem_singleton.mp ht']; exact tok⟩
    · rw [List.nil_append, List.map_append, List.sum_append, List.map_cons, List.map_nil, List.sum_cons, List.sum_nil, ptl]; omega
    · have g0 := Lq_0 B ns X
      have hl1 : ns.length < 100000 := by omega
      have a1 := app_lis (es := []) g0 (by rw [List.length_map]; omega)
      have e2 : ns.map D.ref ++ [D.ref (Lq B ns X).length] = (ns ++ [B.length + 1 + X.length]).map D.ref := by rw [Lq_len, List.map_append]; rfl
      rw [e2, Lq_set, Lq_app] at a1
      have k1 := isK_at g0
      refine (y_set (tx t) et).trans ?_
      exact x_if_exp hb (by
        show evK (run tab (n + 2)) (.m1 .list .append (.v 1) (.disp [])) [some (.ref kc), some (.ref B.length), some (.int c), some (tx t), x4] (Lq B ns X) = _
        have v1 : evK (run tab (n + 2)) (.v 1) [some (.ref kc), some (.ref B.length), some (.int c), some (tx t), x4] (Lq B ns X) = .ok (.val (.ref B.length)) (Lq B ns X) := e_v rfl
        rw [e_m1, v1, bd_ok', if_pos k1, e_disp, e_ds0]
        exact a1)
  | false =>
    have hne : ls ≠ [] := fun e => by have := hb2 e; cases this
    rcases List.eq_nil_or_concat ls with hls | ⟨init, l, hls⟩
    · exact absurd hls hne
    · have hls2 : ls = init ++ [l] := by rw [hls]; simp
      subst hls2
      obtain ⟨ms, q, hns, h3, i, h4, h5⟩ := hf.split
      rw [List.map_append, List.sum_append, List.map_cons, List.map_nil, List.sum_cons, List.sum_nil] at g3
      have hll : l.length ≤ (pay l).length := by
        unfold pay
        rw [List.length_flatten]
        clear hf h3 h5 g1 g2 g3 hb2 hls hne hfl
        induction l with
        | nil => simp
        | cons t r ih => simp only [List.map_cons, List.sum_cons, List.length_cons, List.length_append, List.length_nil]; omega
      refine fin [] ms q init l (by rw [List.append_nil]; exact h3) ⟨i, h4, by rw [List.append_nil]; exact h5⟩ (by omega) ⟨by rw [List.length_append, List.length_singleton] at g1 ⊢; omega, ?_, ?_⟩ ?_
      · intro l' hl
        rcases List.mem_append.mp hl with h | h
        · exact g2 l' (List.mem_append_left _ h)
        · rw [List.mem_singleton.mp h]
          refine ⟨by simp, fun t' ht' => ?_⟩
          rcases List.mem_append.mp ht' with h | h
          · exact (g2 l (by simp)).2 t' h
          · rw [List.mem_singleton.mp h]; exact tok
      · rw [List.map_append, List.sum_append, List.map_cons, List.map_nil, List.sum_cons, List.sum_nil, pay_snoc, List.length_append, List.length_append, List.length_singleton]; omega
      · rw [List.append_nil, ← hns]
        refine (y_set (tx t) et).trans ?_
        exact y_if0 hb
theorem r_lists {n : Nat} {S : Store} {kc : Nat} {cs : List Int} (hc : S[kc]? = some (.lst (cs.map D.int))) (hl : cs.length ≤ 1000) : ∃ ns X ls, run tab (n + 3) 12 [.ref kc] S = .ok (.ref S.length) (Lq S ns X) ∧ FL S X ns ls ∧ GG cs.length ls := by
  have b12_eq : b12 = [.set (.nm 1) (.disp []), .for_ (.nm 2) .it [(.v 0)] b12_0, .ret (.v 1)] := rfl
  by_cases h0 : cs = []
  · subst h0
    refine ⟨[], [], [], r_run (F := ⟨1, 5, b12⟩) rfl rfl (d := .ref S.length) (S' := Lq S [] []) ?_ (pack_new rfl), trivial, by unfold GG; simp⟩
    refine Rt.go (x_set (d := .ref S.length) (S' := Lq S [] []) (by simp; rfl)) ?_
    refine Rt.go (x_for (ρ' := [some (.ref kc), some (.ref S.length), none, none, none]) (S' := Lq S [] []) (S'' := Lq S [] []) (ws := [.val (.ref kc)]) (by simp) (its_at (Lq_b S [] [] hc)) (forL_end (live_at (Lq_b S [] [] hc)))) ?_
    exact Rt.fin (y_ret (by simp))
  · obtain ⟨ρ', S', lp, ns, X, ls, k, x2, x3, x4, rfl, rfl, hf, hg, hk, hne⟩ := forL_J (live := [(kc, cs.map D.int)]) (turn := fun d ρ S => exSs (run tab (n + 2)) b12_0 (ρ.set 2 (some d)) S) (g := D.int) (α := Unit) (fun _ _ => ())
      (fun r _ ρ T => ∃ ns X ls k x2 x3 x4, ρ = [some (.ref kc), some (.ref S.length), x2, x3, x4] ∧ Lq S ns X = T ∧ FL S X ns ls ∧ GG k ls ∧ k + r.length = cs.length ∧ (k = 0 ∨ ls ≠ []))
      (fun r _ ρ T ⟨ns, X, ls, k, x2, x3, x4, h1, h2, h3, h4, h5, h6⟩ => by rw [← h2]; exact live_at (Lq_b S ns X hc)) (fun c r _ ρ T ⟨ns, X, ls, k, x2, x3, x4, h1, h2, h3, h4, h5, h6⟩ => by
        subst h1; subst h2
        rw [List.length_cons] at h5
        obtain ⟨X', ns', ls', y3, y4, t1, t2, t3, t4⟩ := turn12 (n := n) (c := c) (x3 := x3) (x4 := x4) hc h0 h3 h4 (by omega)
        exact ⟨_, _, t1, ns', X ++ X', ls', k + 1, some (.int c), y3, y4, rfl, rfl, t2, t3, by omega, .inr t4⟩) cs () [some (.ref kc), some (.ref S.length), none, none, none] (Lq S [] []) ⟨[], [], [], 0, none, none, none, rfl, rfl, trivial, by unfold GG; simp, by omega, .inl rfl⟩
    rw [List.length_nil, Nat.add_zero] at hk
    have hne2 : ls ≠ [] := by
      rcases hne with h | h
      · exact absurd (List.length_eq_zero_iff.mp (by omega)) h0
      · exact h
    have hnn : ns ≠ [] := fun e => hne2 (List.length_eq_zero_iff.mp (by rw [← hf.len, e]; rfl))
    rw [hk] at hg
    refine ⟨ns, X, ls, r_run (F := ⟨1, 5, b12⟩) rfl rfl (d := .ref S.length) (S' := Lq S ns X) ?_ ?_, hf, hg⟩
    · refine Rt.go (x_set (d := .ref S.length) (S' := Lq S [] []) (by simp; rfl)) ?_
      refine Rt.go (x_for (S' := Lq S [] []) (ws := [.val (.ref kc)]) (by simp) (its_at (Lq_b S [] [] hc)) lp) ?_
      exact Rt.fin (y_ret (by simp))
    · unfold pack
      have kp : keeps S (Lq S ns X) := keeps_app S _
      rw [if_pos kp, if_neg (by simp)]
      dsimp only
      rw [Lq_0]
      have hu : (O.lst (ns.map D.ref)).und S.length = false := by
        show D.unds S.length (ns.map D.ref) = false
        cases ns with
        | nil => exact absurd rfl hnn
        | cons m ms =>
          cases ls with
          | nil => exact absurd rfl hne2
          | cons l ls =>
            obtain ⟨⟨i, h1, _⟩, _⟩ := hf
            rw [List.map_cons, unds_cons, und_ref, decide_eq_false (by omega)]; rfl
      show (if (O.lst (ns.map D.ref)).und S.length = true then _ else _) = _
      rw [if_neg (by rw [hu]; decide)]
end Mi.L

namespace Mi.L
open PySem Mi
theorem sgs_low : ∀ c ∈ sgs, c < 128 := by decide +kernel
theorem dg12_S : (("0123456789:\n" : String) : Str) = SX.S (dgs ++ [58, 10]) := by decide +kernel
theorem r_spoilt {n : Nat} {S : Store} {t : List Nat} {c m : Int} (hz : t.length ≤ 800000) (hl : low t) : ∃ t', low t' ∧ t'.length ≤ t.length + 1 ∧ run tab (n + 2) 19 [tx t, .int c, .int m] S = .ok (tx t') S := by
  have hz' : t.length ≤ sizeLine := Nat.le_trans hz (by decide)
  have bs : (1000000 : Nat) ≤ sizeLine := by decide
  have fd := fdiv_ok (S := S) (i := c) (j := 4) (by decide) (by decide)
  have md := mod_ok (S := S) (i := c / 4) (j := (t.length : Int) + 1) (by omega)
  have q1 := Int.emod_nonneg (c / 4) (show (t.length : Int) + 1 ≠ 0 by omega)
  have q2 := Int.emod_lt_of_pos (c / 4) (show (0 : Int) < (t.length : Int) + 1 by omega)
  obtain ⟨a, ha⟩ : ∃ a : Nat, (a : Int) = c / 4 % ((t.length : Int) + 1) := ⟨(c / 4 % ((t.length : Int) + 1)).toNat, by omega⟩
  rw [← ha] at md q1 q2
  have ln := len_tx (S := S) hz'
  have g3 := r_mixed (n := n) (S := S) (c := m) (k := 3) (by decide) (by decide)
  have g4 := r_mixed (n := n) (S := S) (c := m) (k := 4) (by decide) (by decide)
  have g6 := r_mixed (n := n) (S := S) (c := m) (k := 6) (by decide) (by decide)
  have m3 := mod_ok (S := S) (i := mx m 3) (j := 12) (by decide)
  have p1' := Int.emod_nonneg (mx m 3) (show (12 : Int) ≠ 0 by decide)
  have p2' := Int.emod_lt_of_pos (mx m 3) (show (0 : Int) < 12 by decide)
  obtain ⟨s1, hs1, hs2⟩ : ∃ s1, L2.atI (dgs ++ [58, 10]) (mx m 3 % 12) = some s1 ∧ s1 < 128 := by
    have hi : (mx m 3 % 12).toNat < (dgs ++ [58, 10]).length := by show (mx m 3 % 12).toNat < 12; omega
    exact ⟨(dgs ++ [58, 10])[(mx m 3 % 12).toNat], atI_at p1' (List.getElem?_eq_getElem hi), (show ∀ x ∈ dgs ++ [58, 10], x < 128 by decide) _ (List.getElem_mem hi)⟩
  have ix := ix_tx (S := S) hs1 (by decide)
  have m4 := mod_ok (S := S) (i := mx m 4) (j := 3) (by decide)
  have m5 := mod_ok (S := S) (i := c) (j := 4) (by decide)
  have sg6 := r_sign (n := n) (S := S) (i := mx m 6)
  have c0 : cutW (.val (tx t)) none (some (a : Int)) S = .ok (.val (tx (t.take a))) S := by rw [cut_tx hz', cutD_to]
  have c1 : cutW (.val (tx t)) (some (a : Int)) none S = .ok (.val (tx (t.drop a))) S := by rw [cut_tx hz', cutD_from]
  have c2 : cutW (.val (tx t)) (some ((a : Int) + 1)) none S = .ok (.val (tx (t.drop (a + 1)))) S := by rw [show (a : Int) + 1 = ((a + 1 : Nat) : Int) by omega, cut_tx hz', cutD_from]
  have tl : ∀ i, (t.take i).length ≤ t.length := fun i => List.length_take_le' _ _
  have dl : ∀ i, (t.drop i).length ≤ t.length := fun i => by rw [List.length_drop]; omega
  obtain ⟨s2, hs3, ev⟩ : ∃ s2, s2 < 128 ∧ ∀ r, exSs (run tab (n + 1)) (.iff (.p2 .eq (.p2 .mod (.call 10 [(.v 2), (.c (.int 4))]) (.c (.int 3))) (.c (.int 0))) [.set (.nm 4) (.call 11 [(.call 10 [(.v 2), (.c (.int 6))])])] [] :: r) [some (tx t), some (.int c), some (.int m), some (dn a), some (tx [s1])] S = exSs (run tab (n + 1)) r [some (tx t), some (.int c), some (.int m), some (dn a), some (tx [s2])] S := by
    by_cases h : mx m 4 % 3 = 0
    · refine ⟨sg (mx m 6), sgs_low _ (sg_mem _), fun r => ?_⟩
      rw [y_ift (by simp [g4, m4, eq_ii, h]), y_set (tx [sg (mx m 6)]) (by simp [g6, sg6]), x_nil]; rfl
    · exact ⟨s1, hs2, fun r => y_if0 (by simp [g4, m4, eq_ii, h])⟩
  have a1 := add_tx (S := S) (a := t.take a) (b := [s2]) (Nat.le_trans (by have := tl a; simp; omega : _ ≤ 1000000) bs)
  have a2 := add_tx (S := S) (a := t.take a ++ [s2]) (b := t.drop a) (Nat.le_trans (by have := tl a; simp; omega : _ ≤ 1000000) bs)
  have a3 := add_tx (S := S) (a := t.take a ++ [s2]) (b := t.drop (a + 1)) (Nat.le_trans (by have := tl a; simp; omega : _ ≤ 1000000) bs)
  have a4 := add_tx (S := S) (a := t.take a) (b := t.drop (a + 1)) (Nat.le_trans (by have := tl a; simp; omega : _ ≤ 1000000) bs)
  have ls2 : low [s2] := fun x hx => by rw [List.mem_singleton.mp hx]; exact hs3
  have al : a ≤ t.length := by omega
  have head : ∀ {d : D}, Rt (exSs (run tab (n + 1)) [.iff (.p2 .eq (.p2 .mod (.v 1) (.c (.int 4))) (.c (.int 0))) [.ret (.sl (.v 0) [] [(.v 3)])] [], .iff (.p2 .eq (.p2 .mod (.v 1) (.c (.int 4))) (.c (.int 1))) [.ret (.p2 .add (.p2 .add (.sl (.v 0) [] [(.v 3)]) (.v 4)) (.sl (.v 0) [(.v 3)] []))] [], .iff (.p2 .eq (.p2 .mod (.v 1) (.c (.int 4))) (.c (.int 2))) [.ret (.p2 .add (.p2 .add (.sl (.v 0) [] [(.v 3)]) (.v 4)) (.sl (.v 0) [(.p2 .add (.v 3) (.c (.int 1)))] []))] [], .ret (.p2 .add (.sl (.v 0) [] [(.v 3)]) (.sl (.v 0) [(.p2 .add (.v 3) (.c (.int 1)))] []))] [some (tx t), some (.int c), some (.int m), some (dn a), some (tx [s2])] S) d S →
      Rt (exSs (run tab (n + 1)) b19 [some (tx t), some (.int c), some (.int m), none, none] S) d S := by
    intro d k
    refine Rt.go (y_set (dn a) (by simp [fd, ln, add_ok, md])) ?_
    refine Rt.go (y_set (tx [s1]) (by simp [dg12_S, g3, m3, ix])) ?_
    exact Rt.go (ev _) k
  by_cases h0 : c % 4 = 0
  · refine ⟨t.take a, low_take hl a, by have := tl a; omega, r_run (F := ⟨3, 5, b19⟩) rfl rfl (head ?_) (pack_same und_str)⟩
    exact Rt.fin (y_if1 (by simp [m5, eq_ii, h0]) (by simp [c0]))
  · by_cases h1 : c % 4 = 1
    · refine ⟨t.take a ++ [s2] ++ t.drop a, low_app (low_app (low_take hl a) ls2) (low_drop hl a), by simp; omega, r_run (F := ⟨3, 5, b19⟩) rfl rfl (head ?_) (pack_same und_str)⟩
      refine Rt.go (y_if0 (by simp [m5, eq_ii, h0])) ?_
      exact Rt.fin (y_if1 (by simp [m5, eq_ii, h1]) (by simp [c0, c1, -List.append_assoc, a1, a2]))
    · by_cases h2 : c % 4 = 2
      · refine ⟨t.take a ++ [s2] ++ t.drop (a + 1), low_app (low_app (low_take hl a) ls2) (low_drop hl _), by simp; omega, r_run (F := ⟨3, 5, b19⟩) rfl rfl (head ?_) (pack_same und_str)⟩
        refine Rt.go (y_if0 (by simp [m5, eq_ii, h0])) ?_
        refine Rt.go (y_if0 (by simp [m5, eq_ii, h1])) ?_
        exact Rt.fin (y_if1 (by simp [m5, eq_ii, h2]) (by simp [c0, c2, add_ok, -List.append_assoc, a1, a3]))
      · refine ⟨t.take a ++ t.drop (a + 1), low_app (low_take hl a) (low_drop hl _), by simp; omega, r_run (F := ⟨3, 5, b19⟩) rfl rfl (head ?_) (pack_same und_str)⟩
        refine Rt.go (y_if0 (by simp [m5, eq_ii, h0])) ?_
        refine Rt.go (y_if0 (by simp [m5, eq_ii, h1])) ?_
        refine Rt.go (y_if0 (by simp [m5, eq_ii, h2])) ?_
        exact Rt.fin (y_ret (by simp [c0, c2, add_ok, a4]))
theorem lA : (("0:0\n" : String) : Str) = SX.S [48, 58, 48, 10] := by decide +kernel
theorem lB : (("ab" : String) : Str) = SX.S [97, 98] := by decide +kernel
theorem lC : (("a\tb\n" : String) : Str) = SX.S [97, 9, 98, 10] := by decide +kernel
theorem lD : (("a\n" : String) : Str) = SX.S [97, 10] := by decide +kernel
theorem lE : (("\n\n" : String) : Str) = SX.S [10, 10] := by decide +kernel
theorem lF : (("z\n" : String) : Str) = SX.S [122, 10] := by decide +kernel
theorem num_low (n : Nat) : low (TL.numL n) := fun x hx => by
  have := TL.numL_digits n x hx
  omega
theorem recd_low {p : List Nat} (h : low p) : low (recd p) := by
  unfold recd
  refine low_app (low_app (low_app (low_app (num_low _) ?_) h) (num_low _)) ?_
  · intro x hx; rw [List.mem_singleton.mp hx]; decide
  · intro x hx; rw [List.mem_singleton.mp hx]; decide
theorem ix5 {S : Store} {l : List (List Nat)} {c : Int} (h5 : l.length = 5) : ∃ t ∈ l, ∀ k, S[k]? = some (.lst (l.map tx)) → p2 .ix (.val (.ref k)) (.val (.int (c % 5))) S = .ok (.val (tx t)) S := by
  have h1 := Int.emod_nonneg c (show (5 : Int) ≠ 0 by decide)
  have h2 := Int.emod_lt_of_pos c (show (0 : Int) < 5 by decide)
  obtain ⟨t, ht, e⟩ := at_map (f := tx) (l := l) h1 (by omega)
  exact ⟨t, ht, fun k hk => ix_at hk e⟩
theorem r_odd {n : Nat} {S : Store} {t : List Nat} {c : Int} (hz : t.length ≤ 800000) (hl : low t) : ∃ a b, low a ∧ low b ∧ a.length ≤ t.length + 1000 ∧ b.length ≤ t.length + 1000 ∧ run tab (n + 4) 21 [tx t, .int c] S = .ok (.ref S.length) (S ++ [.lst [tx a, tx b]]) := by
  have bs : (1000000 : Nat) ≤ sizeLine := by decide
  have lo : ∀ {l : List Nat}, (∀ x ∈ l, x < 128) → low l := fun h => h
  have f := fun (p : List Nat) (h1 : p.length ≤ 900000) (h2 : low p) (S : Store) => r_lof (n := n) (S := S) h1 h2
  have f1 := f [97, 98] (by decide) (lo (by decide)) S
  have f2 := f [97, 9, 98, 10] (by decide) (lo (by decide)) S
  have f3 := f [10] (by decide) (lo (by decide)) S
  have f4 := f [97, 10] (by decide) (lo (by decide)) S
  have f5 := f [10, 10] (by decide) (lo (by decide)) S
  have r4 := recd_len [97, 10] (by decide)
  have r5 := recd_len [10, 10] (by decide)
  have r6 := recd_len [122, 10] (by decide)
  have a1 := add_tx (S := S) (a := recd [97, 10]) (b := recd [10, 10]) (Nat.le_trans (by simp at r4 r5; omega : _ ≤ 1000000) bs)
  obtain ⟨l, hll⟩ : ∃ l, l = [[48, 58, 48, 10], recd [97, 98], recd [97, 9, 98, 10], recd [10], recd [97, 10] ++ recd [10, 10]] := ⟨_, rfl⟩
  have lp : ∀ x ∈ l, low x ∧ x.length ≤ 200 := by
    rw [hll]
    intro x hx
    simp only [List.mem_cons, List.not_mem_nil, or_false] at hx
    rcases hx with e | e | e | e | e
    · rw [e]; exact ⟨lo (by decide), by decide⟩
    · rw [e]; have := recd_len [97, 98] (by decide); exact ⟨recd_low (lo (by decide)), by simp at this; omega⟩
    · rw [e]; have := recd_len [97, 9, 98, 10] (by decide); exact ⟨recd_low (lo (by decide)), by simp at this; omega⟩
    · rw [e]; have := recd_len [10] (by decide); exact ⟨recd_low (lo (by decide)), by simp at this; omega⟩
    · rw [e]; exact ⟨low_app (recd_low (lo (by decide))) (recd_low (lo (by decide))), by simp at r4 r5; simp; omega⟩
  obtain ⟨T, hT⟩ : ∃ T, T = S ++ [O.lst (l.map tx)] := ⟨_, rfl⟩
  have g0 : T[S.length]? = some (.lst (l.map tx)) := by rw [hT]; exact at_new
  obtain ⟨u, hu, iu⟩ := ix5 (S := T) (l := l) (c := c) (by rw [hll]; rfl)
  obtain ⟨v, hv, iv⟩ := ix5 (S := T) (l := l) (c := c / 5) (by rw [hll]; rfl)
  have iu := iu _ g0
  have iv := iv _ g0
  have lu := lp u hu
  have lv := lp v hv
  have f6 := f [122, 10] (by decide) (lo (by decide)) T
  have md := fun i j h => mod_ok (S := T) (i := i) (j := j) h
  have fd := fdiv_ok (S := T) (i := c) (j := 5) (by decide) (by decide)
  have b1 := add_tx (S := T) (a := t) (b := u) (Nat.le_trans (by omega : _ ≤ 1000000) bs)
  have b2 := add_tx (S := T) (a := t ++ u) (b := recd [122, 10]) (Nat.le_trans (by simp at r6; simp; omega : _ ≤ 1000000) bs)
  have b3 := add_tx (S := T) (a := v) (b := t) (Nat.le_trans (by omega : _ ≤ 1000000) bs)
  have sz5 : (5 : Nat) ≤ sizeLine := by decide
  refine ⟨t ++ u ++ recd [122, 10], v ++ t, low_app (low_app hl lu.1) (recd_low (lo (by decide))), low_app lv.1 hl, by simp at r6; simp; omega, by simp; omega, ?_⟩
  refine r_run (F := ⟨2, 3, b21⟩) rfl rfl (d := .ref (S.length + 1)) (S' := S ++ [.lst (l.map tx), .lst [tx (t ++ u ++ recd [122, 10]), tx (v ++ t)]]) ?_ (pack_fresh (by omega) (by rw [List.getElem?_append_right (by omega), Nat.add_sub_cancel_left]; rfl) (by show D.unds _ [tx _, tx _] = true; simp))
  refine Rt.go (x_set (d := .ref S.length) (S' := T) ?_) ?_
  · rw [hT, hll]
    simp [lA, lB, lC, lD, lE, nl_S, f1, f2, f3, f4, f5, a1, sz5]
  · refine Rt.fin (x_ret (S' := S ++ [.lst (l.map tx), .lst [tx (t ++ u ++ recd [122, 10]), tx (v ++ t)]]) ?_)
    have e1 : S ++ [O.lst (l.map tx), .lst [tx (t ++ u ++ recd [122, 10]), tx (v ++ t)]] = T ++ [.lst [tx (t ++ u ++ recd [122, 10]), tx (v ++ t)]] := by rw [hT]; simp
    have e2 : S.length + 1 = T.length := by rw [hT]; simp
    rw [e1, e2]
    generalize t ++ u ++ recd [122, 10] = w1 at *
    simp [iu, iv, md, fd, b1, b2, b3, lF, f6, sz2]
end Mi.L

namespace Mi.L
open PySem Mi
/-! ### written records are read back -/
theorem numL_head : ∀ (m n : Nat), n ≤ m → 0 < n → (TL.numL n).head? ≠ some 48
  | 0, n, hm, h0 => by omega
  | m + 1, n, hm, h0 => by
    by_cases h : n < 10
    · rw [TL.numL_lt h]
      simp; omega
    · rw [TL.numL_step (by omega)]
      have := numL_head m (n / 10) (by omega) (by omega)
      have hne := TL.numL_ne (n / 10)
      cases hq : TL.numL (n / 10) with
      | nil => exact absurd hq hne
      | cons c r => rw [hq] at this; exact this
theorem numL_good {n : Nat} (h : n < 10 ^ 20) : good (TL.numL n) := by
  constructor
  · unfold bl2
    have h1 := TL.numL_ne n
    have h2 := TL.numL_len (n := n) (k := 20) (by decide) h
    rw [decide_eq_false h1, decide_eq_false (by omega)]
    by_cases h0 : n = 0
    · subst h0; decide
    · rw [decide_eq_false (numL_head n n (Nat.le_refl _) (by omega))]; rfl
  · rw [List.all_eq_true]
    intro x hx
    have := TL.numL_digits n x hx
    unfold isD
    simp only [Bool.and_eq_true, decide_eq_true_eq]
    omega
theorem pay_cons (t : List Nat) (ts : List (List Nat)) : pay (t :: ts) = t ++ [10] ++ pay ts := by unfold pay; simp
theorem pay_last : ∀ ts : List (List Nat), ts ≠ [] → ∃ l, pay ts = l ++ [10]
  | [], h => absurd rfl h
  | [t], _ => ⟨t, by unfold pay; simp⟩
  | t :: u :: ts, _ => by
    obtain ⟨l, hl⟩ := pay_last (u :: ts) (by simp)
    exact ⟨t ++ [10] ++ l, by rw [pay_cons, hl]; simp⟩
theorem pay_join : ∀ ts : List (List Nat), ts ≠ [] → (pay ts).dropLast = TL.joinL [10] ts
  | [], h => absurd rfl h
  | [t], _ => by unfold pay; simp [TL.joinL]
  | t :: u :: ts, _ => by
    have ih := pay_join (u :: ts) (by simp)
    obtain ⟨l, hl⟩ := pay_last (u :: ts) (by simp)
    rw [pay_cons, hl] 
    rw [hl, List.dropLast_concat] at ih
    rw [← List.append_assoc, List.dropLast_concat, ih]
    show t ++ [10] ++ _ = t ++ ([10] ++ TL.joinL [10] (u :: ts))
    rw [List.append_assoc]
theorem sgs_okc : ∀ c ∈ sgs, okc c = true ∧ c ≠ 10 := by decide +kernel
theorem okp_pay {ts : List (List Nat)} (h0 : ts ≠ []) (h : ∀ t ∈ ts, ∀ c ∈ t, c ∈ sgs) : okp (pay ts) = true := by
  unfold okp
  obtain ⟨l, hl⟩ := pay_last ts h0
  have h1 : (pay ts).drop ((pay ts).length - 1) = [10] := by
    rw [hl, List.length_append, List.length_singleton, Nat.add_sub_cancel, List.drop_left]
  rw [decide_eq_true h1, Bool.true_and, List.all_eq_true]
  intro c hc
  unfold pay at hc
  obtain ⟨u, hu, hc⟩ := List.mem_flatten.mp hc
  obtain ⟨t, ht, rfl⟩ := List.mem_map.mp hu
  rcases List.mem_append.mp hc with q | q
  · exact (sgs_okc c (h t ht c q)).1
  · rw [List.mem_singleton.mp q]; rfl
theorem recAt_back {t : List Nat} {a : Nat} {ts : List (List Nat)} {rest : List Nat} (h0 : ts ≠ []) (h : ∀ u ∈ ts, ∀ c ∈ u, c ∈ sgs) (hl : (pay ts).length < 10 ^ 20) (e : t.drop a = recs ts ++ rest) : recAt t a = some (ts, a + (recs ts).length) := by
  obtain ⟨p, hp⟩ : ∃ p, p = pay ts := ⟨_, rfl⟩
  have e1 : t.drop a = TL.numL p.length ++ 58 :: (p ++ (TL.numL (ckn p) ++ 10 :: rest)) := by
    rw [e]; unfold recs recd; rw [← hp]; simp
  have n1 : numAt t a 58 = some (p.length, a + (TL.numL p.length).length + 1) := by
    refine (numAt_some (by decide)).mpr ⟨_, _, e1, numL_good (by rw [hp]; exact hl), ?_⟩
    rw [TL.numL_val]
  have e2 : t.drop (a + (TL.numL p.length).length + 1) = p ++ (TL.numL (ckn p) ++ 10 :: rest) := by
    rw [Nat.add_assoc, ← List.drop_drop, e1, List.drop_append]
    rw [List.drop_eq_nil_of_le (by omega), Nat.add_sub_cancel_left]; rfl
  have e3 : (t.drop (a + (TL.numL p.length).length + 1)).take p.length = p := by rw [e2, List.take_left]
  have e4 : t.drop (a + (TL.numL p.length).length + 1 + p.length) = TL.numL (ckn p) ++ 10 :: rest := by rw [← List.drop_drop, e2, List.drop_left]
  have ckl : ckn p < 10 ^ 20 := by
    have := ck_rng p
    unfold ckn
    exact Nat.lt_of_le_of_lt (by omega : _ ≤ 2305843009213693951) (by decide)
  have n2 : numAt t (a + (TL.numL p.length).length + 1 + p.length) 10 = some (ckn p, a + (TL.numL p.length).length + 1 + p.length + (TL.numL (ckn p)).length + 1) := by
    refine (numAt_some (by decide)).mpr ⟨_, _, e4, numL_good ckl, ?_⟩
    rw [TL.numL_val]
  unfold recAt
  rw [n1]
  dsimp only
  rw [e3, n2]
  dsimp only
  rw [if_neg (by rw [hp, okp_pay h0 h]; simp), if_pos (ckn_eq p)]
  congr 2
  · rw [hp, pay_join ts h0]
    exact SX.spl_join h0 fun u hu hc => (sgs_okc 10 (h u hu 10 hc)).2 rfl
  · unfold recs recd
    rw [← hp]
    simp only [List.length_append, List.length_cons, List.length_nil]
    omega
def rtx (ls : List (List (List Nat))) : List Nat := (ls.map recs).flatten
theorem rtx_snoc (ls : List (List (List Nat))) (l : List (List Nat)) : rtx (ls ++ [l]) = rtx ls ++ recs l := by unfold rtx; simp
theorem rdf_back : ∀ (ls : List (List (List Nat))) (f : Nat) (t : List Nat) (a : Nat), (∀ l ∈ ls, l ≠ [] ∧ (∀ u ∈ l, ∀ c ∈ u, c ∈ sgs) ∧ (pay l).length < 10 ^ 20) → t.drop a = rtx ls → t.length < a + f → (rdf f t a).map (·.1) = ls
  | [], f, t, a, _, e, hf => by
    cases f with
    | zero => rfl
    | succ f =>
      have : recAt t a = none := by
        unfold recAt
        have : numAt t a 58 = none := numAt_none (by decide) fun h r e2 _ => by rw [e] at e2; unfold rtx at e2; simp at e2
        rw [this]
      show List.map (fun q : Rc => q.1) (match recAt t a with | none => [] | some w => w :: rdf f t w.2) = _
      rw [this]; rfl
  | l :: ls, f, t, a, h, e, hf => by
    have e1 : t.drop a = recs l ++ rtx ls := by rw [e]; unfold rtx; simp
    obtain ⟨h1, h2, h3⟩ := h l List.mem_cons_self
    have r1 := recAt_back h1 h2 h3 e1
    cases f with
    | zero =>
      have := recAt_pos r1
      dsimp only at this
      omega
    | succ f =>
      show List.map (fun q : Rc => q.1) (match recAt t a with | none => [] | some w => w :: rdf f t w.2) = _
      rw [r1]
      dsimp only
      have rp := recAt_pos r1
      dsimp only at rp
      rw [List.map_cons, rdf_back ls f t (a + (recs l).length) (fun l' hl' => h l' (List.mem_cons_of_mem _ hl')) (by rw [← List.drop_drop, e1, List.drop_left]) (by omega)]
theorem rall_back {ls : List (List (List Nat))} (h : ∀ l ∈ ls, l ≠ [] ∧ (∀ u ∈ l, ∀ c ∈ u, c ∈ sgs) ∧ (pay l).length < 10 ^ 20) : (rall (rtx ls)).map (·.1) = ls := rdf_back ls _ _ 0 h rfl (by omega)
theorem rtx_len : ∀ ls : List (List (List Nat)), (∀ l ∈ ls, (pay l).length ≤ 1000000) → (rtx ls).length ≤ (ls.map fun l => (pay l).length).sum + 62 * ls.length
  | [], _ => by simp [rtx]
  | l :: ls, h => by
    have ih := rtx_len ls fun l' hl => h l' (List.mem_cons_of_mem _ hl)
    have r := recd_len (pay l) (h l List.mem_cons_self)
    have : rtx (l :: ls) = recs l ++ rtx ls := by unfold rtx; simp
    rw [this, List.length_append, List.map_cons, List.sum_cons, List.length_cons]
    unfold recs
    omega
theorem rtx_low {ls : List (List (List Nat))} (h : ∀ l ∈ ls, ∀ u ∈ l, low u) : low (rtx ls) := by
  intro x hx
  unfold rtx at hx
  obtain ⟨u, hu, hx⟩ := List.mem_flatten.mp hx
  obtain ⟨l, hl, rfl⟩ := List.mem_map.mp hu
  exact recd_low (lowS_pay (h l hl)) x hx
end Mi.L

namespace Mi.L
open PySem Mi
/-! ### told lists are the asker's own -/
theorem eq7_self {S : Store} : p2 .eq (.lis [.int 7]) (.lis [.int 7]) S = .ok (.val (.bl true)) S := rfl
theorem eq7_tx {S : Store} {l : List (List Nat)} : p2 .eq (.lis ((l.map tx).drop ((l.map tx).length - 1))) (.lis [.int 7]) S = .ok (.val (.bl false)) S := by
  rcases List.eq_nil_or_concat l with h | ⟨i, x, h⟩
  · subst h; rfl
  · have h2 : l = i ++ [x] := by rw [h]; simp
    subst h2
    have : ((i ++ [x]).map tx).drop (((i ++ [x]).map tx).length - 1) = [tx x] := by
      rw [List.map_append, List.length_append, List.map_cons, List.map_nil, List.length_singleton, Nat.add_sub_cancel, List.drop_left]
    rw [this]; rfl
theorem filter_one {α : Type} [DecidableEq α] {x : α} : ∀ {l : List α}, l.Nodup → x ∈ l → (l.filter fun y => decide (y = x)).length = 1
  | [], _, h => absurd h List.not_mem_nil
  | y :: r, hn, h => by
    rw [List.nodup_cons] at hn
    rw [List.filter_cons]
    by_cases e : y = x
    · subst e
      rw [if_pos (by simp)]
      have : r.filter (fun z => decide (z = y)) = [] := by
        rw [List.filter_eq_nil_iff]
        intro z hz
        simp only [decide_eq_true_eq]
        rintro rfl
        exact hn.1 hz
      rw [this]; rfl
    · rw [if_neg (by simp [e])]
      rcases List.mem_cons.mp h with q | q
      · exact absurd q.symm e
      · exact filter_one hn.2 q
theorem own_turn {n : Nat} {T : Store} {A m : Nat} {ms : List Nat} {r11 : D} {l : List (List Nat)} {x0 x1 x2 x4 x5 x6 x7 x8 x9 x10 x12 : Option D} (hA : T[A]? = some (.lst (ms.map D.ref))) (hn : ms.Nodup) (hm : m ∈ ms) (hAm : A ∉ ms) (hms : ∀ k ∈ ms, ∃ l : List (List Nat), T[k]? = some (.lst (l.map tx)) ∧ l.length < 1000000) (hml : ms.length ≤ 1000000) :
    exSs (run tab n) b22_1 [x0, x1, x2, some (.ref m), x4, x5, x6, x7, x8, x9, x10, some (.tup [.ref A, r11]), x12] T = .ok .nx [x0, x1, x2, some (.ref m), x4, x5, x6, x7, x8, x9, x10, some (.tup [.ref A, r11]), x12] T := by
  obtain ⟨l, hl, hll⟩ := hms m hm
  have bs : (1000000 : Nat) ≤ sizeLine := by decide
  have hmlt : m < T.length := (List.getElem?_eq_some_iff.mp hl).1
  obtain ⟨U, hU⟩ : ∃ U, U = T.set m (.lst (l.map tx ++ [.int 7])) := ⟨_, rfl⟩
  have a1 := app_at (w := .int 7) hl (by rw [List.length_map]; omega)
  rw [← hU] at a1
  have k1 := isK_at hl
  have gm : U[m]? = some (.lst (l.map tx ++ [.int 7])) := by rw [hU, List.getElem?_set_self hmlt]
  have hne : ∀ k, k ≠ m → U[k]? = T[k]? := fun k hk => by rw [hU, List.getElem?_set_ne (fun e => hk e.symm)]
  have gA : U[A]? = some (.lst (ms.map D.ref)) := by rw [hne A (fun e => hAm (e ▸ hm))]; exact hA
  have iA : p2 .ix (.val (.tup [.ref A, r11])) (.val (.int 0)) U = .ok (.val (.ref A)) U := ix_tup (atI_at (by decide) rfl)
  have sz1 : (1 : Nat) ≤ sizeLine := by decide
  have cp := comp_filter (C := run tab n) (ρ := [x0, x1, x2, some (.ref m), x4, x5, x6, x7, x8, x9, x10, some (.tup [.ref A, r11]), x12]) (S := U) (S' := U) (i := 12) (k := .it) (is := [.p2 .ix (.v 11) (.c (.int 0))]) (c := .p2 .eq (.sl (.v 12) [(.p1 .neg (.c (.int 1)))] []) (.disp [(.c (.int 7))])) (e := .v 12) (own := [12]) (ws := [.val (.ref A)]) (I := ⟨ms.map D.ref, [(A, ms.map D.ref)]⟩)
    (p := fun d => match d with | .ref k => decide (k = m) | _ => false) (f := fun d => d) (by simp [iA]) (its_at gA) (live_at gA) (by rw [List.length_map]; omega) (fun d hd => by
      obtain ⟨k, hk, rfl⟩ := List.mem_map.mp hd
      show (evK _ _ [x0, x1, x2, some (.ref m), x4, x5, x6, x7, x8, x9, x10, some (.tup [.ref A, r11]), some (.ref k)] U).bd toB = _
      by_cases e : k = m
      · subst e
        have c1 : cutW (.val (.ref k)) (some (-1)) none U = .ok (.lis [.int 7]) U := by
          rw [cut_at gm, cut_last, List.length_append, List.length_singleton, Nat.add_sub_cancel, List.drop_left]
        simp [neg_ok, c1, eq7_self, sz1]
      · obtain ⟨l', hl', _⟩ := hms k hk
        have g' : U[k]? = some (.lst (l'.map tx)) := by rw [hne k e]; exact hl'
        have c1 : cutW (.val (.ref k)) (some (-1)) none U = .ok (.lis ((l'.map tx).drop ((l'.map tx).length - 1))) U := by rw [cut_at g', cut_last]
        have e7 := eq7_tx (S := U) (l := l')
        generalize (l'.map tx).drop ((l'.map tx).length - 1) = dd at *
        simp [neg_ok, c1, e7, e, sz1]) (fun d hd _ => by
      obtain ⟨k, hk, rfl⟩ := List.mem_map.mp hd
      show (evK _ _ [x0, x1, x2, some (.ref m), x4, x5, x6, x7, x8, x9, x10, some (.tup [.ref A, r11]), some (.ref k)] U).bd toD = _
      simp)
  have cl : (((ms.map D.ref).filter fun d => match d with | .ref k => decide (k = m) | _ => false).map fun d => d).length = 1 := by
    rw [List.length_map, List.filter_map, List.length_map]
    exact filter_one hn hm
  have lc := len_lis (S := U) (ds := ((ms.map D.ref).filter fun d => match d with | .ref k => decide (k = m) | _ => false).map fun d => d)
  rw [cl] at lc
  have pp := pop_at gm
  have k2 := isK_at gm
  have e4 : U.set m (.lst (l.map tx)) = T := by
    rw [hU, List.set_set]
    exact List.ext_getElem? fun i => by
      by_cases e : m = i
      · subst e
        rw [List.getElem?_set_self hmlt, hl]
      · rw [List.getElem?_set_ne e]
  rw [e4] at pp
  refine (x_exp (w := .val .non) (S' := U) (by simp [k1, a1])).trans ?_
  refine (y_if0 ?_).trans ?_
  · show (evK _ (.p2 .ne (.p1 .len (.comp _ _ _ _ _ _)) (.c (.int 1))) _ _).bd toB = _
    rw [e_p2, e_p1, cp, bd_ok', lc]
    rfl
  · refine (x_exp (w := .val (.int 7)) (S' := T) (by simp [k2, pp])).trans ?_
    exact x_nil
end Mi.L

namespace Mi.L
open PySem Mi
theorem refs_map (B : Store) (r : List Rc) : refs B r = ((List.range r.length).map fun i => B.length + 2 + i).map D.ref := by unfold refs; rw [List.map_map]; rfl
theorem Tt_b (B : Store) (r : List Rc) {k : Nat} {o : O} (h : B[k]? = some o) : (Tt B r)[k]? = some o := by
  unfold Tt
  rw [List.getElem?_append_left (List.getElem?_eq_some_iff.mp h).1]; exact h
theorem Tt_x (B : Store) (r : List Rc) (i : Nat) : (Tt B r)[B.length + 2 + i]? = (objs r)[i]? := by
  unfold Tt
  rw [List.getElem?_append_right (by omega), show B.length + 2 + i - B.length = i + 2 by omega]; rfl
theorem Ls_b (B : Store) (ns : List Nat) (r : List Rc) (X : Store) {k : Nat} {o : O} (h : B[k]? = some o) : (Ls B ns r X)[k]? = some o := by
  unfold Ls
  rw [List.getElem?_append_left (List.getElem?_eq_some_iff.mp h).1]; exact h
theorem Ls_x (B : Store) (ns : List Nat) (r : List Rc) (X : Store) (i : Nat) : (Ls B ns r X)[B.length + 2 + i]? = X[i]? := by
  unfold Ls
  rw [List.getElem?_append_right (by omega), show B.length + 2 + i - B.length = i + 2 by omega]; rfl
theorem rdf_len : ∀ (f : Nat) (t : List Nat) (a : Nat), (rdf f t a).length ≤ t.length - a
  | 0, t, a => by simp [rdf]
  | f + 1, t, a => by
    show (match recAt t a with | none => [] | some w => w :: rdf f t w.2 : List Rc).length ≤ _
    cases q : recAt t a with
    | none => simp
    | some w =>
      have := recAt_pos q
      have := rdf_len f t w.2
      dsimp only
      rw [List.length_cons]; omega
theorem rall_len (t : List Nat) : (rall t).length ≤ t.length := by
  have := rdf_len (t.length + 1) t 0
  unfold rall; omega
theorem cutc_lens {c : Nat} {l : List Nat} : (cutc c l).length ≤ l.length + 1 := cutc_count _ _ (Nat.le_refl _)
theorem recAt_len {t : List Nat} {a : Nat} {w : Rc} (h : recAt t a = some w) : w.1.length ≤ t.length + 1 := by
  unfold recAt at h
  split at h
  · cases h
  · rename_i q hq
    split at h
    · cases h
    · split at h
      · cases h
      · split at h
        · cases h
          have h1 := cutc_lens (c := 10) (l := ((t.drop q.2).take q.1).dropLast)
          have h2 : ((t.drop q.2).take q.1).length ≤ t.length := by rw [List.length_take, List.length_drop]; omega
          rw [List.length_dropLast] at h1
          dsimp only; omega
        · cases h
theorem rdf_lens : ∀ (f : Nat) (t : List Nat) (a : Nat), ∀ w ∈ rdf f t a, w.1.length ≤ t.length + 1
  | 0, t, a, w, h => by simp [rdf] at h
  | f + 1, t, a, w, h => by
    have h : w ∈ (match recAt t a with | none => [] | some w => w :: rdf f t w.2 : List Rc) := h
    cases q : recAt t a with
    | none => rw [q] at h; simp at h
    | some v =>
      rw [q] at h
      rcases List.mem_cons.mp h with e | h
      · rw [e]; exact recAt_len q
      · exact rdf_lens f t v.2 w h
theorem py_objs {S : Store} {k : Nat} {b : Nat} : ∀ (r : List Rc) (o : Nat), (∀ i x, (objs r)[i]? = some x → S[b + o + i]? = some x) → mapO (toPy S (k + 2)) ((List.range' o r.length).map fun i => D.ref (b + i)) = some (r.map fun q => PyData.list (q.1.map fun t => PyData.str (SX.S t)))
  | [], o, _ => rfl
  | w :: r, o, h => by
    have h0 : S[b + o]? = some (.lst (w.1.map tx)) := h 0 (.lst (w.1.map tx)) rfl
    rw [List.length_cons, List.range'_succ, List.map_cons, mapO, py_lst h0, py_txs, py_objs r (o + 1) (fun i x hx => by
      have := h (i + 1) x hx
      rw [show b + (o + 1) + i = b + o + (i + 1) by omega]; exact this)]
    rfl
theorem py_Tt {S : Store} {B : Store} {r : List Rc} {k : Nat} (h : ∀ i x, (objs r)[i]? = some x → S[B.length + 2 + i]? = some x) : mapO (toPy S (k + 2)) (refs B r) = some (r.map fun q => PyData.list (q.1.map fun t => PyData.str (SX.S t))) := by
  unfold refs
  rw [List.range_eq_range']
  exact py_objs (b := B.length + 2) r 0 (fun i x hx => by rw [Nat.add_zero]; exact h i x hx)
/-- one text told -/
theorem told_turn {n : Nat} {T : Store} {t : List Nat} {x0 x1 x2 x3 x4 x5 x6 x7 x8 x9 x11 x12 : Option D} (hz : t.length ≤ 900000) (hl : low t) :
    ∃ Y y3 y11, exSs (run tab (n + 7)) b22_2 [x0, x1, x2, x3, x4, x5, x6, x7, x8, x9, some (tx t), x11, x12] T = .ok .nx [x0, x1, x2, y3, x4, x5, x6, x7, x8, x9, some (tx t), y11, x12] (T ++ Y) := by
  have r8 := r_records (n := n) (S := T) (t := t) (by omega) hl
  obtain ⟨X, ns, r18, hf⟩ := r_lread (n := n + 3) (S := Tt T (rall t)) (t := t) hz hl
  obtain ⟨S1, hS1⟩ : ∃ S1, S1 = Tt T (rall t) := ⟨_, rfl⟩
  obtain ⟨S2, hS2⟩ : ∃ S2, S2 = Ls S1 ns (rall t) X := ⟨_, rfl⟩
  rw [← hS1] at r8 r18 hf
  rw [← hS2] at r18
  have up : ∀ {k : Nat} {o : O}, S1[k]? = some o → S2[k]? = some o := fun h => by rw [hS2]; exact Ls_b _ _ _ _ h
  have gA : S1[T.length]? = some (.lst (refs T (rall t))) := by rw [hS1]; exact Tt_0 _ _
  have gE : S1[T.length + 1]? = some (.lst (ends (rall t))) := by rw [hS1]; exact Tt_1 _ _
  have gx : ∀ i x, (objs (rall t))[i]? = some x → S2[T.length + 2 + i]? = some x := fun i x h => up (by rw [hS1, Tt_x]; exact h)
  have w1 : W.py S2 (.val (.tup [.ref T.length, .ref (T.length + 1)])) = some (rpy (rall t)) := py_res (up gA) (up gE) (py_Tt gx)
  have w2 : W.py S2 (.val (.tup [.ref S1.length, .ref (S1.length + 1)])) = some (rpy (rall t)) := by
    refine py_res (rs := ns.map D.ref) (by rw [hS2]; exact Ls_0 _ _ _ _) (by rw [hS2]; exact Ls_1 _ _ _ _) (py_refs (B := S1) (X := X) (Y := []) (fun i o h => by rw [hS2, Ls_x]; exact h) hf)
  have ne1 := ne_same w1 w2
  have c3 := r_check (n := n + 2) (S := S2) (l := t) (by omega) hl
  have c14 := r_lcheck (n := n + 5) (S := S2) (l := t) (by omega) hl
  have it : isiW [.tuple] (.val (.tup [.ref T.length, .ref (T.length + 1)])) S1 = .ok (.val (.bl true)) S1 := rfl
  have tb : (("\t" : String) : Str) = SX.S [9] := by decide +kernel
  have ix0 : p2 .ix (.val (.tup [.ref T.length, .ref (T.length + 1)])) (.val (.int 0)) S2 = .ok (.val (.ref T.length)) S2 := ix_tup (atI_at (by decide) rfl)
  obtain ⟨ms, hms⟩ : ∃ ms, ms = (List.range (rall t).length).map fun i => T.length + 2 + i := ⟨_, rfl⟩
  have gA2 : S2[T.length]? = some (.lst (ms.map D.ref)) := by rw [hms, ← refs_map]; exact up gA
  have rl := rall_len t
  have hnd : ms.Nodup := by
    rw [hms]
    refine List.Pairwise.map (R := (· ≠ ·)) _ (fun a b h => by omega) ?_
    exact List.nodup_range
  have hAm : T.length ∉ ms := by
    rw [hms]
    intro h
    obtain ⟨i, _, e⟩ := List.mem_map.mp h
    omega
  have hml : ms.length = (rall t).length := by rw [hms]; simp
  have hall : ∀ k ∈ ms, ∃ l : List (List Nat), S2[k]? = some (.lst (l.map tx)) ∧ l.length < 1000000 := by
    intro k hk
    rw [hms] at hk
    obtain ⟨i, hi, rfl⟩ := List.mem_map.mp hk
    have hi := List.mem_range.mp hi
    refine ⟨(rall t)[i].1, gx i _ ?_, ?_⟩
    · unfold objs
      rw [List.getElem?_map, List.getElem?_eq_getElem hi]; rfl
    · have := rdf_lens (t.length + 1) t 0 _ (List.getElem_mem hi)
      exact Nat.lt_of_le_of_lt this (by omega)
  obtain ⟨ρ', S', lp, y3, rfl, rfl, _⟩ := forL_J (live := [(T.length, ms.map D.ref)]) (turn := fun d ρ S => exSs (run tab (n + 7)) b22_1 (ρ.set 3 (some d)) S) (g := D.ref) (α := Unit) (fun _ _ => ())
    (fun r _ ρ U => ∃ y3, ρ = [x0, x1, x2, y3, x4, x5, x6, x7, x8, x9, some (tx t), some (.tup [.ref T.length, .ref (T.length + 1)]), x12] ∧ S2 = U ∧ ∀ k ∈ r, k ∈ ms)
    (fun r _ ρ U ⟨_, _, h, _⟩ => by rw [← h]; exact live_at gA2) (fun m r _ ρ U ⟨y3, h1, h2, h3⟩ => by
      subst h1; subst h2
      exact ⟨_, _, own_turn (l := []) gA2 hnd (h3 m List.mem_cons_self) hAm hall (by omega), some (.ref m), rfl, rfl, fun k hk => h3 k (List.mem_cons_of_mem _ hk)⟩) ms () [x0, x1, x2, x3, x4, x5, x6, x7, x8, x9, some (tx t), some (.tup [.ref T.length, .ref (T.length + 1)]), x12] S2 ⟨x3, rfl, rfl, fun k h => h⟩
  have e2 : ∃ Y, S2 = T ++ Y := by
    rw [hS2]
    unfold Ls
    rw [hS1]
    unfold Tt
    exact ⟨_, by rw [List.append_assoc]⟩
  obtain ⟨Y, hY⟩ := e2
  refine ⟨Y, y3, some (.tup [.ref T.length, .ref (T.length + 1)]), ?_⟩
  rw [← hY]
  generalize S1.length = s1 at *
  generalize T.length = s0 at *
  refine (x_set (d := .tup [.ref s0, .ref (s0 + 1)]) (S' := S1) (by simp [r8])).trans ?_
  refine (x_if0 (S' := S2) (by simp [it, r18, ne1])).trans ?_
  refine (y_if0 ?_).trans ?_
  · by_cases h9 : 9 ∈ t
    · simp [tb, nin_tx, h9]
    · simp [tb, nin_tx, h9, c3, c14, ne_ii]
  · refine (x_for (S' := S2) (ws := [.val (.ref s0)]) (by simp [ix0]) (its_at gA2) lp).trans ?_
    exact x_nil
/-- one list written -/
theorem rec_turn {n : Nat} {T : Store} {m : Nat} {l : List (List Nat)} {t : List Nat} {x0 x1 x4 x5 x6 x7 x8 x9 x10 x11 x12 : Option D} (hm : T[m]? = some (.lst (l.map tx))) (hz : (pay l).length ≤ 100000) (hl : low (pay l)) (ht : t.length ≤ 100000) :
    ∃ Y y4 y5 y6, exSs (run tab (n + 7)) b22_0 [x0, x1, some (tx t), some (.ref m), x4, x5, x6, x7, x8, x9, x10, x11, x12] T = .ok .nx [x0, x1, some (tx (t ++ recs l)), some (.ref m), y4, y5, y6, x7, x8, x9, x10, x11, x12] (T ++ Y) := by
  have mlt : m < T.length := (List.getElem?_eq_some_iff.mp hm).1
  obtain ⟨T1, hT1⟩ : ∃ T1, T1 = T ++ [.lst (l.map tx)] := ⟨_, rfl⟩
  have g1 : T1[m]? = some (.lst (l.map tx)) := by rw [hT1, List.getElem?_append_left mlt]; exact hm
  have g2 : T1[T.length]? = some (.lst (l.map tx)) := by rw [hT1]; exact at_new
  have r4 := r_record (n := n + 1) (S := T1) g2 (by omega) hl
  have r15 := r_lrecord (n := n + 4) (S := T1) g1 (by omega) hl
  have c3 := r_check (n := n + 2) (S := T1) (l := pay l) (by omega) hl
  have c14 := r_lcheck (n := n + 5) (S := T1) (l := pay l) (by omega) hl
  have w1 : W.py T1 (.val (.ref T.length)) = some (.list (l.map fun t => PyData.str (SX.S t))) := by
    show toPy T1 40 (.ref T.length) = _
    rw [py_lst g2, py_txs]; rfl
  have w2 : W.py T1 (.val (.ref m)) = some (.list (l.map fun t => PyData.str (SX.S t))) := by
    show toPy T1 40 (.ref m) = _
    rw [py_lst g1, py_txs]; rfl
  have ne1 := ne_same w1 w2
  have ls := list_at hm
  have rl := recd_len (pay l) (by omega)
  have ad := add_tx (S := T1) (a := t) (b := recs l) (by unfold recs; exact Nat.le_trans (by omega : _ ≤ 1000000) (by decide))
  refine ⟨[.lst (l.map tx)], some (.ref T.length), some (tx (recs l)), some (tx (pay l)), ?_⟩
  rw [← hT1]
  have td : toD (.lis (l.map tx)) T = .ok (.ref T.length) T1 := by rw [hT1]; rfl
  have ep := ev_pay (C := run tab (n + 7)) (ρ := [x0, x1, some (tx t), some (.ref m), some (.ref T.length), some (tx (recs l)), x6, x7, x8, x9, x10, x11, x12]) (S := T1) (i := 3) (j := 7) (own := [7]) rfl g1 (by simp) rfl (by omega : (pay l).length ≤ 1000000)
  refine (x_set (d := .ref T.length) (S' := T1) ?_).trans ?_
  · show (evK _ (.p1 .list_ (.v 3)) _ T).bd toD = _
    rw [e_p1, e_v (d := .ref m) rfl, bd_ok', ls]
    exact td
  generalize T.length = t0 at *
  refine (y_set (tx (recs l)) (by simp [r4])).trans ?_
  refine (y_set (tx (pay l)) ?_).trans ?_
  · exact (congrArg (fun r => R.bd r toD) ep).trans rfl
  refine (y_if0 (by simp [r15, ne_tx, ne1, c3, c14, ne_ii])).trans ?_
  refine (y_set (tx (t ++ recs l)) (by simp [ad])).trans ?_
  exact x_nil
end Mi.L

namespace Mi.L
open PySem Mi
theorem FL.zip {B X : Store} : ∀ {ns : List Nat} {ls : List (List (List Nat))}, FL B X ns ls → ∀ p ∈ ns.zip ls, ∃ i, p.1 = B.length + 1 + i ∧ X[i]? = some (.lst (p.2.map tx))
  | [], [], _, p, hp => by simp at hp
  | n :: ns, l :: ls, ⟨h1, h2⟩, p, hp => by
    rw [List.zip_cons_cons] at hp
    rcases List.mem_cons.mp hp with e | hp
    · rw [e]; exact h1
    · exact h2.zip p hp
  | [], _ :: _, h, _, _ => h.elim
  | _ :: _, [], h, _, _ => h.elim
theorem zip_map1 {α β γ : Type} (f : α → γ) : ∀ {as : List α} {bs : List β}, as.length = bs.length → (as.zip bs).map (fun p => f p.1) = as.map f
  | [], [], _ => rfl
  | a :: as, b :: bs, h => by
    rw [List.zip_cons_cons, List.map_cons, List.map_cons, zip_map1 f (by simpa using h)]
  | [], _ :: _, h => by simp at h
  | _ :: _, [], h => by simp at h
theorem zip_map2 {α β : Type} : ∀ {as : List α} {bs : List β}, as.length = bs.length → (as.zip bs).map (fun p => p.2) = bs
  | [], [], _ => rfl
  | a :: as, b :: bs, h => by
    rw [List.zip_cons_cons, List.map_cons, zip_map2 (by simpa using h)]
  | [], _ :: _, h => by simp at h
  | _ :: _, [], h => by simp at h
theorem fold_rtx {α : Type} (f : α → List (List Nat)) : ∀ (bs : List α) (t : List Nat), bs.foldl (fun t b => t ++ recs (f b)) t = t ++ rtx (bs.map f)
  | [], t => by simp [rtx]
  | b :: r, t => by
    rw [List.foldl_cons, fold_rtx f r]
    unfold rtx
    simp
theorem seven_S : (("7" : String) : Str) = SX.S [55] := by decide +kernel
theorem ck_nil : ck [] = 0 := by decide
theorem get_app {T Y : Store} {k : Nat} {o : O} (h : T[k]? = some o) : (T ++ Y)[k]? = some o := by
  rw [List.getElem?_append_left (List.getElem?_eq_some_iff.mp h).1]; exact h
theorem law91 (ns : List Int) (hl : ns.length ≤ 63) : ∃ S, run tab 40 22 [.ls (ns.map D.int)] [] = .ok (.bl true) S := by
  obtain ⟨cs, hcs⟩ : ∃ cs, cs = cutD ns (some 2) (some 62) := ⟨_, rfl⟩
  have csl : cs.length ≤ 63 := by rw [hcs]; exact Nat.le_trans (cutD_le _ _ _) hl
  obtain ⟨B, hB⟩ : ∃ B : Store, B = [O.lst (cs.map D.int)] := ⟨_, rfl⟩
  have Bl : B.length = 1 := by rw [hB]; rfl
  have B0 : B[0]? = some (.lst (cs.map D.int)) := by rw [hB]; rfl
  obtain ⟨ks, X, ls, r12, hf, hg⟩ := r_lists (n := 36) (S := B) (kc := 0) B0 (by omega)
  obtain ⟨g1, g2, g3⟩ := hg
  rw [Bl] at r12
  obtain ⟨T0, hT0⟩ : ∃ T0, T0 = Lq B ks X := ⟨_, rfl⟩
  rw [← hT0] at r12
  have t01 : T0[1]? = some (.lst (ks.map D.ref)) := by rw [hT0, ← Bl]; exact Lq_0 B ks X
  have t0x : ∀ i o, X[i]? = some o → T0[B.length + 1 + i]? = some o := fun i o h => by rw [hT0, Lq_x]; exact h
  have lowl : ∀ l ∈ ls, ∀ u ∈ l, low u := fun l h u hu c hc => sgs_low c ((g2 l h).2 u hu c hc)
  have payl : ∀ l ∈ ls, (pay l).length ≤ 5000 := by
    intro l h
    have : (pay l).length ≤ (ls.map fun l => (pay l).length).sum := by
      clear g3 g2 g1 hf lowl
      induction ls with
      | nil => exact absurd h List.not_mem_nil
      | cons a r ih =>
        rw [List.map_cons, List.sum_cons]
        rcases List.mem_cons.mp h with e | h
        · rw [e]; omega
        · have := ih h; omega
    omega
  have rtl := rtx_len ls (fun l h => Nat.le_trans (payl l h) (by decide))
  have rtl2 : (rtx ls).length ≤ 10000 := by omega
  have rlow := rtx_low lowl
  obtain ⟨t, ht⟩ : ∃ t, t = rtx ls := ⟨_, rfl⟩
  have hfl := hf.len
  -- the records are written
  obtain ⟨ρ1, T1, lp1, Y1, y3, y4, y5, y6, rfl, rfl, _⟩ := forL_J (live := [(1, ks.map D.ref)]) (turn := fun d ρ S => exSs (run tab 39) b22_0 (ρ.set 3 (some d)) S) (g := fun p : Nat × List (List Nat) => D.ref p.1) (α := List Nat) (fun t b => t ++ recs b.2)
    (fun r t ρ U => ∃ Y x3 x4 x5 x6, ρ = [some (.ls (ns.map D.int)), some (.ref 1), some (tx t), x3, x4, x5, x6, none, none, none, none, none, none] ∧ T0 ++ Y = U ∧ (∀ p ∈ r, p ∈ ks.zip ls) ∧ t.length + (rtx (r.map fun p => p.2)).length ≤ 10000)
    (fun r _ ρ U ⟨_, _, _, _, _, _, h, _⟩ => by rw [← h]; exact live_at (get_app t01)) (fun p r t ρ U ⟨Y, x3, x4, x5, x6, h1, h2, h3, h4⟩ => by
      subst h1; subst h2
      have hp := h3 p List.mem_cons_self
      obtain ⟨i, e1, e2⟩ := hf.zip p hp
      have hm : (T0 ++ Y)[p.1]? = some (.lst (p.2.map tx)) := get_app (by rw [e1]; exact t0x i _ e2)
      have hpl : p.2 ∈ ls := (List.of_mem_zip hp).2
      have e3 : rtx ((p :: r).map fun p => p.2) = recs p.2 ++ rtx (r.map fun p => p.2) := by unfold rtx; simp
      rw [e3, List.length_append] at h4
      obtain ⟨Y2, y4, y5, y6, e⟩ := rec_turn (n := 32) (T := T0 ++ Y) (m := p.1) (l := p.2) (t := t) (x0 := some (.ls (ns.map D.int))) (x1 := some (.ref 1)) (x4 := x4) (x5 := x5) (x6 := x6) (x7 := none) (x8 := none) (x9 := none) (x10 := none) (x11 := none) (x12 := none) hm (Nat.le_trans (payl _ hpl) (by decide)) (lowS_pay (lowl _ hpl)) (by omega)
      exact ⟨_, _, e, Y ++ Y2, some (.ref p.1), y4, y5, y6, rfl, by rw [List.append_assoc], fun q hq => h3 q (List.mem_cons_of_mem _ hq), by rw [List.length_append]; omega⟩)
    (ks.zip ls) [] [some (.ls (ns.map D.int)), some (.ref 1), some (tx []), none, none, none, none, none, none, none, none, none, none] T0 ⟨[], none, none, none, none, rfl, by rw [List.append_nil], fun p h => h, by rw [zip_map2 hfl]; simpa using rtl2⟩
  rw [fold_rtx (fun p : Nat × List (List Nat) => p.2), zip_map2 hfl, List.nil_append, zip_map1 D.ref hfl, ← ht] at lp1
  obtain ⟨T1, hT1⟩ : ∃ T1, T1 = T0 ++ Y1 := ⟨_, rfl⟩
  rw [← hT1] at lp1
  rw [← ht] at rtl2 rlow
  obtain ⟨z0, hz0⟩ := r_cell (n := 38) (S := T1) (ns := ns) (i := 0) (by decide)
  obtain ⟨z1, hz1⟩ := r_cell (n := 38) (S := T1) (ns := ns) (i := 1) (by decide)
  obtain ⟨u, ul, un, r19⟩ := r_spoilt (n := 37) (S := T1) (t := t) (c := z0) (m := z1) (by omega) rlow
  obtain ⟨a, b, al, bl, an, bn, r21⟩ := r_odd (n := 35) (S := T1) (t := t) (c := z1) (by omega) rlow
  obtain ⟨T2, hT2⟩ : ∃ T2, T2 = T1 ++ [O.lst [tx a, tx b]] := ⟨_, rfl⟩
  rw [← hT2] at r21
  have t2g : T2[T1.length]? = some (.lst [tx a, tx b]) := by rw [hT2]; exact at_new
  have bs : (1000000 : Nat) ≤ sizeLine := by decide
  -- the texts are told
  obtain ⟨tds, htd⟩ : ∃ tds, tds = [t, u, [], t ++ [55], u ++ u.take 20, a, b] := ⟨_, rfl⟩
  have l55 : low [55] := fun x hx => by rw [List.mem_singleton.mp hx]; decide
  have tdok : ∀ x ∈ tds, low x ∧ x.length ≤ 900000 := by
    rw [htd]
    intro x hx
    have utl : (u.take 20).length ≤ u.length := List.length_take_le' _ _
    simp only [List.mem_cons, List.not_mem_nil, or_false] at hx
    rcases hx with e | e | e | e | e | e | e
    · rw [e]; exact ⟨rlow, by omega⟩
    · rw [e]; exact ⟨ul, by omega⟩
    · rw [e]; exact ⟨fun x h => absurd h List.not_mem_nil, by simp⟩
    · rw [e]; exact ⟨low_app rlow l55, by simp; omega⟩
    · rw [e]; exact ⟨low_app ul (low_take ul _), by simp only [List.length_append]; omega⟩
    · rw [e]; exact ⟨al, by omega⟩
    · rw [e]; exact ⟨bl, by omega⟩
  obtain ⟨ρ3, T3, lp2, Y3, w3, w10, w11, rfl, rfl, _⟩ := forL_J (live := []) (turn := fun d ρ S => exSs (run tab 39) b22_2 (ρ.set 10 (some d)) S) (g := tx) (α := Unit) (fun _ _ => ())
    (fun r _ ρ U => ∃ Y x3 x10 x11, ρ = [some (.ls (ns.map D.int)), some (.ref 1), some (tx t), x3, y4, y5, y6, none, some (tx u), some (.ref T1.length), x10, x11, none] ∧ T2 ++ Y = U ∧ ∀ x ∈ r, low x ∧ x.length ≤ 900000)
    (fun _ _ _ _ _ => isLive_nil) (fun x r _ ρ U ⟨Y, x3, x10, x11, h1, h2, h3⟩ => by
      subst h1; subst h2
      obtain ⟨q1, q2⟩ := h3 x List.mem_cons_self
      obtain ⟨Y2, y3', y11', e⟩ := told_turn (n := 32) (T := T2 ++ Y) (t := x) (x0 := some (.ls (ns.map D.int))) (x1 := some (.ref 1)) (x2 := some (tx t)) (x3 := x3) (x4 := y4) (x5 := y5) (x6 := y6) (x7 := none) (x8 := some (tx u)) (x9 := some (.ref T1.length)) (x11 := x11) (x12 := none) q2 q1
      exact ⟨_, _, e, Y ++ Y2, y3', some (tx x), y11', rfl, by rw [List.append_assoc], fun q hq => h3 q (List.mem_cons_of_mem _ hq)⟩)
    tds () [some (.ls (ns.map D.int)), some (.ref 1), some (tx t), y3, y4, y5, y6, none, some (tx u), some (.ref T1.length), none, none, none] T2 ⟨[], y3, none, none, rfl, by rw [List.append_nil], tdok⟩
  obtain ⟨T3, hT3⟩ : ∃ T3, T3 = T2 ++ Y3 := ⟨_, rfl⟩
  rw [← hT3] at lp2
  -- the end
  have r8 := r_records (n := 32) (S := T3) (t := t) (by omega) rlow
  obtain ⟨S4, hS4⟩ : ∃ S4, S4 = Tt T3 (rall t) := ⟨_, rfl⟩
  rw [← hS4] at r8
  have up : ∀ {k : Nat} {o : O}, T0[k]? = some o → S4[k]? = some o := fun h => by
    rw [hS4]
    refine Tt_b _ _ ?_
    rw [hT3, hT2, hT1]
    exact get_app (get_app (get_app h))
  have back := rall_back (ls := ls) (fun l h => ⟨(g2 l h).1, (g2 l h).2, Nat.lt_of_le_of_lt (payl l h) (by decide)⟩)
  rw [← ht] at back
  have py1 : W.py S4 (.val (.ref 1)) = some (.list (ls.map fun q => PyData.list (q.map fun t => PyData.str (SX.S t)))) := by
    show toPy S4 40 (.ref 1) = _
    rw [py_lst (up t01), py_FL (fun i o h => up (t0x i o h)) hf]; rfl
  have gA : S4[T3.length]? = some (.lst (refs T3 (rall t))) := by rw [hS4]; exact Tt_0 _ _
  have py2 : W.py S4 (.val (.ref T3.length)) = some (.list (ls.map fun q => PyData.list (q.map fun t => PyData.str (SX.S t)))) := by
    show toPy S4 40 (.ref T3.length) = _
    rw [py_lst gA, py_Tt (fun i x h => by rw [hS4, Tt_x]; exact h)]
    rw [← back, List.map_map]; rfl
  have eq1 := eq_same py2 py1
  have ix0 : p2 .ix (.val (.tup [.ref T3.length, .ref (T3.length + 1)])) (.val (.int 0)) S4 = .ok (.val (.ref T3.length)) S4 := ix_tup (atI_at (by decide) rfl)
  have c3 := r_check (n := 34) (S := S4) (l := []) (by simp) (fun x h => absurd h List.not_mem_nil)
  rw [ck_nil] at c3
  have ct : cutW (.val (.ls (ns.map D.int))) (some 2) (some 62) [] = .ok (.lis (cs.map D.int)) [] := by rw [cut_ls, cutD_map, hcs]
  have td : toD (.lis (cs.map D.int)) [] = .ok (.ref 0) B := by rw [hB]; rfl
  have cu : cutW (.val (tx u)) none (some 20) T2 = .ok (.val (tx (u.take 20))) T2 := by
    rw [cut_tx (Nat.le_trans (by omega : _ ≤ 1000000) bs)]
    exact congrArg (fun l => R.ok (W.val (tx l)) T2) (cutD_to u 20)
  have ad1 := add_tx (S := T2) (a := t) (b := [55]) (Nat.le_trans (by simp; omega : _ ≤ 1000000) bs)
  have utl : (u.take 20).length ≤ u.length := List.length_take_le' _ _
  have ad2 := add_tx (S := T2) (a := u) (b := u.take 20) (Nat.le_trans (by omega : _ ≤ 1000000) bs)
  have ad3 := lis_add_at (xs := [tx t, tx u, tx [], tx (t ++ [55]), tx (u ++ u.take 20)]) t2g (by show (5 : Nat) + 2 ≤ sizeLine; decide)
  have e7 : [tx t, tx u, tx [], tx (t ++ [55]), tx (u ++ u.take 20)] ++ [tx a, tx b] = tds.map tx := by rw [htd]; rfl
  rw [e7] at ad3
  have sz5 : (5 : Nat) ≤ sizeLine := by decide
  refine ⟨[], r_run (F := ⟨1, 13, b22⟩) rfl rfl (d := .bl true) (S' := S4) ?_ ?_⟩
  · refine Rt.go (x_set (d := .ref 1) (S' := T0) ?_) ?_
    · have r12' : run tab 39 12 [.ref 0] [O.lst (cs.map D.int)] = .ok (.ref 1) T0 := by rw [← hB]; exact r12
      generalize ns.map D.int = ml at *
      generalize cs.map D.int = cl at *
      simp [ct, r12']
    refine Rt.go (y_set (tx []) (by simp [e_S])) ?_
    refine Rt.go (x_for (S' := T0) (ws := [.val (.ref 1)]) (by simp) (its_at t01) lp1) ?_
    generalize ns.map D.int = ml at *
    generalize T1.length = s1 at *
    refine Rt.go (y_set (tx u) (by simp [hz0, hz1, r19])) ?_
    refine Rt.go (x_set (d := .ref s1) (S' := T2) (by simp [hz1, r21])) ?_
    refine Rt.go (x_for (S' := T2) (ws := [.lis (tds.map tx)]) (I := ⟨tds.map tx, []⟩) ?_ rfl lp2) ?_
    · generalize tds.map tx = tt at *
      generalize u ++ u.take 20 = uu at *
      generalize t ++ [55] = t5 at *
      simp [e_S, seven_S, ad1, cu, ad2, sz5, ad3]
    · generalize T3.length = s3 at *
      exact Rt.fin (x_ret (S' := S4) (by simp [r8, ix0, eq1, e_S, c3, eq_ii]))
  · have := pack_app (S := []) (T := S4) (d := .bl true) und_bl
    exact this
end Mi.L

namespace Mi.L
open PySem L2 Mi
theorem top_ok {K : PySem.W.Frag} {h : Heap} {mg : Str → Option Value} {fa f0 f1 f2 f3 f4 f5 f6 f7 f8 f9 f10 f11 f12 f13 f14 f15 f16 f17 f18 f19 f20 f21 f22 : Addr} {od0 an0 od1 an1 od2 an2 od3 an3 od4 an4 od5 an5 od6 an6 od7 an7 od8 an8 od9 an9 od10 an10 od11 an11 od12 an12 od13 an13 od14 an14 od15 an15 od16 an16 od17 an17 od18 an18 od19 an19 od20 an20 od21 an21 od22 an22 : Option Addr} {sl0 sl1 sl2 sl3 sl4 sl5 sl6 sl7 sl8 sl9 sl10 sl11 sl12 sl13 sl14 sl15 sl16 sl17 sl18 sl19 sl20 sl21 sl22 : Array (Option Value)} {oc0 kV0 dc0 pm0 cd0 ct0 oc1 kV1 dc1 pm1 cd1 ct1 oc2 kV2 dc2 pm2 cd2 ct2 oc3 kV3 dc3 pm3 cd3 ct3 oc4 kV4 dc4 pm4 cd4 ct4 oc5 kV5 dc5 pm5 cd5 ct5 oc6 kV6 dc6 pm6 cd6 ct6 oc7 kV7 dc7 pm7 cd7 ct7 oc8 kV8 dc8 pm8 cd8 ct8 oc9 kV9 dc9 pm9 cd9 ct9 oc10 kV10 dc10 pm10 cd10 ct10 oc11 kV11 dc11 pm11 cd11 ct11 oc12 kV12 dc12 pm12 cd12 ct12 oc13 kV13 dc13 pm13 cd13 ct13 oc14 kV14 dc14 pm14 cd14 ct14 oc15 kV15 dc15 pm15 cd15 ct15 oc16 kV16 dc16 pm16 cd16 ct16 oc17 kV17 dc17 pm17 cd17 ct17 oc18 kV18 dc18 pm18 cd18 ct18 oc19 kV19 dc19 pm19 cd19 ct19 oc20 kV20 dc20 pm20 cd20 ct20 oc21 kV21 dc21 pm21 cd21 ct21 oc22 kV22 dc22 pm22 cd22 ct22 : Value} {tk0 tk1 tk2 tk3 tk4 tk5 tk6 tk7 : Tok} (X : K.In h) (G : h.Ns mainGlobals mg) (hfa : mg "law" = some (.ref fa))
    (a0 : PySem.W.nsIn K mainGlobals "text_codes" = some (some (.ref f0))) (l0 : K.lookup f0 = some ⟨oc0, od0, .func (PySem.W.fnOf "text_codes" "text_codes" (defArgs s0) (defBody s0) (defScope s0) .none kV0 dc0 pm0 an0 cd0 ct0), sl0⟩) (c0 : PySem.W.codeIn K cd0 "text_codes" = true) (k0 : PySem.W.keepIn K (.ref f0) = true)
    (a1 : PySem.W.nsIn K mainGlobals "codes_of" = some (some (.ref f1))) (l1 : K.lookup f1 = some ⟨oc1, od1, .func (PySem.W.fnOf "codes_of" "codes_of" (defArgs s1) (defBody s1) (defScope s1) .none kV1 dc1 pm1 an1 cd1 ct1), sl1⟩) (c1 : PySem.W.codeIn K cd1 "codes_of" = true) (k1 : PySem.W.keepIn K (.ref f1) = true)
    (a2 : PySem.W.nsIn K mainGlobals "seal" = some (some (.ref f2))) (l2 : K.lookup f2 = some ⟨oc2, od2, .func (PySem.W.fnOf "seal" "seal" (defArgs s2) (defBody s2) (defScope s2) .none kV2 dc2 pm2 an2 cd2 ct2), sl2⟩) (c2 : PySem.W.codeIn K cd2 "seal" = true) (k2 : PySem.W.keepIn K (.ref f2) = true)
    (a3 : PySem.W.nsIn K mainGlobals "check_of" = some (some (.ref f3))) (l3 : K.lookup f3 = some ⟨oc3, od3, .func (PySem.W.fnOf "check_of" "check_of" (defArgs s3) (defBody s3) (defScope s3) .none kV3 dc3 pm3 an3 cd3 ct3), sl3⟩) (c3 : PySem.W.codeIn K cd3 "check_of" = true) (k3 : PySem.W.keepIn K (.ref f3) = true)
    (a4 : PySem.W.nsIn K mainGlobals "record" = some (some (.ref f4))) (l4 : K.lookup f4 = some ⟨oc4, od4, .func (PySem.W.fnOf "record" "record" (defArgs s4) (defBody s4) (defScope s4) .none kV4 dc4 pm4 an4 cd4 ct4), sl4⟩) (c4 : PySem.W.codeIn K cd4 "record" = true) (k4 : PySem.W.keepIn K (.ref f4) = true)
    (a5 : PySem.W.nsIn K mainGlobals "number_at" = some (some (.ref f5))) (l5 : K.lookup f5 = some ⟨oc5, od5, .func (PySem.W.fnOf "number_at" "number_at" (defArgs s5) (defBody s5) (defScope s5) .none kV5 dc5 pm5 an5 cd5 ct5), sl5⟩) (c5 : PySem.W.codeIn K cd5 "number_at" = true) (k5 : PySem.W.keepIn K (.ref f5) = true)
    (a6 : PySem.W.nsIn K mainGlobals "is_payload" = some (some (.ref f6))) (l6 : K.lookup f6 = some ⟨oc6, od6, .func (PySem.W.fnOf "is_payload" "is_payload" (defArgs s6) (defBody s6) (defScope s6) .none kV6 dc6 pm6 an6 cd6 ct6), sl6⟩) (c6 : PySem.W.codeIn K cd6 "is_payload" = true) (k6 : PySem.W.keepIn K (.ref f6) = true)
    (a7 : PySem.W.nsIn K mainGlobals "record_at" = some (some (.ref f7))) (l7 : K.lookup f7 = some ⟨oc7, od7, .func (PySem.W.fnOf "record_at" "record_at" (defArgs s7) (defBody s7) (defScope s7) .none kV7 dc7 pm7 an7 cd7 ct7), sl7⟩) (c7 : PySem.W.codeIn K cd7 "record_at" = true) (k7 : PySem.W.keepIn K (.ref f7) = true)
    (a8 : PySem.W.nsIn K mainGlobals "records" = some (some (.ref f8))) (l8 : K.lookup f8 = some ⟨oc8, od8, .func (PySem.W.fnOf "records" "records" (defArgs s8) (defBody s8) (defScope s8) .none kV8 dc8 pm8 an8 cd8 ct8), sl8⟩) (c8 : PySem.W.codeIn K cd8 "records" = true) (k8 : PySem.W.keepIn K (.ref f8) = true)
    (a9 : PySem.W.nsIn K mainGlobals "_law_cell_at" = some (some (.ref f9))) (l9 : K.lookup f9 = some ⟨oc9, od9, .func (PySem.W.fnOf "_law_cell_at" "_law_cell_at" (defArgs s9) (defBody s9) (defScope s9) .none kV9 dc9 pm9 an9 cd9 ct9), sl9⟩) (c9 : PySem.W.codeIn K cd9 "_law_cell_at" = true) (k9 : PySem.W.keepIn K (.ref f9) = true)
    (a10 : PySem.W.nsIn K mainGlobals "_law_mixed" = some (some (.ref f10))) (l10 : K.lookup f10 = some ⟨oc10, od10, .func (PySem.W.fnOf "_law_mixed" "_law_mixed" (defArgs s10) (defBody s10) (defScope s10) .none kV10 dc10 pm10 an10 cd10 ct10), sl10⟩) (c10 : PySem.W.codeIn K cd10 "_law_mixed" = true) (k10 : PySem.W.keepIn K (.ref f10) = true)
    (a11 : PySem.W.nsIn K mainGlobals "_law_sign" = some (some (.ref f11))) (l11 : K.lookup f11 = some ⟨oc11, od11, .func (PySem.W.fnOf "_law_sign" "_law_sign" (defArgs s11) (defBody s11) (defScope s11) .none kV11 dc11 pm11 an11 cd11 ct11), sl11⟩) (c11 : PySem.W.codeIn K cd11 "_law_sign" = true) (k11 : PySem.W.keepIn K (.ref f11) = true)
    (a12 : PySem.W.nsIn K mainGlobals "_law_lists" = some (some (.ref f12))) (l12 : K.lookup f12 = some ⟨oc12, od12, .func (PySem.W.fnOf "_law_lists" "_law_lists" (defArgs s12) (defBody s12) (defScope s12) .none kV12 dc12 pm12 an12 cd12 ct12), sl12⟩) (c12 : PySem.W.codeIn K cd12 "_law_lists" = true) (k12 : PySem.W.keepIn K (.ref f12) = true)
    (a13 : PySem.W.nsIn K mainGlobals "_law_sealed" = some (some (.ref f13))) (l13 : K.lookup f13 = some ⟨oc13, od13, .func (PySem.W.fnOf "_law_sealed" "_law_sealed" (defArgs s13) (defBody s13) (defScope s13) .none kV13 dc13 pm13 an13 cd13 ct13), sl13⟩) (c13 : PySem.W.codeIn K cd13 "_law_sealed" = true) (k13 : PySem.W.keepIn K (.ref f13) = true)
    (a14 : PySem.W.nsIn K mainGlobals "_law_check" = some (some (.ref f14))) (l14 : K.lookup f14 = some ⟨oc14, od14, .func (PySem.W.fnOf "_law_check" "_law_check" (defArgs s14) (defBody s14) (defScope s14) .none kV14 dc14 pm14 an14 cd14 ct14), sl14⟩) (c14 : PySem.W.codeIn K cd14 "_law_check" = true) (k14 : PySem.W.keepIn K (.ref f14) = true)
    (a15 : PySem.W.nsIn K mainGlobals "_law_record" = some (some (.ref f15))) (l15 : K.lookup f15 = some ⟨oc15, od15, .func (PySem.W.fnOf "_law_record" "_law_record" (defArgs s15) (defBody s15) (defScope s15) .none kV15 dc15 pm15 an15 cd15 ct15), sl15⟩) (c15 : PySem.W.codeIn K cd15 "_law_record" = true) (k15 : PySem.W.keepIn K (.ref f15) = true)
    (a16 : PySem.W.nsIn K mainGlobals "_law_number" = some (some (.ref f16))) (l16 : K.lookup f16 = some ⟨oc16, od16, .func (PySem.W.fnOf "_law_number" "_law_number" (defArgs s16) (defBody s16) (defScope s16) .none kV16 dc16 pm16 an16 cd16 ct16), sl16⟩) (c16 : PySem.W.codeIn K cd16 "_law_number" = true) (k16 : PySem.W.keepIn K (.ref f16) = true)
    (a17 : PySem.W.nsIn K mainGlobals "_law_good" = some (some (.ref f17))) (l17 : K.lookup f17 = some ⟨oc17, od17, .func (PySem.W.fnOf "_law_good" "_law_good" (defArgs s17) (defBody s17) (defScope s17) .none kV17 dc17 pm17 an17 cd17 ct17), sl17⟩) (c17 : PySem.W.codeIn K cd17 "_law_good" = true) (k17 : PySem.W.keepIn K (.ref f17) = true)
    (a18 : PySem.W.nsIn K mainGlobals "_law_read" = some (some (.ref f18))) (l18 : K.lookup f18 = some ⟨oc18, od18, .func (PySem.W.fnOf "_law_read" "_law_read" (defArgs s18) (defBody s18) (defScope s18) .none kV18 dc18 pm18 an18 cd18 ct18), sl18⟩) (c18 : PySem.W.codeIn K cd18 "_law_read" = true) (k18 : PySem.W.keepIn K (.ref f18) = true)
    (a19 : PySem.W.nsIn K mainGlobals "_law_spoilt" = some (some (.ref f19))) (l19 : K.lookup f19 = some ⟨oc19, od19, .func (PySem.W.fnOf "_law_spoilt" "_law_spoilt" (defArgs s19) (defBody s19) (defScope s19) .none kV19 dc19 pm19 an19 cd19 ct19), sl19⟩) (c19 : PySem.W.codeIn K cd19 "_law_spoilt" = true) (k19 : PySem.W.keepIn K (.ref f19) = true)
    (a20 : PySem.W.nsIn K mainGlobals "_law_of" = some (some (.ref f20))) (l20 : K.lookup f20 = some ⟨oc20, od20, .func (PySem.W.fnOf "_law_of" "_law_of" (defArgs s20) (defBody s20) (defScope s20) .none kV20 dc20 pm20 an20 cd20 ct20), sl20⟩) (c20 : PySem.W.codeIn K cd20 "_law_of" = true) (k20 : PySem.W.keepIn K (.ref f20) = true)
    (a21 : PySem.W.nsIn K mainGlobals "_law_odd" = some (some (.ref f21))) (l21 : K.lookup f21 = some ⟨oc21, od21, .func (PySem.W.fnOf "_law_odd" "_law_odd" (defArgs s21) (defBody s21) (defScope s21) .none kV21 dc21 pm21 an21 cd21 ct21), sl21⟩) (c21 : PySem.W.codeIn K cd21 "_law_odd" = true) (k21 : PySem.W.keepIn K (.ref f21) = true)
    (a22 : PySem.W.nsIn K mainGlobals "law" = some (some (.ref f22))) (l22 : K.lookup f22 = some ⟨oc22, od22, .func (PySem.W.fnOf "law" "law" (defArgs s22) (defBody s22) (defScope s22) .none kV22 dc22 pm22 an22 cd22 ct22), sl22⟩) (c22 : PySem.W.codeIn K cd22 "law" = true) (k22 : PySem.W.keepIn K (.ref f22) = true)
    (q0 : PySem.W.nsIn K mainGlobals "MOST_SEAL" = some (some (.int 2305843009213693951 tk0)))
    (q1 : PySem.W.nsIn K mainGlobals "BASE" = some (some (.int 1234567890123456789 tk1)))
    (q2 : PySem.W.nsIn K mainGlobals "BEGIN" = some (some (.int 7 tk2)))
    (q3 : PySem.W.nsIn K mainGlobals "HALF" = some (some (.int 1000000000000000 tk3)))
    (q4 : PySem.W.nsIn K mainGlobals "LEAST" = some (some (.int 1000000000000000000000000000000 tk4)))
    (q5 : PySem.W.nsIn K mainGlobals "FIGURES" = some (some (.str "0123456789" tk5)))
    (q6 : PySem.W.nsIn K mainGlobals "PIECE" = some (some (.int 50 tk6)))
    (q7 : PySem.W.nsIn K mainGlobals "MOST_FIGURES" = some (some (.int 20 tk7)))
    (z0 : PySem.W.nsIn K mainGlobals "len" = some none)
    (z1 : PySem.W.nsIn K mainGlobals "int" = some none)
    (z2 : PySem.W.nsIn K mainGlobals "ord" = some none)
    (z3 : PySem.W.nsIn K mainGlobals "str" = some none)
    (z4 : PySem.W.nsIn K mainGlobals "tuple" = some none)
    (z5 : PySem.W.nsIn K mainGlobals "list" = some none)
    (z6 : PySem.W.nsIn K mainGlobals "isinstance" = some none)
    (z7 : PySem.W.nsIn K mainGlobals "bool" = some none)
    (z8 : PySem.W.nsIn K mainGlobals "range" = some none)
    (z9 : PySem.W.nsIn K mainGlobals "zip" = some none)
    (z10 : PySem.W.nsIn K mainGlobals "enumerate" = some none)
    (z11 : PySem.W.nsIn K mainGlobals "reversed" = some none)
    (z12 : PySem.W.nsIn K mainGlobals "dict" = some none)
    (z13 : PySem.W.nsIn K mainGlobals "sorted" = some none)
    (z14 : PySem.W.nsIn K mainGlobals "sum" = some none)
    (z15 : PySem.W.nsIn K mainGlobals "all" = some none)
    (z16 : PySem.W.nsIn K mainGlobals "any" = some none)
    (z17 : PySem.W.nsIn K mainGlobals "max" = some none)
    (z18 : PySem.W.nsIn K mainGlobals "min" = some none)
    (z19 : PySem.W.nsIn K mainGlobals "abs" = some none)
    (z20 : PySem.W.nsIn K mainGlobals "set" = some none)
    : ∃ fd : FuncData, (∀ (s : Shared) (u : Value), BindsTo s fd ⟨[u], []⟩ [("script", u)]) ∧ TopOk (gb0 K) tab glT mg ∧ DefOk (gb0 K) tab glT "law" 22 fa fd ["script"] := by
  have e := hfa.symm.trans (PySem.W.mg_of X G a22)
  cases e
  have F0 := fun_mk (st := s0) l0 c0 k0
  have B0 := F0.binds (ps := P0) fun _ _ _ _ _ _ us hl => match us, hl with | [_], _ => rfl
  have D0 : DefOk (gb0 K) tab glT "text_codes" 0 _ _ P0 := ⟨s0, N0, _, F0, sc0, Mi.L.c0, rfl, rfl, rfl⟩
  have F1 := fun_mk (st := s1) l1 c1 k1
  have B1 := F1.binds (ps := P1) fun _ _ _ _ _ _ us hl => match us, hl with | [_], _ => rfl
  have D1 : DefOk (gb0 K) tab glT "codes_of" 1 _ _ P1 := ⟨s1, N1, _, F1, sc1, Mi.L.c1, rfl, rfl, rfl⟩
  have F2 := fun_mk (st := s2) l2 c2 k2
  have B2 := F2.binds (ps := P2) fun _ _ _ _ _ _ us hl => match us, hl with | [_], _ => rfl
  have D2 : DefOk (gb0 K) tab glT "seal" 2 _ _ P2 := ⟨s2, N2, _, F2, sc2, Mi.L.c2, rfl, rfl, rfl⟩
  have F3 := fun_mk (st := s3) l3 c3 k3
  have B3 := F3.binds (ps := P3) fun _ _ _ _ _ _ us hl => match us, hl with | [_], _ => rfl
  have D3 : DefOk (gb0 K) tab glT "check_of" 3 _ _ P3 := ⟨s3, N3, _, F3, sc3, Mi.L.c3, rfl, rfl, rfl⟩
  have F4 := fun_mk (st := s4) l4 c4 k4
  have B4 := F4.binds (ps := P4) fun _ _ _ _ _ _ us hl => match us, hl with | [_], _ => rfl
  have D4 : DefOk (gb0 K) tab glT "record" 4 _ _ P4 := ⟨s4, N4, _, F4, sc4, Mi.L.c4, rfl, rfl, rfl⟩
  have F5 := fun_mk (st := s5) l5 c5 k5
  have B5 := F5.binds (ps := P5) fun _ _ _ _ _ _ us hl => match us, hl with | [_, _, _], _ => rfl
  have D5 : DefOk (gb0 K) tab glT "number_at" 5 _ _ P5 := ⟨s5, N5, _, F5, sc5, Mi.L.c5, rfl, rfl, rfl⟩
  have F6 := fun_mk (st := s6) l6 c6 k6
  have B6 := F6.binds (ps := P6) fun _ _ _ _ _ _ us hl => match us, hl with | [_], _ => rfl
  have D6 : DefOk (gb0 K) tab glT "is_payload" 6 _ _ P6 := ⟨s6, N6, _, F6, sc6, Mi.L.c6, rfl, rfl, rfl⟩
  have F7 := fun_mk (st := s7) l7 c7 k7
  have B7 := F7.binds (ps := P7) fun _ _ _ _ _ _ us hl => match us, hl with | [_, _], _ => rfl
  have D7 : DefOk (gb0 K) tab glT "record_at" 7 _ _ P7 := ⟨s7, N7, _, F7, sc7, Mi.L.c7, rfl, rfl, rfl⟩
  have F8 := fun_mk (st := s8) l8 c8 k8
  have B8 := F8.binds (ps := P8) fun _ _ _ _ _ _ us hl => match us, hl with | [_], _ => rfl
  have D8 : DefOk (gb0 K) tab glT "records" 8 _ _ P8 := ⟨s8, N8, _, F8, sc8, Mi.L.c8, rfl, rfl, rfl⟩
  have F9 := fun_mk (st := s9) l9 c9 k9
  have B9 := F9.binds (ps := P9) fun _ _ _ _ _ _ us hl => match us, hl with | [_, _], _ => rfl
  have D9 : DefOk (gb0 K) tab glT "_law_cell_at" 9 _ _ P9 := ⟨s9, N9, _, F9, sc9, Mi.L.c9, rfl, rfl, rfl⟩
  have F10 := fun_mk (st := s10) l10 c10 k10
  have B10 := F10.binds (ps := P10) fun _ _ _ _ _ _ us hl => match us, hl with | [_, _], _ => rfl
  have D10 : DefOk (gb0 K) tab glT "_law_mixed" 10 _ _ P10 := ⟨s10, N10, _, F10, sc10, Mi.L.c10, rfl, rfl, rfl⟩
  have F11 := fun_mk (st := s11) l11 c11 k11
  have B11 := F11.binds (ps := P11) fun _ _ _ _ _ _ us hl => match us, hl with | [_], _ => rfl
  have D11 : DefOk (gb0 K) tab glT "_law_sign" 11 _ _ P11 := ⟨s11, N11, _, F11, sc11, Mi.L.c11, rfl, rfl, rfl⟩
  have F12 := fun_mk (st := s12) l12 c12 k12
  have B12 := F12.binds (ps := P12) fun _ _ _ _ _ _ us hl => match us, hl with | [_], _ => rfl
  have D12 : DefOk (gb0 K) tab glT "_law_lists" 12 _ _ P12 := ⟨s12, N12, _, F12, sc12, Mi.L.c12, rfl, rfl, rfl⟩
  have F13 := fun_mk (st := s13) l13 c13 k13
  have B13 := F13.binds (ps := P13) fun _ _ _ _ _ _ us hl => match us, hl with | [_, _], _ => rfl
  have D13 : DefOk (gb0 K) tab glT "_law_sealed" 13 _ _ P13 := ⟨s13, N13, _, F13, sc13, Mi.L.c13, rfl, rfl, rfl⟩
  have F14 := fun_mk (st := s14) l14 c14 k14
  have B14 := F14.binds (ps := P14) fun _ _ _ _ _ _ us hl => match us, hl with | [_], _ => rfl
  have D14 : DefOk (gb0 K) tab glT "_law_check" 14 _ _ P14 := ⟨s14, N14, _, F14, sc14, Mi.L.c14, rfl, rfl, rfl⟩
  have F15 := fun_mk (st := s15) l15 c15 k15
  have B15 := F15.binds (ps := P15) fun _ _ _ _ _ _ us hl => match us, hl with | [_], _ => rfl
  have D15 : DefOk (gb0 K) tab glT "_law_record" 15 _ _ P15 := ⟨s15, N15, _, F15, sc15, Mi.L.c15, rfl, rfl, rfl⟩
  have F16 := fun_mk (st := s16) l16 c16 k16
  have B16 := F16.binds (ps := P16) fun _ _ _ _ _ _ us hl => match us, hl with | [_], _ => rfl
  have D16 : DefOk (gb0 K) tab glT "_law_number" 16 _ _ P16 := ⟨s16, N16, _, F16, sc16, Mi.L.c16, rfl, rfl, rfl⟩
  have F17 := fun_mk (st := s17) l17 c17 k17
  have B17 := F17.binds (ps := P17) fun _ _ _ _ _ _ us hl => match us, hl with | [_], _ => rfl
  have D17 : DefOk (gb0 K) tab glT "_law_good" 17 _ _ P17 := ⟨s17, N17, _, F17, sc17, Mi.L.c17, rfl, rfl, rfl⟩
  have F18 := fun_mk (st := s18) l18 c18 k18
  have B18 := F18.binds (ps := P18) fun _ _ _ _ _ _ us hl => match us, hl with | [_], _ => rfl
  have D18 : DefOk (gb0 K) tab glT "_law_read" 18 _ _ P18 := ⟨s18, N18, _, F18, sc18, Mi.L.c18, rfl, rfl, rfl⟩
  have F19 := fun_mk (st := s19) l19 c19 k19
  have B19 := F19.binds (ps := P19) fun _ _ _ _ _ _ us hl => match us, hl with | [_, _, _], _ => rfl
  have D19 : DefOk (gb0 K) tab glT "_law_spoilt" 19 _ _ P19 := ⟨s19, N19, _, F19, sc19, Mi.L.c19, rfl, rfl, rfl⟩
  have F20 := fun_mk (st := s20) l20 c20 k20
  have B20 := F20.binds (ps := P20) fun _ _ _ _ _ _ us hl => match us, hl with | [_], _ => rfl
  have D20 : DefOk (gb0 K) tab glT "_law_of" 20 _ _ P20 := ⟨s20, N20, _, F20, sc20, Mi.L.c20, rfl, rfl, rfl⟩
  have F21 := fun_mk (st := s21) l21 c21 k21
  have B21 := F21.binds (ps := P21) fun _ _ _ _ _ _ us hl => match us, hl with | [_, _], _ => rfl
  have D21 : DefOk (gb0 K) tab glT "_law_odd" 21 _ _ P21 := ⟨s21, N21, _, F21, sc21, Mi.L.c21, rfl, rfl, rfl⟩
  have F22 := fun_mk (st := s22) l22 c22 k22
  have B22 := F22.binds (ps := P22) fun _ _ _ _ _ _ us hl => match us, hl with | [_], _ => rfl
  have D22 : DefOk (gb0 K) tab glT "law" 22 _ _ P22 := ⟨s22, N22, _, F22, sc22, Mi.L.c22, rfl, rfl, rfl⟩
  refine ⟨_, fun s v => .of_eq rfl, topOk_of ?_ ?_, D22⟩
  · exact List.forall_mem_cons.mpr ⟨⟨_, _, P0, PySem.W.mg_of X G a0, k0, B0, D0⟩, List.forall_mem_cons.mpr ⟨⟨_, _, P1, PySem.W.mg_of X G a1, k1, B1, D1⟩, List.forall_mem_cons.mpr ⟨⟨_, _, P2, PySem.W.mg_of X G a2, k2, B2, D2⟩, List.forall_mem_cons.mpr ⟨⟨_, _, P3, PySem.W.mg_of X G a3, k3, B3, D3⟩, List.forall_mem_cons.mpr ⟨⟨_, _, P4, PySem.W.mg_of X G a4, k4, B4, D4⟩, List.forall_mem_cons.mpr ⟨⟨_, _, P5, PySem.W.mg_of X G a5, k5, B5, D5⟩, List.forall_mem_cons.mpr ⟨⟨_, _, P6, PySem.W.mg_of X G a6, k6, B6, D6⟩, List.forall_mem_cons.mpr ⟨⟨_, _, P7, PySem.W.mg_of X G a7, k7, B7, D7⟩, List.forall_mem_cons.mpr ⟨⟨_, _, P8, PySem.W.mg_of X G a8, k8, B8, D8⟩, List.forall_mem_cons.mpr ⟨⟨_, _, P9, PySem.W.mg_of X G a9, k9, B9, D9⟩, List.forall_mem_cons.mpr ⟨⟨_, _, P10, PySem.W.mg_of X G a10, k10, B10, D10⟩, List.forall_mem_cons.mpr ⟨⟨_, _, P11, PySem.W.mg_of X G a11, k11, B11, D11⟩, List.forall_mem_cons.mpr ⟨⟨_, _, P12, PySem.W.mg_of X G a12, k12, B12, D12⟩, List.forall_mem_cons.mpr ⟨⟨_, _, P13, PySem.W.mg_of X G a13, k13, B13, D13⟩, List.forall_mem_cons.mpr ⟨⟨_, _, P14, PySem.W.mg_of X G a14, k14, B14, D14⟩, List.forall_mem_cons.mpr ⟨⟨_, _, P15, PySem.W.mg_of X G a15, k15, B15, D15⟩, List.forall_mem_cons.mpr ⟨⟨_, _, P16, PySem.W.mg_of X G a16, k16, B16, D16⟩, List.forall_mem_cons.mpr ⟨⟨_, _, P17, PySem.W.mg_of X G a17, k17, B17, D17⟩, List.forall_mem_cons.mpr ⟨⟨_, _, P18, PySem.W.mg_of X G a18, k18, B18, D18⟩, List.forall_mem_cons.mpr ⟨⟨_, _, P19, PySem.W.mg_of X G a19, k19, B19, D19⟩, List.forall_mem_cons.mpr ⟨⟨_, _, P20, PySem.W.mg_of X G a20, k20, B20, D20⟩, List.forall_mem_cons.mpr ⟨⟨_, _, P21, PySem.W.mg_of X G a21, k21, B21, D21⟩, List.forall_mem_cons.mpr ⟨⟨_, _, P22, PySem.W.mg_of X G a22, k22, B22, D22⟩, List.forall_mem_cons.mpr ⟨⟨.int 2305843009213693951, _, PySem.W.mg_of X G q0, ⟨_, rfl⟩, fun _ _ => by unfold Rp; rfl⟩, List.forall_mem_cons.mpr ⟨⟨.int 1234567890123456789, _, PySem.W.mg_of X G q1, ⟨_, rfl⟩, fun _ _ => by unfold Rp; rfl⟩, List.forall_mem_cons.mpr ⟨⟨.int 7, _, PySem.W.mg_of X G q2, ⟨_, rfl⟩, fun _ _ => by unfold Rp; rfl⟩, List.forall_mem_cons.mpr ⟨⟨.int 1000000000000000, _, PySem.W.mg_of X G q3, ⟨_, rfl⟩, fun _ _ => by unfold Rp; rfl⟩, List.forall_mem_cons.mpr ⟨⟨.int 1000000000000000000000000000000, _, PySem.W.mg_of X G q4, ⟨_, rfl⟩, fun _ _ => by unfold Rp; rfl⟩, List.forall_mem_cons.mpr ⟨⟨.str "0123456789", _, PySem.W.mg_of X G q5, ⟨_, rfl⟩, fun _ _ => by unfold Rp; rfl⟩, List.forall_mem_cons.mpr ⟨⟨.int 50, _, PySem.W.mg_of X G q6, ⟨_, rfl⟩, fun _ _ => by unfold Rp; rfl⟩, List.forall_mem_cons.mpr ⟨⟨.int 20, _, PySem.W.mg_of X G q7, ⟨_, rfl⟩, fun _ _ => by unfold Rp; rfl⟩, fun p hp => absurd hp List.not_mem_nil⟩⟩⟩⟩⟩⟩⟩⟩⟩⟩⟩⟩⟩⟩⟩⟩⟩⟩⟩⟩⟩⟩⟩⟩⟩⟩⟩⟩⟩⟩⟩
  · exact List.forall_mem_cons.mpr ⟨PySem.W.mg_none_of X G z0, List.forall_mem_cons.mpr ⟨PySem.W.mg_none_of X G z1, List.forall_mem_cons.mpr ⟨PySem.W.mg_none_of X G z2, List.forall_mem_cons.mpr ⟨PySem.W.mg_none_of X G z3, List.forall_mem_cons.mpr ⟨PySem.W.mg_none_of X G z4, List.forall_mem_cons.mpr ⟨PySem.W.mg_none_of X G z5, List.forall_mem_cons.mpr ⟨PySem.W.mg_none_of X G z6, List.forall_mem_cons.mpr ⟨PySem.W.mg_none_of X G z7, List.forall_mem_cons.mpr ⟨PySem.W.mg_none_of X G z8, List.forall_mem_cons.mpr ⟨PySem.W.mg_none_of X G z9, List.forall_mem_cons.mpr ⟨PySem.W.mg_none_of X G z10, List.forall_mem_cons.mpr ⟨PySem.W.mg_none_of X G z11, List.forall_mem_cons.mpr ⟨PySem.W.mg_none_of X G z12, List.forall_mem_cons.mpr ⟨PySem.W.mg_none_of X G z13, List.forall_mem_cons.mpr ⟨PySem.W.mg_none_of X G z14, List.forall_mem_cons.mpr ⟨PySem.W.mg_none_of X G z15, List.forall_mem_cons.mpr ⟨PySem.W.mg_none_of X G z16, List.forall_mem_cons.mpr ⟨PySem.W.mg_none_of X G z17, List.forall_mem_cons.mpr ⟨PySem.W.mg_none_of X G z18, List.forall_mem_cons.mpr ⟨PySem.W.mg_none_of X G z19, List.forall_mem_cons.mpr ⟨PySem.W.mg_none_of X G z20, fun p hp => absurd hp List.not_mem_nil⟩⟩⟩⟩⟩⟩⟩⟩⟩⟩⟩⟩⟩⟩⟩⟩⟩⟩⟩⟩⟩
end Mi.L
open PySem PySem.W PyProof.Rows
set_option maxRecDepth 100000 in
set_option maxHeartbeats 0 in
theorem PySem.Challenge.cw_papervault_k91_records_read_holds : PySem.Challenge.rw_papervault_k91_records_read.Holds := by
  w_on; o_law; k_head; (case hw => w_witness2)
  k_fill
  refine Mi.walk_mi (l := PySem.Challenge.rw_papervault_k91_records_read) (n := 63) (k := 40) (i := 22) (tab := Mi.L.tab) (gl := Mi.L.glT) (x := "script") (y := "law") rfl (by decide) rfl ⟨rfl, by decide, by decide⟩ (fun w h Y => PySem.W.kIn_of Y) ?F ?L
  case F =>
    intro w mg fa h KX G hmg
    refine' Mi.L.top_ok KX G hmg ?a0 ?l0 ?c0 ?k0 ?a1 ?l1 ?c1 ?k1 ?a2 ?l2 ?c2 ?k2 ?a3 ?l3 ?c3 ?k3 ?a4 ?l4 ?c4 ?k4 ?a5 ?l5 ?c5 ?k5 ?a6 ?l6 ?c6 ?k6 ?a7 ?l7 ?c7 ?k7 ?a8 ?l8 ?c8 ?k8 ?a9 ?l9 ?c9 ?k9 ?a10 ?l10 ?c10 ?k10 ?a11 ?l11 ?c11 ?k11 ?a12 ?l12 ?c12 ?k12 ?a13 ?l13 ?c13 ?k13 ?a14 ?l14 ?c14 ?k14 ?a15 ?l15 ?c15 ?k15 ?a16 ?l16 ?c16 ?k16 ?a17 ?l17 ?c17 ?k17 ?a18 ?l18 ?c18 ?k18 ?a19 ?l19 ?c19 ?k19 ?a20 ?l20 ?c20 ?k20 ?a21 ?l21 ?c21 ?k21 ?a22 ?l22 ?c22 ?k22 ?q0 ?q1 ?q2 ?q3 ?q4 ?q5 ?q6 ?q7 ?z0 ?z1 ?z2 ?z3 ?z4 ?z5 ?z6 ?z7 ?z8 ?z9 ?z10 ?z11 ?z12 ?z13 ?z14 ?z15 ?z16 ?z17 ?z18 ?z19 ?z20
    (case a0 => k_is); (case l0 => k_is); (case c0 => k_is); (case k0 => k_is)
    (case a1 => k_is); (case l1 => k_is); (case c1 => k_is); (case k1 => k_is)
    (case a2 => k_is); (case l2 => k_is); (case c2 => k_is); (case k2 => k_is)
    (case a3 => k_is); (case l3 => k_is); (case c3 => k_is); (case k3 => k_is)
    (case a4 => k_is); (case l4 => k_is); (case c4 => k_is); (case k4 => k_is)
    (case a5 => k_is); (case l5 => k_is); (case c5 => k_is); (case k5 => k_is)
    (case a6 => k_is); (case l6 => k_is); (case c6 => k_is); (case k6 => k_is)
    (case a7 => k_is); (case l7 => k_is); (case c7 => k_is); (case k7 => k_is)
    (case a8 => k_is); (case l8 => k_is); (case c8 => k_is); (case k8 => k_is)
    (case a9 => k_is); (case l9 => k_is); (case c9 => k_is); (case k9 => k_is)
    (case a10 => k_is); (case l10 => k_is); (case c10 => k_is); (case k10 => k_is)
    (case a11 => k_is); (case l11 => k_is); (case c11 => k_is); (case k11 => k_is)
    (case a12 => k_is); (case l12 => k_is); (case c12 => k_is); (case k12 => k_is)
    (case a13 => k_is); (case l13 => k_is); (case c13 => k_is); (case k13 => k_is)
    (case a14 => k_is); (case l14 => k_is); (case c14 => k_is); (case k14 => k_is)
    (case a15 => k_is); (case l15 => k_is); (case c15 => k_is); (case k15 => k_is)
    (case a16 => k_is); (case l16 => k_is); (case c16 => k_is); (case k16 => k_is)
    (case a17 => k_is); (case l17 => k_is); (case c17 => k_is); (case k17 => k_is)
    (case a18 => k_is); (case l18 => k_is); (case c18 => k_is); (case k18 => k_is)
    (case a19 => k_is); (case l19 => k_is); (case c19 => k_is); (case k19 => k_is)
    (case a20 => k_is); (case l20 => k_is); (case c20 => k_is); (case k20 => k_is)
    (case a21 => k_is); (case l21 => k_is); (case c21 => k_is); (case k21 => k_is)
    (case a22 => k_is); (case l22 => k_is); (case c22 => k_is); (case k22 => k_is)
    (case q0 => k_is)
    (case q1 => k_is)
    (case q2 => k_is)
    (case q3 => k_is)
    (case q4 => k_is)
    (case q5 => k_is)
    (case q6 => k_is)
    (case q7 => k_is)
    (case z0 => k_is); (case z1 => k_is); (case z2 => k_is); (case z3 => k_is); (case z4 => k_is); (case z5 => k_is)
    (case z6 => k_is); (case z7 => k_is); (case z8 => k_is); (case z9 => k_is); (case z10 => k_is); (case z11 => k_is)
    (case z12 => k_is); (case z13 => k_is); (case z14 => k_is); (case z15 => k_is); (case z16 => k_is); (case z17 => k_is)
    (case z18 => k_is); (case z19 => k_is); (case z20 => k_is)
  case L => exact fun ns hl => Mi.L.law91 ns hl

