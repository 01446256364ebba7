import PyProof.Rows.All
import Wide.All
import OpenK.AllK
import Wide.FinOn
import PySem.Challenge.RW_papervault_k75_bounds_of_conditions
import PyProof.EqAt
import PyProof.EqKinds
import PyProof.TupleCall
import HandS.ForMost
import HandS.ForExc
import HandS.Wide
import KE.DataEq
import KE.DataCmp
import KE.SortKeyHeap
import HandS.Zip
import HandS.Rev
import HandS.CallSlots
import HandS.IsInst
import KE.KDictZip
import HandS.ListItems
import HandS.Keys
import HandS.SortKw
import HandS.Small
import PyProof.FitsReplace
set_option Elab.async false
set_option linter.all false
set_option maxRecDepth 100000
/-! Mi, part A: values, stores, the small language and what it means. -/
namespace Mi
open PySem L2

/-- a value: tuples and constant lists by value, lists and dicts and instances by their place in the store -/
inductive D where
  | non | bl (b : Bool) | int (i : Int) | str (x : Str) | tup (ds : List D) | ls (ds : List D) | kt (ds : List D) | ref (n : Nat)
  deriving Inhabited

inductive O where
  | lst (ds : List D)
  | dk (kvs : List (Key × D))
  | dt (kvs : List (List Key × D))
  | ins (c : Nat) (fs : List (Str × D))

abbrev Store := List O
abbrev Env := List (Option D)

/-- a value, or a list that nobody else has -/
inductive W where
  | val (d : D) | lis (ds : List D)

inductive R (α : Type) where
  | ok (a : α) (S : Store) | ex (c : Nat) (fs : List (Str × D)) (S : Store) | bad

def R.nox {α : Type} (r : R α) : R α := match r with
  | .ex _ _ _ => .bad | r => r
def R.bd {α β : Type} (r : R α) (f : α → Store → R β) : R β := match r with
  | .ok a S => f a S | .ex c fs S => .ex c fs S | .bad => .bad
theorem R.bd_ok {α β : Type} {a : α} {S : Store} {f : α → Store → R β} : (R.ok a S).bd f = f a S := rfl
theorem R.bd_ex {α β : Type} {c : Nat} {fs : List (Str × D)} {S : Store} {f : α → Store → R β} : (R.ex c fs S : R α).bd f = .ex c fs S := rfl
theorem R.bd_bad {α β : Type} {f : α → Store → R β} : (R.bad : R α).bd f = .bad := rfl

/-- a list that is kept gets a place -/
def toD : W → Store → R D
  | .val d, S => .ok d S
  | .lis ds, S => .ok (.ref S.length) (S ++ [.lst ds])

def mapO {α β : Type} (f : α → Option β) : List α → Option (List β)
  | [] => some []
  | a :: r => match f a, mapO f r with
    | some b, some bs => some (b :: bs)
    | _, _ => none
/-! ### data as a whole -/
def toPy (S : Store) : Nat → D → Option PyData
  | 0, _ => none
  | _ + 1, .non => some .none
  | _ + 1, .bl b => some (.bool b)
  | _ + 1, .int i => some (.int i)
  | _ + 1, .str x => some (.str x)
  | n + 1, .tup ds => (mapO (toPy S n) ds).map .tuple
  | n + 1, .ls ds => (mapO (toPy S n) ds).map .list
  | n + 1, .kt ds => (mapO (toPy S n) ds).map .tuple
  | n + 1, .ref k => match S[k]? with
    | some (.lst ds) => (mapO (toPy S n) ds).map .list
    | _ => none
def deepest : Nat := 40
def W.py (S : Store) : W → Option PyData
  | .val d => toPy S deepest d
  | .lis ds => (mapO (toPy S deepest) ds).map .list
/-- the items of a list or a tuple; whether it is a tuple -/
def W.seq (S : Store) : W → Option (Bool × List D)
  | .lis ds => some (false, ds)
  | .val (.tup ds) => some (true, ds)
  | .val (.ls ds) => some (false, ds)
  | .val (.kt ds) => some (true, ds)
  | .val (.ref k) => match S[k]? with
    | some (.lst ds) => some (false, ds)
    | _ => none
  | .val _ => none

/-! ### what one does with values -/
inductive P1 where
  | neg | isN | notN | len | int_ | ord | str_ | tuple_ | list_ | sum | all_ | any_ | pop | dict_ | abs | items | keysSorted | values
  deriving DecidableEq
inductive P2 where
  | add | sub | mul | fdiv | mod | pow | eq | ne | lt | le | gt | ge | inn | nin | ix | append | extend | join | index | count | split | partition | max_ | min_ | get1 | lzip
  deriving DecidableEq
inductive P3 where
  | get2 | replace | insert
  deriving DecidableEq
/-- kinds of isinstance -/
inductive Ty where
  | int | str | bool | tuple | list
  deriving DecidableEq
def Ty.of (S : Store) : W → Ty → Bool
  | .lis _, .list => true
  | .val (.ls _), .list => true
  | .val (.tup _), .tuple => true
  | .val (.kt _), .tuple => true
  | .val (.str _), .str => true
  | .val (.int _), .int => true
  | .val (.bl _), .int => true
  | .val (.bl _), .bool => true
  | .val (.ref k), .list => match S[k]? with
    | some (.lst _) => true
    | _ => false
  | _, _ => false

def vv (d : D) (S : Store) : R W := .ok (.val d) S
def W.plain (S : Store) : W → Bool
  | .val (.ref n) => match S[n]? with
    | some (.lst _) => true
    | some (.dk _) => true
    | some (.dt _) => true
    | _ => false
  | _ => true
def isiW (ts : List Ty) (x : W) (S : Store) : R W := if x.plain S = true then vv (.bl (ts.any (Ty.of S x))) S else .bad
def lookD {κ : Type} [DecidableEq κ] (kvs : List (κ × D)) (k : κ) : Option D := (kvs.find? fun kv => decide (kv.1 = k)).map (·.2)
def putD {κ : Type} [DecidableEq κ] (kvs : List (κ × D)) (k : κ) (d : D) : List (κ × D) :=
  if (kvs.any fun kv => decide (kv.1 = k)) = true then kvs.map fun kv => if kv.1 = k then (kv.1, d) else kv else kvs ++ [(k, d)]
def D.key : D → Option Key
  | .int i => some (.inl i)
  | .str x => some (.inr x)
  | _ => none
def D.keyT : D → Option (List Key)
  | .tup ds => mapO D.key ds
  | _ => none
def D.ofKey : Key → D
  | .inl i => .int i
  | .inr x => .str x
/-- what stands at a key -/
def look (S : Store) (n : Nat) (k : D) : Option (Option D) := match S[n]? with
  | some (.dk kvs) => k.key.map (lookD kvs)
  | some (.dt kvs) => k.keyT.map (lookD kvs)
  | _ => none
/-- the dict behind a store -/
def putO (o : O) (k : D) (v : D) : Option O := match o with
  | .dk kvs => match k.key with
    | some k => if kvs.length < sizeLine then some (.dk (putD kvs k v)) else none
    | none => match k.keyT with
      | some k => if kvs.isEmpty then some (.dt [(k, v)]) else none
      | none => none
  | .dt kvs => match k.keyT with
    | some k => if kvs.length < sizeLine then some (.dt (putD kvs k v)) else none
    | none => none
  | _ => none

def fits62 (i : Int) : Bool := decide (-(2 ^ 62) ≤ i ∧ i < 2 ^ 62)
def pairK : D → Option (Key × D)
  | .tup [k, v] => k.key.map fun k => (k, v)
  | _ => none
def pairT : D → Option (List Key × D)
  | .tup [k, v] => k.keyT.map fun k => (k, v)
  | _ => none
/-- a dict of pairs -/
def dictOf : List D → Option O
  | [] => some (.dk [])
  | .tup [k, v] :: r => match k.key with
    | some k => (mapO pairK r).map fun r => .dk (((k, v) :: r).foldl (fun acc kv => putD acc kv.1 kv.2) [])
    | none => match k.keyT with
      | some k => (mapO pairT r).map fun r => .dt (((k, v) :: r).foldl (fun acc kv => putD acc kv.1 kv.2) [])
      | none => none
  | _ => none

def intsOf : List D → Option (List Int)
  | [] => some []
  | .int i :: r => (intsOf r).map (i :: ·)
  | _ => none
def strsOf : List D → Option (List Str)
  | [] => some []
  | .str i :: r => (strsOf r).map (i :: ·)
  | _ => none
def blsOf : List D → Option (List Bool)
  | [] => some []
  | .bl i :: r => (blsOf r).map (i :: ·)
  | _ => none

def p1 (o : P1) (w : W) (S : Store) : R W := match o with
  | .neg => match w with
    | .val (.int i) => vv (.int (-i)) S
    | _ => .bad
  | .isN => match w with
    | .val .non => vv (.bl true) S
    | _ => vv (.bl false) S
  | .notN => match w with
    | .val .non => vv (.bl false) S
    | _ => vv (.bl true) S
  | .len => match w with
    | .val (.str x) => if x.length ≤ sizeLine then vv (.int x.length) S else .bad
    | w => match w.seq S with
      | some (_, ds) => vv (.int ds.length) S
      | none => .bad
  | .int_ => match w with
    | .val (.int i) => vv (.int i) S
    | .val (.bl b) => vv (.int (if b then 1 else 0)) S
    | _ => .bad
  | .ord => match w with
    | .val (.str x) => if x.length = 1 then vv (.int (x.cps.getD 0 0 : Nat)) S else .bad
    | _ => .bad
  | .str_ => match w with
    | .val (.int i) => if i.natAbs.log2 < 1920 then vv (.str (toString i)) S else .bad
    | _ => .bad
  | .tuple_ => match w.seq S with
    | some (_, ds) => match w with
      | .val (.kt _) => .bad
      | _ => vv (.tup ds) S
    | none => .bad
  | .list_ => match w.seq S with
    | some (_, ds) => .ok (.lis ds) S
    | none => .bad
  | .pop => match w with
    | .val (.ref n) => match S[n]? with
      | some (.lst ds) => match ds.getLast? with
        | some d => .ok (.val d) (S.set n (.lst ds.dropLast))
        | none => .bad
      | _ => .bad
    | _ => .bad
  | .dict_ => match w.seq S with
    | some (false, ds) => match dictOf ds with
      | some o => .ok (.val (.ref S.length)) (S ++ [o])
      | none => .bad
    | _ => .bad
  | _ => .bad

def strLt (x y : Str) : Bool := decide (x.cps.toList < y.cps.toList)

def isNonePy : PyData → Bool
  | .none => true
  | _ => false
def cmpD (o : P2) (x y : PyData) : Option Bool :=
  if (W.alike x y && !isNonePy x) = true then
    match o with
    | .lt => some (W.dataLt x y)
    | .gt => some (W.dataLt y x)
    | .le => some (!W.dataLt y x)
    | .ge => some (!W.dataLt x y)
    | _ => none
  else none
def mulFits (i j : Int) : Bool := decide (i.natAbs.log2 + j.natAbs.log2 < 900000)
def divFits (j : Int) : Bool := decide (0 < j ∧ j.natAbs.log2 < 9000)
def isIn (x y : W) (S : Store) : Option Bool := match y with
  | .val (.str t) => match x with
    | .val (.str z) => some (!(Builtin.Str.occurrences t z 0 t.length 1).isEmpty)
    | _ => none
  | y => match y.seq S with
    | some (_, ds) => (x.py S).bind fun p => (mapO (toPy S deepest) ds).map fun ys => ys.any fun y => PyData.eqv y p
    | none => match x, y with
      | .val d, .val (.ref n) => (look S n d).map (·.isSome)
      | _, _ => none
def ob (o : Option Bool) (S : Store) : R W := match o with
  | some b => vv (.bl b) S
  | none => .bad
def joinFits (a : Str) (ys : List Str) : Bool := decide ((ys.map (·.length)).sum + ys.length * a.length ≤ 16777216)

/-- a list that stands in the heap by itself -/
def isLst (S : Store) (w : W) : Bool := match w with
  | .lis _ => true
  | .val (.ref n) => match S[n]? with
    | some (.lst _) => true
    | _ => false
  | _ => false
/-- list(zip(x, y)) -/
def lzipW (x y : W) (S : Store) : R W := match x.seq S, y.seq S with
  | some p, some q => if p.1 = q.1 then .ok (.lis ((p.2.zip q.2).map fun p => .tup [p.1, p.2])) S else .bad
  | _, _ => .bad
def p2 (o : P2) (x y : W) (S : Store) : R W := match o with
  | .lzip => lzipW x y S
  | .add => match x, y with
    | .val (.int i), .val (.int j) => vv (.int (i + j)) S
    | .val (.str a), .val (.str b) => if a.length + b.length ≤ sizeLine then vv (.str (a ++ b)) S else .bad
    | x, y => match x.seq S, y.seq S with
      | some (false, xs), some (false, ys) => if (isLst S x && isLst S y && decide (xs.length + ys.length ≤ sizeLine)) = true then .ok (.lis (xs ++ ys)) S else .bad
      | some (true, xs), some (true, ys) => if (!xs.isEmpty && !ys.isEmpty && decide (xs.length + ys.length ≤ sizeLine)) = true then vv (.tup (xs ++ ys)) S else .bad
      | _, _ => .bad
  | .sub => match x, y with
    | .val (.int i), .val (.int j) => vv (.int (i - j)) S
    | _, _ => .bad
  | .mul => match x, y with
    | .val (.int i), .val (.int j) => if mulFits i j = true then vv (.int (i * j)) S else .bad
    | _, _ => .bad
  | .fdiv => match x, y with
    | .val (.int i), .val (.int j) => if divFits j = true then vv (.int (i / j)) S else .bad
    | _, _ => .bad
  | .mod => match x, y with
    | .val (.int i), .val (.int j) => if 0 < j then vv (.int (i % j)) S else .bad
    | _, _ => .bad
  | .pow => match x, y with
    | .val (.int i), .val (.int j) => if 0 ≤ j ∧ j ≤ 1000000 ∧ i.natAbs < 2 ^ 64 then vv (.int (i ^ j.toNat)) S else .bad
    | _, _ => .bad
  | .eq => match x.py S, y.py S with
    | some a, some b => vv (.bl (PyData.eqv a b)) S
    | _, _ => .bad
  | .ne => match x.py S, y.py S with
    | some a, some b => vv (.bl (!PyData.eqv a b)) S
    | _, _ => .bad
  | .lt => match x.py S, y.py S with
    | some a, some b => ob (cmpD .lt a b) S
    | _, _ => .bad
  | .le => match x.py S, y.py S with
    | some a, some b => ob (cmpD .le a b) S
    | _, _ => .bad
  | .gt => match x.py S, y.py S with
    | some a, some b => ob (cmpD .gt a b) S
    | _, _ => .bad
  | .ge => match x.py S, y.py S with
    | some a, some b => ob (cmpD .ge a b) S
    | _, _ => .bad
  | .inn => ob (isIn x y S) S
  | .nin => ob ((isIn x y S).map (!·)) S
  | .ix => match x with
    | .val (.str z) => match y with
      | .val (.int i) => match atI z.cps.toList i with
        | some c => if z.length ≤ sizeLine then vv (.str ⟨#[c]⟩) S else .bad
        | none => .bad
      | _ => .bad
    | x => match x.seq S with
      | some (_, ds) => match y with
        | .val (.int i) => match atI ds i with
          | some d => vv d S
          | none => .bad
        | _ => .bad
      | none => match x, y with
        | .val (.ref n), .val k => match look S n k with
          | some (some d) => vv d S
          | _ => .bad
        | _, _ => .bad
  | .append => (toD y S).bd fun d S => match x with
    | .val (.ref n) => match S[n]? with
      | some (.lst ds) => if ds.length < sizeLine then vv .non (S.set n (.lst (ds ++ [d]))) else .bad
      | _ => .bad
    | _ => .bad
  | .extend => match x with
    | .val (.ref n) => match S[n]? with
      | some (.lst ds) => match y.seq S with
        | some (_, es) => if (isLst S y && decide (ds.length + es.length ≤ sizeLine)) = true then vv .non (S.set n (.lst (ds ++ es))) else .bad
        | _ => .bad
      | _ => .bad
    | _ => .bad
  | .join => match x with
    | .val (.str a) => match y.seq S with
      | some (_, ds) => match strsOf ds with
        | some ys => if joinFits a ys = true then vv (.str (Txt.join a ys)) S else .bad
        | none => .bad
      | none => .bad
    | _ => .bad
  | _ => .bad

def p3 (_o : P3) (_x _y _z : W) (_S : Store) : R W := .bad

def optI : Option W → Option (Option Int)
  | none => some none
  | some (.val (.int i)) => some (some i)
  | _ => none
def partI (ws : List W) (S : Store) : R (Option Int) := match optI ws.head? with
  | some i => .ok i S
  | none => .bad
def cutD {α : Type} (xs : List α) (lo hi : Option Int) : List α := (xs.drop (HT.sIx xs.length 0 lo)).take (HT.sIx xs.length xs.length hi - HT.sIx xs.length 0 lo)
/-- x[lo:hi] -/
def cutW (x : W) (lo hi : Option Int) (S : Store) : R W := match x with
  | .val (.str z) => if z.length ≤ sizeLine then vv (.str (cutS z lo hi)) S else .bad
  | x => match x.seq S with
    | some (true, ds) => if (cutD ds lo hi).length = ds.length then .bad else vv (.tup (cutD ds lo hi)) S
    | some (false, ds) => .ok (.lis (cutD ds lo hi)) S
    | none => .bad

/-- the receiver of a built-in type's method -/
inductive MK where
  | list | str | dict
  deriving DecidableEq
def MK.is (S : Store) : MK → W → Bool
  | .list, .lis _ => true
  | .list, .val (.ls _) => true
  | .list, .val (.ref k) => match S[k]? with
    | some (.lst _) => true
    | _ => false
  | .str, .val (.str _) => true
  | .dict, .val (.ref k) => match S[k]? with
    | some (.dk _) => true
    | some (.dt _) => true
    | _ => false
  | _, _ => false

/-! ### the language -/
inductive Tg where
  | nm (i : Nat) | tp (is : List Nat)
/-- what is walked -/
inductive IK where
  | it | rng1 | rng2 | rng3 | zip | enm | rev
  deriving DecidableEq

inductive Ex where
  | c (d : D)
  | v (i : Nat)
  | p1 (o : P1) (a : Ex)
  | p2 (o : P2) (a b : Ex)
  | sl (a : Ex) (lo hi : List Ex)
  | isi (ts : List Ty) (a : Ex)
  | and_ (a b : Ex) | or_ (a b : Ex) | not_ (a : Ex) | ite (c a b : Ex)
  | ch (o o' : P2) (a b c : Ex)
  | tup (es : List Ex)
  | disp (es : List Ex)
  | dict (kvs : List Ex)
  | comp (t : Tg) (k : IK) (its cs : List Ex) (e : Ex) (own : List Nat)
  | call (f : Nat) (es : List Ex)
  | m0 (k : MK) (o : P1) (a : Ex)
  | m1 (k : MK) (o : P2) (a b : Ex)
  | m2 (k : MK) (o : P3) (a b c : Ex)
  | srt (key : Nat) (rev : Bool) (a : Ex)

def bindTs : List Nat → List D → Env → Option Env
  | [], [], ρ => some ρ
  | i :: is, d :: ds, ρ => bindTs is ds (ρ.set i (some d))
  | _, _, _ => none
def bindTg : Tg → D → Env → Option Env
  | .nm i, d, ρ => some (ρ.set i (some d))
  | .tp is, .tup ds, ρ => bindTs is ds ρ
  | _, _, _ => none
def wipeD (ρ : Env) : List Nat → Env
  | [] => ρ
  | v :: vs => (wipeD ρ vs).set v none

/-- items, and the lists that must stay as they are -/
structure Its where
  items : List D
  live : List (Nat × List D)
def live1 : W → List D → List (Nat × List D)
  | .val (.ref n), ds => [(n, ds)]
  | _, _ => []
def intsD (n : Nat) (f : Nat → Int) : List D := (List.range n).map fun i => .int (f i)
/-- how many numbers from i by c below j -/
def steps (i j c : Int) : Nat := if i < j then ((j - i - 1) / c + 1).toNat else 0
def its (k : IK) (ws : List W) (S : Store) : Option Its := match k with
  | .it => match ws with
    | [w] => match w.seq S with
      | some p => some ⟨p.2, live1 w p.2⟩
      | none => match w with
        | .val (.str z) => some ⟨z.cps.toList.map fun c => .str ⟨#[c]⟩, []⟩
        | _ => none
    | _ => none
  | .rng1 => match ws with
    | [.val (.int n)] => if fits62 n = true then some ⟨intsD n.toNat fun i => (i : Int), []⟩ else none
    | _ => none
  | .rng2 => match ws with
    | [.val (.int a), .val (.int b)] => if (fits62 a && fits62 b) = true then some ⟨intsD (b - a).toNat fun i => a + i, []⟩ else none
    | _ => none
  | .rng3 => match ws with
    | [.val (.int a), .val (.int b), .val (.int c)] => if (fits62 a && fits62 b && decide (0 < c ∧ c < 1073741824)) = true then some ⟨intsD (steps a b c) fun i => a + i * c, []⟩ else none
    | _ => none
  | .zip => match ws with
    | [w, w'] => match w.seq S, w'.seq S with
      | some p, some q => if p.1 = q.1 then some ⟨(p.2.zip q.2).map fun p => .tup [p.1, p.2], live1 w p.2 ++ live1 w' q.2⟩ else none
      | _, _ => none
    | _ => none
  | .enm => match ws with
    | [w] => match w.seq S with
      | some (false, ds) => some ⟨ds.zipIdx.map fun q => .tup [.int q.2, q.1], live1 w ds⟩
      | _ => none
    | _ => none
  | .rev => match ws with
    | [w] => match w.seq S with
      | some p => some ⟨p.2.reverse, live1 w p.2⟩
      | none => none
    | _ => none
def isLive (live : List (Nat × List D)) (S : Store) : Prop := ∀ p ∈ live, S[p.1]? = some (.lst p.2)

open Classical in
/-- a comprehension's turns -/
noncomputable def compL (live : List (Nat × List D)) (turn : D → Store → R (Option D)) : List D → Store → List D → R (List D)
  | [], S, acc => if isLive live S then .ok acc S else .bad
  | d :: r, S, acc => if isLive live S then (turn d S).bd fun o S => match o with
      | none => compL live turn r S acc
      | some e => if acc.length < sizeLine then compL live turn r S (acc ++ [e]) else .bad
    else .bad

def toB (w : W) (S : Store) : R Bool := match w with
  | .val (.bl b) => .ok b S
  | _ => .bad
def toDs : List W → Store → R (List D)
  | [], S => .ok [] S
  | w :: r, S => (toD w S).bd fun d S => (toDs r S).bd fun ds S => .ok (d :: ds) S
/-- what stands in turn: key, value, key, .. -/
def unpair : List D → Option (List (Key × D))
  | [] => some []
  | k :: v :: r => match k.key with
    | some k => (unpair r).map ((k, v) :: ·)
    | none => none
  | _ => none
/-- a display's new dict -/
def dispO (ds : List D) : Option O := match unpair ds with
  | some kvs => if kvs.length ≤ 15 then some (.dk (kvs.foldl (fun acc kv => putD acc kv.1 kv.2) [])) else none
  | none => none
/-- the keys, in turn -/
def keysL (f : D → Store → R D) : List D → Store → R (List D)
  | [], S => .ok [] S
  | d :: r, S => ((f d S).nox).bd fun k S => (keysL f r S).bd fun ks S => .ok (k :: ks) S
/-- the items in the keys' order, equal keys in their old turn -/
noncomputable def byKeys {α : Type} (b : Bool) (xs : List α) (kz : List PyData) : List α := ((xs.zip kz).mergeSort (W.dataLe b (·.2))).map (·.1)
open Classical in
noncomputable def srtEnd (ds ks : List D) (S : Store) : R W := match mapO (toPy S deepest) ks with
  | some kz => if W.AllAlike kz ∧ W.Sortable kz then .ok (.lis (byKeys false ds kz)) S else .bad
  | none => .bad
noncomputable def srtW (f : D → Store → R D) (w : W) (S : Store) : R W := match w.seq S with
  | some (false, ds) => (keysL f ds S).bd fun ks S => srtEnd ds ks S
  | _ => .bad

section
variable (C : Nat → List D → Store → R D)
mutual
noncomputable def evK : Ex → Env → Store → R W
  | .c d, _, S => vv d S
  | .v i, ρ, S => match ρ[i]? with
    | some (some d) => vv d S
    | _ => .bad
  | .p1 o a, ρ, S => (evK a ρ S).bd fun x S => p1 o x S
  | .p2 o a b, ρ, S => (evK a ρ S).bd fun x S => (evK b ρ S).bd fun y S => p2 o x y S
  | .sl a lo hi, ρ, S => (evK a ρ S).bd fun x S => ((evWs lo ρ S).bd partI).bd fun l S => ((evWs hi ρ S).bd partI).bd fun h S => cutW x l h S
  | .isi ts a, ρ, S => (evK a ρ S).bd fun x S => isiW ts x S
  | .and_ a b, ρ, S => ((evK a ρ S).bd toB).bd fun c S => if c = true then evK b ρ S else vv (.bl false) S
  | .or_ a b, ρ, S => ((evK a ρ S).bd toB).bd fun c S => if c = true then vv (.bl true) S else evK b ρ S
  | .not_ a, ρ, S => ((evK a ρ S).bd toB).bd fun c S => vv (.bl (!c)) S
  | .ite c a b, ρ, S => ((evK c ρ S).bd toB).bd fun k S => if k = true then evK a ρ S else evK b ρ S
  | .ch o o' a b c, ρ, S => (evK a ρ S).bd fun x S => (evK b ρ S).bd fun y S => ((p2 o x y S).bd toB).bd fun k S =>
      if k = true then (evK c ρ S).bd fun z S => p2 o' y z S else vv (.bl false) S
  | .tup es, ρ, S => (evDs es ρ S).bd fun ds S => if ds.length ≤ sizeLine then vv (.tup ds) S else .bad
  | .disp es, ρ, S => (evDs es ρ S).bd fun ds S => if ds.length ≤ sizeLine then .ok (.lis ds) S else .bad
  | .dict kvs, ρ, S => (evDs kvs ρ S).bd fun ds S => match dispO ds with
    | some o => .ok (.val (.ref S.length)) (S ++ [o])
    | none => .bad
  | .comp t k is cs e own, ρ, S => (evWs is ρ S).bd fun ws S => match its k ws S with
    | some I => (compL I.live (fun d S => match bindTg t d (wipeD ρ own) with
        | some ρ' => ((evCs cs ρ' S).bd fun b S => if b = true then ((evK e ρ' S).bd toD).bd fun d S => .ok (some d) S else .ok none S).nox
        | none => .bad) I.items S []).bd fun ds S => .ok (.lis ds) S
    | none => .bad
  | .call f es, ρ, S => (evDs es ρ S).bd fun ds S => (C f ds S).bd fun d S => vv d S
  | .m0 k o a, ρ, S => (evK a ρ S).bd fun x S => if k.is S x = true then p1 o x S else .bad
  | .m1 k o a b, ρ, S => (evK a ρ S).bd fun x S => if k.is S x = true then (evK b ρ S).bd fun y S => p2 o x y S else .bad
  | .m2 k o a b c, ρ, S => (evK a ρ S).bd fun x S => if k.is S x = true then (evK b ρ S).bd fun y S => (evK c ρ S).bd fun z S => p3 o x y z S else .bad
  | .srt f rev a, ρ, S => (evK a ρ S).bd fun w S => if rev = true then .bad else srtW (fun d S => C f [d] S) w S
/-- arguments: each gets a place at once -/
noncomputable def evDs : List Ex → Env → Store → R (List D)
  | [], _, S => .ok [] S
  | e :: r, ρ, S => ((evK e ρ S).bd toD).bd fun d S => (evDs r ρ S).bd fun ds S => .ok (d :: ds) S
noncomputable def evWs : List Ex → Env → Store → R (List W)
  | [], _, S => .ok [] S
  | e :: r, ρ, S => (evK e ρ S).bd fun d S => (evWs r ρ S).bd fun ds S => .ok (d :: ds) S
noncomputable def evCs : List Ex → Env → Store → R Bool
  | [], _, S => .ok true S
  | e :: r, ρ, S => ((evK e ρ S).bd toB).bd fun b S => if b = true then evCs r ρ S else .ok false S
end
noncomputable def evD (e : Ex) (ρ : Env) (S : Store) : R D := (evK C e ρ S).bd toD
noncomputable def evB (e : Ex) (ρ : Env) (S : Store) : R Bool := (evK C e ρ S).bd toB
end

/-! ### statements -/
inductive Fl where
  | nx | brk | cnt | rt (d : D)
inductive RS where
  | ok (f : Fl) (ρ : Env) (S : Store) | ex (c : Nat) (fs : List (Str × D)) (ρ : Env) (S : Store) | bad

inductive Stm where
  | set (t : Tg) (e : Ex)
  | setIx (o i e : Ex)
  | exp (e : Ex)
  | ret (e : Ex)
  | iff (c : Ex) (a b : List Stm)
  | for_ (t : Tg) (k : IK) (is : List Ex) (b : List Stm)
  | whl (c : Ex) (b : List Stm)
  | brk | cnt | pass
  | aug (i : Nat) (o : P2) (e : Ex)

def R.st {α : Type} (r : R α) (ρ : Env) (f : α → Store → RS) : RS := match r with
  | .ok a S => f a S | .ex c fs S => .ex c fs ρ S | .bad => .bad
/-- behind a statement -/
def RS.sq (r : RS) (f : Env → Store → RS) : RS := match r with
  | .ok .nx ρ S => f ρ S | r => r

/-- x op= y -/
def augV (o : P2) (x : D) (y : W) : Option D := match o, x, y with
  | .add, .int a, .val (.int b) => some (.int (a + b))
  | .sub, .int a, .val (.int b) => some (.int (a - b))
  | _, _, _ => none
/-- o[i] = d -/
def setItem (o i : W) (d : D) (S : Store) : Option Store := match o with
  | .val (.ref n) => match S[n]? with
    | some (.lst ds) => match i with
      | .val (.int k) => (ixN ds.length k).map fun j => S.set n (.lst (ds.set j d))
      | _ => none
    | some o => match i with
      | .val k => (putO o k d).map fun o => S.set n o
      | _ => none
    | none => none
  | _ => none

open Classical in
noncomputable def forL (live : List (Nat × List D)) (turn : D → Env → Store → RS) : List D → Env → Store → RS
  | [], ρ, S => if isLive live S then .ok .nx ρ S else .bad
  | d :: r, ρ, S => if isLive live S then match turn d ρ S with
      | .ok .nx ρ S => forL live turn r ρ S
      | .ok .cnt ρ S => forL live turn r ρ S
      | .ok .brk ρ S => .ok .nx ρ S
      | .ok (.rt d) ρ S => .ok (.rt d) ρ S
      | .ex c fs ρ S => .ex c fs ρ S
      | .bad => .bad
    else .bad

def whileF (c : Env → Store → R Bool) (b : Env → Store → RS) : Nat → Env → Store → Option RS
  | 0, _, _ => none
  | n + 1, ρ, S => match c ρ S with
    | .ok true S => match b ρ S with
      | .ok .nx ρ S => whileF c b n ρ S
      | .ok .cnt ρ S => whileF c b n ρ S
      | .ok .brk ρ S => some (.ok .nx ρ S)
      | .ok (.rt d) ρ S => some (.ok (.rt d) ρ S)
      | .ex c fs ρ S => some (.ex c fs ρ S)
      | .bad => some .bad
    | .ok false S => some (.ok .nx ρ S)
    | .ex c fs S => some (.ex c fs ρ S)
    | .bad => some .bad
open Classical in
noncomputable def whileR (c : Env → Store → R Bool) (b : Env → Store → RS) (ρ : Env) (S : Store) : RS :=
  if h : ∃ r n, whileF c b n ρ S = some r then Classical.choose h else .bad

section
variable (C : Nat → List D → Store → R D)
mutual
noncomputable def exS : Stm → Env → Store → RS
  | .set t e, ρ, S => (evD C e ρ S).st ρ fun d S => match bindTg t d ρ with
    | some ρ => .ok .nx ρ S
    | none => .bad
  | .setIx o i e, ρ, S => (evD C e ρ S).st ρ fun d S => (evK C o ρ S).st ρ fun x S => (evK C i ρ S).st ρ fun y S => match setItem x y d S with
    | some S => .ok .nx ρ S
    | none => .bad
  | .exp e, ρ, S => (evK C e ρ S).st ρ fun _ S => .ok .nx ρ S
  | .ret e, ρ, S => (evD C e ρ S).st ρ fun d S => .ok (.rt d) ρ S
  | .iff c a b, ρ, S => (evB C c ρ S).st ρ fun k S => if k = true then exSs a ρ S else exSs b ρ S
  | .for_ t k is b, ρ, S => (evWs C is ρ S).st ρ fun ws S => match its k ws S with
    | some I => forL I.live (fun d ρ S => match bindTg t d ρ with
      | some ρ => exSs b ρ S
      | none => .bad) I.items ρ S
    | none => .bad
  | .whl c b, ρ, S => whileR (evB C c) (exSs b) ρ S
  | .brk, ρ, S => .ok .brk ρ S
  | .cnt, ρ, S => .ok .cnt ρ S
  | .pass, ρ, S => .ok .nx ρ S
  | .aug i o e, ρ, S => match ρ[i]? with
    | some (some x) => (evK C e ρ S).st ρ fun y S => match augV o x y with
      | some d => .ok .nx (ρ.set i (some d)) S
      | none => .bad
    | _ => .bad
noncomputable def exSs : List Stm → Env → Store → RS
  | [], ρ, S => .ok .nx ρ S
  | s :: r, ρ, S => (exS s ρ S).sq fun ρ S => exSs r ρ S
end
end

/-! ### defs -/
structure Fn where
  np : Nat
  nl : Nat
  body : List Stm
mutual
def D.und (k : Nat) : D → Bool
  | .ref n => decide (n < k)
  | .tup ds => D.unds k ds
  | .ls ds => D.unds k ds
  | .kt ds => D.unds k ds
  | _ => true
def D.unds (k : Nat) : List D → Bool
  | [] => true
  | d :: r => D.und k d && D.unds k r
end
def O.und (k : Nat) : O → Bool
  | .lst ds => D.unds k ds
  | .dk kvs => D.unds k (kvs.map (·.2))
  | .dt kvs => D.unds k (kvs.map (·.2))
  | .ins _ fs => D.unds k (fs.map (·.2))
/-- what stood is as it was, or knows nothing new -/
def keeps (S S' : Store) : Prop := ∀ i o, i < S.length → S'[i]? = some o → S[i]? = some o ∨ o.und S.length = true
open Classical in
/-- a call's end: what nobody knows goes -/
noncomputable def pack (S : Store) (d : D) (S' : Store) : R D :=
  if keeps S S' then
    if d.und S.length = true then .ok d (S'.take S.length)
    else match d with
      | .ref m => match S'[m]? with
        | some o => if o.und S.length = true then .ok (.ref S.length) (S'.take S.length ++ [o]) else .ok d S'
        | none => .ok d S'
      | _ => .ok d S'
  else .ok d S'

noncomputable def run (tab : Nat → Option Fn) : Nat → Nat → List D → Store → R D
  | 0, _, _, _ => .bad
  | n + 1, f, ds, S => match tab f with
    | none => .bad
    | some F => if ds.length = F.np then
        match exSs (run tab n) F.body (ds.map some ++ List.replicate (F.nl - F.np) none) S with
        | .ok (.rt d) _ S' => pack S d S'
        | .ok .nx _ S' => pack S .non S'
        | .ok _ _ _ => .bad
        | .ex c fs _ S' => .ex c fs S'
        | .bad => .bad
      else .bad
end Mi

set_option autoImplicit false
/-! Mi, part B: how values and stores lie in the layer's heap. -/
namespace Mi
open PySem L2

/-- what is fixed through a law: the written part, the own classes' addresses, the own exceptions' classes -/
structure Gb where
  K : PySem.W.Frag
  cls : Nat → Option Addr
  exc : Nat → Option Value

def KT (K : PySem.W.Frag) (a : Addr) (xs : List V) : Prop := ∃ (o : Obj) (its : Array Value) (n : Nat), K.lookup a = some o ∧ o.cls = .type "tuple" ∧ o.data = .seq its n ∧ its.size ≤ sizeLine ∧ Vals xs its.toList
def KL (K : PySem.W.Frag) (a : Addr) (xs : List V) : Prop := ∃ (o : Obj) (its : Array Value) (n : Nat), K.lookup a = some o ∧ o.cls = .type "list" ∧ o.dict = none ∧ o.data = .seq its n ∧ its.size ≤ sizeLine ∧ Vals xs its.toList
def TupA (K : PySem.W.Frag) (H : Hp) (a : Addr) (xs : List V) : Prop := H a = some (.tup xs)
def LisA (K : PySem.W.Frag) (H : Hp) (a : Addr) (xs : List V) : Prop := (∃ o, H a = some (.frz o (.lst xs))) ∨ KL K a xs
theorem TupA.sq {K : PySem.W.Frag} {H : Hp} {a : Addr} {xs : List V} (h : TupA K H a xs) : SqT K H a xs := .inl (.inl h)
theorem KT.sq {K : PySem.W.Frag} {H : Hp} {a : Addr} {xs : List V} (h : KT K a xs) : SqT K H a xs := .inr h
theorem LisA.sq {K : PySem.W.Frag} {H : Hp} {a : Addr} {xs : List V} (h : LisA K H a xs) : SqL K H a xs := by
  rcases h with ⟨o, h⟩ | h
  · exact .inl (.inr ⟨o, h⟩)
  · exact .inr h

section
variable (G : Gb) (φ : List Addr) (H : Hp)
mutual
def Rp : D → V → Prop
  | .non, v => v = .non
  | .bl b, v => v = .bl b
  | .int i, v => v = .int i
  | .str x, v => v = .str x
  | .tup ds, v => ∃ a vs, v = .ref a ∧ TupA G.K H a vs ∧ Rps ds vs
  | .ls ds, v => ∃ a vs, v = .ref a ∧ LisA G.K H a vs ∧ Rps ds vs
  | .kt ds, v => ∃ a vs, v = .ref a ∧ KT G.K a vs ∧ Rps ds vs
  | .ref n, v => ∃ a, v = .ref a ∧ φ[n]? = some a
def Rps : List D → List V → Prop
  | [], vs => vs = []
  | d :: ds, vs => ∃ v r, vs = v :: r ∧ Rp d v ∧ Rps ds r
end
def RpW : W → V → Prop
  | .val d, v => Rp G φ H d v
  | .lis ds, v => ∃ a vs, v = .ref a ∧ H a = some (.lst vs) ∧ a ∉ φ ∧ Rps G φ H ds vs
def RpWs : List W → List V → Prop
  | [], vs => vs = []
  | w :: ws, vs => ∃ v r, vs = v :: r ∧ RpW G φ H w v ∧ RpWs ws r
def RpKV {κ : Type} : List (κ × D) → List (κ × V) → Prop
  | [], vs => vs = []
  | p :: ds, vs => ∃ v r, vs = (p.1, v) :: r ∧ Rp G φ H p.2 v ∧ RpKV ds r
def RpO : O → Addr → Prop
  | .lst ds, a => ∃ vs, H a = some (.lst vs) ∧ Rps G φ H ds vs
  | .dk kvs, a => ∃ vs, H a = some (.dK vs) ∧ RpKV G φ H kvs vs
  | .dt kvs, a => ∃ vs, H a = some (.dT vs) ∧ RpKV G φ H kvs vs
  | .ins c fs, a => ∃ C dx vs, G.cls c = some C ∧ H a = some (.ins C dx vs) ∧ RpKV G φ H fs vs
structure Rel (S : Store) : Prop where
  len : φ.length = S.length
  nd : φ.Nodup
  obj : ∀ (n : Nat) (a : Addr) (o : O), φ[n]? = some a → S[n]? = some o → RpO G φ H o a
def Sl (ρ : Env) (σ : St) : Prop := ρ.length = σ.length ∧ ∀ (i : Nat) (d : D), ρ[i]? = some (some d) → ∃ v, σ[i]? = some (some v) ∧ Rp G φ H d v
/-- an exception: its class, its own dict -/
def RpX (c : Nat) (fs : List (Str × D)) (cls : Value) (dx : Option Addr) : Prop :=
  G.exc c = some cls ∧ ((fs = [] ∧ dx = none) ∨ ∃ d vs, dx = some d ∧ H d = some (.xd vs) ∧ d ∉ φ ∧ RpKV G φ H fs vs)
end
structure Ext (φ : List Addr) (H : Hp) (φ' : List Addr) (H' : Hp) : Prop where
  pre : φ <+: φ'
  keep : ∀ a o, H a = some o → a ∉ φ → H' a = some o
  new : ∀ a, a ∈ φ' → a ∈ φ ∨ H a = none
theorem Ext.refl (φ : List Addr) (H : Hp) : Ext φ H φ H := ⟨List.prefix_refl _, fun _ _ h _ => h, fun _ h => .inl h⟩
theorem Ext.out {φ φ' : List Addr} {H H' : Hp} (e : Ext φ H φ' H') {a : Addr} {o : HO} (h : H a = some o) (n : a ∉ φ) : a ∉ φ' := fun m => by
  rcases e.new a m with q | q
  · exact n q
  · rw [h] at q; cases q
theorem Ext.trans {φ φ1 φ2 : List Addr} {H H1 H2 : Hp} (e : Ext φ H φ1 H1) (f : Ext φ1 H1 φ2 H2) : Ext φ H φ2 H2 := by
  refine ⟨e.pre.trans f.pre, fun a o h n => f.keep a o (e.keep a o h n) (e.out h n), fun a m => ?_⟩
  rcases f.new a m with q | q
  · exact e.new a q
  · by_cases hm : a ∈ φ
    · exact .inl hm
    · cases h : H a with
      | none => exact .inr rfl
      | some o => rw [e.keep a o h hm] at q; cases q
theorem Ext.get {φ φ' : List Addr} {H H' : Hp} (e : Ext φ H φ' H') {n : Nat} {a : Addr} (h : φ[n]? = some a) : φ'[n]? = some a := by
  obtain ⟨t, rfl⟩ := e.pre
  rw [List.getElem?_append_left (List.getElem?_eq_some_iff.mp h).1]
  exact h

section
variable {G : Gb} {φ φ' : List Addr} {H H' : Hp} {S : Store}
/-- what a place of the store is: a list, a dict, an instance -/
def isO : HO → Bool
  | .lst _ => true | .dK _ => true | .dT _ => true | .ins _ _ _ => true
  | _ => false
theorem Rel.at (R : Rel G φ H S) {a : Addr} (h : a ∈ φ) : ∃ o, H a = some o ∧ isO o = true := by
  obtain ⟨n, hn, e⟩ := List.getElem_of_mem h
  have hs : n < S.length := by rw [← R.len]; exact hn
  have q := R.obj n a S[n] (by rw [List.getElem?_eq_getElem hn, e]) (List.getElem?_eq_getElem hs)
  cases hO : S[n] with
  | lst ds => rw [hO] at q; obtain ⟨vs, q, _⟩ := q; exact ⟨_, q, rfl⟩
  | dk ds => rw [hO] at q; obtain ⟨vs, q, _⟩ := q; exact ⟨_, q, rfl⟩
  | dt ds => rw [hO] at q; obtain ⟨vs, q, _⟩ := q; exact ⟨_, q, rfl⟩
  | ins c ds => rw [hO] at q; obtain ⟨C, dx, vs, _, q, _⟩ := q; exact ⟨_, q, rfl⟩
theorem Rel.out (R : Rel G φ H S) {a : Addr} {o : HO} (h : H a = some o) (n : isO o = false) : a ∉ φ := fun m => by
  obtain ⟨u, h', i⟩ := R.at m
  rw [h] at h'; cases h'
  rw [n] at i; cases i
theorem Rel.unk (R : Rel G φ H S) {a : Addr} (h : H a = none) : a ∉ φ := fun m => by
  obtain ⟨u, h', _⟩ := R.at m
  rw [h] at h'; cases h'
/-- tuples and constant lists stay, places stay -/
structure Keep (φ : List Addr) (H : Hp) (φ' : List Addr) (H' : Hp) : Prop where
  get : ∀ (n : Nat) (a : Addr), φ[n]? = some a → φ'[n]? = some a
  tup : ∀ a xs, H a = some (.tup xs) → H' a = some (.tup xs)
  frz : ∀ a o u, H a = some (.frz o u) → H' a = some (.frz o u)
theorem Ext.toKeep (e : Ext φ H φ' H') (R : Rel G φ H S) : Keep φ H φ' H' :=
  ⟨fun _ _ h => e.get h, fun a xs h => e.keep a _ h (R.out h rfl), fun a o u h => e.keep a _ h (R.out h rfl)⟩
theorem Keep.refl : Keep φ H φ H := ⟨fun _ _ h => h, fun _ _ h => h, fun _ _ _ h => h⟩
theorem TupA.mono (k : Keep φ H φ' H') {a : Addr} {xs : List V} (h : TupA G.K H a xs) : TupA G.K H' a xs := k.tup _ _ h
theorem LisA.mono (k : Keep φ H φ' H') {a : Addr} {xs : List V} (h : LisA G.K H a xs) : LisA G.K H' a xs := by
  rcases h with ⟨o, h⟩ | h
  · exact .inl ⟨o, k.frz _ _ _ h⟩
  · exact .inr h
mutual
theorem Rp.mono (k : Keep φ H φ' H') : ∀ (d : D) (v : V), Rp G φ H d v → Rp G φ' H' d v
  | .non, _, h => by unfold Rp at h ⊢; exact h
  | .bl _, _, h => by unfold Rp at h ⊢; exact h
  | .int _, _, h => by unfold Rp at h ⊢; exact h
  | .str _, _, h => by unfold Rp at h ⊢; exact h
  | .tup ds, v, h => by
    unfold Rp at h ⊢
    obtain ⟨a, vs, e, t, r⟩ := h
    exact ⟨a, vs, e, t.mono k, Rps.mono k ds vs r⟩
  | .ls ds, v, h => by
    unfold Rp at h ⊢
    obtain ⟨a, vs, e, t, r⟩ := h
    exact ⟨a, vs, e, t.mono k, Rps.mono k ds vs r⟩
  | .kt ds, v, h => by
    unfold Rp at h ⊢
    obtain ⟨a, vs, e, t, r⟩ := h
    exact ⟨a, vs, e, t, Rps.mono k ds vs r⟩
  | .ref n, v, h => by
    unfold Rp at h ⊢
    obtain ⟨a, e, r⟩ := h
    exact ⟨a, e, k.get _ _ r⟩
theorem Rps.mono (k : Keep φ H φ' H') : ∀ (ds : List D) (vs : List V), Rps G φ H ds vs → Rps G φ' H' ds vs
  | [], _, h => by unfold Rps at h ⊢; exact h
  | d :: ds, _, h => by
    unfold Rps at h ⊢
    obtain ⟨v, r, e, h1, h2⟩ := h
    exact ⟨v, r, e, Rp.mono k d v h1, Rps.mono k ds r h2⟩
end
theorem RpKV.mono {κ : Type} (k : Keep φ H φ' H') : ∀ (ds : List (κ × D)) (vs : List (κ × V)), RpKV G φ H ds vs → RpKV G φ' H' ds vs
  | [], _, h => h
  | d :: ds, _, h => by
    obtain ⟨v, r, e, h1, h2⟩ := h
    exact ⟨v, r, e, Rp.mono k _ v h1, RpKV.mono k ds r h2⟩
theorem RpW.mono (e : Ext φ H φ' H') (R : Rel G φ H S) : ∀ {w : W} {v : V}, RpW G φ H w v → RpW G φ' H' w v
  | .val d, _, h => Rp.mono (e.toKeep R) _ _ h
  | .lis ds, _, h => by
    obtain ⟨a, vs, q, h1, h2, h3⟩ := h
    exact ⟨a, vs, q, e.keep _ _ h1 h2, e.out h1 h2, Rps.mono (e.toKeep R) _ _ h3⟩
theorem RpWs.mono (e : Ext φ H φ' H') (R : Rel G φ H S) : ∀ {w : List W} {v : List V}, RpWs G φ H w v → RpWs G φ' H' w v
  | [], _, h => h
  | w :: ws, _, h => by
    obtain ⟨v, r, q, h1, h2⟩ := h
    exact ⟨v, r, q, RpW.mono e R h1, RpWs.mono e R h2⟩
theorem Sl.mono {ρ : Env} {σ : St} (k : Keep φ H φ' H') (h : Sl G φ H ρ σ) : Sl G φ' H' ρ σ :=
  ⟨h.1, fun i d e => let ⟨v, h1, h2⟩ := h.2 i d e; ⟨v, h1, Rp.mono k _ _ h2⟩⟩
theorem Sl.set {ρ : Env} {σ : St} {d : D} {v : V} (h : Sl G φ H ρ σ) (i : Nat) (r : Rp G φ H d v) : Sl G φ H (ρ.set i (some d)) (σ.set i (some v)) := by
  refine ⟨by simpa using h.1, fun j e he => ?_⟩
  by_cases hj : i = j
  · subst hj
    by_cases hl : i < ρ.length
    · rw [List.getElem?_set_self hl] at he
      cases he
      exact ⟨v, List.getElem?_set_self (by rw [← h.1]; exact hl), r⟩
    · rw [List.getElem?_eq_none (by simpa using hl)] at he
      cases he
  · rw [List.getElem?_set_ne hj] at he ⊢
    exact h.2 j e he
theorem Sl.unset {ρ : Env} {σ : St} (h : Sl G φ H ρ σ) (i : Nat) : Sl G φ H (ρ.set i none) (σ.set i none) := by
  refine ⟨by simpa using h.1, fun j e he => ?_⟩
  by_cases hj : i = j
  · subst hj
    by_cases hl : i < ρ.length
    · rw [List.getElem?_set_self hl] at he
      cases he
    · rw [List.getElem?_eq_none (by simpa using hl)] at he
      cases he
  · rw [List.getElem?_set_ne hj] at he ⊢
    exact h.2 j e he

/-! ### the store changes -/
theorem RpO.mono (k : Keep φ H φ' H') {o : O} {a : Addr} (h : RpO G φ H o a) (ha : H' a = H a) : RpO G φ' H' o a := by
  cases o with
  | lst ds => obtain ⟨vs, h1, h2⟩ := h; exact ⟨vs, ha.trans h1, Rps.mono k _ _ h2⟩
  | dk ds => obtain ⟨vs, h1, h2⟩ := h; exact ⟨vs, ha.trans h1, RpKV.mono k _ _ h2⟩
  | dt ds => obtain ⟨vs, h1, h2⟩ := h; exact ⟨vs, ha.trans h1, RpKV.mono k _ _ h2⟩
  | ins c ds => obtain ⟨C, dx, vs, h0, h1, h2⟩ := h; exact ⟨C, dx, vs, h0, ha.trans h1, RpKV.mono k _ _ h2⟩
/-- a new object that no place knows -/
theorem Ext.fresh (R : Rel G φ H S) {p : Addr} (hp : H p = none) (o : HO) : Ext φ H φ (upd H p o) :=
  ⟨List.prefix_refl _, fun a u h _ => by rw [upd_ne (ne_of_none h hp)]; exact h, fun _ h => .inl h⟩
theorem Rel.fresh (R : Rel G φ H S) {p : Addr} (hp : H p = none) (o : HO) : Rel G φ (upd H p o) S := by
  refine ⟨R.len, R.nd, fun n a u h1 h2 => ?_⟩
  refine RpO.mono ((Ext.fresh R hp o).toKeep R) (R.obj n a u h1 h2) ?_
  obtain ⟨x, hx, _⟩ := R.at (List.mem_of_getElem? h1)
  exact upd_ne (ne_of_none hx hp)
/-- a place more -/
theorem Rel.more (R : Rel G φ H S) {p : Addr} {o : O} (n : p ∉ φ) (h : RpO G φ H o p) : Rel G (φ ++ [p]) H (S ++ [o]) := by
  have k : Keep φ H (φ ++ [p]) H := ⟨fun n a h => by rw [List.getElem?_append_left (List.getElem?_eq_some_iff.mp h).1]; exact h, fun _ _ h => h, fun _ _ _ h => h⟩
  refine ⟨by simp [R.len], ?_, fun m a u h1 h2 => ?_⟩
  · rw [List.nodup_append]
    refine ⟨R.nd, by simp, fun a ha b hb => ?_⟩
    simp at hb
    subst hb
    exact fun z => n (z ▸ ha)
  · by_cases hm : m < φ.length
    · rw [List.getElem?_append_left hm] at h1
      rw [List.getElem?_append_left (by rw [← R.len]; exact hm)] at h2
      exact RpO.mono k (R.obj m a u h1 h2) rfl
    · rw [List.getElem?_append_right (by omega)] at h1
      rw [List.getElem?_append_right (by rw [← R.len]; omega)] at h2
      rw [R.len] at h1
      cases e : m - S.length with
      | zero =>
        rw [e] at h1 h2
        simp at h1 h2
        subst h1; subst h2
        exact RpO.mono k h rfl
      | succ j =>
        rw [e] at h1
        simp at h1
/-- the object at a place is changed -/
theorem keep_write (R : Rel G φ H S) {n : Nat} {p : Addr} {u : HO} (hp : φ[n]? = some p) : Keep φ H φ (upd H p u) := by
  have hm : p ∈ φ := List.mem_of_getElem? hp
  refine ⟨fun _ _ h => h, fun a xs h => ?_, fun a o x h => ?_⟩
  · rw [upd_ne]
    · exact h
    · rintro rfl; exact R.out h rfl hm
  · rw [upd_ne]
    · exact h
    · rintro rfl; exact R.out h rfl hm
theorem Ext.write (R : Rel G φ H S) {n : Nat} {p : Addr} {u : HO} (hp : φ[n]? = some p) : Ext φ H φ (upd H p u) :=
  ⟨List.prefix_refl _, fun a o h hn => by
    rw [upd_ne]
    · exact h
    · rintro rfl; exact hn (List.mem_of_getElem? hp), fun _ h => .inl h⟩
theorem Rel.write (R : Rel G φ H S) {n : Nat} {p : Addr} {u : HO} {o : O} (hp : φ[n]? = some p) (h : RpO G φ (upd H p u) o p) : Rel G φ (upd H p u) (S.set n o) := by
  refine ⟨by rw [List.length_set]; exact R.len, R.nd, fun m a x h1 h2 => ?_⟩
  by_cases hm : n = m
  · subst hm
    rw [hp] at h1; cases h1
    by_cases hl : n < S.length
    · rw [List.getElem?_set_self hl] at h2
      cases h2
      exact h
    · rw [List.getElem?_eq_none (by simpa using hl)] at h2
      cases h2
  · rw [List.getElem?_set_ne hm] at h2
    have ne : a ≠ p := by
      rintro rfl
      have h1' := (List.getElem?_eq_some_iff.mp h1)
      have hp' := (List.getElem?_eq_some_iff.mp hp)
      obtain ⟨l1, e1⟩ := h1'
      obtain ⟨l2, e2⟩ := hp'
      exact hm ((List.getElem_inj R.nd).mp (e2.trans e1.symm))
    exact RpO.mono (keep_write R hp) (R.obj m a x h1 h2) (upd_ne ne)
end
end Mi

/-! Mi, part C: the bridge: what an end must be, and the rules for expressions. -/
namespace Mi
open PySem L2 PyProof.Rows

section
variable (G : Gb)
abbrev Rl (α β : Type) := Hp → List Addr → Hp → α → β → Prop
def RlW : Rl W V := fun H0 φ H w v => RpW G φ H w v ∧ ∀ (ds : List D) (a : Addr), w = W.lis ds → v = V.ref a → H0 a = none
def RlD : Rl D V := fun _ φ H d v => Rp G φ H d v
def RlDs : Rl (List D) (List V) := fun _ φ H d v => Rps G φ H d v
def RlB : Rl Bool Bool := fun _ _ _ a b => a = b
def RlWs : Rl (List W) (List V) := fun H0 φ H ws vs => RpWs G φ H ws vs ∧ ∀ (i : Nat) (ds : List D) (a : Addr), ws[i]? = some (W.lis ds) → vs[i]? = some (V.ref a) → H0 a = none
/-- what holds at every end that the small language tells -/
def Post {α β : Type} (L : Rl α β) (φ : List Addr) (H : Hp) (r : R α) (Wx : XK) (Q : β → Hp → Prop) : Prop := match r with
  | .ok a S' => ∀ b H' φ', Ext φ H φ' H' → Rel G φ' H' S' → L H φ' H' a b → Q b H'
  | .ex c fs S' => ∀ cls dx H' φ', Ext φ H φ' H' → Rel G φ' H' S' → RpX G φ' H' c fs cls dx → Wx cls dx H'
  | .bad => False
/-- the start may be later -/
def Mn {α β : Type} (L : Rl α β) : Prop := ∀ H0 H1 φ H a b, (∀ x, H1 x = none → H0 x = none) → L H1 φ H a b → L H0 φ H a b
end

section
variable {G : Gb} {φ φ1 : List Addr} {H H1 : Hp} {S S1 : Store} {Wx : XK}
theorem mnW : Mn (RlW G) := fun _ _ _ _ _ _ h r => ⟨r.1, fun ds a e1 e2 => h _ (r.2 ds a e1 e2)⟩
theorem mnD : Mn (RlD G) := fun _ _ _ _ _ _ _ r => r
theorem mnDs : Mn (RlDs G) := fun _ _ _ _ _ _ _ r => r
theorem mnB : Mn RlB := fun _ _ _ _ _ _ _ r => r
theorem mnWs : Mn (RlWs G) := fun _ _ _ _ _ _ h r => ⟨r.1, fun i ds a e1 e2 => h _ (r.2 i ds a e1 e2)⟩
variable {α β γ δ : Type} {L : Rl α β} {Lb : Rl γ δ}
theorem Post.mono {r : R α} {Q Q' : β → Hp → Prop} (h : Post G L φ H r Wx Q) (hQ : ∀ b H, Q b H → Q' b H) : Post G L φ H r Wx Q' := by
  cases r with
  | ok a S => exact fun b H' φ' e R l => hQ _ _ (h b H' φ' e R l)
  | ex c fs S => exact h
  | bad => exact h
theorem Post.bd {r : R α} {f : α → Store → R γ} {Q : δ → Hp → Prop} (h : Post G Lb φ H (r.bd f) Wx Q) :
    Post G L φ H r Wx (fun b H1 => ∃ φ1 a S1, r = .ok a S1 ∧ Ext φ H φ1 H1 ∧ Rel G φ1 H1 S1 ∧ L H φ1 H1 a b ∧ Post G Lb φ H (f a S1) Wx Q) := by
  cases r with
  | ok a S => exact fun b H' φ' e R l => ⟨φ', a, S, rfl, e, R, l, h⟩
  | ex c fs S => exact h
  | bad => exact h
theorem Ext.fr (e : Ext φ H φ1 H1) (R : Rel G φ1 H1 S1) : ∀ x, H1 x = none → H x = none := fun x h => by
  cases q : H x with
  | none => rfl
  | some o =>
    by_cases m : x ∈ φ
    · obtain ⟨u, hu, _⟩ := R.at (e.pre.subset m)
      rw [h] at hu; cases hu
    · rw [e.keep x o q m] at h; cases h
theorem Post.sh {r : R α} {Q : β → Hp → Prop} (h : Post G L φ H r Wx Q) (e : Ext φ H φ1 H1) (R : Rel G φ1 H1 S1) (m : Mn L) : Post G L φ1 H1 r Wx Q := by
  cases r with
  | ok a S => exact fun b H' φ' e' R' l => h b H' φ' (e.trans e') R' (m _ _ _ _ _ _ (e.fr R) l)
  | ex c fs S => exact fun cls dx H' φ' e' R' x => h cls dx H' φ' (e.trans e') R' x
  | bad => exact h
theorem Post.ok {a : α} {Q : β → Hp → Prop} {b : β} {H' : Hp} {φ' : List Addr} {S' : Store} (h : Post G L φ H (.ok a S') Wx Q) (e : Ext φ H φ' H') (R : Rel G φ' H' S') (l : L H φ' H' a b) : Q b H' := h b H' φ' e R l
end

abbrev AX (α : Type) := Env → Store → R α
section
variable (G : Gb) (Wx : WX)
/-- the state is told by the small language's -/
def tI {α β : Type} (L : Rl α β) (A : AX α) : L2.St → Hp → (β → Hp → Prop) → Prop := fun σ H Q => ∃ φ ρ S, Rel G φ H S ∧ Sl G φ H ρ σ ∧ Post G L φ H (A ρ S) (fun c d H' => Wx c d σ H') Q
abbrev tK (A : AX W) : TE := tI G Wx (RlW G) A
abbrev tD (A : AX D) : TE := tI G Wx (RlD G) A
abbrev tBo (A : AX Bool) : TT := tI G Wx RlB A
abbrev tDs (A : AX (List D)) : TA := tI G Wx (RlDs G) A
abbrev tWs (A : AX (List W)) : TA := tI G Wx (RlWs G) A
end

section
variable {X : Cx} {e : Expr} {t t' : TE}
theorem _root_.L2.PE.im (h : PE X e t) (hi : ∀ σ H Q, t' σ H Q → t σ H Q) : PE X e t' := ⟨fun pins s σ H Q I q => h.run pins s σ H Q I (hi _ _ _ q)⟩
theorem _root_.L2.PT.im {t t' : TT} (h : PT X e t) (hi : ∀ σ H Q, t' σ H Q → t σ H Q) : PT X e t' := ⟨fun pins s σ H Q I q => h.run pins s σ H Q I (hi _ _ _ q)⟩
theorem _root_.L2.PW.im {t t' : TT} (h : L2.PW X e t) (hi : ∀ σ H Q, t' σ H Q → t σ H Q) : L2.PW X e t' := ⟨fun wh pins s σ H Q I q => h.run wh pins s σ H Q I (hi _ _ _ q)⟩
theorem _root_.L2.PA.im {es : List Expr} {t t' : TA} (h : PA X es t) (hi : ∀ σ H Q, t' σ H Q → t σ H Q) : PA X es t' := ⟨fun pos pins s σ H Q I q => h.run pos pins s σ H Q I (hi _ _ _ q)⟩
end

section
variable {G : Gb} {Wx : WX} {X : Cx} {a b c e : Expr} {A B C : AX W} {pos : Pos} {α β γ δ : Type}
/-- one after the other: at the point behind the first -/
theorem tI.bd {L : Rl α β} {Lb : Rl γ δ} {A : AX α} {F : α → AX γ} {σ : L2.St} {H : Hp} {Q : δ → Hp → Prop} {Q' : β → Hp → Prop}
    (h : tI G Wx Lb (fun ρ S => (A ρ S).bd fun x S => F x ρ S) σ H Q)
    (k : ∀ φ ρ S b φ1 H1 x S1, Rel G φ H S → Sl G φ H ρ σ → Ext φ H φ1 H1 → Rel G φ1 H1 S1 → L H φ1 H1 x b → Post G Lb φ H (F x ρ S1) (fun c d H' => Wx c d σ H') Q → Q' b H1) : tI G Wx L A σ H Q' := by
  obtain ⟨φ, ρ, S, R, sl, h⟩ := h
  exact ⟨φ, ρ, S, R, sl, (Post.bd h).mono fun b H1 ⟨φ1, x, S1, _, e, R1, l, h1⟩ => k φ ρ S b φ1 H1 x S1 R sl e R1 l h1⟩
theorem tI.go {L : Rl α β} {A : AX α} {σ : L2.St} {H H1 : Hp} {Q : β → Hp → Prop} {φ φ1 : List Addr} {ρ : Env} {S S1 : Store} (R : Rel G φ H S) (sl : Sl G φ H ρ σ) (e : Ext φ H φ1 H1) (R1 : Rel G φ1 H1 S1) (m : Mn L)
    (h : Post G L φ H (A ρ S1) (fun c d H' => Wx c d σ H') Q) : tI G Wx L A σ H1 Q := ⟨φ1, ρ, S1, R1, sl.mono (e.toKeep R), h.sh e R1 m⟩

/-! ### values get a place; tests -/
theorem toD_post {w : W} {v : V} {φ φ1 : List Addr} {H H1 : Hp} {S1 : Store} {xk : XK} {Q : V → Hp → Prop} (e : Ext φ H φ1 H1) (R1 : Rel G φ1 H1 S1) (l : RlW G H φ1 H1 w v) (h : Post G (RlD G) φ H (toD w S1) xk Q) : Q v H1 := by
  cases w with
  | val d => exact h.ok e R1 l.1
  | lis ds =>
    obtain ⟨⟨p, vs, rfl, hp, n, r⟩, f⟩ := l
    have f := f ds p rfl rfl
    have R2 : Rel G (φ1 ++ [p]) H1 (S1 ++ [.lst ds]) := R1.more n ⟨vs, hp, r⟩
    refine h.ok (φ' := φ1 ++ [p]) ⟨e.pre.trans (List.prefix_append _ _), e.keep, fun x hx => ?_⟩ R2 ?_
    · rcases List.mem_append.mp hx with q | q
      · exact e.new x q
      · simp at q; subst q; exact .inr f
    · show Rp G _ _ (.ref S1.length) _
      unfold Rp
      exact ⟨p, rfl, by rw [← R1.len]; simp⟩
theorem k_D (h : PE X e (tK G Wx A)) : PE X e (tD G Wx fun ρ S => (A ρ S).bd toD) := h.im fun σ H Q q => tI.bd (F := fun w _ S => toD w S) q fun φ ρ S b φ1 H1 x S1 R sl e R1 l h => toD_post e R1 l h
theorem toB_post {w : W} {v : V} {φ φ1 : List Addr} {H H1 : Hp} {S1 : Store} {xk : XK} {Q : Bool → Hp → Prop} (e : Ext φ H φ1 H1) (R1 : Rel G φ1 H1 S1) (l : RlW G H φ1 H1 w v) (h : Post G RlB φ H (toB w S1) xk Q) : ∃ k, v = .bl k ∧ Q k H1 := by
  cases w with
  | lis ds => exact h.elim
  | val d =>
    cases d with
    | bl k => exact ⟨k, by have q := l.1; unfold RpW Rp at q; exact q, h.ok e R1 rfl⟩
    | _ => exact h.elim
theorem k_B (h : PE X e (tK G Wx A)) (he : ∀ whole, isTrue e X.env whole = (do let v ← whole; standAt e.pos; holding [v] (truthy v)) := by intro _; rfl) : PT X e (tBo G Wx fun ρ S => (A ρ S).bd toB) :=
  (pt_val h he).im fun σ H Q q => tI.bd (F := fun w _ S => toB w S) q fun φ ρ S b φ1 H1 x S1 R sl e R1 l h => toB_post e R1 l h
theorem k_Bcmp {r : R2} {op : CmpOp} {ta tb : TE} (ho : OpR X (compareOp op) r) (ha : PE X a ta) (hb : PE X b tb) (hm : behindInMarks op b = false) (hi : ∀ σ H Q, tK G Wx A σ H Q → tOp r ta tb σ H Q) : PT X (.Compare a [op] [b] pos) (tBo G Wx fun ρ S => (A ρ S).bd toB) :=
  (pt_cmpR ho ha hb hm).im fun σ H Q q => hi _ _ _ (tI.bd (F := fun w _ S => toB w S) q fun φ ρ S b φ1 H1 x S1 R sl e R1 l h => toB_post e R1 l h)

/-! ### constants, names -/
theorem rl_val {φ1 : List Addr} {H H1 : Hp} {d : D} {v : V} (h : Rp G φ1 H1 d v) : RlW G H φ1 H1 (.val d) v := ⟨h, fun _ _ e => nomatch e⟩
theorem k_const {d : D} {v : V} (h : PE X e (tC v)) (hd : ∀ φ H, Rp G φ H d v) : PE X e (tK G Wx fun _ S => vv d S) := h.im fun σ H Q ⟨φ, ρ, S, R, sl, q⟩ => q.ok (Ext.refl _ _) R (rl_val (hd _ _))
theorem k_var {i : Nat} {x : Str} (hN : X.N[i]? = some x) (hv : Vis X.env.scope x) (hd : (x == ("__debug__" : Str)) = false) (hcd : (x == ("__classdict__" : Str)) = false) :
    PE X (.Name x pos) (tK G Wx fun ρ S => match ρ[i]? with | some (some d) => vv d S | _ => .bad) := (pe_var hN hv hd hcd).im fun σ H Q ⟨φ, ρ, S, R, sl, q⟩ => by
  dsimp only at q
  cases h : ρ[i]? with
  | none => rw [h] at q; exact q.elim
  | some o =>
    cases o with
    | none => rw [h] at q; exact q.elim
    | some d =>
      rw [h] at q
      obtain ⟨v, h1, h2⟩ := sl.2 i d h
      exact ⟨v, h1, q.ok (Ext.refl _ _) R (rl_val h2)⟩

/-- the next part, from the place behind the one ahead -/
theorem tI.next {L : Rl α β} {Lb : Rl γ δ} {A : AX α} {F : α → Store → R γ} {σ : L2.St} {H H1 : Hp} {Q : δ → Hp → Prop} {Q' : β → Hp → Prop} {φ φ1 : List Addr} {ρ : Env} {S S1 : Store} (R : Rel G φ H S) (sl : Sl G φ H ρ σ) (e : Ext φ H φ1 H1) (R1 : Rel G φ1 H1 S1)
    (h : Post G Lb φ H ((A ρ S1).bd F) (fun c d H' => Wx c d σ H') Q)
    (k : ∀ b H2 φ2 x S2, Ext φ1 H1 φ2 H2 → Rel G φ2 H2 S2 → L H1 φ2 H2 x b → Post G Lb φ H (F x S2) (fun c d H' => Wx c d σ H') Q → Q' b H2) : tI G Wx L A σ H1 Q' := by
  refine ⟨φ1, ρ, S1, R1, sl.mono (e.toKeep R), ?_⟩
  cases q : A ρ S1 with
  | ok x S2 => exact fun b H2 φ2 e2 R2 l => k b H2 φ2 x S2 e2 R2 l (by rw [q] at h; exact h)
  | ex c fs S2 =>
    rw [q] at h
    exact fun cls dx H2 φ2 e2 R2 x => h cls dx H2 φ2 (e.trans e2) R2 x
  | bad =>
    rw [q] at h
    exact h
/-! ### operations by values -/
/-- what an operation of values is asked, at the place now -/
def rP2 (G : Gb) (o : W → W → Store → R W) : R2 := fun x y H Q => ∃ φ w1 w2 S xk, Rel G φ H S ∧ RpW G φ H w1 x ∧ RpW G φ H w2 y ∧ Post G (RlW G) φ H (o w1 w2 S) xk Q
def rP1 (G : Gb) (o : W → Store → R W) : V → Hp → VK → Prop := fun x H Q => ∃ φ w1 S xk, Rel G φ H S ∧ RpW G φ H w1 x ∧ Post G (RlW G) φ H (o w1 S) xk Q
theorem p2_im {o : W → W → Store → R W} {σ : L2.St} {H : Hp} {Q : VK} (q : tK G Wx (fun ρ S => (A ρ S).bd fun x S => (B ρ S).bd fun y S => o x y S) σ H Q) : tOp (rP2 G o) (tK G Wx A) (tK G Wx B) σ H Q := by
  refine tI.bd (F := fun x ρ S => (B ρ S).bd fun y S => o x y S) q fun φ ρ S v φ1 H1 x S1 R sl e R1 l h => ?_
  refine tI.next R sl e R1 h fun u H2 φ2 y S2 e2 R2 l2 h2 => ?_
  exact ⟨φ2, x, y, S2, _, R2, RpW.mono e2 R1 l.1, l2.1, h2.sh (e.trans e2) R2 mnW⟩
theorem p1_im {o : W → Store → R W} {σ : L2.St} {H : Hp} {Q : VK} (q : tK G Wx (fun ρ S => (A ρ S).bd fun x S => o x S) σ H Q) : tUn (rP1 G o) (tK G Wx A) σ H Q :=
  tI.bd (F := fun x _ S => o x S) q fun φ ρ S v φ1 H1 x S1 R sl e R1 l h => ⟨φ1, x, S1, _, R1, l.1, h.sh e R1 mnW⟩
theorem k_bin {o : W → W → Store → R W} {op : Operator} (ho : OpR X (binaryOp op) (rP2 G o)) (ha : PE X a (tK G Wx A)) (hb : PE X b (tK G Wx B)) : PE X (.BinOp a op b pos) (tK G Wx fun ρ S => (A ρ S).bd fun x S => (B ρ S).bd fun y S => o x y S) := (pe_op ho ha hb).im fun _ _ _ q => p2_im q
theorem k_cmp {o : W → W → Store → R W} {op : CmpOp} (ho : OpR X (compareOp op) (rP2 G o)) (ha : PE X a (tK G Wx A)) (hb : PE X b (tK G Wx B)) (hm : behindInMarks op b = false) : PE X (.Compare a [op] [b] pos) (tK G Wx fun ρ S => (A ρ S).bd fun x S => (B ρ S).bd fun y S => o x y S) := (pe_cmpR ho ha hb hm).im fun _ _ _ q => p2_im q
theorem k_cmpB {o : W → W → Store → R W} {op : CmpOp} (ho : OpR X (compareOp op) (rP2 G o)) (ha : PE X a (tK G Wx A)) (hb : PE X b (tK G Wx B)) (hm : behindInMarks op b = false) :
    PT X (.Compare a [op] [b] pos) (tBo G Wx fun ρ S => ((A ρ S).bd fun x S => (B ρ S).bd fun y S => o x y S).bd toB) := k_Bcmp ho ha hb hm fun _ _ _ q => p2_im q
theorem k_neg {o : W → Store → R W} {op : UnaryOp} (ho : UnR X (unaryOp op) (rP1 G o)) (ha : PE X a (tK G Wx A)) : PE X (.UnaryOp op a pos) (tK G Wx fun ρ S => (A ρ S).bd fun x S => o x S) := (pe_un ho ha).im fun _ _ _ q => p1_im q
theorem k_ix {o : W → W → Store → R W} (ho : IxR X (rP2 G o)) (ha : PE X a (tK G Wx A)) (hb : PE X b (tK G Wx B)) (hs : PlainIx b) : PE X (.Subscript a b pos) (tK G Wx fun ρ S => (A ρ S).bd fun x S => (B ρ S).bd fun y S => o x y S) := (pe_ix ho ha hb hs).im fun _ _ _ q => p2_im q

/-! ### tests -/
theorem bd_bd {r : R α} {f : α → Store → R β} {g : β → Store → R γ} : (r.bd f).bd g = r.bd fun a S => (f a S).bd g := by cases r <;> rfl
variable {TA TB : AX Bool}
theorem k_not (ha : PT X a (tBo G Wx TA)) : PT X (.UnaryOp .Not a pos) (tBo G Wx fun ρ S => (TA ρ S).bd fun k S => .ok (!k) S) := (pt_not ha).im fun σ H Q q =>
  tI.bd (F := fun k _ S => .ok (!k) S) q fun φ ρ S b φ1 H1 x S1 R sl e R1 l h => by
    have l' : x = b := l
    subst l'
    exact h.ok e R1 rfl
theorem k_and1 (ha : PT X a (tBo G Wx TA)) : L2.PW X (.BoolOp .And [a] pos) (tBo G Wx TA) := pw_and1 ha
theorem k_or1 (ha : PT X a (tBo G Wx TA)) : L2.PW X (.BoolOp .Or [a] pos) (tBo G Wx TA) := pw_or1 ha
variable {rest : List Expr}
theorem k_and (ha : PT X a (tBo G Wx TA)) (hb : L2.PW X (.BoolOp .And (b :: rest) pos) (tBo G Wx TB)) : L2.PW X (.BoolOp .And (a :: b :: rest) pos) (tBo G Wx fun ρ S => (TA ρ S).bd fun k S => if k = true then TB ρ S else .ok false S) :=
  (pw_and ha hb).im fun σ H Q q => tI.bd (F := fun k ρ S => if k = true then TB ρ S else .ok false S) q fun φ ρ S b φ1 H1 x S1 R sl e R1 l h => by
    have l' : x = b := l
    subst l'
    cases x with
    | true => exact (if_pos rfl).mpr (tI.go R sl e R1 mnB h)
    | false => exact (if_neg Bool.false_ne_true).mpr (h.ok e R1 rfl)
theorem k_or (ha : PT X a (tBo G Wx TA)) (hb : L2.PW X (.BoolOp .Or (b :: rest) pos) (tBo G Wx TB)) : L2.PW X (.BoolOp .Or (a :: b :: rest) pos) (tBo G Wx fun ρ S => (TA ρ S).bd fun k S => if k = true then .ok true S else TB ρ S) :=
  (pw_or ha hb).im fun σ H Q q => tI.bd (F := fun k ρ S => if k = true then .ok true S else TB ρ S) q fun φ ρ S b φ1 H1 x S1 R sl e R1 l h => by
    have l' : x = b := l
    subst l'
    cases x with
    | true => exact (if_pos rfl).mpr (h.ok e R1 rfl)
    | false => exact (if_neg Bool.false_ne_true).mpr (tI.go R sl e R1 mnB h)
/-- as values -/
theorem bl_of {φ φ1 : List Addr} {H H1 : Hp} {w : W} {v : V} {S1 : Store} {xk : XK} {F : Bool → Store → R γ} {Lb : Rl γ δ} {Q : δ → Hp → Prop} (l : RlW G H φ1 H1 w v) (h : Post G Lb φ H ((toB w S1).bd F) xk Q) : ∃ k, w = .val (.bl k) ∧ v = .bl k := by
  cases w with
  | lis ds => exact h.elim
  | val d =>
    cases d with
    | bl k => exact ⟨k, rfl, by have q := l.1; unfold RpW Rp at q; exact q⟩
    | _ => exact h.elim
theorem kv_not (ha : PE X a (tK G Wx A)) : PE X (.UnaryOp .Not a pos) (tK G Wx fun ρ S => ((A ρ S).bd toB).bd fun k S => vv (.bl (!k)) S) := (pe_not ha).im fun σ H Q q => by
  simp only [bd_bd] at q
  refine tI.bd (F := fun w _ S => (toB w S).bd fun k S => vv (.bl (!k)) S) q fun φ ρ S b φ1 H1 x S1 R sl e R1 l h => ?_
  obtain ⟨k, rfl, rfl⟩ := bl_of l h
  exact ⟨k, rfl, h.ok e R1 (rl_val (by unfold Rp; rfl))⟩
theorem kv_and (ha : PE X a (tK G Wx A)) (hb : PE X (.BoolOp .And (b :: rest) pos) (tK G Wx B)) : PE X (.BoolOp .And (a :: b :: rest) pos) (tK G Wx fun ρ S => ((A ρ S).bd toB).bd fun k S => if k = true then B ρ S else vv (.bl false) S) :=
  (pe_and ha hb).im fun σ H Q q => by
  simp only [bd_bd] at q
  refine tI.bd (F := fun w ρ S => (toB w S).bd fun k S => if k = true then B ρ S else vv (.bl false) S) q fun φ ρ S b φ1 H1 x S1 R sl e R1 l h => ?_
  obtain ⟨k, rfl, rfl⟩ := bl_of l h
  refine ⟨k, rfl, ?_⟩
  cases k with
  | true => exact (if_pos rfl).mpr (tI.go R sl e R1 mnW h)
  | false => exact (if_neg Bool.false_ne_true).mpr (h.ok e R1 (rl_val (by unfold Rp; rfl)))
theorem kv_or (ha : PE X a (tK G Wx A)) (hb : PE X (.BoolOp .Or (b :: rest) pos) (tK G Wx B)) : PE X (.BoolOp .Or (a :: b :: rest) pos) (tK G Wx fun ρ S => ((A ρ S).bd toB).bd fun k S => if k = true then vv (.bl true) S else B ρ S) :=
  (pe_or ha hb).im fun σ H Q q => by
  simp only [bd_bd] at q
  refine tI.bd (F := fun w ρ S => (toB w S).bd fun k S => if k = true then vv (.bl true) S else B ρ S) q fun φ ρ S b φ1 H1 x S1 R sl e R1 l h => ?_
  obtain ⟨k, rfl, rfl⟩ := bl_of l h
  refine ⟨k, rfl, ?_⟩
  cases k with
  | true => exact (if_pos rfl).mpr (h.ok e R1 (rl_val (by unfold Rp; rfl)))
  | false => exact (if_neg Bool.false_ne_true).mpr (tI.go R sl e R1 mnW h)
theorem k_ite (hc : PT X c (tBo G Wx TA)) (ha : PE X a (tK G Wx A)) (hb : PE X b (tK G Wx B)) : PE X (.IfExp c a b pos) (tK G Wx fun ρ S => (TA ρ S).bd fun k S => if k = true then A ρ S else B ρ S) :=
  (pe_ifExp hc ha hb).im fun σ H Q q => tI.bd (F := fun k ρ S => if k = true then A ρ S else B ρ S) q fun φ ρ S b φ1 H1 x S1 R sl e R1 l h => by
    have l' : x = b := l
    subst l'
    cases x with
    | true => exact (if_pos rfl).mpr (tI.go R sl e R1 mnW h)
    | false => exact (if_neg Bool.false_ne_true).mpr (tI.go R sl e R1 mnW h)
/-- a op b op' c -/
theorem ch_im {o o' : W → W → Store → R W} {σ : L2.St} {H : Hp} {Q : VK} (q : tK G Wx (fun ρ S => (A ρ S).bd fun x S => (B ρ S).bd fun y S => ((o x y S).bd toB).bd fun k S => if k = true then (C ρ S).bd fun z S => o' y z S else vv (.bl false) S) σ H Q) :
    tChain (rP2 G o) (rP2 G o') (tK G Wx A) (tK G Wx B) (tK G Wx C) σ H Q := by
  refine tI.bd (F := fun x ρ S => (B ρ S).bd fun y S => ((o x y S).bd toB).bd fun k S => if k = true then (C ρ S).bd fun z S => o' y z S else vv (.bl false) S) q fun φ ρ S v φ1 H1 x S1 R sl e R1 l h => ?_
  refine tI.next R sl e R1 h fun u H2 φ2 y S2 e2 R2 l2 h2 => ?_
  have h2 := h2.sh (e.trans e2) R2 mnW
  have e12 := e.trans e2
  simp only [bd_bd] at h2
  refine ⟨φ2, x, y, S2, _, R2, RpW.mono e2 R1 l.1, l2.1, (Post.bd h2).mono fun z H3 hz => ?_⟩
  obtain ⟨φ3, w, S3, _, e3, R3, l3, h3⟩ := hz
  obtain ⟨k, rfl, rfl⟩ := bl_of l3 h3
  refine ⟨k, rfl, ?_⟩
  have h3 : Post G (RlW G) φ2 H2 (if k = true then (C ρ S3).bd fun z S => o' y z S else vv (.bl false) S3) _ Q := h3
  cases k with
  | false => exact (if_neg Bool.false_ne_true).mpr (h3.ok e3 R3 (rl_val (by unfold Rp; rfl)))
  | true =>
    refine (if_pos rfl).mpr (tI.next R2 (sl.mono (e12.toKeep R)) e3 R3 h3 fun z' H4 φ4 z4 S4 e4 R4 l4 h4 => ?_)
    exact ⟨φ4, y, z4, S4, _, R4, RpW.mono (e3.trans e4) R2 l2.1, l4.1, h4.sh (e3.trans e4) R4 mnW⟩
theorem k_ch {o o' : W → W → Store → R W} {op op' : CmpOp} (ho : OpR X (compareOp op) (rP2 G o)) (ho' : OpR X (compareOp op') (rP2 G o')) (ha : PE X a (tK G Wx A)) (hb : PE X b (tK G Wx B)) (hc : PE X c (tK G Wx C)) (hm : lastMarks [op, op'] [b, c] = false) :
    PE X (.Compare a [op, op'] [b, c] pos) (tK G Wx fun ρ S => (A ρ S).bd fun x S => (B ρ S).bd fun y S => ((o x y S).bd toB).bd fun k S => if k = true then (C ρ S).bd fun z S => o' y z S else vv (.bl false) S) := (pe_chain ho ho' ha hb hc hm).im fun _ _ _ q => ch_im q
theorem k_chB {o o' : W → W → Store → R W} {op op' : CmpOp} (ho : OpR X (compareOp op) (rP2 G o)) (ho' : OpR X (compareOp op') (rP2 G o')) (ha : PE X a (tK G Wx A)) (hb : PE X b (tK G Wx B)) (hc : PE X c (tK G Wx C)) (hm : lastMarks [op, op'] [b, c] = false) :
    PT X (.Compare a [op, op'] [b, c] pos) (tBo G Wx fun ρ S => ((A ρ S).bd fun x S => (B ρ S).bd fun y S => ((o x y S).bd toB).bd fun k S => if k = true then (C ρ S).bd fun z S => o' y z S else vv (.bl false) S).bd toB) :=
  (pt_chain ho ho' ha hb hc hm).im fun σ H Q q => ch_im (tI.bd (F := fun w _ S => toB w S) q fun φ ρ S b φ1 H1 x S1 R sl e R1 l h => toB_post e R1 l h)

/-! ### arguments, tuples, lists -/
variable {es : List Expr} {As : AX (List D)} {AD : AX D}
theorem ka_nil : PA X [] (tDs G Wx fun _ S => .ok [] S) := pa_nil.im fun σ H Q ⟨φ, ρ, S, R, sl, q⟩ => q.ok (Ext.refl _ _) R (by show Rps G φ H [] []; unfold Rps; rfl)
theorem ka_cons (ha : PE X e (tD G Wx AD)) (hr : PA X es (tDs G Wx As)) (hs : starEach (e :: es) X.env = (false, eval e X.env) :: starEach es X.env) : PA X (e :: es) (tDs G Wx fun ρ S => (AD ρ S).bd fun d S => (As ρ S).bd fun ds S => .ok (d :: ds) S) :=
  (pa_cons ha hr hs).im fun σ H Q q => tI.bd (F := fun d ρ S => (As ρ S).bd fun ds S => .ok (d :: ds) S) q fun φ ρ S v φ1 H1 x S1 R sl e R1 l h => by
    refine tI.next R sl e R1 h fun us H2 φ2 ds S2 e2 R2 l2 h2 => ?_
    refine h2.ok (e.trans e2) R2 ?_
    show Rps G φ2 H2 (x :: ds) (v :: us)
    unfold Rps
    exact ⟨v, us, rfl, Rp.mono (e2.toKeep R1) _ _ l, l2⟩
theorem Rps.len {φ : List Addr} {H : Hp} : ∀ {ds : List D} {vs : List V}, Rps G φ H ds vs → ds.length = vs.length
  | [], _, h => by unfold Rps at h; subst h; rfl
  | d :: ds, _, h => by
    unfold Rps at h
    obtain ⟨v, r, rfl, _, h2⟩ := h
    rw [List.length_cons, List.length_cons, Rps.len h2]
theorem k_tup {x1} (h : PA X es (tDs G Wx As)) : PE X (.Tuple es x1 pos) (tK G Wx fun ρ S => (As ρ S).bd fun ds S => if ds.length ≤ sizeLine then vv (.tup ds) S else .bad) :=
  (pe_tup h).im fun σ H Q q => tI.bd (F := fun ds _ S => if ds.length ≤ sizeLine then vv (.tup ds) S else .bad) q fun φ ρ S vs φ1 H1 ds S1 R sl e R1 l h => by
    have l : Rps G φ1 H1 ds vs := l
    have hz := l.len
    by_cases c : ds.length ≤ sizeLine
    · rw [if_pos c] at h
      refine ⟨by rw [← hz]; exact c, fun p hp => ?_⟩
      have E := Ext.fresh R1 hp (.tup vs)
      refine h.ok (e.trans E) (R1.fresh hp _) (rl_val ?_)
      unfold Rp
      exact ⟨p, vs, rfl, upd_same, Rps.mono (E.toKeep R1) _ _ l⟩
    · rw [if_neg c] at h
      exact h.elim
theorem k_disp (h : PA X es (tDs G Wx As)) : PE X (.List es pos) (tK G Wx fun ρ S => (As ρ S).bd fun ds S => if ds.length ≤ sizeLine then .ok (.lis ds) S else .bad) :=
  (pe_lst h).im fun σ H Q q => tI.bd (F := fun ds _ S => if ds.length ≤ sizeLine then R.ok (W.lis ds) S else R.bad) q fun φ ρ S vs φ1 H1 ds S1 R sl e R1 l h => by
    have l : Rps G φ1 H1 ds vs := l
    have hz := l.len
    by_cases c : ds.length ≤ sizeLine
    · rw [if_pos c] at h
      refine ⟨by rw [← hz]; exact c, fun p hp => ?_⟩
      have E := Ext.fresh R1 hp (.lst vs)
      exact h.ok (e.trans E) (R1.fresh hp _) ⟨⟨p, vs, rfl, upd_same, R1.unk hp, Rps.mono (E.toKeep R1) _ _ l⟩, fun ds a e1 e2 => by cases e2; exact e.fr R1 _ hp⟩
    · rw [if_neg c] at h
      exact h.elim
end
end Mi

/-! Mi, part D: what is walked, targets, comprehensions. -/
namespace Mi
open PySem L2 PyProof.Rows RT RZ

section
variable (G : Gb)
/-- an iterator that gives these items while the lists stay -/
def ItOk (J : It) (φ0 : List Addr) (H0 : Hp) (I : Its) : Prop := ∀ (i : Nat) (φ : List Addr) (H : Hp) (S : Store), Ext φ0 H0 φ H → Rel G φ H S → isLive I.live S →
  (∀ d, I.items[i]? = some d → J.go i H ∧ ∀ x H3, J.yld i H x H3 → Ext φ H φ H3 ∧ Rel G φ H3 S ∧ Rp G φ H3 d x) ∧ (I.items.length ≤ i → J.stop i H)
def RlI : Rl Its It := fun _ φ H I J => ItOk G J φ H I
abbrev tIts (Wx : WX) (A : AX Its) : TI := tI G Wx (RlI G) A
end
noncomputable def itsA (k : IK) (ws : List W) (S : Store) : R Its := match its k ws S with
  | some I => .ok I S
  | none => .bad

section
variable {G : Gb} {Wx : WX} {X : Cx} {tg e e2 : Expr} {A B : AX W} {pos p : Pos}
theorem Rps.get {φ : List Addr} {H : Hp} : ∀ {ds : List D} {vs : List V} {i : Nat} {d : D}, Rps G φ H ds vs → ds[i]? = some d → ∃ v, vs[i]? = some v ∧ Rp G φ H d v
  | [], _, _, _, _, e => by simp at e
  | d :: ds, _, 0, _, h, e => by
    unfold Rps at h
    obtain ⟨v, r, rfl, h1, h2⟩ := h
    simp at e
    subst e
    exact ⟨v, rfl, h1⟩
  | d :: ds, _, i + 1, _, h, e => by
    unfold Rps at h
    obtain ⟨v, r, rfl, h1, h2⟩ := h
    simp at e
    obtain ⟨w, h3, h4⟩ := Rps.get h2 e
    exact ⟨w, by simpa using h3, h4⟩
/-- what a sequence's items are -/
theorem seq_rp {φ : List Addr} {H : Hp} {S : Store} {w : W} {v : V} {b : Bool} {ds : List D} (R : Rel G φ H S) (r : RpW G φ H w v) (h : w.seq S = some (b, ds)) :
    ∃ a vs, v = .ref a ∧ (if b = true then SqT G.K H a vs else SqL G.K H a vs) ∧ Rps G φ H ds vs := by
  cases w with
  | lis es =>
    have h : some (false, es) = some (b, ds) := h
    cases h
    obtain ⟨a, vs, e, h1, _, h2⟩ := r
    exact ⟨a, vs, e, (if_neg Bool.false_ne_true).mpr (SqL.of h1), h2⟩
  | val d =>
    cases d with
    | tup es =>
      have h : some (true, es) = some (b, ds) := h
      cases h
      unfold RpW Rp at r
      obtain ⟨a, vs, e, h1, h2⟩ := r
      exact ⟨a, vs, e, (if_pos rfl).mpr h1.sq, h2⟩
    | ls es =>
      have h : some (false, es) = some (b, ds) := h
      cases h
      unfold RpW Rp at r
      obtain ⟨a, vs, e, h1, h2⟩ := r
      exact ⟨a, vs, e, (if_neg Bool.false_ne_true).mpr h1.sq, h2⟩
    | kt es =>
      have h : some (true, es) = some (b, ds) := h
      cases h
      unfold RpW Rp at r
      obtain ⟨a, vs, e, h1, h2⟩ := r
      exact ⟨a, vs, e, (if_pos rfl).mpr h1.sq, h2⟩
    | ref n =>
      unfold RpW Rp at r
      obtain ⟨a, e, h1⟩ := r
      unfold W.seq at h
      cases hs : S[n]? with
      | none => simp only [hs] at h; cases h
      | some o =>
        cases o with
        | lst es =>
          simp only [hs] at h
          cases h
          obtain ⟨vs, h2, h3⟩ := R.obj n a _ h1 hs
          exact ⟨a, vs, e, (if_neg Bool.false_ne_true).mpr (SqL.of h2), h3⟩
        | _ => simp only [hs] at h; cases h
    | _ => cases h
/-- a sequence that is walked stays -/
theorem seq_stay {φ φ1 : List Addr} {H H1 : Hp} {S S1 : Store} {w : W} {v : V} {b : Bool} {ds : List D} (R : Rel G φ H S) (r : RpW G φ H w v) (h : w.seq S = some (b, ds)) (e : Ext φ H φ1 H1) (R1 : Rel G φ1 H1 S1) (l : isLive (live1 w ds) S1) :
    w.seq S1 = some (b, ds) := by
  cases w with
  | lis es => exact h
  | val d =>
    cases d with
    | ref n =>
      have q : S1[n]? = some (.lst ds) := l (n, ds) (by show (n, ds) ∈ [(n, ds)]; simp)
      unfold W.seq at h ⊢
      cases hs : S[n]? with
      | none => simp only [hs] at h; cases h
      | some o =>
        cases o with
        | lst es => simp only [hs] at h; cases h; simp only [q]
        | _ => simp only [hs] at h; cases h
    | _ => exact h
theorem sq_uniq {α : Type} {a b : α} {c : Prop} [Decidable c] {P Q : Prop} (h : if c then P else Q) (hc : c) : P := by rw [if_pos hc] at h; exact h
theorem ifF {P Q : Prop} (h : if (false : Bool) = true then P else Q) : Q := by rw [if_neg Bool.false_ne_true] at h; exact h
theorem ifT {P Q : Prop} (h : if (true : Bool) = true then P else Q) : P := by rw [if_pos rfl] at h; exact h
/-- over a list -/
theorem it_list {φ0 : List Addr} {H0 : Hp} {S0 : Store} {w : W} {a : Addr} {ds : List D} (R : Rel G φ0 H0 S0) (r : RpW G φ0 H0 w (.ref a)) (h : w.seq S0 = some (false, ds)) : ItOk G (Itl G.K a) φ0 H0 ⟨ds, live1 w ds⟩ := by
  intro i φ H S e R1 l
  have r1 := RpW.mono e R r
  obtain ⟨a', vs, ea, hq, hr⟩ := seq_rp R1 r1 (seq_stay R r h e R1 l)
  cases ea
  have hq := ifF hq
  refine ⟨fun d hd => ?_, fun hi => ⟨vs, hq, by rw [← hr.len]; exact hi⟩⟩
  obtain ⟨v, hv, rv⟩ := hr.get hd
  refine ⟨⟨vs, v, hq, hv⟩, fun x H3 y => ?_⟩
  obtain ⟨e3, y⟩ := y
  subst e3
  have q := y vs hq
  rw [hv] at q
  cases q
  exact ⟨Ext.refl _ _, R1, rv⟩
theorem it_tup {φ0 : List Addr} {H0 : Hp} {S0 : Store} {w : W} {a : Addr} {ds : List D} (R : Rel G φ0 H0 S0) (r : RpW G φ0 H0 w (.ref a)) (h : w.seq S0 = some (true, ds)) : ItOk G (Itt G.K a) φ0 H0 ⟨ds, live1 w ds⟩ := by
  intro i φ H S e R1 l
  have r1 := RpW.mono e R r
  obtain ⟨a', vs, ea, hq, hr⟩ := seq_rp R1 r1 (seq_stay R r h e R1 l)
  cases ea
  have hq := ifT hq
  refine ⟨fun d hd => ?_, fun hi => ⟨vs, hq, by rw [← hr.len]; exact hi⟩⟩
  obtain ⟨v, hv, rv⟩ := hr.get hd
  refine ⟨⟨vs, v, hq, hv⟩, fun x H3 y => ?_⟩
  obtain ⟨e3, y⟩ := y
  subst e3
  have q := y vs hq
  rw [hv] at q
  cases q
  exact ⟨Ext.refl _ _, R1, rv⟩
theorem it_str {φ0 : List Addr} {H0 : Hp} {z : Str} : ItOk G (L2.Its z) φ0 H0 ⟨z.cps.toList.map fun c => .str ⟨#[c]⟩, []⟩ := by
  intro i φ H S e R1 l
  refine ⟨fun d hd => ?_, fun hi => by show z.cps.size ≤ i; simpa using hi⟩
  simp only [List.getElem?_map, Option.map_eq_some_iff] at hd
  obtain ⟨c, hc, rfl⟩ := hd
  have hc' : z.cps[i]? = some c := by simpa using hc
  refine ⟨(Array.getElem?_eq_some_iff.mp hc').1, fun x H3 y => ?_⟩
  obtain ⟨e3, c', h1, rfl⟩ := y
  subst e3
  rw [hc'] at h1
  cases h1
  exact ⟨Ext.refl _ _, R1, by unfold Rp; rfl⟩
theorem intsD_get {n : Nat} {f : Nat → Int} {i : Nat} {d : D} (h : (intsD n f)[i]? = some d) : i < n ∧ d = .int (f i) := by
  unfold intsD at h
  rw [List.getElem?_map] at h
  by_cases c : i < n
  · rw [List.getElem?_range c] at h
    exact ⟨c, (Option.some.inj h).symm⟩
  · rw [List.getElem?_eq_none (by simpa using c)] at h
    cases h
theorem it_range {φ0 : List Addr} {H0 : Hp} {lo : Int} {n : Nat} {f : Nat → Int} (hf : ∀ i, f i = lo + i) : ItOk G (Itr lo n) φ0 H0 ⟨intsD n f, []⟩ := by
  intro i φ H S e R1 l
  refine ⟨fun d hd => ?_, fun hi => by show n ≤ i; simpa [intsD] using hi⟩
  obtain ⟨h1, rfl⟩ := intsD_get hd
  refine ⟨h1, fun x H3 y => ?_⟩
  obtain ⟨e3, rfl⟩ := y
  subst e3
  exact ⟨Ext.refl _ _, R1, by unfold Rp; rw [hf]⟩
theorem it_rangeC {φ0 : List Addr} {H0 : Hp} {lo c : Int} {n : Nat} : ItOk G (Itc lo c n) φ0 H0 ⟨intsD n fun i => lo + i * c, []⟩ := by
  intro i φ H S e R1 l
  refine ⟨fun d hd => ?_, fun hi => by show n ≤ i; simpa [intsD] using hi⟩
  obtain ⟨h1, rfl⟩ := intsD_get hd
  refine ⟨h1, fun x H3 y => ?_⟩
  obtain ⟨e3, rfl⟩ := y
  subst e3
  exact ⟨Ext.refl _ _, R1, by unfold Rp; rfl⟩

/-! ### the rules: what is known of a value before it is made tells the rule -/
/-- a part whose end is known -/
theorem tI.run {α β γ δ : Type} {L : Rl α β} {Lb : Rl γ δ} {A : AX α} {F : α → Store → Mi.R γ} {σ : L2.St} {H : Hp} {Q : δ → Hp → Prop} {P : Prop} (h : tI G Wx Lb (fun ρ S => (A ρ S).bd F) σ H Q)
    (k : ∀ x S1, (∀ Q' : β → Hp → Prop, (∀ b φ φ1 H1, Ext φ H φ1 H1 → Rel G φ1 H1 S1 → L H φ1 H1 x b → Post G Lb φ H (F x S1) (fun c d H' => Wx c d σ H') Q → Q' b H1) → tI G Wx L A σ H Q') → (∃ φ, Post G Lb φ H (F x S1) (fun c d H' => Wx c d σ H') Q) → P)
    (kx : (∀ Q' : β → Hp → Prop, tI G Wx L A σ H Q') → P) : P := by
  obtain ⟨φ, ρ, S, R, sl, h⟩ := h
  cases q : A ρ S with
  | ok x S1 =>
    simp only [q, Mi.R.bd] at h
    refine k x S1 (fun Q' hq => ⟨φ, ρ, S, R, sl, ?_⟩) ⟨φ, h⟩
    rw [q]
    exact fun b H1 φ1 e R1 l => hq b φ φ1 H1 e R1 l h
  | ex c fs S1 =>
    simp only [q, Mi.R.bd] at h
    refine kx fun Q' => ⟨φ, ρ, S, R, sl, ?_⟩
    rw [q]
    exact h
  | bad =>
    simp only [q, Mi.R.bd] at h
    exact h.elim
theorem seq_ref {S : Store} {w : W} {b : Bool} {ds : List D} (h : w.seq S = some (b, ds)) : (∀ z, w ≠ .val (.str z)) := by
  rintro z rfl
  cases h
theorem its_it {S : Store} {w : W} {b : Bool} {ds : List D} (h : w.seq S = some (b, ds)) : itsA .it [w] S = .ok ⟨ds, live1 w ds⟩ S := by
  unfold itsA
  simp only [its, h]
/-- for x in e -/
theorem ki_it (he : PE X e (tK G Wx A)) (hK : X.K = G.K) : PI X tg e (tIts G Wx fun ρ S => (A ρ S).bd fun w S => itsA .it [w] S) := by
  refine ⟨fun pins s σ H Rr I h => ?_⟩
  refine tI.run (L := RlW G) h (fun x S1 mk post => ?_) fun mk => (pi_list he).run pins s σ H Rr I (mk _)
  obtain ⟨φp, post⟩ := post
  cases hx : x.seq S1 with
  | some bd =>
    obtain ⟨b, ds⟩ := bd
    have hi := its_it hx
    cases b with
    | false =>
      refine (pi_list he).run pins s σ H Rr I (mk _ fun v φ φ1 H1 e R1 l hp => ?_)
      rw [hi] at hp
      obtain ⟨a, vs, ea, hq, hr⟩ := seq_rp R1 l.1 hx
      subst ea
      refine ⟨a, rfl, ⟨vs, by rw [hK]; exact ifF hq⟩, ?_⟩
      rw [hK]
      exact hp.ok e R1 (it_list R1 l.1 hx)
    | true =>
      refine (pi_tup he).run pins s σ H Rr I (mk _ fun v φ φ1 H1 e R1 l hp => ?_)
      rw [hi] at hp
      obtain ⟨a, vs, ea, hq, hr⟩ := seq_rp R1 l.1 hx
      subst ea
      refine ⟨a, rfl, ⟨vs, by rw [hK]; exact ifT hq⟩, ?_⟩
      rw [hK]
      exact hp.ok e R1 (it_tup R1 l.1 hx)
  | none =>
    by_cases hz : ∃ z, x = .val (.str z)
    · obtain ⟨z, rfl⟩ := hz
      refine (pi_str he).run pins s σ H Rr I (mk _ fun v φ φ1 H1 e R1 l hp => ?_)
      refine ⟨z, by have q := l.1; unfold RpW Rp at q; exact q, ?_⟩
      exact Post.ok (L := RlI G) (a := ⟨z.cps.toList.map fun c => .str ⟨#[c]⟩, []⟩) (S' := S1) hp e R1 it_str
    · exfalso
      have q : itsA .it [x] S1 = .bad := by
        unfold itsA
        simp only [its, hx]
        cases x with
        | lis ds => rfl
        | val d =>
          cases d with
          | str z => exact absurd ⟨z, rfl⟩ hz
          | _ => rfl
      rw [q] at post
      exact post
/-- the ends of the rules for calls of range, zip, reversed -/
theorem fits_of {n : Int} (h : fits62 n = true) : -(2 ^ 62) ≤ n ∧ n < 2 ^ 62 := of_decide_eq_true h
theorem rp_int {φ : List Addr} {H : Hp} {i : Int} {v : V} (h : RpW G φ H (.val (.int i)) v) : v = .int i := by unfold RpW Rp at h; exact h
theorem ki_rng1 (hg : Gl X "range") (hm : X.mg "range" = none) (he : PE X e (tK G Wx A)) (hs : starEach [e] X.env = [(false, eval e X.env)]) : PI X tg (.Call (.Name "range" p) [e] [] pos) (tIts G Wx fun ρ S => (A ρ S).bd fun w S => itsA .rng1 [w] S) := by
  refine ⟨fun pins s σ H Rr I h => ?_⟩
  have rule := pi_range1 (tg := tg) (p := p) (pos := pos) hg hm (pa_cons he pa_nil hs) hs
  refine rule.run pins s σ H Rr I ?_
  refine tI.bd (F := fun w _ S => itsA .rng1 [w] S) h fun φ ρ S v φ1 H1 x S1 R sl e R1 l hp => ?_
  cases x with
  | lis ds => exact hp.elim
  | val d =>
    cases d with
    | int n =>
      by_cases c : fits62 n = true
      · obtain ⟨f1, f2⟩ := fits_of c
        have q : itsA .rng1 [.val (.int n)] S1 = .ok ⟨intsD n.toNat fun i => (i : Int), []⟩ S1 := by
          unfold itsA
          simp only [its, if_pos c]
        rw [q] at hp
        have ev := rp_int l.1
        subst ev
        exact ⟨n, rfl, f1, f2, hp.ok e R1 (it_range fun i => by omega)⟩
      · exfalso
        have q : itsA .rng1 [.val (.int n)] S1 = .bad := by
          unfold itsA
          simp only [its, if_neg c]
        rw [q] at hp
        exact hp
    | _ => exact hp.elim
theorem ki_rng2 (hg : Gl X "range") (hm : X.mg "range" = none) (he : PE X e (tK G Wx A)) (he2 : PE X e2 (tK G Wx B)) (hs : starEach [e, e2] X.env = [(false, eval e X.env), (false, eval e2 X.env)]) (hs2 : starEach [e2] X.env = [(false, eval e2 X.env)]) :
    PI X tg (.Call (.Name "range" p) [e, e2] [] pos) (tIts G Wx fun ρ S => (A ρ S).bd fun w S => (B ρ S).bd fun w2 S => itsA .rng2 [w, w2] S) := by
  refine ⟨fun pins s σ H Rr I h => ?_⟩
  have rule := pi_range2 (tg := tg) (p := p) (pos := pos) hg hm (pa_cons he (pa_cons he2 pa_nil hs2) (by rw [hs, hs2])) hs hs2
  refine rule.run pins s σ H Rr I ?_
  refine tI.bd (F := fun w ρ S => (B ρ S).bd fun w2 S => itsA .rng2 [w, w2] S) h fun φ ρ S v φ1 H1 x S1 R sl e R1 l hp => ?_
  refine tI.next R sl e R1 hp fun u H2 φ2 y S2 e2 R2 l2 h2 => ?_
  have bad : itsA .rng2 [x, y] S2 = .bad → False := fun q => by rw [q] at h2; exact h2
  have l1 := RpW.mono e2 R1 l.1
  cases x with
  | lis ds => exact (bad rfl).elim
  | val d =>
    cases y with
    | lis ds => exact (bad (by cases d <;> rfl)).elim
    | val d2 =>
      cases d with
      | int n =>
        cases d2 with
        | int m =>
          by_cases c : (fits62 n && fits62 m) = true
          · obtain ⟨c1, c2⟩ := Bool.and_eq_true_iff.mp c
            obtain ⟨f1, f2⟩ := fits_of c1
            obtain ⟨g1, g2⟩ := fits_of c2
            have q : itsA .rng2 [.val (.int n), .val (.int m)] S2 = .ok ⟨intsD (m - n).toNat fun i => n + i, []⟩ S2 := by
              unfold itsA
              simp only [its, if_pos c]
            rw [q] at h2
            have ev := rp_int l1
            have eu := rp_int l2.1
            subst ev; subst eu
            exact ⟨n, m, rfl, ⟨f1, f2, g1, g2⟩, h2.ok (e.trans e2) R2 (it_range fun i => rfl)⟩
          · exact (bad (by unfold itsA; simp only [its, if_neg c])).elim
        | _ => exact (bad rfl).elim
      | _ => exact (bad (by cases d2 <;> rfl)).elim
theorem small_of {a b c : Int} (ha : fits62 a = true) (hb : fits62 b = true) (h0 : 0 < c) (h1 : c < 1073741824) : RgC a b c (steps a b c) := by
  obtain ⟨f1, f2⟩ := fits_of ha
  obtain ⟨g1, g2⟩ := fits_of hb
  have e : Builtin.Range.rangeSize a b c = (steps a b c : Nat) := by
    unfold Builtin.Range.rangeSize steps
    rw [if_pos (show c > 0 from h0)]
    by_cases q : a < b
    · rw [if_pos q, if_pos q]
      have : 0 ≤ (b - a - 1) / c := Int.ediv_nonneg (by omega) (by omega)
      omega
    · rw [if_neg q, if_neg q]; rfl
  refine ⟨by omega, by omega, ?_, e⟩
  unfold Builtin.Range.small
  rw [e]
  have hs : (steps a b c : Int) < 2 ^ 63 := by
    unfold steps
    by_cases q : a < b
    · rw [if_pos q]
      have h1 := Int.ediv_le_self c (show 0 ≤ b - a - 1 by omega)
      have h2 : 0 ≤ (b - a - 1) / c := Int.ediv_nonneg (by omega) (by omega)
      omega
    · rw [if_neg q]; decide
  simp only [Builtin.Range.rangeFitsLong, Bool.and_eq_true, Bool.or_eq_true, decide_eq_true_eq, beq_iff_eq, if_pos (show c > 0 from h0)]
  omega
theorem items_rev {ds : List D} {i : Nat} {d : D} (h : ds.reverse[i]? = some d) : i < ds.length ∧ ds[ds.length - 1 - i]? = some d := by
  have hi : i < ds.length := by simpa using (List.getElem?_eq_some_iff.mp h).1
  refine ⟨hi, ?_⟩
  rw [List.getElem?_reverse hi] at h
  exact h
theorem ki_rev (hg : Gl X "reversed") (hm : X.mg "reversed" = none) (he : PE X e (tK G Wx A)) (hK : X.K = G.K) (hs : starEach [e] X.env = (false, eval e X.env) :: starEach [] X.env) :
    PI X tg (.Call (.Name "reversed" p) [e] [] pos) (tIts G Wx fun ρ S => (A ρ S).bd fun w S => itsA .rev [w] S) := by
  refine ⟨fun pins s σ H Rr I h => ?_⟩
  refine (pi_revA (tg := tg) (p := p) (pos := pos) hg hm he hs).run pins s σ H Rr I ?_
  refine tI.bd (F := fun w _ S => itsA .rev [w] S) h fun φ ρ S v φ1 H1 x S1 R sl e R1 l hp => ?_
  cases hx : x.seq S1 with
  | none =>
    exfalso
    have q : itsA .rev [x] S1 = .bad := by
      unfold itsA
      simp only [its, hx]
    rw [q] at hp
    exact hp
  | some bd =>
    obtain ⟨b, ds⟩ := bd
    have q : itsA .rev [x] S1 = .ok ⟨ds.reverse, live1 x ds⟩ S1 := by
      unfold itsA
      simp only [its, hx]
    rw [q] at hp
    obtain ⟨a, vs, rfl, hq, hr⟩ := seq_rp R1 l.1 hx
    rw [hK]
    refine ⟨a, vs, rfl, ?_⟩
    cases b with
    | false =>
      refine .inl ⟨ifF hq, hp.ok e R1 ?_⟩
      intro i φ' H' S' e' R' l'
      obtain ⟨a', ws, ea, hq', hr'⟩ := seq_rp R' (RpW.mono e' R1 l.1) (seq_stay R1 l.1 hx e' R' l')
      cases ea
      have hq' := ifF hq'
      have hl : ws.length = vs.length := by rw [← hr'.len, ← hr.len]
      refine ⟨fun d hd => ?_, fun hi => by show vs.length ≤ i; rw [← hr.len]; simpa using hi⟩
      obtain ⟨hi, hd⟩ := items_rev hd
      obtain ⟨w, hw, rw'⟩ := hr'.get hd
      rw [hr.len] at hi hw
      refine ⟨⟨hi, ws, w, hq', hw⟩, fun x H3 y => ?_⟩
      obtain ⟨e3, y⟩ := y
      subst e3
      have q := y ws hq'
      rw [hw] at q
      cases q
      exact ⟨Ext.refl _ _, R', rw'⟩
    | true =>
      refine .inr ⟨ifT hq, hp.ok e R1 ?_⟩
      intro i φ' H' S' e' R' l'
      obtain ⟨a', ws, ea, hq', hr'⟩ := seq_rp R' (RpW.mono e' R1 l.1) (seq_stay R1 l.1 hx e' R' l')
      cases ea
      have hq' := ifT hq'
      have hl : ws.length = vs.length := by rw [← hr'.len, ← hr.len]
      refine ⟨fun d hd => ?_, fun hi => by show vs.length ≤ i; rw [← hr.len]; simpa using hi⟩
      obtain ⟨hi, hd⟩ := items_rev hd
      obtain ⟨w, hw, rw'⟩ := hr'.get hd
      rw [hr.len] at hi hw
      refine ⟨⟨hi, ws, w, hq', hw⟩, fun x H3 y => ?_⟩
      obtain ⟨e3, y⟩ := y
      subst e3
      have q := y ws hq'
      rw [hw] at q
      cases q
      exact ⟨Ext.refl _ _, R', rw'⟩
theorem ki_rng3 {e3 : Expr} {Cc : AX W} (hg : Gl X "range") (hm : X.mg "range" = none) (he : PE X e (tK G Wx A)) (he2 : PE X e2 (tK G Wx B)) (he3 : PE X e3 (tK G Wx Cc))
    (hs : starEach [e, e2, e3] X.env = (false, eval e X.env) :: starEach [e2, e3] X.env) (hs2 : starEach [e2, e3] X.env = (false, eval e2 X.env) :: starEach [e3] X.env) (hs3 : starEach [e3] X.env = (false, eval e3 X.env) :: starEach [] X.env)
    (hpl : (backTo pos (starEach [e2, e3] X.env)).any (·.1) = false) :
    PI X tg (.Call (.Name "range" p) [e, e2, e3] [] pos) (tIts G Wx fun ρ S => (A ρ S).bd fun w S => (B ρ S).bd fun w2 S => (Cc ρ S).bd fun w3 S => itsA .rng3 [w, w2, w3] S) := by
  refine ⟨fun pins s σ H Rr I h => ?_⟩
  have rule := pi_range3 (tg := tg) (p := p) (pos := pos) hg hm (pa_cons he (pa_cons he2 (pa_cons he3 pa_nil hs3) hs2) hs) hs hpl
  refine rule.run pins s σ H Rr I ?_
  refine tI.bd (F := fun w ρ S => (B ρ S).bd fun w2 S => (Cc ρ S).bd fun w3 S => itsA .rng3 [w, w2, w3] S) h fun φ ρ S v φ1 H1 x S1 R sl e R1 l hp => ?_
  refine tI.next R sl e R1 hp fun u H2 φ2 y S2 e2 R2 l2 h2 => ?_
  refine tI.next R sl (e.trans e2) R2 h2 fun t H3 φ3 z S3 e3 R3 l3 h3 => ?_
  have bad : itsA .rng3 [x, y, z] S3 = .bad → False := fun q => by rw [q] at h3; exact h3
  have l1 := RpW.mono (e2.trans e3) R1 l.1
  have l2' := RpW.mono e3 R2 l2.1
  by_cases hx : ∃ i j k, x = .val (.int i) ∧ y = .val (.int j) ∧ z = .val (.int k)
  · obtain ⟨i, j, k, rfl, rfl, rfl⟩ := hx
    by_cases c : (fits62 i && fits62 j && decide (0 < k ∧ k < 1073741824)) = true
    · obtain ⟨c12, c3⟩ := Bool.and_eq_true_iff.mp c
      obtain ⟨c1, c2⟩ := Bool.and_eq_true_iff.mp c12
      obtain ⟨k0, k1⟩ := of_decide_eq_true c3
      have q : itsA .rng3 [.val (.int i), .val (.int j), .val (.int k)] S3 = .ok ⟨intsD (steps i j k) fun n => i + n * k, []⟩ S3 := by
        unfold itsA
        simp only [its, if_pos c]
      rw [q] at h3
      have e1 := rp_int l1
      have e2' := rp_int l2'
      have e3' := rp_int l3.1
      subst e1; subst e2'; subst e3'
      exact ⟨i, j, k, steps i j k, rfl, small_of c1 c2 k0 k1, h3.ok ((e.trans e2).trans e3) R3 it_rangeC⟩
    · exact (bad (by unfold itsA; simp only [its, if_neg c])).elim
  · refine (bad ?_).elim
    unfold itsA
    have q : its .rng3 [x, y, z] S3 = none := by
      unfold its
      dsimp only
      split
      · rename_i i j k q
        obtain ⟨q1, q2⟩ := List.cons.inj q
        obtain ⟨q2, q3⟩ := List.cons.inj q2
        obtain ⟨q3, _⟩ := List.cons.inj q3
        exact absurd ⟨i, j, k, q1, q2, q3⟩ hx
      · rfl
    rw [q]
theorem live_app {l l' : List (Nat × List D)} {S : Store} (h : isLive (l ++ l') S) : isLive l S ∧ isLive l' S := ⟨fun p hp => h p (List.mem_append_left _ hp), fun p hp => h p (List.mem_append_right _ hp)⟩
theorem zip_get {ds es : List D} {i : Nat} {d : D} (h : ((ds.zip es).map fun p => D.tup [p.1, p.2])[i]? = some d) : ∃ x y, ds[i]? = some x ∧ es[i]? = some y ∧ d = .tup [x, y] := by
  rw [List.getElem?_map] at h
  cases q : (ds.zip es)[i]? with
  | none => rw [q] at h; cases h
  | some p =>
    rw [q] at h
    cases h
    obtain ⟨x, y⟩ := p
    rw [List.getElem?_zip_eq_some] at q
    exact ⟨x, y, q.1, q.2, rfl⟩
theorem rp_pair {φ : List Addr} {H : Hp} {S : Store} {x y : D} {v w : V} {T : Addr} (R : Rel G φ H S) (hT : H T = none) (h1 : Rp G φ H x v) (h2 : Rp G φ H y w) :
    Ext φ H φ (upd H T (.tup [v, w])) ∧ Rel G φ (upd H T (.tup [v, w])) S ∧ Rp G φ (upd H T (.tup [v, w])) (.tup [x, y]) (.ref T) := by
  have E := Ext.fresh R hT (.tup [v, w])
  refine ⟨E, R.fresh hT _, ?_⟩
  have k := E.toKeep R
  unfold Rp
  refine ⟨T, [v, w], rfl, upd_same, ?_⟩
  unfold Rps
  refine ⟨v, [w], rfl, Rp.mono k _ _ h1, ?_⟩
  unfold Rps
  refine ⟨w, [], rfl, Rp.mono k _ _ h2, ?_⟩
  unfold Rps
  rfl
theorem ki_zip {tpos : Pos} {elts : List Expr} {kk : Nat} (hg : Gl X "zip") (hm : X.mg "zip" = none) (he : PE X e (tK G Wx A)) (he2 : PE X e2 (tK G Wx B)) (hK : X.K = G.K) (hs : starEach [e, e2] X.env = (false, eval e X.env) :: starEach [e2] X.env)
    (hs2 : starEach [e2] X.env = (false, eval e2 X.env) :: starEach [] X.env) (hpl : (backTo pos (starEach [e2] X.env)).any (·.1) = false) :
    PI X (.Tuple elts kk tpos) (.Call (.Name "zip" p) [e, e2] [] pos) (tIts G Wx fun ρ S => (A ρ S).bd fun w S => (B ρ S).bd fun w2 S => itsA .zip [w, w2] S) := by
  refine ⟨fun pins s σ H Rr I h => ?_⟩
  refine (pi_zipA (p := p) (pos := pos) (tpos := tpos) (elts := elts) (kk := kk) hg hm (pa_cons he (pa_cons he2 pa_nil hs2) hs) hs hpl).run pins s σ H Rr I ?_
  refine tI.bd (F := fun w ρ S => (B ρ S).bd fun w2 S => itsA .zip [w, w2] S) h fun φ ρ S v φ1 H1 x S1 R sl e R1 l hp => ?_
  refine tI.next R sl e R1 hp fun u H2 φ2 y S2 e2 R2 l2 h2 => ?_
  have l1 := RpW.mono e2 R1 l.1
  have bad : itsA .zip [x, y] S2 = .bad → False := fun q => by rw [q] at h2; exact h2
  cases hx : x.seq S2 with
  | none => exact (bad (by unfold itsA; simp only [its, hx])).elim
  | some bd =>
    obtain ⟨b, ds⟩ := bd
    cases hy : y.seq S2 with
    | none => exact (bad (by unfold itsA; simp only [its, hx, hy])).elim
    | some bd' =>
      obtain ⟨b', es⟩ := bd'
      by_cases hb : b = b'
      · subst hb
        have q : itsA .zip [x, y] S2 = .ok ⟨(ds.zip es).map fun p => .tup [p.1, p.2], live1 x ds ++ live1 y es⟩ S2 := by
          unfold itsA
          simp only [its, hx, hy, if_pos]
        rw [q] at h2
        obtain ⟨a, vs, rfl, hq, hr⟩ := seq_rp R2 l1 hx
        obtain ⟨a', ws, rfl, hq', hr'⟩ := seq_rp R2 l2.1 hy
        rw [hK]
        refine ⟨a, a', vs, ws, rfl, ?_⟩
        cases b with
        | false =>
          refine .inl ⟨ifF hq, ifF hq', h2.ok (e.trans e2) R2 ?_⟩
          intro i φ' H' S' e' R' l'
          obtain ⟨lx, ly⟩ := live_app l'
          obtain ⟨c, vs', ec, hv, hrv⟩ := seq_rp R' (RpW.mono e' R2 l1) (seq_stay R2 l1 hx e' R' lx)
          cases ec
          obtain ⟨c, ws', ec, hw, hrw⟩ := seq_rp R' (RpW.mono e' R2 l2.1) (seq_stay R2 l2.1 hy e' R' ly)
          cases ec
          have hv := ifF hv
          have hw := ifF hw
          refine ⟨fun d hd => ?_, fun hi => ⟨vs', ws', hv, hw, ?_⟩⟩
          · obtain ⟨d1, d2, g1, g2, rfl⟩ := zip_get hd
            obtain ⟨v1, gv, rv⟩ := hrv.get g1
            obtain ⟨w1, gw, rw'⟩ := hrw.get g2
            refine ⟨⟨vs', ws', v1, w1, hv, hw, gv, gw⟩, fun x' H3 yd => ?_⟩
            obtain ⟨T, x1, y1, rfl, hT, rfl, f1, f2⟩ := yd
            have f1 := f1 vs' hv
            have f2 := f2 ws' hw
            rw [gv] at f1; cases f1
            rw [gw] at f2; cases f2
            exact rp_pair R' hT rv rw'
          · rw [← hrv.len, ← hrw.len]
            have hi : (((ds.zip es).map fun p => D.tup [p.1, p.2]).length) ≤ i := hi
            rw [List.length_map, List.length_zip] at hi
            omega
        | true =>
          refine .inr ⟨ifT hq, ifT hq', h2.ok (e.trans e2) R2 ?_⟩
          intro i φ' H' S' e' R' l'
          obtain ⟨lx, ly⟩ := live_app l'
          obtain ⟨c, vs', ec, hv, hrv⟩ := seq_rp R' (RpW.mono e' R2 l1) (seq_stay R2 l1 hx e' R' lx)
          cases ec
          obtain ⟨c, ws', ec, hw, hrw⟩ := seq_rp R' (RpW.mono e' R2 l2.1) (seq_stay R2 l2.1 hy e' R' ly)
          cases ec
          have hv := ifT hv
          have hw := ifT hw
          refine ⟨fun d hd => ?_, fun hi => ⟨vs', ws', hv, hw, ?_⟩⟩
          · obtain ⟨d1, d2, g1, g2, rfl⟩ := zip_get hd
            obtain ⟨v1, gv, rv⟩ := hrv.get g1
            obtain ⟨w1, gw, rw'⟩ := hrw.get g2
            refine ⟨⟨vs', ws', v1, w1, hv, hw, gv, gw⟩, fun x' H3 yd => ?_⟩
            obtain ⟨T, x1, y1, rfl, hT, rfl, f1, f2⟩ := yd
            have f1 := f1 vs' hv
            have f2 := f2 ws' hw
            rw [gv] at f1; cases f1
            rw [gw] at f2; cases f2
            exact rp_pair R' hT rv rw'
          · rw [← hrv.len, ← hrw.len]
            have hi : (((ds.zip es).map fun p => D.tup [p.1, p.2]).length) ≤ i := hi
            rw [List.length_map, List.length_zip] at hi
            omega
      · exact (bad (by unfold itsA; simp only [its, hx, hy, if_neg hb])).elim
theorem ki_enm {tpos : Pos} {elts : List Expr} {kk : Nat} (hg : Gl X "enumerate") (hm : X.mg "enumerate" = none) (he : PE X e (tK G Wx A)) (hK : X.K = G.K) (hs : starEach [e] X.env = [(false, eval e X.env)]) :
    PI X (.Tuple elts kk tpos) (.Call (.Name "enumerate" p) [e] [] pos) (tIts G Wx fun ρ S => (A ρ S).bd fun w S => itsA .enm [w] S) := by
  refine ⟨fun pins s σ H Rr I h => ?_⟩
  refine (pi_enum (p := p) (pos := pos) (tpos := tpos) (elts := elts) (kk := kk) hg hm (pa_cons he pa_nil hs) hs).run pins s σ H Rr I ?_
  refine tI.bd (F := fun w _ S => itsA .enm [w] S) h fun φ ρ S v φ1 H1 x S1 R sl e R1 l hp => ?_
  have bad : itsA .enm [x] S1 = .bad → False := fun q => by rw [q] at hp; exact hp
  cases hx : x.seq S1 with
  | none => exact (bad (by unfold itsA; simp only [its, hx])).elim
  | some bd =>
    obtain ⟨b, ds⟩ := bd
    cases b with
    | true => exact (bad (by unfold itsA; simp only [its, hx])).elim
    | false =>
      have q : itsA .enm [x] S1 = .ok ⟨ds.zipIdx.map fun q => .tup [.int q.2, q.1], live1 x ds⟩ S1 := by
        unfold itsA
        simp only [its, hx]
      rw [q] at hp
      obtain ⟨a, vs, rfl, hq, hr⟩ := seq_rp R1 l.1 hx
      rw [hK]
      refine ⟨a, vs, rfl, ifF hq, hp.ok e R1 ?_⟩
      intro i φ' H' S' e' R' l'
      obtain ⟨c, vs', ec, hv, hrv⟩ := seq_rp R' (RpW.mono e' R1 l.1) (seq_stay R1 l.1 hx e' R' l')
      cases ec
      have hv := ifF hv
      refine ⟨fun d hd => ?_, fun hi => ⟨vs', hv, ?_⟩⟩
      · have hd : (ds.zipIdx.map fun q => D.tup [.int q.2, q.1])[i]? = some d := hd
        rw [List.getElem?_map, List.getElem?_zipIdx] at hd
        cases g : ds[i]? with
        | none => rw [g] at hd; cases hd
        | some d1 =>
          rw [g] at hd
          cases hd
          obtain ⟨v1, gv, rv⟩ := hrv.get g
          refine ⟨⟨vs', v1, hv, gv⟩, fun x' H3 yd => ?_⟩
          obtain ⟨T, x1, rfl, hT, rfl, f1⟩ := yd
          have f1 := f1 vs' hv
          rw [gv] at f1; cases f1
          have := rp_pair (x := .int ((0 + i : Nat) : Int)) R' hT (by unfold Rp; rfl) rv
          simpa using this
      · have hi : (ds.zipIdx.map fun q => D.tup [.int q.2, q.1]).length ≤ i := hi
        rw [← hrv.len]
        simpa using hi
end
end Mi

/-! Mi, part E: targets, comprehensions, statements. -/
namespace Mi
open PySem L2 PyProof.Rows RT RZ

/-! ### targets -/
def gNames : List Nat → TGs
  | [] => gNil
  | i :: is => gCons (gName i) (gNames is)
def gTg (K : PySem.W.Frag) : Tg → TG
  | .nm i => gName i
  | .tp is => gTup K is.length (gNames is)
def Tg.slots : Tg → List Nat
  | .nm i => [i]
  | .tp is => is
theorem wipe_in {σ : L2.St} {i : Nat} : ∀ {vs : List Nat}, i ∈ vs → i < σ.length → (L2.wipe σ vs)[i]? = some none
  | [], h, _ => nomatch h
  | v :: vs, h, hl => by
    unfold L2.wipe
    by_cases e : v = i
    · subst e
      rw [List.getElem?_set_self (by rw [L2.wipe_length]; exact hl)]
    · rw [List.getElem?_set_ne e]
      rcases List.mem_cons.mp h with q | q
      · exact absurd q.symm e
      · exact wipe_in q hl
theorem wipe_eq {σ τ : L2.St} {vs : List Nat} (hl : σ.length = τ.length) (h : ∀ i, i ∉ vs → σ[i]? = τ[i]?) : L2.wipe σ vs = L2.wipe τ vs := by
  refine List.ext_getElem? fun i => ?_
  by_cases hi : i ∈ vs
  · by_cases hn : i < σ.length
    · rw [wipe_in hi hn, wipe_in hi (by rw [← hl]; exact hn)]
    · rw [List.getElem?_eq_none (by rw [L2.wipe_length]; omega), List.getElem?_eq_none (by rw [L2.wipe_length]; omega)]
  · rw [L2.wipe_out hi, L2.wipe_out hi]
    exact h i hi
section
variable {G : Gb} {φ : List Addr} {H : Hp} {S : Store} {ρ ρ' : Env} {σ : L2.St}
theorem Sl.wipe (h : Sl G φ H ρ σ) : ∀ vs : List Nat, Sl G φ H (wipeD ρ vs) (L2.wipe σ vs)
  | [] => h
  | v :: vs => (Sl.wipe h vs).unset v
/-- slots that may differ -/
def Near (is : List Nat) (σ τ : L2.St) : Prop := σ.length = τ.length ∧ ∀ i, i ∉ is → σ[i]? = τ[i]?
theorem Near.refl (is : List Nat) (σ : L2.St) : Near is σ σ := ⟨rfl, fun _ _ => rfl⟩
theorem Near.set {is : List Nat} {σ τ : L2.St} (h : Near is σ τ) {i : Nat} (hi : i ∈ is) (o : Option V) : Near is (σ.set i o) τ := ⟨by rw [List.length_set]; exact h.1, fun j hj => by
  have hne : i ≠ j := fun e => hj (by rw [← e]; exact hi)
  rw [List.getElem?_set_ne hne]
  exact h.2 j hj⟩
theorem names_im {τ : L2.St} {all : List Nat} {Q : L2.St → Hp → Prop} : ∀ {is : List Nat} {ds : List D} {vs : List V} {ρ ρ' : Env} {σ : L2.St}, bindTs is ds ρ = some ρ' → (∀ i ∈ is, i ∈ all) → Near all σ τ → Sl G φ H ρ σ → Rps G φ H ds vs →
    (∀ σ', Sl G φ H ρ' σ' → Near all σ' τ → Q σ' H) → gNames is vs σ H Q
  | [], [], vs, ρ, ρ', σ, h, _, n, sl, r, k => by
    unfold bindTs at h
    cases h
    unfold Rps at r
    exact ⟨r, k σ sl n⟩
  | [], d :: ds, vs, ρ, ρ', σ, h, _, n, sl, r, k => by
    unfold bindTs at h
    cases h
  | i :: is, [], vs, ρ, ρ', σ, h, _, n, sl, r, k => by
    unfold bindTs at h
    cases h
  | i :: is, d :: ds, vs, ρ, ρ', σ, h, m, n, sl, r, k => by
    unfold bindTs at h
    unfold Rps at r
    obtain ⟨v, rr, rfl, r1, r2⟩ := r
    exact ⟨v, rr, rfl, names_im h (fun j hj => m j (List.mem_cons_of_mem _ hj)) (n.set (m i List.mem_cons_self) _) (sl.set i r1) r2 k⟩
theorem bindTs_len : ∀ {is : List Nat} {ds : List D} {ρ ρ' : Env}, bindTs is ds ρ = some ρ' → is.length = ds.length
  | [], [], _, _, _ => rfl
  | [], _ :: _, _, _, h => by unfold bindTs at h; cases h
  | _ :: _, [], _, _, h => by unfold bindTs at h; cases h
  | i :: is, d :: ds, ρ, ρ', h => by
    unfold bindTs at h
    rw [List.length_cons, List.length_cons, bindTs_len h]
theorem tg_im {t : Tg} {d : D} {x : V} {Q : L2.St → Hp → Prop} (h : bindTg t d ρ = some ρ') (R : Rel G φ H S) (sl : Sl G φ H ρ σ) (r : Rp G φ H d x) (k : ∀ σ', Sl G φ H ρ' σ' → Near t.slots σ' σ → Q σ' H) : gTg G.K t x σ H Q := by
  cases t with
  | nm i =>
    cases h
    exact k _ (sl.set i r) ((Near.refl _ _).set (List.mem_singleton.mpr rfl) _)
  | tp is =>
    cases d with
    | tup ds =>
      have h : bindTs is ds ρ = some ρ' := h
      unfold Rp at r
      obtain ⟨a, vs, rfl, ha, hr⟩ := r
      exact ⟨a, vs, rfl, ha.sq, by rw [← hr.len, bindTs_len h], names_im h (fun _ m => m) (Near.refl _ _) sl hr k⟩
    | _ => cases h
end

/-! ### comprehensions -/
section
variable {G : Gb} {Wx : WX} {X : Cx}
def WxF : WX := fun _ _ _ _ => False
/-- a list of ours, known by no place, is changed -/
theorem own_keep {φ : List Addr} {H : Hp} {D : Addr} {vs : List V} {o : HO} (hD : H D = some (.lst vs)) : Keep φ H φ (upd H D o) := by
  refine ⟨fun _ _ h => h, fun a xs h => ?_, fun a o x h => ?_⟩
  · rw [upd_ne]
    · exact h
    · rintro rfl; rw [hD] at h; cases h
  · rw [upd_ne]
    · exact h
    · rintro rfl; rw [hD] at h; cases h
theorem own_rel {φ : List Addr} {H : Hp} {S : Store} {D : Addr} {vs : List V} {o : HO} (R : Rel G φ H S) (hD : H D = some (.lst vs)) (n : D ∉ φ) : Rel G φ (upd H D o) S :=
  ⟨R.len, R.nd, fun m a u h1 h2 => RpO.mono (own_keep hD) (R.obj m a u h1 h2) (upd_ne fun e => n (e ▸ List.mem_of_getElem? h1))⟩
theorem own_ext {φ φ1 : List Addr} {H H1 : Hp} {D : Addr} {o : HO} (e : Ext φ H φ1 H1) (hD : H D = none) : Ext φ H φ1 (upd H1 D o) :=
  ⟨e.pre, fun a u h n => by
    rw [upd_ne (ne_of_none h hD)]
    exact e.keep a u h n, e.new⟩
theorem Rps.snoc {φ : List Addr} {H : Hp} {d : D} {v : V} : ∀ {ds : List D} {vs : List V}, Rps G φ H ds vs → Rp G φ H d v → Rps G φ H (ds ++ [d]) (vs ++ [v])
  | [], _, h, r => by
    unfold Rps at h
    subst h
    show Rps G φ H [d] [v]
    unfold Rps
    refine ⟨v, [], rfl, r, ?_⟩
    unfold Rps
    rfl
  | e :: ds, _, h, r => by
    unfold Rps at h
    obtain ⟨w, t, rfl, h1, h2⟩ := h
    show Rps G φ H (e :: (ds ++ [d])) (w :: (t ++ [v]))
    unfold Rps
    exact ⟨w, t ++ [v], rfl, h1, Rps.snoc h2 r⟩

noncomputable def turnA (t : Tg) (own : List Nat) (TC : AX Bool) (AD : AX D) (ρ : Env) (d : D) (S : Store) : Mi.R (Option D) := match bindTg t d (wipeD ρ own) with
  | some ρ' => ((TC ρ' S).bd fun b S => if b = true then (AD ρ' S).bd fun d S => .ok (some d) S else .ok none S).nox
  | none => .bad
noncomputable def compA (t : Tg) (own : List Nat) (IA : AX Its) (TC : AX Bool) (AD : AX D) : AX W := fun ρ S => (IA ρ S).bd fun I S => (compL I.live (turnA t own TC AD ρ) I.items S []).bd fun ds S => .ok (.lis ds) S
theorem comp_im {t : Tg} {own : List Nat} {IA : AX Its} {TC : AX Bool} {AD : AX D} {σ : L2.St} {H : Hp} {Q : VK} (hown : ∀ i ∈ t.slots, i ∈ own) (h : tK G Wx (compA t own IA TC AD) σ H Q) :
    tLc (tIts G Wx IA) (gTg G.K t) (tBo G WxF TC) (tD G WxF AD) own σ H Q := by
  refine tI.bd (F := fun I ρ S => (compL I.live (turnA t own TC AD ρ) I.items S []).bd fun ds S => Mi.R.ok (W.lis ds) S) h fun φ ρ S J φ1 H1 I S1 R sl e R1 l h => ?_
  intro Da hDn
  have l : ItOk G J φ1 H1 I := l
  refine ⟨fun i m H' => m = I.items.length - i ∧ i ≤ I.items.length ∧ ∃ φ' S' acc vs, Ext φ1 H1 φ' H' ∧ Rel G φ' H' S' ∧ Sl G φ' H' ρ σ ∧ H' Da = some (.lst vs) ∧ Da ∉ φ' ∧ Rps G φ' H' acc vs ∧
    Post G (RlW G) φ H ((compL I.live (turnA t own TC AD ρ) (I.items.drop i) S' acc).bd fun ds S => .ok (.lis ds) S) (fun c d H' => Wx c d σ H') Q, ⟨I.items.length, by simp, Nat.zero_le _, ?_⟩, ?_⟩
  · have E := Ext.fresh R1 hDn (.lst [])
    refine ⟨φ1, S1, [], [], E, R1.fresh hDn _, (sl.mono (e.toKeep R)).mono (E.toKeep R1), upd_same, R1.unk hDn, by unfold Rps; rfl, ?_⟩
    simpa using h
  · rintro i m H' ⟨rfl, hi, φ', S', acc, vs, e', R', sl', hD, nD, ra, hp⟩
    by_cases hlt : i < I.items.length
    · have hdrop : I.items.drop i = I.items[i] :: I.items.drop (i + 1) := List.drop_eq_getElem_cons hlt
      rw [hdrop] at hp
      unfold compL at hp
      by_cases hL : isLive I.live S'
      · rw [if_pos hL] at hp
        obtain ⟨g1, _⟩ := l i φ' H' S' e' R' hL
        obtain ⟨go, gy⟩ := g1 _ (List.getElem?_eq_getElem hlt)
        refine .inr ⟨go, fun H'' => ∃ m', m' < I.items.length - i ∧ m' = I.items.length - (i + 1) ∧ i + 1 ≤ I.items.length ∧ ∃ φ' S' acc vs, Ext φ1 H1 φ' H'' ∧ Rel G φ' H'' S' ∧ Sl G φ' H'' ρ σ ∧ H'' Da = some (.lst vs) ∧ Da ∉ φ' ∧ Rps G φ' H'' acc vs ∧
          Post G (RlW G) φ H ((compL I.live (turnA t own TC AD ρ) (I.items.drop (i + 1)) S' acc).bd fun ds S => .ok (.lis ds) S) (fun c d H' => Wx c d σ H') Q, ?_, ?_⟩
        · rintro H'' ⟨m', hm, hw⟩
          exact ⟨m', hm, hw⟩
        · intro x H2 yd
          obtain ⟨e2, R2, r2⟩ := gy x H2 yd
          have hD2 : H2 Da = some (.lst vs) := e2.keep _ _ hD nD
          have ra2 := Rps.mono (e2.toKeep R') _ _ ra
          have sl2 := sl'.mono (e2.toKeep R')
          unfold turnA at hp
          cases hb : bindTg t I.items[i] (wipeD ρ own) with
          | none => simp only [hb] at hp; exact hp.elim
          | some ρ' =>
            simp only [hb] at hp
            refine tg_im hb R2 (sl2.wipe own) r2 fun σ2 slr nr => ⟨?_, ?_⟩
            · refine wipe_eq (by rw [nr.1, L2.wipe_length]) fun j hj => ?_
              rw [nr.2 j (fun q => hj (hown j q)), L2.wipe_out hj]
            · refine ⟨φ', ρ', S', R2, slr, ?_⟩
              cases hT : TC ρ' S' with
              | bad => rw [hT] at hp; exact hp.elim
              | ex c fs S2 => rw [hT] at hp; exact hp.elim
              | ok b S2 =>
                rw [hT] at hp
                intro b' H3 φ3 e3 R3 lb
                have lb : b = b' := lb
                subst lb
                have hD3 : H3 Da = some (.lst vs) := e3.keep _ _ hD2 nD
                have nD3 : Da ∉ φ3 := e3.out hD2 nD
                have ra3 := Rps.mono (e3.toKeep R2) _ _ ra2
                have sl3 := sl2.mono (e3.toKeep R2)
                cases b with
                | false =>
                  rw [if_neg Bool.false_ne_true]
                  refine ⟨I.items.length - (i + 1), by omega, rfl, hlt, φ3, S2, acc, vs, (e'.trans e2).trans e3, R3, sl3, hD3, nD3, ra3, ?_⟩
                  exact hp
                | true =>
                  rw [if_pos rfl]
                  have hp : Post G (RlW G) φ H (((((AD ρ' S2).bd fun d S => (.ok (some d) S : Mi.R (Option D))).nox).bd fun o S => match o with
                    | none => compL I.live (turnA t own TC AD ρ) (I.items.drop (i + 1)) S acc
                    | some e => if acc.length < sizeLine then compL I.live (turnA t own TC AD ρ) (I.items.drop (i + 1)) S (acc ++ [e]) else .bad).bd fun ds S => .ok (.lis ds) S) (fun c d H' => Wx c d σ H') Q := hp
                  refine ⟨φ3, ρ', S2, R3, slr.mono (e3.toKeep R2), ?_⟩
                  cases hA : AD ρ' S2 with
                  | bad => rw [hA] at hp; exact hp.elim
                  | ex c fs S3 => rw [hA] at hp; exact hp.elim
                  | ok d2 S3 =>
                    rw [hA] at hp
                    intro y H4 φ4 e4 R4 l4
                    have hp : Post G (RlW G) φ H ((if acc.length < sizeLine then compL I.live (turnA t own TC AD ρ) (I.items.drop (i + 1)) S3 (acc ++ [d2]) else .bad).bd fun ds S => .ok (.lis ds) S) (fun c d H' => Wx c d σ H') Q := hp
                    have hD4 : H4 Da = some (.lst vs) := e4.keep _ _ hD3 nD3
                    have nD4 : Da ∉ φ4 := e4.out hD3 nD3
                    have ra4 := Rps.mono (e4.toKeep R3) _ _ ra3
                    have sl4 := sl3.mono (e4.toKeep R3)
                    by_cases hz : acc.length < sizeLine
                    · rw [if_pos hz] at hp
                      have k := own_keep (φ := φ4) (o := .lst (vs ++ [y])) hD4
                      refine ⟨vs, hD4, by rw [← ra4.len]; exact hz, I.items.length - (i + 1), by omega, rfl, hlt, φ4, S3, acc ++ [d2], vs ++ [y], own_ext (((e'.trans e2).trans e3).trans e4) hDn, own_rel R4 hD4 nD4, sl4.mono k, upd_same, nD4, Rps.mono k _ _ (ra4.snoc l4), hp⟩
                    · rw [if_neg hz] at hp
                      exact hp.elim
      · rw [if_neg hL] at hp
        exact hp.elim
    · have hn : i = I.items.length := by omega
      subst hn
      rw [List.drop_length] at hp
      unfold compL at hp
      by_cases hL : isLive I.live S'
      · rw [if_pos hL] at hp
        obtain ⟨_, g2⟩ := l _ φ' H' S' e' R' hL
        refine .inl ⟨g2 (Nat.le_refl _), ?_⟩
        refine Post.ok (L := RlW G) (a := W.lis acc) (S' := S') hp (e.trans e') R' ⟨⟨Da, vs, rfl, hD, nD, ra⟩, fun ds a e1 e2 => ?_⟩
        cases e2
        exact e.fr R1 _ hDn
      · rw [if_neg hL] at hp
        exact hp.elim
theorem k_comp {elt tg iter : Expr} {ifs : List Expr} {scope : Scope} {own : List (Str × Nat)} {pos : Pos} {t : Tg} {IA : AX Its} {TC : AX Bool} {AD : AX D} (hc : X.calm = true) (hN : X.N.Nodup) (hi : PI X tg iter (tIts G Wx IA)) (ok : BlkOk X.N X.env.scope scope own)
    (hg : ∀ (s : Shared) (H : Hp) (C : Addr) (cl : List (Str × Addr)) (fp : List Addr), PG (X.blk s H scope (compEnvC scope cl C X.env) fp) tg (gTg G.K t)) (ht : ∀ (s : Shared) (H : Hp) (C : Addr) (cl : List (Str × Addr)) (fp : List Addr), PTs (X.blk s H scope (compEnvC scope cl C X.env) fp) ifs (tBo G WxF TC))
    (he : ∀ (s : Shared) (H : Hp) (C : Addr) (cl : List (Str × Addr)) (fp : List Addr), PE (X.blk s H scope (compEnvC scope cl C X.env) fp) elt (tD G WxF AD)) (hs : ∀ x, foldedSetIterable iter X.env x = pure x) (hown : ∀ i ∈ t.slots, i ∈ own.map (·.2)) :
    PE X (.ListComp elt [⟨tg, iter, ifs, 0⟩] scope pos) (tK G Wx (compA t (own.map (·.2)) IA TC AD)) := (pe_lc hc hN hi ok hg ht he hs).im fun _ _ _ q => comp_im hown q
theorem kt_nil {X : Cx} : PTs X [] (tBo G Wx fun _ S => .ok true S) := ⟨fun pins s σ H Q I h => pts_nil.run pins s σ H Q I (by
  obtain ⟨φ, ρ, S, R, sl, h⟩ := h
  exact Post.ok (L := RlB) h (Ext.refl _ _) R rfl)⟩
theorem kt_one {X : Cx} {c : Expr} {TA : AX Bool} (h : PT X c (tBo G Wx TA)) : PTs X [c] (tBo G Wx TA) := pts_one h
end

/-! ### statements -/
section
variable (G : Gb) (Wx : WX)
def PostS (φ : List Addr) (H : Hp) (r : RS) (D : Ends) : Prop := match r with
  | .ok .nx ρ S => ∀ σ' H' φ', Ext φ H φ' H' → Rel G φ' H' S → Sl G φ' H' ρ σ' → D.nx σ' H'
  | .ok .brk ρ S => ∀ σ' H' φ', Ext φ H φ' H' → Rel G φ' H' S → Sl G φ' H' ρ σ' → D.bk σ' H'
  | .ok .cnt ρ S => ∀ σ' H' φ', Ext φ H φ' H' → Rel G φ' H' S → Sl G φ' H' ρ σ' → D.ct σ' H'
  | .ok (.rt d) ρ S => ∀ v H' φ', Ext φ H φ' H' → Rel G φ' H' S → Rp G φ' H' d v → D.rt v H'
  | .ex c fs ρ S => ∀ cls dx σ' H' φ', Ext φ H φ' H' → Rel G φ' H' S → Sl G φ' H' ρ σ' → RpX G φ' H' c fs cls dx → Wx cls dx σ' H'
  | .bad => False
abbrev AS := Env → Store → RS
def tS (A : AS) : TS := fun D σ H => ∃ φ ρ S, Rel G φ H S ∧ Sl G φ H ρ σ ∧ PostS G Wx φ H (A ρ S) D
end
section
variable {G : Gb} {Wx : WX} {X : Cx} {α β : Type} {D : Ends} {σ : L2.St} {H : Hp}
theorem PostS.sh {φ φ1 : List Addr} {H1 : Hp} {S1 : Store} {r : RS} (h : PostS G Wx φ H r D) (e : Ext φ H φ1 H1) : PostS G Wx φ1 H1 r D := by
  cases r with
  | ok f ρ S =>
    cases f with
    | nx => exact fun σ' H' φ' e' => h σ' H' φ' (e.trans e')
    | brk => exact fun σ' H' φ' e' => h σ' H' φ' (e.trans e')
    | cnt => exact fun σ' H' φ' e' => h σ' H' φ' (e.trans e')
    | rt d => exact fun v H' φ' e' => h v H' φ' (e.trans e')
  | ex c fs ρ S => exact fun cls dx σ' H' φ' e' => h cls dx σ' H' φ' (e.trans e')
  | bad => exact h
/-- from a place behind the start on -/
theorem tS.next {L : Rl α β} {A : AX α} {F : α → Store → RS} {H1 : Hp} {Q' : β → Hp → Prop} {φ φ1 : List Addr} {ρ : Env} {S S1 : Store} (R : Rel G φ H S) (sl : Sl G φ H ρ σ) (e : Ext φ H φ1 H1) (R1 : Rel G φ1 H1 S1)
    (h : PostS G Wx φ H ((A ρ S1).st ρ F) D)
    (k : ∀ b H2 φ2 x S2, Ext φ1 H1 φ2 H2 → Rel G φ2 H2 S2 → L H1 φ2 H2 x b → PostS G Wx φ H (F x S2) D → Q' b H2) : tI G Wx L A σ H1 Q' := by
  refine ⟨φ1, ρ, S1, R1, sl.mono (e.toKeep R), ?_⟩
  cases q : A ρ S1 with
  | ok x S2 => exact fun b H2 φ2 e2 R2 l => k b H2 φ2 x S2 e2 R2 l (by rw [q] at h; exact h)
  | ex c fs S2 =>
    rw [q] at h
    exact fun cls dx H2 φ2 e2 R2 x => h cls dx σ H2 φ2 (e.trans e2) R2 (sl.mono ((e.trans e2).toKeep R)) x
  | bad =>
    rw [q] at h
    exact h
theorem tS.bd {L : Rl α β} {A : AX α} {F : α → Env → Store → RS} {Q' : β → Hp → Prop} (h : tS G Wx (fun ρ S => (A ρ S).st ρ fun x S => F x ρ S) D σ H)
    (k : ∀ φ ρ S b φ1 H1 x S1, Rel G φ H S → Sl G φ H ρ σ → Ext φ H φ1 H1 → Rel G φ1 H1 S1 → L H φ1 H1 x b → PostS G Wx φ H (F x ρ S1) D → Q' b H1) : tI G Wx L A σ H Q' := by
  obtain ⟨φ, ρ, S, R, sl, h⟩ := h
  exact tS.next R sl (Ext.refl _ _) R h fun b H1 φ1 x S1 e R1 l h1 => k φ ρ S b φ1 H1 x S1 R sl e R1 l h1
theorem tS.go {A : AS} {H1 : Hp} {φ φ1 : List Addr} {ρ : Env} {S1 : Store} {σ1 : L2.St} (e : Ext φ H φ1 H1) (R1 : Rel G φ1 H1 S1) (sl : Sl G φ1 H1 ρ σ1) (h : PostS G Wx φ H (A ρ S1) D) : tS G Wx A D σ1 H1 := ⟨φ1, ρ, S1, R1, sl, h.sh (S1 := S1) e⟩
theorem _root_.L2.PS.im {st : Stmt} {t t' : TS} (h : PS X st t) (hi : ∀ D σ H, t' D σ H → t D σ H) : PS X st t' := ⟨fun pins s σ H D I q => h.run pins s σ H D I (hi _ _ _ q)⟩
theorem _root_.L2.PSs.im {st : List Stmt} {t t' : TS} (h : PSs X st t) (hi : ∀ D σ H, t' D σ H → t D σ H) : PSs X st t' := ⟨fun pins s σ H D I q => h.run pins s σ H D I (hi _ _ _ q)⟩

variable {A : AX W} {AD : AX Mi.D} {TA : AX Bool} {A1 A2 : AS} {e : Expr} {pos : Pos}
noncomputable def setA (t : Tg) (AD : AX Mi.D) : AS := fun ρ S => (AD ρ S).st ρ fun d S => match bindTg t d ρ with
  | some ρ => .ok .nx ρ S
  | none => .bad
theorem set_post {t : Tg} {φ φ1 : List Addr} {H1 : Hp} {ρ : Env} {S1 : Store} {d : Mi.D} {v : V} (e : Ext φ H φ1 H1) (R1 : Rel G φ1 H1 S1) (sl : Sl G φ1 H1 ρ σ) (r : Rp G φ1 H1 d v)
    (h : PostS G Wx φ H (match bindTg t d ρ with | some ρ => .ok .nx ρ S1 | none => .bad) D) : gTg G.K t v σ H1 D.nx := by
  cases q : bindTg t d ρ with
  | none => rw [q] at h; exact h.elim
  | some ρ' =>
    rw [q] at h
    exact tg_im q R1 sl r fun σ' sl' _ => h σ' H1 φ1 e R1 sl'
theorem set_im {t : Tg} (h : tS G Wx (setA t AD) D σ H) : tAsg (tD G Wx AD) (gTg G.K t) D σ H :=
  tS.bd (F := fun d ρ S => match bindTg t d ρ with | some ρ => .ok .nx ρ S | none => .bad) h fun φ ρ S v φ1 H1 d S1 R sl e R1 l h1 => set_post e R1 (sl.mono (e.toKeep R)) l h1
theorem set_imK {t : Tg} (h : tS G Wx (setA t fun ρ S => (A ρ S).bd toD) D σ H) : tK G Wx A σ H fun x H1 => gTg G.K t x σ H1 D.nx := by
  obtain ⟨φ, ρ, S, R, sl, h⟩ := h
  unfold setA at h
  dsimp only at h
  refine ⟨φ, ρ, S, R, sl, ?_⟩
  cases q : A ρ S with
  | bad => rw [q] at h; exact h
  | ex c fs S1 =>
    rw [q] at h
    exact fun cls dx H2 φ2 e2 R2 x => h cls dx σ H2 φ2 e2 R2 (sl.mono (e2.toKeep R)) x
  | ok w S1 =>
    rw [q] at h
    intro v H1 φ1 e R1 l
    refine toD_post (xk := fun c d H' => Wx c d σ H') (Q := fun x H1 => gTg G.K t x σ H1 D.nx) e R1 l ?_
    have h : PostS G Wx φ H ((toD w S1).st ρ fun d S => match bindTg t d ρ with | some ρ => .ok .nx ρ S | none => .bad) D := h
    cases w with
    | val d => exact fun u H2 φ2 e2 R2 l2 => set_post e2 R2 (sl.mono (e2.toKeep R)) l2 h
    | lis ds => exact fun u H2 φ2 e2 R2 l2 => set_post e2 R2 (sl.mono (e2.toKeep R)) l2 h
/-- an expression alone -/
theorem exp_im (h : tS G Wx (fun ρ S => (A ρ S).st ρ fun _ S => .ok .nx ρ S) D σ H) : tDrop (tK G Wx A) D σ H :=
  tS.bd (F := fun _ ρ S => .ok .nx ρ S) h fun φ ρ S v φ1 H1 x S1 R sl e R1 l h1 => h1 σ H1 φ1 e R1 (sl.mono (e.toKeep R))
theorem ret_im (h : tS G Wx (fun ρ S => (AD ρ S).st ρ fun d S => .ok (.rt d) ρ S) D σ H) : tRet (tD G Wx AD) D σ H :=
  tS.bd (F := fun d ρ S => .ok (.rt d) ρ S) h fun φ ρ S v φ1 H1 x S1 R sl e R1 l h1 => h1 v H1 φ1 e R1 l
theorem iff_im (h : tS G Wx (fun ρ S => (TA ρ S).st ρ fun k S => if k = true then A1 ρ S else A2 ρ S) D σ H) : tIfS (tBo G Wx TA) (tS G Wx A1) (tS G Wx A2) D σ H :=
  tS.bd (F := fun k ρ S => if k = true then A1 ρ S else A2 ρ S) h fun φ ρ S b φ1 H1 x S1 R sl e R1 l h1 => by
    have l : x = b := l
    subst l
    cases x with
    | true => exact (if_pos rfl).mpr (tS.go e R1 (sl.mono (e.toKeep R)) h1)
    | false => exact (if_neg Bool.false_ne_true).mpr (tS.go e R1 (sl.mono (e.toKeep R)) h1)
theorem k_if {c : Expr} {a b : List Stmt} (hc : PT X c (tBo G Wx TA)) (ha : PSs X a (tS G Wx A1)) (hb : PSs X b (tS G Wx A2)) : PS X (.If c a b pos) (tS G Wx fun ρ S => (TA ρ S).st ρ fun k S => if k = true then A1 ρ S else A2 ρ S) := (ps_if hc ha hb).im fun _ _ _ => iff_im
theorem k_ret (h : PE X e (tD G Wx AD)) : PS X (.Return (some e) pos) (tS G Wx fun ρ S => (AD ρ S).st ρ fun d S => .ok (.rt d) ρ S) := (ps_ret h).im fun _ _ _ => ret_im
theorem k_exp (h : PE X e (tK G Wx A)) (hs : swapsWith e none pos.line X.env = pure false) : PS X (.Expr e pos) (tS G Wx fun ρ S => (A ρ S).st ρ fun _ S => .ok .nx ρ S) := (ps_expr h hs).im fun _ _ _ => exp_im
theorem k_nil : PSs X [] (tS G Wx fun ρ S => .ok .nx ρ S) := pss_nil.im fun D σ H ⟨φ, ρ, S, R, sl, h⟩ => h σ H φ (Ext.refl _ _) R sl
theorem k_pass : PS X (.Pass pos) (tS G Wx fun ρ S => .ok .nx ρ S) := ps_pass.im fun D σ H ⟨φ, ρ, S, R, sl, h⟩ => h σ H φ (Ext.refl _ _) R sl
theorem k_brk : PS X (.Break pos) (tS G Wx fun ρ S => .ok .brk ρ S) := ps_break.im fun D σ H ⟨φ, ρ, S, R, sl, h⟩ => h σ H φ (Ext.refl _ _) R sl
theorem k_cnt : PS X (.Continue pos) (tS G Wx fun ρ S => .ok .cnt ρ S) := ps_continue.im fun D σ H ⟨φ, ρ, S, R, sl, h⟩ => h σ H φ (Ext.refl _ _) R sl
theorem k_doc {x : Str} {j : Nat} {p2 : Pos} : PS X (.Expr (.Constant (.str x) j pos) p2) (tS G Wx fun ρ S => .ok .nx ρ S) := ps_doc.im fun D σ H ⟨φ, ρ, S, R, sl, h⟩ => h σ H φ (Ext.refl _ _) R sl
theorem seq_im (h : tS G Wx (fun ρ S => (A1 ρ S).sq fun ρ S => A2 ρ S) D σ H) : tSeq (tS G Wx A1) (tS G Wx A2) D σ H := by
  obtain ⟨φ, ρ, S, R, sl, h⟩ := h
  dsimp only at h
  refine ⟨φ, ρ, S, R, sl, ?_⟩
  cases q : A1 ρ S with
  | bad => rw [q] at h; exact h
  | ex c fs ρ S => rw [q] at h; exact h
  | ok f ρ1 S1 =>
    rw [q] at h
    cases f with
    | nx => exact fun σ' H' φ' e R' sl' => tS.go e R' sl' h
    | brk => exact h
    | cnt => exact h
    | rt d => exact h
theorem k_cons {st : Stmt} {rest : List Stmt} (h1 : PS X st (tS G Wx A1)) (h2 : PSs X rest (tS G Wx A2)) : PSs X (st :: rest) (tS G Wx fun ρ S => (A1 ρ S).sq fun ρ S => A2 ρ S) := (pss_cons h1 h2).im fun _ _ _ => seq_im

/-! ### for -/
noncomputable def bodyA (t : Tg) (A1 : AS) : Mi.D → AS := fun d ρ S => match bindTg t d ρ with
  | some ρ => A1 ρ S
  | none => .bad
theorem for_im {t : Tg} {IA : AX Its} (h : tS G Wx (fun ρ S => (IA ρ S).st ρ fun I S => forL I.live (bodyA t A1) I.items ρ S) D σ H) : tFor (tIts G Wx IA) (gTg G.K t) (tS G Wx A1) D σ H := by
  refine tS.bd (F := fun I ρ S => forL I.live (bodyA t A1) I.items ρ S) h fun φ ρ S J φ1 H1 I S1 R sl e R1 l h => ?_
  have l : ItOk G J φ1 H1 I := l
  refine ⟨fun i m σ' H' => m = I.items.length - i ∧ i ≤ I.items.length ∧ ∃ φ' ρ' S', Ext φ1 H1 φ' H' ∧ Rel G φ' H' S' ∧ Sl G φ' H' ρ' σ' ∧ PostS G Wx φ H (forL I.live (bodyA t A1) (I.items.drop i) ρ' S') D,
    ⟨I.items.length, by simp, Nat.zero_le _, φ1, ρ, S1, Ext.refl _ _, R1, sl.mono (e.toKeep R), by simpa using h⟩, ?_⟩
  rintro i m σ' H' ⟨rfl, hi, φ', ρ', S', e', R', sl', hp⟩
  by_cases hlt : i < I.items.length
  · rw [List.drop_eq_getElem_cons hlt] at hp
    unfold forL at hp
    by_cases hL : isLive I.live S'
    · rw [if_pos hL] at hp
      obtain ⟨g1, _⟩ := l i φ' H' S' e' R' hL
      obtain ⟨go, gy⟩ := g1 _ (List.getElem?_eq_getElem hlt)
      refine .inr ⟨go, fun σ'' H'' => ∃ m', m' < I.items.length - i ∧ m' = I.items.length - (i + 1) ∧ i + 1 ≤ I.items.length ∧ ∃ φ' ρ' S', Ext φ1 H1 φ' H'' ∧ Rel G φ' H'' S' ∧ Sl G φ' H'' ρ' σ'' ∧
        PostS G Wx φ H (forL I.live (bodyA t A1) (I.items.drop (i + 1)) ρ' S') D, fun σ'' H'' ⟨m', hm, hw⟩ => ⟨m', hm, hw⟩, fun x H2 yd => ?_⟩
      obtain ⟨e2, R2, r2⟩ := gy x H2 yd
      have sl2 := sl'.mono (e2.toKeep R')
      unfold bodyA at hp
      cases hb : bindTg t I.items[i] ρ' with
      | none => simp only [hb] at hp; exact hp.elim
      | some ρ2 =>
        simp only [hb] at hp
        refine tg_im hb R2 sl2 r2 fun σ2 slr _ => ⟨φ', ρ2, S', R2, slr, ?_⟩
        have e12 := e'.trans e2
        have e02 := (e.trans e12)
        cases hA : A1 ρ2 S' with
        | bad => rw [hA] at hp; exact hp
        | ex c fs ρ3 S3 =>
          rw [hA] at hp
          exact fun cls dx σ3 H3 φ3 e3 R3 sl3 x3 => hp cls dx σ3 H3 φ3 (e02.trans e3) R3 sl3 x3
        | ok f ρ3 S3 =>
          rw [hA] at hp
          cases f with
          | nx => exact fun σ3 H3 φ3 e3 R3 sl3 => ⟨I.items.length - (i + 1), by omega, rfl, hlt, φ3, ρ3, S3, e12.trans e3, R3, sl3, hp⟩
          | cnt => exact fun σ3 H3 φ3 e3 R3 sl3 => ⟨I.items.length - (i + 1), by omega, rfl, hlt, φ3, ρ3, S3, e12.trans e3, R3, sl3, hp⟩
          | brk => exact fun σ3 H3 φ3 e3 R3 sl3 => hp σ3 H3 φ3 (e02.trans e3) R3 sl3
          | rt d => exact fun v H3 φ3 e3 R3 l3 => hp v H3 φ3 (e02.trans e3) R3 l3
    · rw [if_neg hL] at hp
      exact hp.elim
  · have hn : i = I.items.length := by omega
    subst hn
    rw [List.drop_length] at hp
    unfold forL at hp
    by_cases hL : isLive I.live S'
    · rw [if_pos hL] at hp
      obtain ⟨_, g2⟩ := l _ φ' H' S' e' R' hL
      exact .inl ⟨g2 (Nat.le_refl _), hp σ' H' φ' (e.trans e') R' sl'⟩
    · rw [if_neg hL] at hp
      exact hp.elim
theorem k_for {tg iter : Expr} {body : List Stmt} {t : Tg} {IA : AX Its} (hp : PassesOwn (model X.prog X.w) X.A X.env X.xe) (hc : X.calm = true) (hi : PI X tg iter (tIts G Wx IA)) (hg : PG X tg (gTg G.K t)) (hb : PSs X body (tS G Wx A1)) (hs : ∀ x, foldedSetIterable iter X.env x = pure x) :
    PS X (.For tg iter body [] pos) (tS G Wx fun ρ S => (IA ρ S).st ρ fun I S => forL I.live (bodyA t A1) I.items ρ S) := (ps_for hp hc hi hg hb hs).im fun _ _ _ => for_im

/-! ### while -/
theorem whileF_mono {c : AX Bool} {b : AS} : ∀ {n : Nat} {ρ : Env} {S : Store} {r : RS} (k : Nat), whileF c b n ρ S = some r → whileF c b (n + k) ρ S = some r
  | 0, _, _, _, _, h => by unfold whileF at h; cases h
  | n + 1, ρ, S, r, k, h => by
    rw [Nat.add_right_comm]
    unfold whileF at h ⊢
    cases q : c ρ S with
    | bad => simp only [q] at h ⊢; exact h
    | ex c fs S => simp only [q] at h ⊢; exact h
    | ok t S1 =>
      simp only [q] at h ⊢
      cases t with
      | false => exact h
      | true =>
        dsimp only at h ⊢
        cases q2 : b ρ S1 with
        | bad => simp only [q2] at h ⊢; exact h
        | ex c fs ρ S => simp only [q2] at h ⊢; exact h
        | ok f ρ2 S2 =>
          simp only [q2] at h ⊢
          cases f with
          | nx => exact whileF_mono k h
          | cnt => exact whileF_mono k h
          | brk => exact h
          | rt d => exact h
theorem whileR_of {c : AX Bool} {b : AS} {n : Nat} {ρ : Env} {S : Store} {r : RS} (h : whileF c b n ρ S = some r) : whileR c b ρ S = r := by
  unfold whileR
  have ex : ∃ r n, whileF c b n ρ S = some r := ⟨r, n, h⟩
  rw [dif_pos ex]
  obtain ⟨m, hm⟩ := Classical.choose_spec ex
  have h1 := whileF_mono m h
  have h2 := whileF_mono n hm
  rw [Nat.add_comm m n] at h2
  rw [h1] at h2
  exact (Option.some.inj h2).symm
theorem whileR_fuel {c : AX Bool} {b : AS} {ρ : Env} {S : Store} (h : whileR c b ρ S ≠ .bad) : ∃ n, whileF c b n ρ S = some (whileR c b ρ S) := by
  by_cases ex : ∃ r n, whileF c b n ρ S = some r
  · obtain ⟨r, n, hn⟩ := ex
    exact ⟨n, by rw [whileR_of hn]; exact hn⟩
  · unfold whileR at h
    rw [dif_neg ex] at h
    exact absurd rfl h
theorem whl_im (h : tS G Wx (fun ρ S => whileR TA A1 ρ S) D σ H) : tWhile (tBo G Wx TA) (tS G Wx A1) D σ H := by
  obtain ⟨φ, ρ, S, R, sl, h⟩ := h
  dsimp only at h
  have nb : whileR TA A1 ρ S ≠ .bad := fun q => by rw [q] at h; exact h
  obtain ⟨n, hn⟩ := whileR_fuel nb
  refine ⟨fun m σ' H' => ∃ φ' ρ' S', Ext φ H φ' H' ∧ Rel G φ' H' S' ∧ Sl G φ' H' ρ' σ' ∧ whileF TA A1 m ρ' S' = some (whileR TA A1 ρ S), ⟨n, φ, ρ, S, Ext.refl _ _, R, sl, hn⟩, ?_⟩
  rintro m σ' H' ⟨φ', ρ', S', e', R', sl', hm⟩
  cases m with
  | zero => unfold whileF at hm; cases hm
  | succ m =>
    unfold whileF at hm
    refine ⟨φ', ρ', S', R', sl', ?_⟩
    cases q : TA ρ' S' with
    | bad =>
      rw [q] at hm
      exact absurd (Option.some.inj hm).symm nb
    | ex c fs S1 =>
      rw [q] at hm
      have hm := (Option.some.inj hm)
      rw [← hm] at h
      exact fun cls dx H2 φ2 e2 R2 x => h cls dx σ' H2 φ2 (e'.trans e2) R2 (sl'.mono (e2.toKeep R')) x
    | ok t S1 =>
      rw [q] at hm
      intro b H2 φ2 e2 R2 lb
      have lb : t = b := lb
      subst lb
      have sl2 := sl'.mono (e2.toKeep R')
      cases t with
      | false =>
        have hm := Option.some.inj hm
        rw [← hm] at h
        exact (if_neg Bool.false_ne_true).mpr (h σ' H2 φ2 (e'.trans e2) R2 sl2)
      | true =>
        refine (if_pos rfl).mpr ⟨fun σ'' H'' => ∃ φ' ρ' S', Ext φ H φ' H'' ∧ Rel G φ' H'' S' ∧ Sl G φ' H'' ρ' σ'' ∧ whileF TA A1 m ρ' S' = some (whileR TA A1 ρ S), fun σ'' H'' hw => ⟨m, Nat.lt_succ_self _, hw⟩, φ2, ρ', S1, R2, sl2, ?_⟩
        dsimp only at hm
        cases qb : A1 ρ' S1 with
        | bad =>
          rw [qb] at hm
          exact absurd (Option.some.inj hm).symm nb
        | ex c fs ρ3 S3 =>
          rw [qb] at hm
          have hm := Option.some.inj hm
          rw [← hm] at h
          exact fun cls dx σ3 H3 φ3 e3 R3 sl3 x => h cls dx σ3 H3 φ3 ((e'.trans e2).trans e3) R3 sl3 x
        | ok f ρ3 S3 =>
          rw [qb] at hm
          cases f with
          | nx => exact fun σ3 H3 φ3 e3 R3 sl3 => ⟨φ3, ρ3, S3, (e'.trans e2).trans e3, R3, sl3, hm⟩
          | cnt => exact fun σ3 H3 φ3 e3 R3 sl3 => ⟨φ3, ρ3, S3, (e'.trans e2).trans e3, R3, sl3, hm⟩
          | brk =>
            have hm := Option.some.inj hm
            rw [← hm] at h
            exact fun σ3 H3 φ3 e3 R3 sl3 => h σ3 H3 φ3 ((e'.trans e2).trans e3) R3 sl3
          | rt d =>
            have hm := Option.some.inj hm
            rw [← hm] at h
            exact fun v H3 φ3 e3 R3 l3 => h v H3 φ3 ((e'.trans e2).trans e3) R3 l3
theorem k_whl {c : Expr} {body : List Stmt} (hp : PassesOwn (model X.prog X.w) X.A X.env X.xe) (hc : PT X c (tBo G Wx TA)) (hb : PSs X body (tS G Wx A1)) : PS X (.While c body [] pos) (tS G Wx fun ρ S => whileR TA A1 ρ S) := (ps_while hp hc hb).im fun _ _ _ => whl_im

/-! ### name += e -/
theorem aug_im {i : Nat} {o : P2} {f : Int → Int → Int} (hf : ∀ x y d, augV o x y = some d → ∃ a b, x = .int a ∧ y = .val (.int b) ∧ d = .int (f a b)) (h : tS G Wx (fun ρ S => match ρ[i]? with
    | some (some x) => (A ρ S).st ρ fun y S => match augV o x y with
      | some d => .ok .nx (ρ.set i (some d)) S
      | none => .bad
    | _ => .bad) D σ H) : tAug i (tK G Wx A) (ipI f) D σ H := by
  obtain ⟨φ, ρ, S, R, sl, h⟩ := h
  dsimp only at h
  cases q : ρ[i]? with
  | none => simp only [q] at h; exact h.elim
  | some oo =>
    cases oo with
    | none => simp only [q] at h; exact h.elim
    | some x =>
      simp only [q] at h
      obtain ⟨v, hv, rv⟩ := sl.2 i x q
      refine ⟨v, hv, tS.next (L := RlW G) (F := fun y S => match augV o x y with
        | some d => .ok .nx (ρ.set i (some d)) S
        | none => .bad) R sl (Ext.refl _ _) R h fun u H1 φ1 y S1 e R1 l h1 => ?_⟩
      cases qq : augV o x y with
      | none => simp only [qq] at h1; exact h1.elim
      | some d =>
        simp only [qq] at h1
        obtain ⟨a, b, rfl, rfl, rfl⟩ := hf x y d qq
        unfold Rp at rv
        have ru := rp_int l.1
        exact ⟨a, b, rv, ru, h1 _ H1 φ1 e R1 ((sl.mono (e.toKeep R)).set i (by unfold Rp; rfl))⟩
theorem augAdd : ∀ x y d, augV .add x y = some d → ∃ a b, x = .int a ∧ y = .val (.int b) ∧ d = .int (a + b) := by
  intro x y d h
  unfold augV at h
  split at h
  · cases h; exact ⟨_, _, rfl, rfl, rfl⟩
  · exact absurd ‹P2.add = P2.sub› (by decide)
  · cases h
theorem augSub : ∀ x y d, augV .sub x y = some d → ∃ a b, x = .int a ∧ y = .val (.int b) ∧ d = .int (a - b) := by
  intro x y d h
  unfold augV at h
  split at h
  · exact absurd ‹P2.sub = P2.add› (by decide)
  · cases h; exact ⟨_, _, rfl, rfl, rfl⟩
  · cases h
end
end Mi

/-! Mi, part F: operations by values. -/
namespace Mi
open PySem L2 PyProof.Rows RT RZ

/-! ### data -/
section
variable {α β : Type} {f : α → Option β}
theorem mapO_cons {a : α} {r : List α} {l : List β} (h : mapO f (a :: r) = some l) : ∃ b bs, f a = some b ∧ mapO f r = some bs ∧ l = b :: bs := by
  unfold mapO at h
  cases q : f a with
  | none => simp only [q] at h; cases h
  | some b =>
    cases q2 : mapO f r with
    | none => simp only [q, q2] at h; cases h
    | some bs => simp only [q, q2] at h; cases h; exact ⟨b, bs, rfl, rfl, rfl⟩
theorem mapO_nil {l : List β} (h : mapO f [] = some l) : l = [] := by
  unfold mapO at h
  cases h; rfl
end
theorem toPy_ok {S : Store} : ∀ {n : Nat} {d : D} {y : PyData}, toPy S n d = some y → y.plain = true ∧ y.depth ≤ n
  | 0, _, _, h => by unfold toPy at h; cases h
  | n + 1, d, y, h => by
    have lst : ∀ (ds : List D) (ys : List PyData), mapO (toPy S n) ds = some ys → PyData.plainAll ys = true ∧ PyData.depthAll ys ≤ n := by
      intro ds
      induction ds with
      | nil => intro ys h; rw [mapO_nil h]; exact ⟨rfl, Nat.zero_le _⟩
      | cons d ds ih =>
        intro ys h
        obtain ⟨b, bs, h1, h2, rfl⟩ := mapO_cons h
        obtain ⟨i1, i2⟩ := toPy_ok h1
        obtain ⟨j1, j2⟩ := ih bs h2
        refine ⟨?_, ?_⟩
        · rw [PyData.plainAll, i1, j1]; rfl
        · rw [PyData.depthAll]; omega
    unfold toPy at h
    cases d with
    | non => cases h; exact ⟨rfl, by rw [PyData.depth]; omega⟩
    | bl b => cases h; exact ⟨rfl, by rw [PyData.depth]; omega⟩
    | int b => cases h; exact ⟨rfl, by rw [PyData.depth]; omega⟩
    | str b => cases h; exact ⟨rfl, by rw [PyData.depth]; omega⟩
    | tup ds =>
      obtain ⟨ys, h1, rfl⟩ := Option.map_eq_some_iff.mp h
      obtain ⟨h1, h2⟩ := lst ds ys h1
      exact ⟨by rw [PyData.plain]; exact h1, by rw [PyData.depth]; omega⟩
    | ls ds =>
      obtain ⟨ys, h1, rfl⟩ := Option.map_eq_some_iff.mp h
      obtain ⟨h1, h2⟩ := lst ds ys h1
      exact ⟨by rw [PyData.plain]; exact h1, by rw [PyData.depth]; omega⟩
    | kt ds =>
      obtain ⟨ys, h1, rfl⟩ := Option.map_eq_some_iff.mp h
      obtain ⟨h1, h2⟩ := lst ds ys h1
      exact ⟨by rw [PyData.plain]; exact h1, by rw [PyData.depth]; omega⟩
    | ref k =>
      dsimp only at h
      cases q : S[k]? with
      | none => simp only [q] at h; cases h
      | some o =>
        cases o with
        | lst ds =>
          simp only [q] at h
          obtain ⟨ys, h1, rfl⟩ := Option.map_eq_some_iff.mp h
          obtain ⟨h1, h2⟩ := lst ds ys h1
          exact ⟨by rw [PyData.plain]; exact h1, by rw [PyData.depth]; omega⟩
        | _ => simp only [q] at h; cases h
theorem mapPy_ok {S : Store} {n : Nat} : ∀ {ds : List D} {ys : List PyData}, mapO (toPy S n) ds = some ys → PyData.plainAll ys = true ∧ PyData.depthAll ys ≤ n
  | [], ys, h => by rw [mapO_nil h]; exact ⟨rfl, Nat.zero_le _⟩
  | d :: ds, ys, h => by
    obtain ⟨b, bs, h1, h2, rfl⟩ := mapO_cons h
    obtain ⟨i1, i2⟩ := toPy_ok h1
    obtain ⟨j1, j2⟩ := mapPy_ok h2
    refine ⟨?_, ?_⟩
    · rw [PyData.plainAll, i1, j1]; rfl
    · rw [PyData.depthAll]; omega
section
variable {G : Gb} {φ : List Addr} {H : Hp} {S : Store}
theorem toPy_dp (R : Rel G φ H S) : ∀ {n : Nat} {d : D} {v : V} {y : PyData}, Rp G φ H d v → toPy S n d = some y → Dp G.K H v y
  | 0, _, _, _, _, h => by unfold toPy at h; cases h
  | n + 1, d, v, y, r, h => by
    have lst : ∀ (ds : List D) (vs : List V) (ys : List PyData), Rps G φ H ds vs → mapO (toPy S n) ds = some ys → DpAll G.K H vs ys := by
      intro ds
      induction ds with
      | nil => intro vs ys r h; unfold Rps at r; subst r; rw [mapO_nil h]; exact .nil
      | cons d ds ih =>
        intro vs ys r h
        obtain ⟨b, bs, h1, h2, rfl⟩ := mapO_cons h
        unfold Rps at r
        obtain ⟨w, t, rfl, r1, r2⟩ := r
        exact .cons (toPy_dp R r1 h1) (ih t bs r2 h2)
    unfold toPy at h
    cases d with
    | non => cases h; unfold Rp at r; subst r; exact .non
    | bl b => cases h; unfold Rp at r; subst r; exact .bl b
    | int b => cases h; unfold Rp at r; subst r; exact .int b
    | str b => cases h; unfold Rp at r; subst r; exact .str b
    | tup ds =>
      obtain ⟨ys, h1, rfl⟩ := Option.map_eq_some_iff.mp h
      unfold Rp at r
      obtain ⟨a, vs, rfl, ha, hr⟩ := r
      exact .tup ha.sq (lst ds vs ys hr h1)
    | ls ds =>
      obtain ⟨ys, h1, rfl⟩ := Option.map_eq_some_iff.mp h
      unfold Rp at r
      obtain ⟨a, vs, rfl, ha, hr⟩ := r
      exact .lst ha.sq (lst ds vs ys hr h1)
    | kt ds =>
      obtain ⟨ys, h1, rfl⟩ := Option.map_eq_some_iff.mp h
      unfold Rp at r
      obtain ⟨a, vs, rfl, ha, hr⟩ := r
      exact .tup ha.sq (lst ds vs ys hr h1)
    | ref k =>
      dsimp only at h
      unfold Rp at r
      obtain ⟨a, rfl, ha⟩ := r
      cases q : S[k]? with
      | none => simp only [q] at h; cases h
      | some o =>
        cases o with
        | lst ds =>
          simp only [q] at h
          obtain ⟨ys, h1, rfl⟩ := Option.map_eq_some_iff.mp h
          obtain ⟨vs, h2, h3⟩ := R.obj k a _ ha q
          exact .lst (SqL.of h2) (lst ds vs ys h3 h1)
        | _ => simp only [q] at h; cases h
theorem mapPy_dp (R : Rel G φ H S) {n : Nat} : ∀ {ds : List D} {vs : List V} {ys : List PyData}, Rps G φ H ds vs → mapO (toPy S n) ds = some ys → DpAll G.K H vs ys
  | [], vs, ys, r, h => by unfold Rps at r; subst r; rw [mapO_nil h]; exact .nil
  | d :: ds, vs, ys, r, h => by
    obtain ⟨b, bs, h1, h2, rfl⟩ := mapO_cons h
    unfold Rps at r
    obtain ⟨w, t, rfl, r1, r2⟩ := r
    exact .cons (toPy_dp R r1 h1) (mapPy_dp R r2 h2)
theorem py_ok {w : W} {y : PyData} (h : w.py S = some y) : y.plain = true ∧ y.depth ≤ deepest + 1 := by
  cases w with
  | val d =>
    obtain ⟨h1, h2⟩ := toPy_ok (show toPy S deepest d = some y from h)
    exact ⟨h1, by omega⟩
  | lis ds =>
    obtain ⟨ys, h1, rfl⟩ := Option.map_eq_some_iff.mp (show (mapO (toPy S deepest) ds).map PyData.list = some y from h)
    obtain ⟨h1, h2⟩ := mapPy_ok h1
    exact ⟨by rw [PyData.plain]; exact h1, by rw [PyData.depth]; omega⟩
theorem py_dp (R : Rel G φ H S) {w : W} {v : V} {y : PyData} (r : RpW G φ H w v) (h : w.py S = some y) : Dp G.K H v y := by
  cases w with
  | val d => exact toPy_dp R (show Rp G φ H d v from r) (show toPy S deepest d = some y from h)
  | lis ds =>
    obtain ⟨ys, h1, rfl⟩ := Option.map_eq_some_iff.mp (show (mapO (toPy S deepest) ds).map PyData.list = some y from h)
    obtain ⟨a, vs, rfl, h2, _, h3⟩ := r
    exact .lst (SqL.of h2) (mapPy_dp R h3 h1)
end

section
variable {G : Gb} {X : Cx}
theorem vv_ok {φ : List Addr} {H : Hp} {S : Store} {d : D} {v : V} {xk : XK} {Q : VK} (R : Rel G φ H S) (h : Post G (RlW G) φ H (vv d S) xk Q) (r : Rp G φ H d v) : Q v H := Post.ok (L := RlW G) h (Ext.refl _ _) R (rl_val r)
theorem rp_bl {φ : List Addr} {H : Hp} {b : Bool} : Rp G φ H (.bl b) (.bl b) := by unfold Rp; rfl
theorem rp_in {φ : List Addr} {H : Hp} {b : Int} : Rp G φ H (.int b) (.int b) := by unfold Rp; rfl
theorem rp_st {φ : List Addr} {H : Hp} {b : Str} : Rp G φ H (.str b) (.str b) := by unfold Rp; rfl
theorem rp_no {φ : List Addr} {H : Hp} : Rp G φ H .non .non := by unfold Rp; rfl
theorem rp_str {φ : List Addr} {H : Hp} {i : Str} {v : V} (h : RpW G φ H (.val (.str i)) v) : v = .str i := by unfold RpW Rp at h; exact h

theorem o_eq (hK : X.K = G.K) (hu : X.A.units + 64 < cLine) : OpR X (compareOp .Eq) (rP2 G (p2 .eq)) := by
  intro pins s σ H x y v u Q I rx ry h
  obtain ⟨φ, w1, w2, S, xk, R, r1, r2, h⟩ := h
  unfold p2 at h
  dsimp only at h
  cases q1 : w1.py S with
  | none => simp only [q1] at h; exact h.elim
  | some a =>
    cases q2 : w2.py S with
    | none => simp only [q1, q2] at h; exact h.elim
    | some b =>
      simp only [q1, q2] at h
      obtain ⟨p1, d1⟩ := py_ok q1
      obtain ⟨p2, d2⟩ := py_ok q2
      obtain ⟨as, t1⟩ := Dp.reads I a x v (by rw [hK]; exact py_dp R r1 q1) rx
      obtain ⟨bs, t2⟩ := Dp.reads I b y u (by rw [hK]; exact py_dp R r2 q2) ry
      exact SeqAt.eq_plain t1 t2 p1 p2 (by have : deepest = 40 := rfl; omega) ⟨.bl _, H, I, rfl, vv_ok R h rp_bl⟩
theorem o_ne (hK : X.K = G.K) (hu : X.A.units + 64 < cLine) : OpR X (compareOp .NotEq) (rP2 G (p2 .ne)) := by
  intro pins s σ H x y v u Q I rx ry h
  obtain ⟨φ, w1, w2, S, xk, R, r1, r2, h⟩ := h
  unfold p2 at h
  dsimp only at h
  cases q1 : w1.py S with
  | none => simp only [q1] at h; exact h.elim
  | some a =>
    cases q2 : w2.py S with
    | none => simp only [q1, q2] at h; exact h.elim
    | some b =>
      simp only [q1, q2] at h
      obtain ⟨p1, d1⟩ := py_ok q1
      obtain ⟨p2, d2⟩ := py_ok q2
      obtain ⟨as, t1⟩ := Dp.reads I a x v (by rw [hK]; exact py_dp R r1 q1) rx
      obtain ⟨bs, t2⟩ := Dp.reads I b y u (by rw [hK]; exact py_dp R r2 q2) ry
      exact SeqAt.ne_plain t1 t2 p1 p2 (by have : deepest = 40 := rfl; omega) ⟨.bl _, H, I, rfl, vv_ok R h rp_bl⟩
theorem isNone_ne {a : PyData} (h : isNonePy a = false) : a ≠ .none := by rintro rfl; cases h
theorem o_lt (hK : X.K = G.K) (hu : X.A.units + 64 < cLine) : OpR X (compareOp .Lt) (rP2 G (p2 .lt)) := by
  intro pins s σ H x y v u Q I rx ry h
  obtain ⟨φ, w1, w2, S, xk, R, r1, r2, h⟩ := h
  unfold p2 at h
  dsimp only at h
  cases q1 : w1.py S with
  | none => simp only [q1] at h; exact h.elim
  | some a =>
    cases q2 : w2.py S with
    | none => simp only [q1, q2] at h; exact h.elim
    | some b =>
      simp only [q1, q2] at h
      obtain ⟨p1, d1⟩ := py_ok q1
      obtain ⟨as, t1⟩ := Dp.reads I a x v (by rw [hK]; exact py_dp R r1 q1) rx
      obtain ⟨bs, t2⟩ := Dp.reads I b y u (by rw [hK]; exact py_dp R r2 q2) ry
      unfold cmpD at h
      by_cases c : (W.alike a b && !isNonePy a) = true
      · rw [if_pos c] at h
        obtain ⟨c1, c2⟩ := Bool.and_eq_true_iff.mp c
        exact W.lt_data t1 t2 c1 (isNone_ne (by simpa using c2)) (by have : deepest = 40 := rfl; omega) ⟨.bl _, H, I, rfl, vv_ok R h rp_bl⟩
      · rw [if_neg c] at h; exact h.elim
theorem o_gt (hK : X.K = G.K) (hu : X.A.units + 64 < cLine) : OpR X (compareOp .Gt) (rP2 G (p2 .gt)) := by
  intro pins s σ H x y v u Q I rx ry h
  obtain ⟨φ, w1, w2, S, xk, R, r1, r2, h⟩ := h
  unfold p2 at h
  dsimp only at h
  cases q1 : w1.py S with
  | none => simp only [q1] at h; exact h.elim
  | some a =>
    cases q2 : w2.py S with
    | none => simp only [q1, q2] at h; exact h.elim
    | some b =>
      simp only [q1, q2] at h
      obtain ⟨p1, d1⟩ := py_ok q1
      obtain ⟨as, t1⟩ := Dp.reads I a x v (by rw [hK]; exact py_dp R r1 q1) rx
      obtain ⟨bs, t2⟩ := Dp.reads I b y u (by rw [hK]; exact py_dp R r2 q2) ry
      unfold cmpD at h
      by_cases c : (W.alike a b && !isNonePy a) = true
      · rw [if_pos c] at h
        obtain ⟨c1, c2⟩ := Bool.and_eq_true_iff.mp c
        exact W.gt_data t1 t2 c1 (isNone_ne (by simpa using c2)) (by have : deepest = 40 := rfl; omega) ⟨.bl _, H, I, rfl, vv_ok R h rp_bl⟩
      · rw [if_neg c] at h; exact h.elim
theorem o_le (hK : X.K = G.K) (hu : X.A.units + 64 < cLine) : OpR X (compareOp .LtE) (rP2 G (p2 .le)) := by
  intro pins s σ H x y v u Q I rx ry h
  obtain ⟨φ, w1, w2, S, xk, R, r1, r2, h⟩ := h
  unfold p2 at h
  dsimp only at h
  cases q1 : w1.py S with
  | none => simp only [q1] at h; exact h.elim
  | some a =>
    cases q2 : w2.py S with
    | none => simp only [q1, q2] at h; exact h.elim
    | some b =>
      simp only [q1, q2] at h
      obtain ⟨p1, d1⟩ := py_ok q1
      obtain ⟨as, t1⟩ := Dp.reads I a x v (by rw [hK]; exact py_dp R r1 q1) rx
      obtain ⟨bs, t2⟩ := Dp.reads I b y u (by rw [hK]; exact py_dp R r2 q2) ry
      unfold cmpD at h
      by_cases c : (W.alike a b && !isNonePy a) = true
      · rw [if_pos c] at h
        obtain ⟨c1, c2⟩ := Bool.and_eq_true_iff.mp c
        exact W.le_data t1 t2 c1 (isNone_ne (by simpa using c2)) (by have : deepest = 40 := rfl; omega) ⟨.bl _, H, I, rfl, vv_ok R h rp_bl⟩
      · rw [if_neg c] at h; exact h.elim
theorem o_ge (hK : X.K = G.K) (hu : X.A.units + 64 < cLine) : OpR X (compareOp .GtE) (rP2 G (p2 .ge)) := by
  intro pins s σ H x y v u Q I rx ry h
  obtain ⟨φ, w1, w2, S, xk, R, r1, r2, h⟩ := h
  unfold p2 at h
  dsimp only at h
  cases q1 : w1.py S with
  | none => simp only [q1] at h; exact h.elim
  | some a =>
    cases q2 : w2.py S with
    | none => simp only [q1, q2] at h; exact h.elim
    | some b =>
      simp only [q1, q2] at h
      obtain ⟨p1, d1⟩ := py_ok q1
      obtain ⟨as, t1⟩ := Dp.reads I a x v (by rw [hK]; exact py_dp R r1 q1) rx
      obtain ⟨bs, t2⟩ := Dp.reads I b y u (by rw [hK]; exact py_dp R r2 q2) ry
      unfold cmpD at h
      by_cases c : (W.alike a b && !isNonePy a) = true
      · rw [if_pos c] at h
        obtain ⟨c1, c2⟩ := Bool.and_eq_true_iff.mp c
        exact W.ge_data t1 t2 c1 (isNone_ne (by simpa using c2)) (by have : deepest = 40 := rfl; omega) ⟨.bl _, H, I, rfl, vv_ok R h rp_bl⟩
      · rw [if_neg c] at h; exact h.elim

/-! ### in -/
def OpRp (G : Gb) (φ : List Addr) (H : Hp) (o : Option D) (ov : Option V) : Prop := match o with
  | some d => ∃ w, ov = some w ∧ Rp G φ H d w
  | none => ov = none
theorem RpKV.look {κ : Type} [DecidableEq κ] {φ : List Addr} {H : Hp} {k : κ} : ∀ {kvs : List (κ × D)} {vs : List (κ × V)}, RpKV G φ H kvs vs → OpRp G φ H (lookD kvs k) (valV vs k)
  | [], vs, h => by
    have h : vs = [] := h
    subst h
    rfl
  | p :: r, vs, h => by
    obtain ⟨v, t, rfl, h1, h2⟩ := h
    by_cases c : p.1 = k
    · have e : lookD (p :: r) k = some p.2 := by simp [lookD, List.find?_cons, c]
      rw [e, valV_pos (p := (p.1, v)) c]
      exact ⟨v, rfl, h1⟩
    · have e : lookD (p :: r) k = lookD r k := by simp [lookD, List.find?_cons, c]
      rw [e, valV_neg (p := (p.1, v)) c]
      exact RpKV.look h2
theorem key_v {φ : List Addr} {H : Hp} {d : D} {k : Key} {v : V} (h : d.key = some k) (r : Rp G φ H d v) : v = kV k := by
  cases d with
  | int i => cases h; unfold Rp at r; exact r
  | str x => cases h; unfold Rp at r; exact r
  | _ => cases h
theorem keys_v {φ : List Addr} {H : Hp} : ∀ {ds : List D} {ks : List Key} {vs : List V}, mapO D.key ds = some ks → Rps G φ H ds vs → vs = ks.map kV
  | [], ks, vs, h, r => by unfold Rps at r; subst r; rw [mapO_nil h]; rfl
  | d :: ds, ks, vs, h, r => by
    obtain ⟨b, bs, h1, h2, rfl⟩ := mapO_cons h
    unfold Rps at r
    obtain ⟨v, t, rfl, r1, r2⟩ := r
    rw [List.map_cons, key_v h1 r1, keys_v h2 r2]
theorem keyT_v {φ : List Addr} {H : Hp} {d : D} {ks : List Key} {v : V} (h : d.keyT = some ks) (r : Rp G φ H d v) : ∃ b, v = .ref b ∧ H b = some (.tup (ks.map kV)) := by
  cases d with
  | tup ds =>
    unfold Rp at r
    obtain ⟨a, vs, rfl, ha, hr⟩ := r
    have e := keys_v (show mapO D.key ds = some ks from h) hr
    subst e
    exact ⟨a, rfl, ha⟩
  | _ => cases h
theorem look_dget {φ : List Addr} {H : Hp} {S : Store} {n : Nat} {k : D} {o : Option D} {a : Addr} {v : V} (R : Rel G φ H S) (ha : φ[n]? = some a) (r : Rp G φ H k v) (h : look S n k = some o) : ∃ ov, DGet H a v ov ∧ OpRp G φ H o ov := by
  unfold look at h
  cases q : S[n]? with
  | none => simp only [q] at h; cases h
  | some ob =>
    cases ob with
    | dk kvs =>
      simp only [q] at h
      obtain ⟨k', hk, rfl⟩ := Option.map_eq_some_iff.mp h
      obtain ⟨vs, h1, h2⟩ := R.obj n a _ ha q
      have e := key_v hk r
      subst e
      exact ⟨_, .inl ⟨vs, k', .inl h1, rfl, rfl⟩, RpKV.look h2⟩
    | dt kvs =>
      simp only [q] at h
      obtain ⟨k', hk, rfl⟩ := Option.map_eq_some_iff.mp h
      obtain ⟨vs, h1, h2⟩ := R.obj n a _ ha q
      obtain ⟨b, rfl, hb⟩ := keyT_v hk r
      exact ⟨_, .inr ⟨vs, k', b, .inl h1, rfl, hb, rfl⟩, RpKV.look h2⟩
    | _ => simp only [q] at h; cases h
theorem seq_or {H : Hp} {a : Addr} {vs : List V} {b : Bool} (h : if b = true then SqT G.K H a vs else SqL G.K H a vs) : SqL G.K H a vs ∨ SqT G.K H a vs := by
  cases b with
  | true => exact .inr (ifT h)
  | false => exact .inl (ifF h)
/-- what «in» comes to -/
theorem in_cases {φ : List Addr} {H : Hp} {S : Store} {w1 w2 : W} {x y : V} {b : Bool} (R : Rel G φ H S) (r1 : RpW G φ H w1 x) (r2 : RpW G φ H w2 y) (h : isIn w1 w2 S = some b) :
    (∃ t z, x = .str z ∧ y = .str t ∧ b = !(Builtin.Str.occurrences t z 0 t.length 1).isEmpty) ∨
    (∃ a vs ys p, y = .ref a ∧ (SqL G.K H a vs ∨ SqT G.K H a vs) ∧ DpAll G.K H vs ys ∧ Dp G.K H x p ∧ PyData.plainAll ys = true ∧ p.plain = true ∧ PyData.depthAll ys ≤ deepest ∧ b = ys.any fun y => PyData.eqv y p) ∨
    (∃ a o, y = .ref a ∧ DGet H a x o ∧ b = o.isSome) := by
  unfold isIn at h
  cases hq : w2.seq S with
  | some bd =>
    obtain ⟨bb, ds⟩ := bd
    have h : ((w1.py S).bind fun p => (mapO (toPy S deepest) ds).map fun ys => ys.any fun y => PyData.eqv y p) = some b := by
      cases w2 with
      | lis es => simp only [hq] at h; exact h
      | val d =>
        cases d with
        | str t => cases hq
        | _ => simp only [hq] at h; exact h
    obtain ⟨p, hp, h⟩ := Option.bind_eq_some_iff.mp h
    obtain ⟨ys, hy, rfl⟩ := Option.map_eq_some_iff.mp h
    obtain ⟨a, vs, rfl, hs, hr⟩ := seq_rp R r2 hq
    obtain ⟨m1, m2⟩ := mapPy_ok hy
    exact .inr (.inl ⟨a, vs, ys, p, rfl, seq_or hs, mapPy_dp R hr hy, py_dp R r1 hp, m1, (py_ok hp).1, m2, rfl⟩)
  | none =>
    cases w2 with
    | lis es => cases hq
    | val d =>
      cases d with
      | str t =>
        cases w1 with
        | lis es => cases h
        | val d1 =>
          cases d1 with
          | str z =>
            cases h
            exact .inl ⟨t, z, rp_str r1, rp_str r2, rfl⟩
          | _ => cases h
      | ref n =>
        simp only [hq] at h
        cases w1 with
        | lis es => cases h
        | val d1 =>
          obtain ⟨o, ho, rfl⟩ := Option.map_eq_some_iff.mp h
          unfold RpW Rp at r2
          obtain ⟨a, rfl, ha⟩ := r2
          obtain ⟨ov, hd, hm⟩ := look_dget R ha (show Rp G φ H d1 x from r1) ho
          refine .inr (.inr ⟨a, ov, rfl, hd, ?_⟩)
          cases o with
          | none => have hm : ov = none := hm; rw [hm]; rfl
          | some d => obtain ⟨w, rfl, _⟩ := hm; rfl
      | tup es => cases hq
      | kt es => cases hq
      | ls es => cases hq
      | _ => simp only [hq] at h; cases h
theorem o_in (hK : X.K = G.K) (hu : X.A.units + 64 < cLine) : OpR X (compareOp .In) (rP2 G (p2 .inn)) := by
  intro pins s σ H x y v u Q I rx ry h
  obtain ⟨φ, w1, w2, S, xk, R, r1, r2, h⟩ := h
  unfold p2 at h
  dsimp only at h
  cases hi : isIn w1 w2 S with
  | none => simp only [hi] at h; exact h.elim
  | some b =>
    simp only [hi] at h
    have q := vv_ok R h rp_bl
    rcases in_cases R r1 r2 hi with ⟨t, z, rfl, rfl, rfl⟩ | ⟨a, vs, ys, p, rfl, hs, hv, hp, m1, m2, m3, rfl⟩ | ⟨a, o, rfl, hd, rfl⟩
    · exact op_in_str pins s σ H _ _ v u Q I rx ry ⟨z, t, rfl, rfl, q⟩
    · obtain ⟨bs, t2⟩ := Dp.reads I p x v (by rw [hK]; exact hp) rx
      have hu' : X.A.units + 1 + min (PyData.depthAll ys) p.depth < cLine := by have : deepest = 40 := rfl; omega
      rcases hs with hs | hs
      · obtain ⟨as, t1⟩ := Dp.reads I (.list ys) (.ref a) u (by rw [hK]; exact .lst hs hv) ry
        exact SeqAt.in_list_data t1 t2 m1 m2 hu' ⟨.bl _, H, I, rfl, q⟩
      · obtain ⟨as, t1⟩ := Dp.reads I (.tuple ys) (.ref a) u (by rw [hK]; exact .tup hs hv) ry
        exact SeqAt.in_tuple_data t1 t2 m1 m2 hu' ⟨.bl _, H, I, rfl, q⟩
    · cases (show u = Value.ref a from ry)
      exact d_in (by omega) I hd rx fun s' I' => ⟨.bl _, H, I', rfl, q⟩
theorem o_nin (hK : X.K = G.K) (hu : X.A.units + 64 < cLine) : OpR X (compareOp .NotIn) (rP2 G (p2 .nin)) := by
  intro pins s σ H x y v u Q I rx ry h
  obtain ⟨φ, w1, w2, S, xk, R, r1, r2, h⟩ := h
  unfold p2 at h
  dsimp only at h
  cases hi : isIn w1 w2 S with
  | none => simp only [hi] at h; exact h.elim
  | some b =>
    simp only [hi] at h
    have q := vv_ok R h rp_bl
    rcases in_cases R r1 r2 hi with ⟨t, z, rfl, rfl, rfl⟩ | ⟨a, vs, ys, p, rfl, hs, hv, hp, m1, m2, m3, rfl⟩ | ⟨a, o, rfl, hd, rfl⟩
    · exact op_notin_str pins s σ H _ _ v u Q I rx ry ⟨z, t, rfl, rfl, q⟩
    · obtain ⟨bs, t2⟩ := Dp.reads I p x v (by rw [hK]; exact hp) rx
      have hu' : X.A.units + 1 + min (PyData.depthAll ys) p.depth < cLine := by have : deepest = 40 := rfl; omega
      rcases hs with hs | hs
      · obtain ⟨as, t1⟩ := Dp.reads I (.list ys) (.ref a) u (by rw [hK]; exact .lst hs hv) ry
        exact SeqAt.notIn_list_data t1 t2 m1 m2 hu' ⟨.bl _, H, I, rfl, q⟩
      · obtain ⟨as, t1⟩ := Dp.reads I (.tuple ys) (.ref a) u (by rw [hK]; exact .tup hs hv) ry
        exact SeqAt.notIn_tuple_data t1 t2 m1 m2 hu' ⟨.bl _, H, I, rfl, q⟩
    · cases (show u = Value.ref a from ry)
      exact d_notIn (by omega) I hd rx fun s' I' => ⟨.bl _, H, I', rfl, q⟩

/-! ### is None -/
theorem o_isN : OpR X (compareOp .Is) (fun x y H Q => y = .non ∧ rP1 G (p1 .isN) x H Q) := by
  intro pins s σ H x y v u Q I rx ry h
  obtain ⟨rfl, φ, w1, S, xk, R, r1, h⟩ := h
  refine op_isN pins s σ H x .non v u Q I rx ry ⟨rfl, ?_⟩
  have hx : vv (D.bl (decide (x = .non))) S = p1 .isN w1 S := by
    cases w1 with
    | lis ds =>
      obtain ⟨a, vs, rfl, _⟩ := r1
      rfl
    | val d =>
      cases d <;> unfold RpW Rp at r1 <;> first
        | (subst r1; rfl)
        | (obtain ⟨a, vs, rfl, _⟩ := r1; rfl)
        | (obtain ⟨a, rfl, _⟩ := r1; rfl)
  rw [← hx] at h
  exact vv_ok R h rp_bl
theorem o_notN : OpR X (compareOp .IsNot) (fun x y H Q => y = .non ∧ rP1 G (p1 .notN) x H Q) := by
  intro pins s σ H x y v u Q I rx ry h
  obtain ⟨rfl, φ, w1, S, xk, R, r1, h⟩ := h
  refine op_notN pins s σ H x .non v u Q I rx ry ⟨rfl, ?_⟩
  have hx : vv (D.bl (!decide (x = .non))) S = p1 .notN w1 S := by
    cases w1 with
    | lis ds =>
      obtain ⟨a, vs, rfl, _⟩ := r1
      rfl
    | val d =>
      cases d <;> unfold RpW Rp at r1 <;> first
        | (subst r1; rfl)
        | (obtain ⟨a, vs, rfl, _⟩ := r1; rfl)
        | (obtain ⟨a, rfl, _⟩ := r1; rfl)
  rw [← hx] at h
  exact vv_ok R h rp_bl
end
end Mi

/-! Mi, part G: arithmetic, subscripts, built-in calls and methods. -/
namespace Mi
open PySem L2 PyProof.Rows RT RZ

section
variable {G : Gb} {X : Cx}
theorem lis_new {φ : List Addr} {H : Hp} {S : Store} {ds : List D} {vs : List V} {p : Addr} {xk : XK} {Q : VK} (R : Rel G φ H S) (h : Post G (RlW G) φ H (.ok (.lis ds) S) xk Q) (r : Rps G φ H ds vs) (hp : H p = none) : Q (.ref p) (upd H p (.lst vs)) := by
  have E := Ext.fresh R hp (.lst vs)
  exact Post.ok (L := RlW G) h E (R.fresh hp _) ⟨⟨p, vs, rfl, upd_same, R.unk hp, Rps.mono (E.toKeep R) _ _ r⟩, fun ds a e1 e2 => by cases e2; exact hp⟩
theorem tup_new {φ : List Addr} {H : Hp} {S : Store} {ds : List D} {vs : List V} {p : Addr} {xk : XK} {Q : VK} (R : Rel G φ H S) (h : Post G (RlW G) φ H (vv (.tup ds) S) xk Q) (r : Rps G φ H ds vs) (hp : H p = none) : Q (.ref p) (upd H p (.tup vs)) := by
  have E := Ext.fresh R hp (.tup vs)
  refine Post.ok (L := RlW G) h E (R.fresh hp _) (rl_val ?_)
  unfold Rp
  exact ⟨p, vs, rfl, upd_same, Rps.mono (E.toKeep R) _ _ r⟩
theorem Rps.app {φ : List Addr} {H : Hp} : ∀ {ds es : List D} {vs ws : List V}, Rps G φ H ds vs → Rps G φ H es ws → Rps G φ H (ds ++ es) (vs ++ ws)
  | [], _, vs, _, h, r => by unfold Rps at h; subst h; exact r
  | d :: ds, es, _, ws, h, r => by
    unfold Rps at h
    obtain ⟨w, t, rfl, h1, h2⟩ := h
    show Rps G φ H (d :: (ds ++ es)) (w :: (t ++ ws))
    unfold Rps
    exact ⟨w, t ++ ws, rfl, h1, Rps.app h2 r⟩
theorem Rps.take {φ : List Addr} {H : Hp} : ∀ {ds : List D} {vs : List V} (n : Nat), Rps G φ H ds vs → Rps G φ H (ds.take n) (vs.take n)
  | _, _, 0, _ => by simp [Rps]
  | [], vs, n + 1, h => by unfold Rps at h; subst h; simp [Rps]
  | d :: ds, _, n + 1, h => by
    unfold Rps at h
    obtain ⟨w, t, rfl, h1, h2⟩ := h
    show Rps G φ H (d :: ds.take n) (w :: t.take n)
    unfold Rps
    exact ⟨w, _, rfl, h1, Rps.take n h2⟩
theorem Rps.drop {φ : List Addr} {H : Hp} : ∀ {ds : List D} {vs : List V} (n : Nat), Rps G φ H ds vs → Rps G φ H (ds.drop n) (vs.drop n)
  | _, _, 0, h => h
  | [], vs, n + 1, h => by unfold Rps at h; subst h; simp [Rps]
  | d :: ds, _, n + 1, h => by
    unfold Rps at h
    obtain ⟨w, t, rfl, h1, h2⟩ := h
    exact Rps.drop n h2
theorem Rps.set {φ : List Addr} {H : Hp} {d : D} {v : V} (r : Rp G φ H d v) : ∀ {ds : List D} {vs : List V} (n : Nat), Rps G φ H ds vs → Rps G φ H (ds.set n d) (vs.set n v)
  | [], vs, n, h => by unfold Rps at h; subst h; simp [Rps]
  | e :: ds, _, 0, h => by
    unfold Rps at h
    obtain ⟨w, t, rfl, h1, h2⟩ := h
    show Rps G φ H (d :: ds) (v :: t)
    unfold Rps
    exact ⟨v, t, rfl, r, h2⟩
  | e :: ds, _, n + 1, h => by
    unfold Rps at h
    obtain ⟨w, t, rfl, h1, h2⟩ := h
    show Rps G φ H (e :: ds.set n d) (w :: t.set n v)
    unfold Rps
    exact ⟨w, _, rfl, h1, Rps.set r n h2⟩
theorem Rps.dropLast {φ : List Addr} {H : Hp} {ds : List D} {vs : List V} (h : Rps G φ H ds vs) : Rps G φ H ds.dropLast vs.dropLast := by
  rw [List.dropLast_eq_take, List.dropLast_eq_take, h.len]
  exact h.take _

theorem o_sub : OpR X (binaryOp .Sub) (rP2 G (p2 .sub)) := by
  intro pins s σ H x y v u Q I rx ry h
  obtain ⟨φ, w1, w2, S, xk, R, r1, r2, h⟩ := h
  unfold p2 at h
  dsimp only at h
  split at h
  · exact op_sub pins s σ H x y v u Q I rx ry ⟨_, _, rp_int r1, rp_int r2, vv_ok R h rp_in⟩
  · exact h.elim
theorem o_mul : OpR X (binaryOp .Mult) (rP2 G (p2 .mul)) := by
  intro pins s σ H x y v u Q I rx ry h
  obtain ⟨φ, w1, w2, S, xk, R, r1, r2, h⟩ := h
  unfold p2 at h
  dsimp only at h
  split at h
  · rename_i i j
    by_cases c : mulFits i j = true
    · rw [if_pos c] at h
      have c := of_decide_eq_true c
      exact op_mulW pins s σ H x y v u Q I rx ry ⟨_, _, rp_int r1, rp_int r2, (by show _ < 1000000; omega), vv_ok R h rp_in⟩
    · rw [if_neg c] at h; exact h.elim
  · exact h.elim
theorem o_fdiv : OpR X (binaryOp .FloorDiv) (rP2 G (p2 .fdiv)) := by
  intro pins s σ H x y v u Q I rx ry h
  obtain ⟨φ, w1, w2, S, xk, R, r1, r2, h⟩ := h
  unfold p2 at h
  dsimp only at h
  split at h
  · rename_i i j
    by_cases c : divFits j = true
    · rw [if_pos c] at h
      have c := of_decide_eq_true c
      exact op_fdivW pins s σ H x y v u Q I rx ry ⟨_, _, rp_int r1, rp_int r2, c, vv_ok R h rp_in⟩
    · rw [if_neg c] at h; exact h.elim
  · exact h.elim
theorem o_mod : OpR X (binaryOp .Mod) (rP2 G (p2 .mod)) := by
  intro pins s σ H x y v u Q I rx ry h
  obtain ⟨φ, w1, w2, S, xk, R, r1, r2, h⟩ := h
  unfold p2 at h
  dsimp only at h
  split at h
  · rename_i i j
    by_cases c : 0 < j
    · rw [if_pos c] at h
      exact op_mod pins s σ H x y v u Q I rx ry ⟨_, _, rp_int r1, rp_int r2, c, vv_ok R h rp_in⟩
    · rw [if_neg c] at h; exact h.elim
  · exact h.elim
theorem o_pow : OpR X (binaryOp .Pow) (rP2 G (p2 .pow)) := by
  intro pins s σ H x y v u Q I rx ry h
  obtain ⟨φ, w1, w2, S, xk, R, r1, r2, h⟩ := h
  unfold p2 at h
  dsimp only at h
  split at h
  · rename_i i j
    by_cases c : 0 ≤ j ∧ j ≤ 1000000 ∧ i.natAbs < 2 ^ 64
    · rw [if_pos c] at h
      exact op_pow pins s σ H x y v u Q I rx ry ⟨_, _, rp_int r1, rp_int r2, c, vv_ok R h rp_in⟩
    · rw [if_neg c] at h; exact h.elim
  · exact h.elim
theorem lst_rp {φ : List Addr} {H : Hp} {S : Store} {w : W} {v : V} {ds : List D} {b : Bool} (R : Rel G φ H S) (r : RpW G φ H w v) (h : w.seq S = some (b, ds)) (hl : isLst S w = true) : ∃ a vs, v = .ref a ∧ H a = some (.lst vs) ∧ Rps G φ H ds vs := by
  cases w with
  | lis es =>
    have h : some (false, es) = some (b, ds) := h
    cases h
    obtain ⟨a, vs, e, h1, _, h2⟩ := r
    exact ⟨a, vs, e, h1, h2⟩
  | val d =>
    cases d with
    | ref n =>
      unfold RpW Rp at r
      obtain ⟨a, e, h1⟩ := r
      unfold W.seq at h
      cases hs : S[n]? with
      | none => simp only [hs] at h; cases h
      | some o =>
        cases o with
        | lst es =>
          simp only [hs] at h
          cases h
          obtain ⟨vs, h2, h3⟩ := R.obj n a _ h1 hs
          exact ⟨a, vs, e, h2, h3⟩
        | _ => simp only [hs] at h; cases h
    | _ => cases hl
theorem o_add (hK : X.K = G.K) : OpR X (binaryOp .Add) (rP2 G (p2 .add)) := by
  intro pins s σ H x y v u Q I rx ry h
  obtain ⟨φ, w1, w2, S, xk, R, r1, r2, h⟩ := h
  unfold p2 at h
  dsimp only at h
  split at h
  · exact op_add pins s σ H x y v u Q I rx ry ⟨_, _, rp_int r1, rp_int r2, vv_ok R h rp_in⟩
  · rename_i a b
    by_cases c : a.length + b.length ≤ sizeLine
    · rw [if_pos c] at h
      exact op_add_str pins s σ H x y v u Q I rx ry ⟨_, _, rp_str r1, rp_str r2, c, vv_ok R h rp_st⟩
    · rw [if_neg c] at h; exact h.elim
  · split at h
    · rename_i xs ys h1 h2
      by_cases c : (isLst S w1 && isLst S w2 && decide (xs.length + ys.length ≤ sizeLine)) = true
      · rw [if_pos c] at h
        obtain ⟨c12, c3⟩ := Bool.and_eq_true_iff.mp c
        obtain ⟨c1, c2⟩ := Bool.and_eq_true_iff.mp c12
        have c3 := of_decide_eq_true c3
        obtain ⟨a, vs, rfl, ha, hr⟩ := lst_rp R r1 h1 c1
        obtain ⟨b, ws, rfl, hb, hs⟩ := lst_rp R r2 h2 c2
        exact op_cat pins s σ H _ _ v u Q I rx ry ⟨a, b, vs, ws, rfl, rfl, ha, hb, by rw [← hr.len, ← hs.len]; exact c3, fun p hp => lis_new R h (hr.app hs) hp⟩
      · rw [if_neg c] at h; exact h.elim
    · rename_i xs ys h1 h2
      by_cases c : (!xs.isEmpty && !ys.isEmpty && decide (xs.length + ys.length ≤ sizeLine)) = true
      · rw [if_pos c] at h
        obtain ⟨c12, c3⟩ := Bool.and_eq_true_iff.mp c
        obtain ⟨c1, c2⟩ := Bool.and_eq_true_iff.mp c12
        have c3 := of_decide_eq_true c3
        obtain ⟨a, vs, rfl, ha, hr⟩ := seq_rp R r1 h1
        obtain ⟨b, ws, rfl, hb, hs⟩ := seq_rp R r2 h2
        have n1 : vs ≠ [] := by
          rintro rfl
          have := hr.len
          cases xs with
          | nil => simp at c1
          | cons _ _ => simp at this
        have n2 : ws ≠ [] := by
          rintro rfl
          have := hs.len
          cases ys with
          | nil => simp at c2
          | cons _ _ => simp at this
        exact op_catT pins s σ H _ _ v u Q I rx ry ⟨a, b, vs, ws, rfl, rfl, by rw [hK]; exact ifT ha, by rw [hK]; exact ifT hb, n1, by rw [← hr.len, ← hs.len]; exact c3, fun q => absurd q n2, fun _ p hp => tup_new R h (hr.app hs) hp⟩
      · rw [if_neg c] at h; exact h.elim
    · exact h.elim
theorem o_neg : UnR X (unaryOp .USub) (rP1 G (p1 .neg)) := by
  intro pins s σ H x v Q I rx h
  obtain ⟨φ, w1, S, xk, R, r1, h⟩ := h
  unfold p1 at h
  dsimp only at h
  split at h
  · exact un_neg pins s σ H x v Q I rx ⟨_, rp_int r1, vv_ok R h rp_in⟩
  · exact h.elim

/-! ### subscripts -/
theorem atI_rp {φ : List Addr} {H : Hp} {ds : List D} {vs : List V} {i : Int} {d : D} (h : Rps G φ H ds vs) (e : atI ds i = some d) : ∃ v, atI vs i = some v ∧ Rp G φ H d v := by
  unfold atI at e ⊢
  rw [← h.len]
  obtain ⟨j, hj, hd⟩ := Option.bind_eq_some_iff.mp e
  obtain ⟨v, hv, r⟩ := h.get hd
  exact ⟨v, by rw [hj]; exact hv, r⟩
theorem o_ix (hK : X.K = G.K) (hu : X.A.units + 64 < cLine) : IxR X (rP2 G (p2 .ix)) := by
  intro value slice pins s σ H x y v u Q I rx ry h hsub
  obtain ⟨φ, w1, w2, S, xk, R, r1, r2, h⟩ := h
  unfold p2 at h
  dsimp only at h
  split at h
  · rename_i z
    split at h
    · rename_i i
      split at h
      · rename_i c hc
        by_cases q : z.length ≤ sizeLine
        · rw [if_pos q] at h
          exact ix_seq value slice pins s σ H x y v u Q I rx ry (.inr (.inr ⟨z, i, c, rp_str r1, rp_int r2, q, hc, vv_ok R h rp_st⟩)) hsub
        · rw [if_neg q] at h; exact h.elim
      · exact h.elim
    · exact h.elim
  · split at h
    · rename_i b ds hq
      split at h
      · rename_i i
        split at h
        · rename_i d hd
          obtain ⟨a, vs, rfl, hs, hr⟩ := seq_rp R r1 hq
          obtain ⟨w, hw, rw'⟩ := atI_rp hr hd
          have q := vv_ok R h rw'
          rcases seq_or hs with hs | hs
          · exact ix_seq value slice pins s σ H _ y v u Q I rx ry (.inl ⟨a, vs, i, w, rfl, rp_int r2, by rw [hK]; exact hs, hw, q⟩) hsub
          · exact ix_seq value slice pins s σ H _ y v u Q I rx ry (.inr (.inl ⟨a, vs, i, w, rfl, rp_int r2, by rw [hK]; exact hs, hw, q⟩)) hsub
        · exact h.elim
      · exact h.elim
    · rename_i hq
      cases w1 with
      | lis es => exact h.elim
      | val d1 =>
        cases d1 with
        | ref n =>
          cases w2 with
          | lis es => exact h.elim
          | val k =>
            dsimp only at h
            split at h
            · rename_i d hl
              unfold RpW Rp at r1
              obtain ⟨a, rfl, ha⟩ := r1
              obtain ⟨ov, hg, w, rfl, rw'⟩ := look_dget R ha (show Rp G φ H k y from r2) hl
              cases (show v = Value.ref a from rx)
              have q := vv_ok R h rw'
              exact tail_any (dict_typeIs I hg) PySem.F.slot_dict_getitem.lookup (d_getItem (by omega) I hg ry fun w' s3 I3 rw' => ⟨w, H, I3, rw', q⟩) hsub
            · exact h.elim
        | _ => exact h.elim

/-! ### slices -/
theorem cut_rp {φ : List Addr} {H : Hp} {ds : List D} {vs : List V} (h : Rps G φ H ds vs) (lo hi : Option Int) : Rps G φ H (cutD ds lo hi) (cutV vs lo hi) := by
  unfold cutD cutV
  rw [← h.len]
  exact (h.drop _).take _
theorem cut_all {vs : List V} {lo hi : Option Int} (h : HT.sIx vs.length 0 lo = 0 ∧ HT.sIx vs.length vs.length hi = vs.length) : cutV vs lo hi = vs := by
  unfold cutV
  rw [h.1, h.2]
  simp
def rSl (G : Gb) : V → Option Int → Option Int → Hp → VK → Prop := fun x lo hi H Q => ∃ φ w1 S xk, Rel G φ H S ∧ RpW G φ H w1 x ∧ Post G (RlW G) φ H (cutW w1 lo hi S) xk Q
theorem o_sl (hK : X.K = G.K) : SlR X (rSl G) := by
  intro pins s σ H x v vl vu lo hi sl Q I rx hs pl pu h
  obtain ⟨φ, w1, S, xk, R, r1, h⟩ := h
  unfold cutW at h
  split at h
  · rename_i z
    by_cases c : z.length ≤ sizeLine
    · rw [if_pos c] at h
      exact sl_str pins s σ H x v vl vu lo hi sl Q I rx hs pl pu ⟨z, rp_str r1, c, vv_ok R h rp_st⟩
    · rw [if_neg c] at h; exact h.elim
  · split at h
    · rename_i ds hq
      obtain ⟨a, vs, rfl, hs', hr⟩ := seq_rp R r1 hq
      have hs' := ifT hs'
      by_cases c : HT.sIx vs.length 0 lo = 0 ∧ HT.sIx vs.length vs.length hi = vs.length
      · by_cases cz : (cutD ds lo hi).length = ds.length
        · rw [if_pos cz] at h; exact h.elim
        · exfalso
          apply cz
          rw [(cut_rp hr lo hi).len, cut_all c, hr.len]
      · by_cases cz : (cutD ds lo hi).length = ds.length
        · rw [if_pos cz] at h; exact h.elim
        · rw [if_neg cz] at h
          exact sl_tup pins s σ H _ v vl vu lo hi sl Q I rx hs pl pu ⟨a, vs, rfl, by rw [hK]; exact hs', c, fun p hp => tup_new R h (cut_rp hr lo hi) hp⟩
    · rename_i ds hq
      obtain ⟨a, vs, rfl, hs', hr⟩ := seq_rp R r1 hq
      have hs' := ifF hs'
      exact sl_list pins s σ H _ v vl vu lo hi sl Q I rx hs pl pu ⟨a, vs, rfl, by rw [hK]; exact hs', fun p hp => lis_new R h (cut_rp hr lo hi) hp⟩
    · exact h.elim
/-- a part of a slice, perhaps none -/
def optA (G : Gb) (Wx : WX) (oA : Option (AX W)) : TO := match oA with
  | none => tNoPart
  | some A => tPart (tK G Wx A)
theorem po_im {e : Option Expr} {oA : Option (AX W)} {Wx : WX} (h : match e, oA with | none, none => True | some e, some A => PE X e (tK G Wx A) | _, _ => False) : PO X e (optA G Wx oA) := by
  cases e with
  | none =>
    cases oA with
    | none => exact po_none
    | some A => exact h.elim
  | some e =>
    cases oA with
    | none => exact h.elim
    | some A => exact po_some h

/-! ### isinstance -/
def Ty.name : Ty → String
  | .int => "int" | .str => "str" | .bool => "bool" | .tuple => "tuple" | .list => "list"
theorem kNon : ∀ ty : Ty, kitB "NoneType" ty.name = some false := by intro ty; cases ty <;> decide +kernel
theorem kBool : ∀ ty : Ty, kitB "bool" ty.name = some (match ty with | .int => true | .bool => true | _ => false) := by intro ty; cases ty <;> decide +kernel
theorem kInt : ∀ ty : Ty, kitB "int" ty.name = some (match ty with | .int => true | _ => false) := by intro ty; cases ty <;> decide +kernel
theorem kStr : ∀ ty : Ty, kitB "str" ty.name = some (match ty with | .str => true | _ => false) := by intro ty; cases ty <;> decide +kernel
theorem kTup : ∀ ty : Ty, kitB "tuple" ty.name = some (match ty with | .tuple => true | _ => false) := by intro ty; cases ty <;> decide +kernel
theorem kLis : ∀ ty : Ty, kitB "list" ty.name = some (match ty with | .list => true | _ => false) := by intro ty; cases ty <;> decide +kernel
theorem kDic : ∀ ty : Ty, kitB "dict" ty.name = some false := by intro ty; cases ty <;> decide +kernel
theorem ty_of {φ : List Addr} {H : Hp} {S : Store} {w : W} {x : V} (R : Rel G φ H S) (r : RpW G φ H w x) (hp : w.plain S = true) : ∃ t, TyX G.K H x (.type t) ∧ ∀ ty : Ty, kitB t ty.name = some (Ty.of S w ty) := by
  cases w with
  | lis ds =>
    obtain ⟨a, vs, rfl, h1, _, _⟩ := r
    exact ⟨"list", .base (.lst h1), fun ty => (kLis ty).trans (by cases ty <;> rfl)⟩
  | val d =>
    cases d with
    | non => unfold RpW Rp at r; subst r; exact ⟨_, .base .non, fun ty => (kNon ty).trans (by cases ty <;> rfl)⟩
    | bl b => unfold RpW Rp at r; subst r; exact ⟨_, .base (.bl b), fun ty => (kBool ty).trans (by cases ty <;> rfl)⟩
    | int b => unfold RpW Rp at r; subst r; exact ⟨_, .base (.int b), fun ty => (kInt ty).trans (by cases ty <;> rfl)⟩
    | str b => unfold RpW Rp at r; subst r; exact ⟨_, .base (.str b), fun ty => (kStr ty).trans (by cases ty <;> rfl)⟩
    | tup ds =>
      unfold RpW Rp at r
      obtain ⟨a, vs, rfl, ha, _⟩ := r
      exact ⟨_, .base (.tup ha), fun ty => (kTup ty).trans (by cases ty <;> rfl)⟩
    | kt ds =>
      unfold RpW Rp at r
      obtain ⟨a, vs, rfl, ⟨o, its, n, h1, h2, _⟩, _⟩ := r
      exact ⟨_, .kTuple h1 h2, fun ty => (kTup ty).trans (by cases ty <;> rfl)⟩
    | ls ds =>
      unfold RpW Rp at r
      obtain ⟨a, vs, rfl, ha, _⟩ := r
      rcases ha with ⟨o, ha⟩ | ⟨o, its, n, h1, h2, _⟩
      · exact ⟨_, .base (.frz ha), fun ty => (kLis ty).trans (by cases ty <;> rfl)⟩
      · exact ⟨_, .kList h1 h2, fun ty => (kLis ty).trans (by cases ty <;> rfl)⟩
    | ref n =>
      unfold RpW Rp at r
      obtain ⟨a, rfl, ha⟩ := r
      unfold W.plain at hp
      cases hs : S[n]? with
      | none => simp only [hs] at hp; cases hp
      | some o =>
        have hT : ∀ ty, Ty.of S (.val (.ref n)) ty = match ty, o with | .list, .lst _ => true | _, _ => false := by
          intro ty
          cases ty <;> simp only [Ty.of, hs] <;> cases o <;> rfl
        cases o with
        | lst ds =>
          obtain ⟨vs, h1, _⟩ := R.obj n a _ ha hs
          exact ⟨_, .base (.lst h1), fun ty => (kLis ty).trans (by rw [hT]; cases ty <;> rfl)⟩
        | dk ds =>
          obtain ⟨vs, h1, _⟩ := R.obj n a _ ha hs
          exact ⟨_, .base (.dK h1), fun ty => (kDic ty).trans (by rw [hT]; cases ty <;> rfl)⟩
        | dt ds =>
          obtain ⟨vs, h1, _⟩ := R.obj n a _ ha hs
          exact ⟨_, .base (.dT h1), fun ty => (kDic ty).trans (by rw [hT]; cases ty <;> rfl)⟩
        | ins c fs => simp only [hs] at hp; cases hp
theorem kit_any {K : PySem.W.Frag} {t : String} {f : Ty → Bool} (h : ∀ ty : Ty, kitB t ty.name = some (f ty)) : ∀ ts : List Ty, PySem.W.kitAny K (.type t) (ts.map fun ty => Value.type ty.name) = some (ts.any f)
  | [] => kitAny_nil
  | ty :: ts => by
    rw [List.map_cons, List.any_cons]
    refine kitAny_cons (kit_ty (h ty)) (fun hb => ?_) fun hb => ?_
    · rw [hb, Bool.false_or]; exact kit_any h ts
    · rw [hb]; rfl

/-! ### built-in calls of one argument -/
def rC1 (G : Gb) (o : P1) : List V → Hp → VK → Prop := fun vs H Q => ∃ v, vs = [v] ∧ rP1 G (p1 o) v H Q
theorem c_len (hK : X.K = G.K) : CallR X (.builtin "len") (rC1 G .len) := by
  intro pins s σ H xs us Q I r h
  obtain ⟨v, rfl, φ, w1, S, xk, R, r1, h⟩ := h
  unfold p1 at h
  dsimp only at h
  split at h
  · rename_i x
    by_cases c : x.length ≤ sizeLine
    · rw [if_pos c] at h
      have e := rp_str r1
      subst e
      exact call_len pins s σ H _ us Q I r ⟨_, x.length, rfl, ⟨c, rfl⟩, vv_ok R h rp_in⟩
    · rw [if_neg c] at h; exact h.elim
  · split at h
    · rename_i b ds hq
      obtain ⟨a, vs, rfl, hs, hr⟩ := seq_rp R r1 hq
      refine call_len_seq pins s σ H _ us Q I r ⟨a, vs, rfl, by rw [hK]; exact seq_or hs, ?_⟩
      rw [← hr.len]
      exact vv_ok R h rp_in
    · exact h.elim
theorem c_int : CallR X (.type "int") (rC1 G .int_) := by
  intro pins s σ H xs us Q I r h
  obtain ⟨v, rfl, φ, w1, S, xk, R, r1, h⟩ := h
  unfold p1 at h
  dsimp only at h
  split at h
  · have e := rp_int r1
    subst e
    exact call_int1 pins s σ H _ us Q I r (.inl ⟨_, rfl, vv_ok R h rp_in⟩)
  · rename_i b
    have e : v = .bl b := by unfold RpW Rp at r1; exact r1
    subst e
    exact call_int1 pins s σ H _ us Q I r (.inr ⟨_, rfl, vv_ok R h rp_in⟩)
  · exact h.elim
theorem c_ord : CallR X (.builtin "ord") (rC1 G .ord) := by
  intro pins s σ H xs us Q I r h
  obtain ⟨v, rfl, φ, w1, S, xk, R, r1, h⟩ := h
  unfold p1 at h
  dsimp only at h
  split at h
  · rename_i x
    by_cases c : x.length = 1
    · rw [if_pos c] at h
      have e := rp_str r1
      subst e
      exact call_ord pins s σ H _ us Q I r ⟨x, rfl, c, vv_ok R h rp_in⟩
    · rw [if_neg c] at h; exact h.elim
  · exact h.elim
theorem c_str : CallR X (.type "str") (rC1 G .str_) := by
  intro pins s σ H xs us Q I r h
  obtain ⟨v, rfl, φ, w1, S, xk, R, r1, h⟩ := h
  unfold p1 at h
  dsimp only at h
  split at h
  · rename_i i
    by_cases c : i.natAbs.log2 < 1920
    · rw [if_pos c] at h
      have e := rp_int r1
      subst e
      exact call_str_int pins s σ H _ us Q I r ⟨i, rfl, c, vv_ok R h rp_st⟩
    · rw [if_neg c] at h; exact h.elim
  · exact h.elim
theorem c_tuple (hK : X.K = G.K) : CallR X (.type "tuple") (rC1 G .tuple_) := by
  intro pins s σ H xs us Q I r h
  obtain ⟨v, rfl, φ, w1, S, xk, R, r1, h⟩ := h
  unfold p1 at h
  dsimp only at h
  split at h
  · rename_i b ds hq
    obtain ⟨a, vs, rfl, hs, hr⟩ := seq_rp R r1 hq
    cases b with
    | false =>
      have h : Post G (RlW G) φ H (vv (.tup ds) S) xk Q := by
        cases w1 with
        | lis es => exact h
        | val d =>
          cases d with
          | kt es => cases hq
          | _ => exact h
      exact call_tuple_of pins s σ H _ us Q I r ⟨a, vs, rfl, .inl ⟨by rw [hK]; exact ifF hs, fun p hp => tup_new R h hr hp⟩⟩
    | true =>
      refine call_tuple_of pins s σ H _ us Q I r ⟨a, vs, rfl, .inr ⟨by rw [hK]; exact ifT hs, ?_⟩⟩
      cases w1 with
      | lis es => cases hq
      | val d =>
        cases d with
        | tup es => cases hq; exact Post.ok (L := RlW G) h (Ext.refl _ _) R ⟨r1, fun _ _ e => nomatch e⟩
        | kt es => exact h.elim
        | ref n =>
          unfold W.seq at hq
          dsimp only at hq
          split at hq <;> cases hq
        | _ => cases hq
  · exact h.elim
theorem c_list (hK : X.K = G.K) : CallR X (.type "list") (rC1 G .list_) := by
  intro pins s σ H xs us Q I r h
  obtain ⟨v, rfl, φ, w1, S, xk, R, r1, h⟩ := h
  unfold p1 at h
  dsimp only at h
  split at h
  · rename_i b ds hq
    obtain ⟨a, vs, rfl, hs, hr⟩ := seq_rp R r1 hq
    exact call_list_of pins s σ H _ us Q I r ⟨a, vs, rfl, by rw [hK]; exact seq_or hs, fun p hp => lis_new R h hr hp⟩
  · exact h.elim

/-! ### methods -/
theorem m_pop : MtR X "list.pop" (fun x xs H Q => xs = [] ∧ rP1 G (p1 .pop) x H Q) := by
  intro pins s σ H x xs v us Q I rx rs h
  obtain ⟨rfl, φ, w1, S, xk, R, r1, h⟩ := h
  unfold p1 at h
  dsimp only at h
  split at h
  · rename_i n
    split at h
    · rename_i ds hs
      split at h
      · rename_i d hd
        unfold RpW Rp at r1
        obtain ⟨a, rfl, ha⟩ := r1
        obtain ⟨vs, h1, h2⟩ := R.obj n a _ ha hs
        have hg : ds[ds.length - 1]? = some d := by rw [← List.getLast?_eq_getElem?]; exact hd
        obtain ⟨y, hy, ry⟩ := h2.get hg
        rw [h2.len] at hy
        have k := keep_write (u := .lst vs.dropLast) R ha
        refine mt_pop pins s σ H _ [] v us Q I rx rs ⟨a, vs, y, rfl, rfl, h1, hy, ?_⟩
        exact Post.ok (L := RlW G) h (Ext.write R ha) (R.write ha ⟨_, upd_same, Rps.mono k _ _ h2.dropLast⟩) (rl_val (Rp.mono k _ _ ry))
      · exact h.elim
    · exact h.elim
  · exact h.elim
/-- a method of one argument, at the start (φ0, H0) -/
def rM1 (G : Gb) (o : P2) : V → List V → Hp → VK → Prop := fun x xs H Q => ∃ y φ0 H0 φ w1 w2 S xk, xs = [y] ∧ Ext φ0 H0 φ H ∧ Rel G φ H S ∧ RpW G φ H w1 x ∧ RlW G H0 φ H w2 y ∧ Post G (RlW G) φ0 H0 (p2 o w1 w2 S) xk Q
theorem m_append : MtR X "list.append" (rM1 G .append) := by
  intro pins s σ H x xs v us Q I rx rs h
  obtain ⟨y, φ0, H0, φ, w1, w2, S, xk, rfl, E, R, r1, r2, h⟩ := h
  unfold p2 at h
  dsimp only at h
  -- the argument's place
  have key : ∃ d φ1 S1, toD w2 S = .ok d S1 ∧ Ext φ0 H0 φ1 H ∧ Rel G φ1 H S1 ∧ Rp G φ1 H d y ∧ (∀ (n : Nat) (a : Addr), φ[n]? = some a → φ1[n]? = some a) := by
    cases w2 with
    | val d => exact ⟨d, φ, S, rfl, E, R, r2.1, fun _ _ h => h⟩
    | lis ds =>
      obtain ⟨⟨p, vs, rfl, hp, n, r⟩, f⟩ := r2
      have f := f ds p rfl rfl
      refine ⟨_, φ ++ [p], S ++ [.lst ds], rfl, ⟨E.pre.trans (List.prefix_append _ _), E.keep, fun z hz => ?_⟩, R.more (o := .lst ds) n ⟨vs, hp, r⟩, ?_, fun m a hm => ?_⟩
      · rcases List.mem_append.mp hz with q | q
        · exact E.new z q
        · simp at q; subst q; exact .inr f
      · unfold Rp
        exact ⟨p, rfl, by rw [← R.len]; simp⟩
      · rw [List.getElem?_append_left (List.getElem?_eq_some_iff.mp hm).1]; exact hm
  obtain ⟨d, φ1, S1, ht, E1, R1, rd, hk⟩ := key
  rw [ht] at h
  simp only [Mi.R.bd] at h
  cases w1 with
  | lis ds => exact h.elim
  | val d1 =>
    cases d1 with
    | ref n =>
      unfold RpW Rp at r1
      obtain ⟨a, rfl, ha⟩ := r1
      have ha1 := hk _ _ ha
      have h : Post G (RlW G) φ0 H0 (match S1[n]? with
        | some (.lst ds) => if ds.length < sizeLine then vv .non (S1.set n (.lst (ds ++ [d]))) else .bad
        | _ => .bad) xk Q := h
      cases hs : S1[n]? with
      | none => rw [hs] at h; exact h.elim
      | some o =>
        cases o with
        | lst ds =>
          rw [hs] at h
          have h : Post G (RlW G) φ0 H0 (if ds.length < sizeLine then vv .non (S1.set n (.lst (ds ++ [d]))) else .bad) xk Q := h
          by_cases c : ds.length < sizeLine
          · rw [if_pos c] at h
            obtain ⟨vs, h1, h2⟩ := R1.obj n a _ ha1 hs
            have k := keep_write (u := .lst (vs ++ [y])) R1 ha1
            refine mt_append pins s σ H _ [y] v us Q I rx rs ⟨a, vs, y, rfl, rfl, h1, by rw [← h2.len]; exact c, ?_⟩
            exact Post.ok (L := RlW G) h (E1.trans (Ext.write R1 ha1)) (R1.write ha1 ⟨_, upd_same, Rps.mono k _ _ (h2.snoc rd)⟩) (rl_val rp_no)
          · rw [if_neg c] at h; exact h.elim
        | _ => rw [hs] at h; exact h.elim
    | _ => exact h.elim
theorem rl_sh {φ φ0 : List Addr} {H H0 : Hp} {S : Store} {r : Mi.R W} {xk : XK} {Q : VK} (h : Post G (RlW G) φ0 H0 r xk Q) (E : Ext φ0 H0 φ H) (R : Rel G φ H S) : Post G (RlW G) φ H r xk Q := h.sh E R mnW
theorem m_extend : MtR X "list.extend" (rM1 G .extend) := by
  intro pins s σ H x xs v us Q I rx rs h
  obtain ⟨y, φ0, H0, φ, w1, w2, S, xk, rfl, E, R, r1, r2, h⟩ := h
  replace h := rl_sh h E R
  unfold p2 at h
  dsimp only at h
  split at h
  · rename_i n
    split at h
    · rename_i ds hs
      split at h
      · rename_i b es hq
        by_cases c : (isLst S w2 && decide (ds.length + es.length ≤ sizeLine)) = true
        · rw [if_pos c] at h
          obtain ⟨c1, c2⟩ := Bool.and_eq_true_iff.mp c
          have c2 := of_decide_eq_true c2
          unfold RpW Rp at r1
          obtain ⟨a, rfl, ha⟩ := r1
          obtain ⟨vs, h1, h2⟩ := R.obj n a _ ha hs
          obtain ⟨b, ws, rfl, hb, hr⟩ := lst_rp R r2.1 hq c1
          have k := keep_write (u := .lst (vs ++ ws)) R ha
          refine mt_extend pins s σ H _ [.ref b] v us Q I rx rs ⟨a, b, vs, ws, rfl, rfl, h1, hb, by rw [← h2.len, ← hr.len]; exact c2, ?_⟩
          exact Post.ok (L := RlW G) h (Ext.write R ha) (R.write ha ⟨_, upd_same, Rps.mono k _ _ (h2.app hr)⟩) (rl_val rp_no)
        · rw [if_neg c] at h; exact h.elim
      · exact h.elim
    · exact h.elim
  · exact h.elim
theorem strs_v {φ : List Addr} {H : Hp} : ∀ {ds : List D} {ys : List Str} {vs : List V}, strsOf ds = some ys → Rps G φ H ds vs → vs = ys.map V.str
  | [], ys, vs, h, r => by unfold strsOf at h; cases h; unfold Rps at r; exact r
  | d :: ds, ys, vs, h, r => by
    unfold strsOf at h
    cases d with
    | str x =>
      dsimp only at h
      obtain ⟨zs, hz, rfl⟩ := Option.map_eq_some_iff.mp h
      unfold Rps at r
      obtain ⟨v, t, rfl, r1, r2⟩ := r
      unfold Rp at r1
      rw [r1, strs_v hz r2]
      rfl
    | _ => cases h
theorem m_join (hK : X.K = G.K) : MtR X "str.join" (rM1 G .join) := by
  intro pins s σ H x xs v us Q I rx rs h
  obtain ⟨y, φ0, H0, φ, w1, w2, S, xk, rfl, E, R, r1, r2, h⟩ := h
  replace h := rl_sh h E R
  unfold p2 at h
  dsimp only at h
  split at h
  · rename_i a
    split at h
    · rename_i b ds hq
      split at h
      · rename_i ys hys
        by_cases c : joinFits a ys = true
        · rw [if_pos c] at h
          obtain ⟨p, vs, rfl, hs, hr⟩ := seq_rp R r2.1 hq
          have e := strs_v hys hr
          subst e
          have e := rp_str r1
          subst e
          exact mt_join pins s σ H _ _ v us Q I rx rs ⟨a, p, ys, rfl, rfl, by rw [hK]; exact seq_or hs, of_decide_eq_true c, vv_ok R h rp_st⟩
        · rw [if_neg c] at h; exact h.elim
      · exact h.elim
    · exact h.elim
  · exact h.elim
end
end Mi

set_option maxHeartbeats 1000000
/-! Mi, part L: list(zip(a, b)) of two lists or two tuples. -/
namespace Mi.Z
open PySem PySem.Spec PyProof.Rows L2 PySem.W PySem.Calls

theorem zip_no_len : typeLookup (.type "zip") "__len__" = pure none := by rw [typeLookup_type, builtinLookup_eq_fast]; kernel_rfl
theorem zip_no_hint : typeLookup (.type "zip") "__length_hint__" = pure none := by rw [typeLookup_type, builtinLookup_eq_fast]; kernel_rfl

/-- how an iterator of a kind is turned -/
structure IterK (prog : Program) (w : World) (It : Heap → Addr → Addr → Nat → Prop) (Sq : Heap → Addr → Array Value → Prop) : Prop where
  keepI : ∀ {h h' : Heap} {it l : Addr} {k : Nat}, It h it l k → (∀ o, h.get? it = some o → h'.get? it = some o) → It h' it l k
  keepS : ∀ {h h' : Heap} {l : Addr} {xs : Array Value}, Sq h l xs → (∀ o, h.get? l = some o → h'.get? l = some o) → Sq h' l xs
  there : ∀ {h : Heap} {it l : Addr} {k : Nat}, It h it l k → it < h.objs.size
  item : ∀ {A : Around} {E : Value → Shared → Prop} {s : Shared} {it l : Addr} {i : Nat} {items : Array Value} {x : Value} {Q : Value → Shared → Prop}, It s.heap it l i → Sq s.heap l items → items[i]? = some x →
    (∀ h', It h' it l (i + 1) → Heap.SameBut it s.heap h' → Q x { s with heap := h' }) → wpAny (model prog w) A (Builtin.SmallTypes.nextOf (.ref it)) Q E s
  stop : ∀ {A : Around} {E : Value → Shared → Prop} {s : Shared} {it l : Addr} {i : Nat} {items : Array Value} {Q : Value → Shared → Prop}, A.handled = none → It s.heap it l i → Sq s.heap l items → items[i]? = none →
    (∀ h' e, Heap.ExtBut it s.heap h' → (∃ o, h'.get? e = some o ∧ o.cls = .type "StopIteration") → E (.ref e) { s with heap := h' }) → wpAny (model prog w) A (Builtin.SmallTypes.nextOf (.ref it)) Q E s
theorem iterL {prog : Program} {w : World} : IterK prog w Heap.IsListIter Heap.IsList where
  keepI := fun h k => h.at k
  keepS := fun h k => h.at k
  there := fun ⟨_, h, _⟩ => Heap.lt_size h
  item := fun h1 h2 h3 h4 => wpAny_nextOf_list_item h1 h2 h3 h4
  stop := fun h0 h1 h2 h3 h4 => wpAny_nextOf_list_end h0 h1 h2 h3 h4
theorem iterT {prog : Program} {w : World} : IterK prog w Heap.IsTupleIter Heap.IsTuple where
  keepI := fun h k => h.at k
  keepS := fun h k => h.at k
  there := fun ⟨_, h, _⟩ => Heap.lt_size h
  item := fun h1 h2 h3 h4 => RZ.nextOf_tuple_item h1 h2 h3 h4
  stop := fun h0 h1 h2 h3 h4 => RZ.nextOf_tuple_end h0 h1 h2 h3 h4

section
variable {prog : Program} {w : World} {A : Around} {E : Value → Shared → Prop} {s : Shared} {It : Heap → Addr → Addr → Nat → Prop} {Sq : Heap → Addr → Array Value → Prop}
theorem next_held (KK : IterK prog w It Sq) {z TI TO T i1 i2 l1 l2 : Addr} {f : Bool} {oT : Obj} {k1 k2 : Nat} {xs ys : Array Value} {x y : Value} {Q : Value → Shared → Prop} (D : ZipApart z TI TO i1 i2 l1 l2)
    (hz : IsZipHeld s.heap z TI TO T f) (hT : s.heap.get? T = some oT) (hTI : IsPair s.heap TI (.ref i1) (.ref i2))
    (h1 : It s.heap i1 l1 k1) (h2 : It s.heap i2 l2 k2) (hl1 : Sq s.heap l1 xs) (hl2 : Sq s.heap l2 ys) (hx : xs[k1]? = some x) (hy : ys[k2]? = some y)
    (hQ : ∀ h', IsZipHeld h' z TI TO T true → It h' i1 l1 (k1 + 1) → It h' i2 l2 (k2 + 1) → IsPair h' s.heap.objs.size x y → h'.objs.size = s.heap.objs.size + 1 →
      (∀ c o, c ≠ z → c ≠ i1 → c ≠ i2 → s.heap.get? c = some o → h'.get? c = some o) → Q (.ref s.heap.objs.size) { s with heap := h' }) :
    wpAny (model prog w) A (Builtin.«zip.__next__» ⟨[.ref z], []⟩) (fun fin s' => ∃ v, fin = .done (.ret v) ∧ Q v s') E s := by
  show wpAny _ _ (field (.ref z) 2 >>= _) _ _ _
  refine wpAny_bind (wpAny_field hz rfl (x := .bool false) rfl ?_)
  show wpAny _ _ (field (.ref z) 3 >>= _) _ _ _
  refine wpAny_bind (wpAny_field hz rfl (x := .ref TI) rfl ?_)
  refine wpAny_bind (wpAny_seqItems hTI rfl ?_)
  show wpAny _ _ (Builtin.SmallTypes.ownedTupleIsFree (.ref z) >>= _) _ _ _
  refine wpAny_bind (wpAny_tupleHeld_zip hz hT fun h₁ hz₁ hs₁ => ?_)
  simp only [Bool.false_eq_true, if_false]
  refine wpAny_bind ?_
  rw [← Array.forIn_toList]
  simp only [List.forIn_cons, List.forIn_nil]
  refine wpAny_bind (wpAny_bind (wpAny_holding ?_))
  show wpAny _ _ (Builtin.SmallTypes.nextOf (.ref i1) >>= _) _ _ _
  refine wpAny_bind (KK.item (s := { s with heap := h₁ }) (KK.keepI h1 fun o e => hs₁.extBut _ _ D.i1z e) (KK.keepS hl1 fun o e => hs₁.extBut _ _ D.l1z e) hx fun h₂ h1₂ hs₂ => wpAny_pure ?_)
  refine wpAny_pure ?_
  refine wpAny_bind (wpAny_bind (wpAny_holding ?_))
  show wpAny _ _ (Builtin.SmallTypes.nextOf (.ref i2) >>= _) _ _ _
  refine wpAny_bind (KK.item (s := { s with heap := h₂ }) (KK.keepI h2 fun o e => hs₂.extBut _ _ D.i12.symm (hs₁.extBut _ _ D.i2z e)) (KK.keepS hl2 fun o e => hs₂.extBut _ _ D.l2i1 (hs₁.extBut _ _ D.l2z e)) hy fun h₃ h2₃ hs₃ => wpAny_pure ?_)
  refine wpAny_pure (wpAny_pure ?_)
  show wpAny _ _ (newTuple [x, y] >>= _) _ _ _
  refine wpAny_bind (wpAny_newTuple ?_)
  have hsz : h₃.objs.size = s.heap.objs.size := by rw [hs₃.1, hs₂.1, hs₁.1]
  have hz₃ : IsZipHeld h₃ z TI TO T true := hs₃.extBut _ _ D.i2z.symm (hs₂.extBut _ _ D.i1z.symm hz₁)
  have hk : ∀ c o, c ≠ z → c ≠ i1 → c ≠ i2 → s.heap.get? c = some o → h₃.get? c = some o := fun c o c1 c2 c3 e => hs₃.extBut _ _ c3 (hs₂.extBut _ _ c2 (hs₁.extBut _ _ c1 e))
  have h1₃ : It h₃ i1 l1 (k1 + 1) := KK.keepI h1₂ fun o e => hs₃.extBut _ _ D.i12 e
  refine wpAny_pure ⟨_, rfl, ?_⟩
  show Q (.ref h₃.objs.size) _
  have hp : IsPair (h₃.push { cls := .type "tuple", data := .seq #[x, y] }) h₃.objs.size x y := Heap.get?_push_size _ rfl
  have hz4 : (h₃.push { cls := .type "tuple", data := .seq #[x, y] }).objs.size = h₃.objs.size + 1 := Heap.size_push ..
  rw [hsz] at hp hz4 ⊢
  exact hQ _ (Heap.get?_push_of_some _ hz₃) (KK.keepI h1₃ fun o e => Heap.get?_push_of_some _ e) (KK.keepI h2₃ fun o e => Heap.get?_push_of_some _ e) hp hz4 fun c o c1 c2 c3 e => Heap.get?_push_of_some _ (hk c o c1 c2 c3 e)
theorem stop_held (KK : IterK prog w It Sq) {z TI TO T i1 i2 l1 l2 : Addr} {f : Bool} {oT : Obj} {k1 k2 : Nat} {xs ys : Array Value} {Q : PySem.Fin → Shared → Prop} (hh : A.handled = none) (D : ZipApart z TI TO i1 i2 l1 l2)
    (hz : IsZipHeld s.heap z TI TO T f) (hT : s.heap.get? T = some oT) (hTI : IsPair s.heap TI (.ref i1) (.ref i2))
    (h1 : It s.heap i1 l1 k1) (h2 : It s.heap i2 l2 k2) (hl1 : Sq s.heap l1 xs) (hl2 : Sq s.heap l2 ys) (hend : xs[k1]? = none ∨ ys[k2]? = none)
    (hE : ∀ h' e, (∀ c o, c ≠ z → c ≠ i1 → c ≠ i2 → s.heap.get? c = some o → h'.get? c = some o) → (∃ o, h'.get? e = some o ∧ o.cls = .type "StopIteration") → E (.ref e) { s with heap := h' }) :
    wpAny (model prog w) A (Builtin.«zip.__next__» ⟨[.ref z], []⟩) Q E s := by
  show wpAny _ _ (field (.ref z) 2 >>= _) _ _ _
  refine wpAny_bind (wpAny_field hz rfl (x := .bool false) rfl ?_)
  show wpAny _ _ (field (.ref z) 3 >>= _) _ _ _
  refine wpAny_bind (wpAny_field hz rfl (x := .ref TI) rfl ?_)
  refine wpAny_bind (wpAny_seqItems hTI rfl ?_)
  show wpAny _ _ (Builtin.SmallTypes.ownedTupleIsFree (.ref z) >>= _) _ _ _
  refine wpAny_bind (wpAny_tupleHeld_zip hz hT fun h₁ hz₁ hs₁ => ?_)
  simp only [Bool.false_eq_true, if_false]
  refine wpAny_bind ?_
  rw [← Array.forIn_toList]
  simp only [List.forIn_cons, List.forIn_nil]
  refine wpAny_bind (wpAny_bind (wpAny_holding ?_))
  show wpAny _ _ (Builtin.SmallTypes.nextOf (.ref i1) >>= _) _ _ _
  cases hx : xs[k1]? with
  | none =>
    refine wpAny_bind (KK.stop (s := { s with heap := h₁ }) hh (KK.keepI h1 fun o e => hs₁.extBut _ _ D.i1z e) (KK.keepS hl1 fun o e => hs₁.extBut _ _ D.l1z e) hx fun h₂ e hs₂ he => ?_)
    exact hE h₂ e (fun c o c1 c2 _ x => hs₂ _ _ c2 (hs₁.extBut _ _ c1 x)) he
  | some x =>
    have hy : ys[k2]? = none := by rcases hend with h | h; rw [hx] at h; cases h; exact h
    refine wpAny_bind (KK.item (s := { s with heap := h₁ }) (KK.keepI h1 fun o e => hs₁.extBut _ _ D.i1z e) (KK.keepS hl1 fun o e => hs₁.extBut _ _ D.l1z e) hx fun h₂ h1₂ hs₂ => wpAny_pure ?_)
    refine wpAny_pure ?_
    refine wpAny_bind (wpAny_bind (wpAny_holding ?_))
    show wpAny _ _ (Builtin.SmallTypes.nextOf (.ref i2) >>= _) _ _ _
    refine wpAny_bind (KK.stop (s := { s with heap := h₂ }) hh (KK.keepI h2 fun o e => hs₂.extBut _ _ D.i12.symm (hs₁.extBut _ _ D.i2z e)) (KK.keepS hl2 fun o e => hs₂.extBut _ _ D.l2i1 (hs₁.extBut _ _ D.l2z e)) hy fun h₃ e hs₃ he => ?_)
    exact hE h₃ e (fun c o c1 c2 c3 x => hs₃ _ _ c3 (hs₂.extBut _ _ c2 (hs₁.extBut _ _ c1 x))) he
theorem pyNext_held (KK : IterK prog w It Sq) {z TI TO T i1 i2 l1 l2 : Addr} {f : Bool} {oT : Obj} {k1 k2 : Nat} {xs ys : Array Value} {x y : Value} {Q : Option Value → Shared → Prop} (D : ZipApart z TI TO i1 i2 l1 l2)
    (hz : IsZipHeld s.heap z TI TO T f) (hT : s.heap.get? T = some oT) (hTI : IsPair s.heap TI (.ref i1) (.ref i2))
    (h1 : It s.heap i1 l1 k1) (h2 : It s.heap i2 l2 k2) (hl1 : Sq s.heap l1 xs) (hl2 : Sq s.heap l2 ys) (hx : xs[k1]? = some x) (hy : ys[k2]? = some y)
    (hQ : ∀ h', IsZipHeld h' z TI TO T true → It h' i1 l1 (k1 + 1) → It h' i2 l2 (k2 + 1) → IsPair h' s.heap.objs.size x y → h'.objs.size = s.heap.objs.size + 1 →
      (∀ c o, c ≠ z → c ≠ i1 → c ≠ i2 → s.heap.get? c = some o → h'.get? c = some o) → Q (some (.ref s.heap.objs.size)) { s with heap := h' }) :
    wpAny (model prog w) A (pyNext (.ref z)) Q E s := by
  have hTy : s.TypeIs (.ref z) "zip" := ⟨_, hz, rfl⟩
  unfold pyNext
  exact wpAny_bind (wpAny_attempt (wpAny_callSpecial?_slot (name := Str.ofString "__next__") hTy PySem.F.slot_zip_next
    (wpAny_call_entry PySem.F.slot_zip_next hTy PySem.F.entry_zip_next
      (next_held KK D hz hT hTI h1 h2 hl1 hl2 hx hy fun h' a1 a3 a4 a5 a6 a7 => wpAny_pure (hQ h' a1 a3 a4 a5 a6 a7)) (PySem.F.args_zip_next_1 _))))
theorem pyStop_held (KK : IterK prog w It Sq) {z TI TO T i1 i2 l1 l2 : Addr} {f : Bool} {oT : Obj} {k1 k2 : Nat} {xs ys : Array Value} {Q : Option Value → Shared → Prop} (hh : A.handled = none) (D : ZipApart z TI TO i1 i2 l1 l2)
    (hz : IsZipHeld s.heap z TI TO T f) (hT : s.heap.get? T = some oT) (hTI : IsPair s.heap TI (.ref i1) (.ref i2))
    (h1 : It s.heap i1 l1 k1) (h2 : It s.heap i2 l2 k2) (hl1 : Sq s.heap l1 xs) (hl2 : Sq s.heap l2 ys) (hend : xs[k1]? = none ∨ ys[k2]? = none)
    (hQ : ∀ h', (∀ c o, c ≠ z → c ≠ i1 → c ≠ i2 → s.heap.get? c = some o → h'.get? c = some o) → Q none { s with heap := h' }) : wpAny (model prog w) A (pyNext (.ref z)) Q E s := by
  have hTy : s.TypeIs (.ref z) "zip" := ⟨_, hz, rfl⟩
  unfold pyNext
  refine wpAny_bind (wpAny_attempt (wpAny_callSpecial?_slot (name := Str.ofString "__next__") hTy PySem.F.slot_zip_next
    (wpAny_call_entry PySem.F.slot_zip_next hTy PySem.F.entry_zip_next (stop_held KK hh D hz hT hTI h1 h2 hl1 hl2 hend fun h' e hk he => ?_) (PySem.F.args_zip_next_1 _))))
  obtain ⟨o, ho, hc⟩ := he
  refine wpAny_bind (wpAny_isInstance (T := "StopIteration") (b := true) ⟨o, ho, hc⟩ isSubtype_stop ?_)
  exact wpAny_pure (hQ _ hk)
end

/-- a zip whose n items are new pairs, while at S a list is being filled -/
structure ZSrc (prog : Program) (w : World) (A : Around) (z S : Addr) (ch : List Addr) (n : Nat) (P : Nat → Value × Value) (St : Nat → Heap → Prop) : Prop where
  off : S ∉ ch
  low : ∀ b ∈ ch, b < S
  frame : ∀ i h h', St i h → (∀ b o, b ≠ S → h.get? b = some o → h'.get? b = some o) → St i h'
  type : ∀ i (s : Shared), St i s.heap → s.TypeIs (.ref z) "zip"
  self : ∀ i (s : Shared) (Q : Value → Shared → Prop) (E : Value → Shared → Prop), St i s.heap → Q (.ref z) s → wpAny (model prog w) A (pyIter (.ref z)) Q E s
  item : ∀ i (s : Shared) (Q : Option Value → Shared → Prop) (E : Value → Shared → Prop), i < n → St i s.heap → S < s.heap.objs.size →
    (∀ h', St (i + 1) h' → IsPair h' s.heap.objs.size (P i).1 (P i).2 → h'.objs.size = s.heap.objs.size + 1 → (∀ b o, b ∉ ch → s.heap.get? b = some o → h'.get? b = some o) → Q (some (.ref s.heap.objs.size)) { s with heap := h' }) → wpAny (model prog w) A (pyNext (.ref z)) Q E s
  done : ∀ (s : Shared) (Q : Option Value → Shared → Prop) (E : Value → Shared → Prop), St n s.heap →
    (∀ h', (∀ b o, b ∉ ch → s.heap.get? b = some o → h'.get? b = some o) → Q none { s with heap := h' }) → wpAny (model prog w) A (pyNext (.ref z)) Q E s
structure ZG (P : Nat → Value × Value) (lo : Addr) (h : Heap) (as : List Addr) : Prop where
  rise : as.Pairwise (· < ·)
  above : ∀ a ∈ as, lo < a
  pairs : ∀ (j : Nat) (a : Addr), as[j]? = some a → IsPair h a (P j).1 (P j).2
theorem ZG.there {P : Nat → Value × Value} {lo : Addr} {h : Heap} {as : List Addr} (g : ZG P lo h as) {a : Addr} (ha : a ∈ as) : a < h.objs.size := by
  obtain ⟨j, hj⟩ := List.mem_iff_getElem?.mp ha
  exact Heap.lt_size (g.pairs j a hj)
section
variable {prog : Program} {w : World} {A : Around} {s : Shared} {R : Result → Shared → Prop} {n : Nat} {P : Nat → Value × Value} {St : Nat → Heap → Prop} {z S : Addr} {ch : List Addr}
theorem z_loop (Z : ZSrc prog w A.in1 z S ch n P St) (hn : n ≤ sizeLine) (res : Value) {h₁ : Heap}
    (hR : ∀ h' tk acc c as, (∀ b o, b ≠ S → b ∉ ch → h₁.get? b = some o → h'.get? b = some o) → h'.get? S = some { cls := .type "list", dict := none, data := .seq acc c, slots := #[] } → as.length = n → ZG P S h' as →
      acc.toList = as.map Value.ref → R (.ok (.ret res)) { s with heap := h', toks := tk }) :
    ∀ (k i : Nat) (h : Heap) (tk c : Nat) (acc : Array Value) (as : List Addr), n - i = k → i ≤ n → St i h → (∀ b o, b ≠ S → b ∉ ch → h₁.get? b = some o → h.get? b = some o) →
      h.get? S = some { cls := .type "list", dict := none, data := .seq acc c, slots := #[] } → acc.toList = as.map Value.ref → as.length = i → ZG P S h as →
      codeAny (model prog w) A (.builtin "list.extend.loop" ⟨[.ref S, .ref z, res], []⟩) R { s with heap := h, toks := tk } := by
  intro k
  induction k with
  | zero =>
    intro i h tk c acc as hk hi hst hkeep hS hacc hal hG
    have hin : i = n := by omega
    subst hin
    refine codeAny_builtin PySem.F.entry_extend_loop ?_
    rw [Around.under_plainId PySem.F.plain_extend_loop _]
    show wpAny _ A.in1 (pyNext (.ref z) >>= _) _ _ _
    refine wpAny_bind (Z.done { s with heap := h, toks := tk } _ _ hst fun h' he => ?_)
    refine wpAny_pure (hR h' tk acc c as (fun b o h1 h2 e => he b o h2 (hkeep b o h1 h2 e)) (he S _ Z.off hS) hal ⟨hG.rise, hG.above, fun j a hj => ?_⟩ hacc)
    exact he a _ (fun hm => Nat.lt_asymm (hG.above a (List.mem_of_getElem? hj)) (Z.low a hm)) (hG.pairs j a hj)
  | succ k ih =>
    intro i h tk c acc as hk hi hst hkeep hS hacc hal hG
    have hlt : i < n := by omega
    have hsz : acc.size = i := by rw [← Array.length_toList, hacc, List.length_map, hal]
    have hSl : S < h.objs.size := Heap.lt_size hS
    refine codeAny_builtin PySem.F.entry_extend_loop ?_
    rw [Around.under_plainId PySem.F.plain_extend_loop _]
    show wpAny _ A.in1 (pyNext (.ref z) >>= _) _ _ _
    refine wpAny_bind (Z.item i { s with heap := h, toks := tk } _ _ hlt hst hSl fun h' hst' ht hz hkp => ?_)
    dsimp only at ht hz hkp ⊢
    have hS' := hkp S _ Z.off hS
    have up : ∀ b o, b ≠ S → h'.get? b = some o → (h'.update S (Obj.mapSeq (·.push (Value.ref h.objs.size)))).get? b = some o := fun b o hb e => (Heap.get?_update_other _ _ (Ne.symm hb)).trans e
    have nch : ∀ a, S < a → a ∉ ch := fun a ha hm => Nat.lt_asymm ha (Z.low a hm)
    show wpAny _ A.in1 (updateSeq S (·.push (Value.ref h.objs.size)) >>= _) _ _ _
    refine wpAny_bind ?_
    refine wpAny_updateSeq hS' rfl (wpAny_pure ⟨plainId_quiet PySem.F.plain_extend_loop _, ih (i + 1) _ tk _ (acc.push (Value.ref h.objs.size)) (as ++ [h.objs.size]) (by omega) hlt (Z.frame _ _ _ hst' up)
      (fun b o h1 h2 e => up b o h1 (hkp b o h2 (hkeep b o h1 h2 e))) (Heap.get?_update_self _ hS' rfl) (by rw [Array.toList_push, hacc, List.map_append]; rfl) (by rw [List.length_append, hal]; rfl) ⟨?_, ?_, ?_⟩⟩) (by rw [hsz]; omega) (by show (acc.push (Value.ref h.objs.size)).size ≤ sizeLine + 1; rw [Array.size_push, hsz]; omega)
    · refine List.pairwise_append.mpr ⟨hG.rise, List.pairwise_singleton _ _, fun a ha b hb => ?_⟩
      rw [List.mem_singleton.mp hb]
      exact hG.there ha
    · intro a ha
      rcases List.mem_append.mp ha with ha | ha
      · exact hG.above a ha
      · rw [List.mem_singleton.mp ha]; exact hSl
    · intro j b hj
      rcases Nat.lt_trichotomy j as.length with h1 | h1 | h1
      · rw [List.getElem?_append_left h1] at hj
        have hb := hG.above b (List.mem_of_getElem? hj)
        exact up b _ (Nat.ne_of_gt hb) (hkp b _ (nch b hb) (hG.pairs j b hj))
      · subst h1
        have hb : h.objs.size = b := by simpa using hj
        subst hb
        subst hal
        exact up _ _ (Nat.ne_of_gt hSl) ht
      · have hnone : (as ++ [h.objs.size])[j]? = none := List.getElem?_eq_none (by rw [List.length_append, List.length_singleton]; omega)
        rw [hnone] at hj; cases hj
theorem z_extend (Z : ZSrc prog w A.in1 z S ch n P St) (hn : n ≤ sizeLine) (res : Value) (c₀ : Nat) (st : St 0 s.heap) (hSz : S ≠ z) (hS : s.heap.get? S = some { cls := .type "list", data := .seq #[] c₀ })
    (hR : ∀ h' tk acc c as, (∀ b o, b ≠ S → b ∉ ch → s.heap.get? b = some o → h'.get? b = some o) → h'.get? S = some { cls := .type "list", dict := none, data := .seq acc c, slots := #[] } → as.length = n → ZG P S h' as →
      acc.toList = as.map Value.ref → R (.ok (.ret res)) { s with heap := h', toks := tk }) :
    wpAny (model prog w) A.in1 (Builtin.List.listExtendWith (.ref S) (.ref z) res)
      (fun fin s' => match fin with | .done f => R (.ok f) s' | .again c' => c'.quiet = true ∧ codeAny (model prog w) A c' R s') (fun e s' => R (.error e) s') s := by
  unfold Builtin.List.listExtendWith
  refine wpAny_bind (wpAny_typeOf (Z.type 0 s st) ?_)
  have h1 : Builtin.List.listSameRef (.ref S) (.ref z) = false := by simp [Builtin.List.listSameRef, hSz]
  have h2 : (Value.type "zip" == Value.type "list") = false := by decide
  have h3 : (Value.type "zip" == Value.type "tuple") = false := by decide
  simp only [h1, h2, h3, Bool.or_false, Bool.false_eq_true, if_false]
  refine wpAny_bind (Z.self 0 _ _ _ st ?_)
  refine wpAny_bind (wpAny_holding ?_)
  unfold Builtin.List.listLengthHint
  refine wpAny_bind (wpAny_specialOf (Z.type 0 s st) zip_no_len ?_)
  show wpAny _ A.in1 (specialOf (Value.ref z) (Str.ofString "__length_hint__") >>= _) _ _ _
  refine wpAny_bind (wpAny_specialOf (Z.type 0 s st) zip_no_hint ?_)
  refine wpAny_pure ?_
  show wpAny _ A.in1 (rule "list.extend.makes-room" >>= fun _ => Builtin.List.listTouch (.ref S) >>= fun _ =>
    again (.builtin "list.extend.loop" ⟨[.ref S, .ref z, res], []⟩)) _ _ _
  refine wpAny_bind (wpAny_rule ?_)
  refine wpAny_bind ?_
  show wpAny _ A.in1 (updateSeq S (·.push .none) >>= fun _ => updateSeq S (·.pop)) _ _ _
  refine wpAny_bind (wpAny_updateSeq hS rfl ?_)
  have hS₂ := Heap.get?_update_self (Obj.mapSeq (·.push Value.none)) hS rfl
  refine wpAny_updateSeq (hz := by seq_fits) hS₂ rfl ?_
  have hS₃ := Heap.get?_update_self (Obj.mapSeq (·.pop)) hS₂ rfl
  have oth : ∀ b o, b ≠ S → s.heap.get? b = some o → ((s.heap.update S (Obj.mapSeq (·.push Value.none))).update S (Obj.mapSeq (·.pop))).get? b = some o :=
    fun b o hb e => (Heap.get?_update_other _ _ (Ne.symm hb)).trans ((Heap.get?_update_other _ _ (Ne.symm hb)).trans e)
  refine wpAny_pure ⟨plainId_quiet PySem.F.plain_extend_loop _, z_loop (s := s) (h₁ := s.heap) Z hn res hR n 0 _ _ _ #[] [] (Nat.sub_zero _) (Nat.zero_le _) (Z.frame 0 _ _ st oth) (fun b o hb _ e => oth b o hb e) hS₃ rfl rfl
    ⟨List.Pairwise.nil, (fun _ ha => nomatch ha), (fun j a hj => by simp at hj)⟩⟩
theorem z_init (Z : ZSrc prog w A.in1 z S ch n P St) (hn : n ≤ sizeLine) (st : St 0 s.heap) (hSz : S ≠ z) (hS : s.heap.get? S = some { cls := .type "list", data := .seq #[] })
    (hR : ∀ h' tk acc c as, (∀ b o, b ≠ S → b ∉ ch → s.heap.get? b = some o → h'.get? b = some o) → h'.get? S = some { cls := .type "list", dict := none, data := .seq acc c, slots := #[] } → as.length = n → ZG P S h' as →
      acc.toList = as.map Value.ref → R (.ok (.ret .none)) { s with heap := h', toks := tk }) :
    wpAny (model prog w) A.in1 (Builtin.«list.__init__» ⟨[.ref S, .ref z], []⟩)
      (fun fin s' => match fin with | .done f => R (.ok f) s' | .again c' => c'.quiet = true ∧ codeAny (model prog w) A c' R s') (fun e s' => R (.error e) s') s := by
  show wpAny _ _ (do let old ← Builtin.List.listItems (.ref S); Builtin.List.listUpdate (.ref S) (fun _ => #[]); letGo old.toList.reverse; Builtin.List.listExtendWith (.ref S) (.ref z) .none) _ _ s
  refine wpAny_bind ?_
  unfold Builtin.List.listItems
  refine wpAny_bind (wpAny_seqItems hS rfl (wpAny_pure ?_))
  show wpAny _ _ (updateSeq S (fun _ => #[]) >>= fun _ => letGo (#[] : Array Value).toList.reverse >>= fun _ => Builtin.List.listExtendWith (.ref S) (.ref z) .none) _ _ s
  refine wpAny_bind (wpAny_updateSeq hS rfl ?_)
  have hS₂ := Heap.get?_update_self (Obj.mapSeq (fun _ => (#[] : Array Value))) hS rfl
  have oth : ∀ b o, b ≠ S → s.heap.get? b = some o → (s.heap.update S (Obj.mapSeq (fun _ => (#[] : Array Value)))).get? b = some o :=
    fun b o hb e => (Heap.get?_update_other _ _ (Ne.symm hb)).trans e
  refine wpAny_bind (wpAny_letGo ?_)
  refine z_extend (s := { s with heap := s.heap.update S (Obj.mapSeq (fun _ => (#[] : Array Value))) }) Z hn .none _ (Z.frame 0 _ _ st oth) hSz hS₂ fun h' tk acc c as hk hS' hl hG hacc => ?_
  exact hR h' tk acc c as (fun b o hb hc e => hk b o hb hc (oth b o hb e)) hS' hl hG hacc
end
section
variable {prog : Program} {w : World} {A : Around} {E : Value → Shared → Prop} {s : Shared} {n : Nat} {P : Nat → Value × Value} {St : Nat → Heap → Prop} {z : Addr} {ch : List Addr}
theorem z_call {Q : Value → Shared → Prop} (Z : ∀ A : Around, A.handled = none → ZSrc prog w A z s.heap.objs.size ch n P St) (hh : A.handled = none) (hn : n ≤ sizeLine) (hz : z < s.heap.objs.size) (st : St 0 (s.heap.push { cls := .type "list", data := .seq #[] }))
    (hQ : ∀ h' tk acc c as, (∀ b o, b ∉ ch → s.heap.get? b = some o → h'.get? b = some o) → h'.get? s.heap.objs.size = some { cls := .type "list", dict := none, data := .seq acc c, slots := #[] } → as.length = n → ZG P s.heap.objs.size h' as →
      acc.toList = as.map Value.ref → Q (.ref s.heap.objs.size) { s with heap := h', toks := tk }) :
    wpAny (model prog w) A (call (.type "list") [.ref z]) Q E s := by
  refine callType_codes (Q₁ := fun obj s₁ => obj = .ref s.heap.objs.size ∧ s₁ = { s with heap := s.heap.push { cls := .type "list", data := .seq #[] } }) PySem.F.called_list (PySem.F.typeCall_list_1 _) PySem.F.entry_list_init
    (code_list_new _ ⟨rfl, rfl⟩) fun obj s₁ h₁ => ?_
  obtain ⟨rfl, rfl⟩ := h₁
  have hS : (s.heap.push { cls := .type "list", data := .seq #[] }).get? s.heap.objs.size = some { cls := .type "list", data := .seq #[] } := Heap.get?_push_size _ rfl
  refine ⟨⟨_, hS, rfl⟩, PySem.F.args_list_init_2 _ _, z_init (A := A.in1) (s := { s with heap := s.heap.push { cls := .type "list", data := .seq #[] } }) (Z A.in1.in1 hh) hn st (Nat.ne_of_gt hz) hS fun h' tk acc c as hk hS' hl hG hacc => ?_⟩
  exact ⟨rfl, hQ h' tk acc c as (fun b o hb e => hk b o (Nat.ne_of_lt (Heap.lt_size e)) hb (Heap.get?_push_of_some _ e)) hS' hl hG hacc⟩
end
end Mi.Z

/-! Mi, part M: list(zip(a, b)) for the small language. -/
namespace Mi.Z
open PySem PySem.Spec PyProof.Rows L2 PySem.W PySem.Calls
structure IterZ (prog : Program) (w : World) (It : Heap → Addr → Addr → Nat → Prop) (Sq : Heap → Addr → Array Value → Prop) : Prop extends IterK prog w It Sq where
  zitem : ∀ {A : Around} {E : Value → Shared → Prop} {s : Shared} {z TI TO i1 i2 l1 l2 : Addr} {k1 k2 : Nat} {xs ys : Array Value} {x y a b : Value} {Q : Option Value → Shared → Prop}, ZipApart z TI TO i1 i2 l1 l2 →
    IsZip s.heap z TI TO .none → IsPair s.heap TI (.ref i1) (.ref i2) → IsPair s.heap TO a b → It s.heap i1 l1 k1 → It s.heap i2 l2 k2 → Sq s.heap l1 xs → Sq s.heap l2 ys → xs[k1]? = some x → ys[k2]? = some y →
    (∀ h', IsZip h' z TI TO (rawInt s.heap.objs.size) → IsPair h' TO x y → It h' i1 l1 (k1 + 1) → It h' i2 l2 (k2 + 1) → IsPair h' s.heap.objs.size x y → h'.objs.size = s.heap.objs.size + 1 →
      (∀ c o, c ≠ z → c ≠ TO → c ≠ i1 → c ≠ i2 → s.heap.get? c = some o → h'.get? c = some o) → Q (some (.ref s.heap.objs.size)) { s with heap := h' }) → wpAny (model prog w) A (pyNext (.ref z)) Q E s
  zstop : ∀ {A : Around} {E : Value → Shared → Prop} {s : Shared} {z TI TO i1 i2 l1 l2 : Addr} {k1 k2 : Nat} {xs ys : Array Value} {a b : Value} {Q : Option Value → Shared → Prop}, A.handled = none → ZipApart z TI TO i1 i2 l1 l2 →
    IsZip s.heap z TI TO .none → IsPair s.heap TI (.ref i1) (.ref i2) → IsPair s.heap TO a b → It s.heap i1 l1 k1 → It s.heap i2 l2 k2 → Sq s.heap l1 xs → Sq s.heap l2 ys → (xs[k1]? = none ∨ ys[k2]? = none) →
    (∀ h', (∀ c o, c ≠ z → c ≠ TO → c ≠ i1 → c ≠ i2 → s.heap.get? c = some o → h'.get? c = some o) → Q none { s with heap := h' }) → wpAny (model prog w) A (pyNext (.ref z)) Q E s
theorem izL {prog : Program} {w : World} : IterZ prog w Heap.IsListIter Heap.IsList :=
  { iterL with zitem := fun D a b c d e f g h i j => wpAny_pyNext_zip_item D a b c d e f g h i j, zstop := fun hh D a b c d e f g h i => wpAny_pyNext_zip_end hh D a b c d e f g h i }
theorem izT {prog : Program} {w : World} : IterZ prog w Heap.IsTupleIter Heap.IsTuple :=
  { iterT with zitem := fun D a b c d e f g h i j => RZ.pyNext_zipT_item D a b c d e f g h i j, zstop := fun hh D a b c d e f g h i => RZ.pyNext_zipT_end hh D a b c d e f g h i }
section
variable {prog : Program} {w : World} {It : Heap → Addr → Addr → Nat → Prop} {Sq : Heap → Addr → Array Value → Prop}
def ZSt (It : Heap → Addr → Addr → Nat → Prop) (Sq : Heap → Addr → Array Value → Prop) (z TI TO i1 i2 l1 l2 S : Addr) (xs ys : Array Value) (i : Nat) (h : Heap) : Prop :=
  IsPair h TI (.ref i1) (.ref i2) ∧ It h i1 l1 i ∧ It h i2 l2 i ∧ Sq h l1 xs ∧ Sq h l2 ys ∧ ((IsZip h z TI TO .none ∧ ∃ a b, IsPair h TO a b) ∨ ∃ T f oT, IsZipHeld h z TI TO T f ∧ h.get? T = some oT ∧ T ≠ z ∧ T ≠ i1 ∧ T ≠ i2 ∧ T ≠ S)
theorem zsrc (KK : IterZ prog w It Sq) {z TI TO i1 i2 l1 l2 S : Addr} (D : ZipApart z TI TO i1 i2 l1 l2) {xs ys : Array Value} (hz : z < S) (hTI : TI < S) (hTO : TO < S) (h1 : i1 < S) (h2 : i2 < S) (hl1 : l1 < S) (hl2 : l2 < S) (A : Around) (hA : A.handled = none) :
    ZSrc prog w A z S [z, TO, i1, i2] (min xs.size ys.size) (fun i => (xs.getD i .none, ys.getD i .none)) (ZSt It Sq z TI TO i1 i2 l1 l2 S xs ys) where
  off := by
    intro hm
    simp only [List.mem_cons, List.not_mem_nil, or_false] at hm
    rcases hm with e | e | e | e
    · exact Nat.ne_of_gt hz e
    · exact Nat.ne_of_gt hTO e
    · exact Nat.ne_of_gt h1 e
    · exact Nat.ne_of_gt h2 e
  low := fun b hm => by
    simp only [List.mem_cons, List.not_mem_nil, or_false] at hm
    rcases hm with rfl | rfl | rfl | rfl <;> assumption
  frame := fun i h h' st hk => by
    obtain ⟨a1, a2, a3, a4, a5, hz'⟩ := st
    refine ⟨hk _ _ (Nat.ne_of_lt hTI) a1, KK.keepI a2 fun o e => hk _ _ (Nat.ne_of_lt h1) e, KK.keepI a3 fun o e => hk _ _ (Nat.ne_of_lt h2) e, KK.keepS a4 fun o e => hk _ _ (Nat.ne_of_lt hl1) e, KK.keepS a5 fun o e => hk _ _ (Nat.ne_of_lt hl2) e, ?_⟩
    rcases hz' with ⟨b1, a, b, b2⟩ | ⟨T, f, oT, b1, b2, r1, r2, r3, r4⟩
    · exact .inl ⟨hk _ _ (Nat.ne_of_lt hz) b1, a, b, hk _ _ (Nat.ne_of_lt hTO) b2⟩
    · exact .inr ⟨T, f, oT, hk _ _ (Nat.ne_of_lt hz) b1, hk _ _ r4 b2, r1, r2, r3, r4⟩
  type := fun i s st => by
    obtain ⟨_, _, _, _, _, ⟨b1, _⟩ | ⟨T, f, oT, b1, _⟩⟩ := st
    · exact ⟨_, b1, rfl⟩
    · exact ⟨_, b1, rfl⟩
  self := fun i s Q E st h => by
    obtain ⟨_, _, _, _, _, ⟨b1, _⟩ | ⟨T, f, oT, b1, _⟩⟩ := st
    · exact wpAny_pyIter_zip b1 h
    · have hT : s.TypeIs (.ref z) "zip" := ⟨_, b1, rfl⟩
      refine wpAny_pyIter_slot hT PySem.F.slot_zip_iter (wpAny_call_entry PySem.F.slot_zip_iter hT PySem.F.entry_zip_iter ?_ (PySem.F.args_zip_iter_1 _))
      show wpAny _ _ (ret (.ref z)) _ _ s
      exact wpAny_pure ⟨_, rfl, "zip", _, hT, PySem.F.slot_zip_next.lookup, h⟩
  item := fun i s Q E hi st hS hQ => by
    obtain ⟨a1, a2, a3, a4, a5, hz'⟩ := st
    have hix : i < xs.size := Nat.lt_of_lt_of_le hi (Nat.min_le_left ..)
    have hiy : i < ys.size := Nat.lt_of_lt_of_le hi (Nat.min_le_right ..)
    have ex : xs[i]? = some (xs.getD i .none) := by rw [Array.getElem?_eq_getElem hix]; simp [Array.getD, hix]
    have ey : ys[i]? = some (ys.getD i .none) := by rw [Array.getElem?_eq_getElem hiy]; simp [Array.getD, hiy]
    have nm : ∀ c, c ∉ [z, TO, i1, i2] → c ≠ z ∧ c ≠ TO ∧ c ≠ i1 ∧ c ≠ i2 := fun c hc => by simpa using hc
    rcases hz' with ⟨b1, a, b, b2⟩ | ⟨T, f, oT, b1, b2, r1, r2, r3, r4⟩
    · refine KK.zitem D b1 a1 b2 a2 a3 a4 a5 ex ey fun h' c1 c2 c3 c4 c5 c6 hk => ?_
      refine hQ h' ⟨hk _ _ D.TIz D.TITO D.TIi1 D.TIi2 a1, c3, c4, KK.keepS a4 fun o e => hk _ _ D.l1z D.l1TO D.l1i1 D.l1i2 e, KK.keepS a5 fun o e => hk _ _ D.l2z D.l2TO D.l2i1 D.l2i2 e, .inr ⟨s.heap.objs.size, false, _, c1, c5, Nat.ne_of_gt (Nat.lt_trans hz hS), Nat.ne_of_gt (Nat.lt_trans h1 hS), Nat.ne_of_gt (Nat.lt_trans h2 hS), Nat.ne_of_gt hS⟩⟩ c5 c6 fun c o hc e => ?_
      obtain ⟨n1, n2, n3, n4⟩ := nm c hc
      exact hk c o n1 n2 n3 n4 e
    · refine pyNext_held KK.toIterK D b1 b2 a1 a2 a3 a4 a5 ex ey fun h' c1 c3 c4 c5 c6 hk => ?_
      refine hQ h' ⟨hk _ _ D.TIz D.TIi1 D.TIi2 a1, c3, c4, KK.keepS a4 fun o e => hk _ _ D.l1z D.l1i1 D.l1i2 e, KK.keepS a5 fun o e => hk _ _ D.l2z D.l2i1 D.l2i2 e, .inr ⟨T, true, oT, c1, hk _ _ r1 r2 r3 b2, r1, r2, r3, r4⟩⟩ c5 c6 fun c o hc e => ?_
      obtain ⟨n1, n2, n3, n4⟩ := nm c hc
      exact hk c o n1 n3 n4 e
  done := fun s Q E st hQ => by
    obtain ⟨a1, a2, a3, a4, a5, hz'⟩ := st
    have hend : xs[min xs.size ys.size]? = none ∨ ys[min xs.size ys.size]? = none := by
      rcases Nat.le_total xs.size ys.size with h | h
      · exact .inl (Array.getElem?_eq_none (by rw [Nat.min_eq_left h]; exact Nat.le_refl _))
      · exact .inr (Array.getElem?_eq_none (by rw [Nat.min_eq_right h]; exact Nat.le_refl _))
    have nm : ∀ c, c ∉ [z, TO, i1, i2] → c ≠ z ∧ c ≠ TO ∧ c ≠ i1 ∧ c ≠ i2 := fun c hc => by simpa using hc
    rcases hz' with ⟨b1, a, b, b2⟩ | ⟨T, f, oT, b1, b2, r1, r2, r3, r4⟩
    · exact KK.zstop hA D b1 a1 b2 a2 a3 a4 a5 hend fun h' hk => hQ h' fun c o hc e => by
        obtain ⟨n1, n2, n3, n4⟩ := nm c hc
        exact hk c o n1 n2 n3 n4 e
    · exact pyStop_held KK.toIterK hA D b1 b2 a1 a2 a3 a4 a5 hend fun h' hk => hQ h' fun c o hc e => by
        obtain ⟨n1, n2, n3, n4⟩ := nm c hc
        exact hk c o n1 n3 n4 e
end

/-! ### tracked -/
def putP : Hp → List Addr → List (V × V) → Hp
  | H, a :: as, p :: r => putP (upd H a (.tup [p.1, p.2])) as r
  | H, _, _ => H
theorem putP_off {b : Addr} : ∀ (as : List Addr) (ps : List (V × V)) (H : Hp), b ∉ as → putP H as ps b = H b
  | [], _, _, _ => rfl
  | _ :: _, [], _, _ => rfl
  | a :: as, p :: ps, H, h => by
    show putP (upd H a (.tup [p.1, p.2])) as ps b = H b
    rw [putP_off as ps _ (fun z => h (List.mem_cons_of_mem _ z)), upd_ne (fun z => h (by rw [z]; exact List.mem_cons_self))]
theorem putP_at : ∀ (as : List Addr) (ps : List (V × V)) (H : Hp), as.Nodup → ∀ (j : Nat) (a : Addr) (p : V × V), as[j]? = some a → ps[j]? = some p → putP H as ps a = some (.tup [p.1, p.2])
  | [], _, _, _, j, a, p, h, _ => by simp at h
  | _ :: _, [], _, _, j, a, p, _, h => by simp at h
  | a :: as, q :: ps, H, hn, 0, b, p, h1, h2 => by
    cases h1; cases h2
    show putP (upd H a (.tup [q.1, q.2])) as ps a = _
    rw [putP_off as ps _ (List.nodup_cons.mp hn).1, upd_same]
  | a :: as, q :: ps, H, hn, j + 1, b, p, h1, h2 => putP_at as ps _ (List.nodup_cons.mp hn).2 j b p h1 h2
section
variable {X : Cx}
theorem pairs_laid {pins : List (Addr × Obj)} {σ : L2.St} {H : Hp} {s : Shared} {h' : Heap} {tk : Nat} {P : Nat → Value × Value} {ps : List (V × V)} {acc : Array Value} {c : Nat} {as : List Addr} {S : Addr} (I : Inv X pins σ H s) (hz : ps.length ≤ sizeLine)
    (hk : ∀ b o, s.heap.get? b = some o → h'.get? b = some o) (hSs : s.heap.objs.size ≤ S) (hS : h'.get? S = some { cls := .type "list", dict := none, data := .seq acc c, slots := #[] }) (hl : as.length = ps.length) (hG : ZG P S h' as) (hacc : acc.toList = as.map Value.ref)
    (rel : ∀ (j : Nat) (p : V × V), ps[j]? = some p → RelV p.1 (P j).1 ∧ RelV p.2 (P j).2) :
    ∃ H' : Hp, (∀ b o, H b = some o → H' b = some o) ∧ H S = none ∧ (∀ t ∈ as, H t = none) ∧ S ∉ as ∧ H' S = some (.lst (as.map V.ref)) ∧ (∀ (j : Nat) (a : Addr) (p : V × V), as[j]? = some a → ps[j]? = some p → H' a = some (.tup [p.1, p.2])) ∧ Inv X pins σ H' { s with heap := h', toks := tk } := by
  have hSn : S ∉ as := fun z => Nat.lt_irrefl _ (hG.above _ z)
  have nd : as.Nodup := List.Pairwise.imp (fun {a b} (h : a < b) => Nat.ne_of_lt h) hG.rise
  have new : ∀ t ∈ as, H t = none := fun t ht => I.hok.fresh (Nat.le_trans hSs (Nat.le_of_lt (hG.above t ht)))
  have newS : H S = none := I.hok.fresh hSs
  have atP := putP_at as ps (upd H S (.lst (as.map V.ref))) nd
  have off : ∀ b, b ∉ as → b ≠ S → putP (upd H S (.lst (as.map V.ref))) as ps b = H b := fun b h1 h2 => by rw [putP_off as ps _ h1, upd_ne h2]
  have low : ∀ b o, s.heap.get? b = some o → b ∉ as ∧ b ≠ S := fun b o e => by
    have hb := Heap.lt_size e
    exact ⟨fun z => Nat.lt_irrefl _ (Nat.lt_trans (Nat.lt_of_lt_of_le hb hSs) (hG.above b z)), Nat.ne_of_lt (Nat.lt_of_lt_of_le hb hSs)⟩
  have kp : ∀ b u, H b = some u → (putP (upd H S (.lst (as.map V.ref))) as ps) b = some u := fun b u e => by
    rw [off b (fun z => by rw [new b z] at e; cases e) (fun z => by rw [z, newS] at e; cases e)]
    exact e
  have eS : putP (upd H S (.lst (as.map V.ref))) as ps S = some (.lst (as.map V.ref)) := by rw [putP_off as ps _ hSn, upd_same]
  refine ⟨putP (upd H S (.lst (as.map V.ref))) as ps, kp, newS, new, hSn, eS, atP, ?_⟩
  refine I.call' (ch := []) rfl ⟨fun b o q _ _ _ => hk b o q, fun b o q _ _ _ => ⟨o.slots, hk b o q⟩, fun b o q n _ => ?_, fun b o q _ => ⟨o, hk b o q⟩, fun b xs q => kp b _ q, fun b o u q => kp b _ q, fun b ps q => ⟨#[], by rw [kp b _ q]; simp⟩⟩ (fun b u q => ?_) I.bare fun b z => by simp at z
  · obtain ⟨z1, z2⟩ := low b o q
    rw [off b z1 z2]
    exact n
  · by_cases hb : b ∈ as
    · obtain ⟨j, e1⟩ := List.mem_iff_getElem?.mp hb
      have hj : j < ps.length := by rw [← hl]; exact (List.getElem?_eq_some_iff.mp e1).1
      have e2 : ps[j]? = some ps[j] := List.getElem?_eq_getElem hj
      rw [atP j b _ e1 e2] at q
      cases q
      obtain ⟨r1, r2⟩ := rel j _ e2
      exact ⟨by show 2 ≤ sizeLine; decide, [(P j).1, (P j).2], .cons r1 (.cons r2 .nil), ⟨_, hG.pairs j b e1, rfl, _, rfl⟩⟩
    · by_cases hb2 : b = S
      · rw [hb2] at q ⊢
        rw [eS] at q
        cases q
        refine ⟨by rw [List.length_map]; omega, acc.toList, c, by rw [hacc]; exact LiI.vals_refs as, ?_⟩
        rw [Array.toArray_toList]
        exact hS
      · rw [off b hb hb2] at q
        exact (I.hok b u q).stay (fun d v _ y => hk d v y) (fun d y => kp d _ y) fun d xs y => kp d _ y
/-- list(zip(a, b)) -/
def tLZ (K : PySem.W.Frag) (ta : TA) : TE := fun σ H Q => ta σ H fun vs H1 => ∃ a b xs ys, vs = [.ref a, .ref b] ∧ ((SqL K H1 a xs ∧ SqL K H1 b ys) ∨ (SqT K H1 a xs ∧ SqT K H1 b ys)) ∧
  ∀ (H' : Hp) (p : Addr) (ts : List Addr), (∀ b o, H1 b = some o → H' b = some o) → H1 p = none → (∀ t ∈ ts, H1 t = none) → p ∉ ts → H' p = some (.lst (ts.map V.ref)) → ts.length = (xs.zip ys).length →
    (∀ (j : Nat) (t : Addr) (q : V × V), ts[j]? = some t → (xs.zip ys)[j]? = some q → H' t = some (.tup [q.1, q.2])) → Q (.ref p) H'

theorem zip_rel {xs ys : List V} {us ws : List Value} (r1 : Vals xs us) (r2 : Vals ys ws) (j : Nat) (p : V × V) (h : (xs.zip ys)[j]? = some p) : RelV p.1 (us.toArray.getD j .none) ∧ RelV p.2 (ws.toArray.getD j .none) := by
  rw [List.getElem?_zip_eq_some] at h
  obtain ⟨h1, h2⟩ := h
  obtain ⟨u, e1, q1⟩ := r1.get h1
  obtain ⟨v, e2, q2⟩ := r2.get h2
  have f : ∀ {l : List Value} {u : Value}, l[j]? = some u → l.toArray.getD j .none = u := fun {l u} e => by
    obtain ⟨hj, e'⟩ := List.getElem?_eq_some_iff.mp e
    simp [Array.getD, hj, e']
  rw [f e1, f e2]
  exact ⟨q1, q2⟩
theorem pe_listZip {e e2 : Expr} {ta : TA} {p p2 cpos pos : Pos} (hc : X.calm = true) (hg : L2.Gl X "list") (hm : X.mg "list" = none) (hg2 : L2.Gl X "zip") (hm2 : X.mg "zip" = none) (ha : PA X [e, e2] ta)
    (hs2 : starEach [e, e2] X.env = (false, eval e X.env) :: starEach [e2] X.env) (hpl : (backTo cpos (starEach [e2] X.env)).any (·.1) = false) :
    PE X (.Call (.Name "list" p) [.Call (.Name "zip" p2) [e, e2] [] cpos] [] pos) (tLZ X.K ta) := by
  refine ⟨fun pins s σ H Q I hq => ?_⟩
  refine wpAny_Call_Name_kw (ld_blt I hg hm boot_list ?_)
  refine PyProof.Rows.callWith_type1 ?_ rfl rfl
  show wpAny _ _ (spliced ((false, eval (.Call (.Name "zip" p2) [e, e2] [] cpos) X.env) :: backTo pos (starEach [] X.env))) _ _ s
  refine Calls.spliced_cons ?_
  refine Call_ (ld_blt I hg2 hm2 PyProof.Rows.boot_zip (PyProof.Rows.callWith_type1 (thn (ha.run cpos pins s σ H _ I hq) fun us s1 ⟨vs, H1, I1, r1, q1⟩ => ?_) hs2 hpl))
  obtain ⟨a, b, xs, ys, ex, hsq, q⟩ := q1
  subst ex
  cases r1 with
  | cons r rr =>
    cases rr with
    | cons r' rr =>
      cases rr
      cases r
      cases r'
      -- behind the zip, whatever its items' kind
      have go : ∀ (It : Heap → Addr → Addr → Nat → Prop) (Sq : Heap → Addr → Array Value → Prop) (KK : IterZ X.prog X.w It Sq) (its its2 : List Value) (h' : Heap), Vals xs its → Vals ys its2 → xs.length ≤ sizeLine → a < s1.heap.objs.size → b < s1.heap.objs.size →
          Sq s1.heap a its.toArray → Sq s1.heap b its2.toArray → IsZip h' (s1.heap.objs.size + 4) (s1.heap.objs.size + 2) (s1.heap.objs.size + 3) .none → IsPair h' (s1.heap.objs.size + 2) (.ref s1.heap.objs.size) (.ref (s1.heap.objs.size + 1)) →
          IsPair h' (s1.heap.objs.size + 3) .none .none → It h' s1.heap.objs.size a 0 → It h' (s1.heap.objs.size + 1) b 0 → h'.objs.size = s1.heap.objs.size + 5 → (∀ c o, s1.heap.get? c = some o → h'.get? c = some o) →
          wpAny (model X.prog X.w) X.A (call (.type "list") [.ref (s1.heap.objs.size + 4)]) (EP X pins σ Q) X.xe { s1 with heap := h' } := by
        intro It Sq KK its its2 h' rv rv2 hzl hal hbl hq1 hq2 hz hTI hTO h1 h2 hsz hk
        have lt : ∀ k, k < 5 → s1.heap.objs.size + k < h'.objs.size := fun k hk => by rw [hsz]; exact Nat.add_lt_add_left hk _
        have lt0 : s1.heap.objs.size < h'.objs.size := lt 0 (by decide)
        have D := PySem.W.ktu_apart s1.heap.objs.size a b hal hbl
        refine z_call (s := { s1 with heap := h' }) (n := min its.toArray.size its2.toArray.size) (fun A hA => zsrc KK D (S := h'.objs.size) (xs := its.toArray) (ys := its2.toArray) (lt 4 (by decide)) (lt 2 (by decide)) (lt 3 (by decide)) lt0 (lt 1 (by decide)) (Nat.lt_trans hal lt0) (Nat.lt_trans hbl lt0) A hA)
          (I1.ok.hd hc) ?_ (lt 4 (by decide)) ⟨Heap.get?_push_of_some _ hTI, KK.keepI h1 fun o e => Heap.get?_push_of_some _ e, KK.keepI h2 fun o e => Heap.get?_push_of_some _ e, KK.keepS hq1 fun o e => Heap.get?_push_of_some _ (hk _ o e), KK.keepS hq2 fun o e => Heap.get?_push_of_some _ (hk _ o e), .inl ⟨Heap.get?_push_of_some _ hz, _, _, Heap.get?_push_of_some _ hTO⟩⟩ ?_
        · have l1 := rv.length
          have : its.toArray.size ≤ sizeLine := by rw [List.size_toArray, ← l1]; exact hzl
          exact Nat.le_trans (Nat.min_le_left _ _) this
        · intro h2' tk acc c as hk2 hS hl hG hacc
          have keep : ∀ b o, s1.heap.get? b = some o → h2'.get? b = some o := fun c o e => by
            have hcl : c < s1.heap.objs.size := Heap.lt_size e
            refine hk2 c o (fun hm => ?_) (hk c o e)
            simp only [List.mem_cons, List.not_mem_nil, or_false] at hm
            rcases hm with z | z | z | z
            · rw [z] at hcl; exact Nat.not_lt.mpr (Nat.le_add_right _ _) hcl
            · rw [z] at hcl; exact Nat.not_lt.mpr (Nat.le_add_right _ _) hcl
            · rw [z] at hcl; exact Nat.lt_irrefl _ hcl
            · rw [z] at hcl; exact Nat.not_lt.mpr (Nat.le_add_right _ _) hcl
          have hzip : (xs.zip ys).length = min its.toArray.size its2.toArray.size := by rw [List.length_zip, rv.length, rv2.length, List.size_toArray, List.size_toArray]
          obtain ⟨H', k1, k2, k3, k4, k5, k6, J⟩ := pairs_laid (X := X) (tk := tk) (ps := xs.zip ys) I1 (by rw [List.length_zip]; exact Nat.le_trans (Nat.min_le_left _ _) hzl) keep (Nat.le_of_lt lt0) hS (by rw [hl, hzip]) hG hacc (zip_rel rv rv2)
          exact ⟨.ref _, H', J, rfl, q H' _ as k1 k2 k3 k4 k5 (by rw [hl, hzip]) k6⟩
      rcases hsq with ⟨hqx, hqy⟩ | ⟨hqx, hqy⟩
      · obtain ⟨its, rv, p1, hz1⟩ := I1.list hqx
        obtain ⟨its2, rv2, p2, _⟩ := I1.list hqy
        exact call_zip_2 p1.isList p2.isList fun h' hz hTI hTO h1 h2 hsz hk => Calls.spliced_nil (go _ _ izL its its2 h' rv rv2 hz1 p1.lt p2.lt p1.isList p2.isList hz hTI hTO h1 h2 hsz hk)
      · obtain ⟨its, rv, p1, hz1⟩ := I1.tuple hqx
        obtain ⟨its2, rv2, p2, _⟩ := I1.tuple hqy
        obtain ⟨o1, ho1, _⟩ := id p1
        obtain ⟨o2, ho2, _⟩ := id p2
        exact RZ.call_zipT (show s1.heap.IsTuple a its.toArray from p1) (show s1.heap.IsTuple b its2.toArray from p2) fun h' hz hTI hTO h1 h2 hsz hk => Calls.spliced_nil (go _ _ izT its its2 h' rv rv2 hz1 (Heap.lt_size ho1) (Heap.lt_size ho2) p1 p2 hz hTI hTO h1 h2 hsz hk)
end
end Mi.Z

/-! Mi, part S: sorted(xs, key=f), f a def of the text, its keys any plain data (lists too). -/
namespace Mi.So
open PySem PySem.Spec PyProof.Rows L2 PySem.W PySem.Calls

theorem each_of {R : Value → PyData → Prop} {X : Cx} {pins : List (Addr × Obj)} {σ : L2.St} {H : Hp} {s : Shared} (I : Inv X pins σ H s) : ∀ {ys : List V} {us : List Value} {kz : List PyData}, Vals ys us → DpAll X.K H ys kz → EachIs (fun v k => ∃ as, Reads s.heap v k as) us kz
  | _, _, _, .nil, d => by cases d; exact .nil
  | _, _, _, .cons r rs, d => by
    cases d with
    | cons d1 d2 => exact .cons (Dp.reads I _ _ _ d1 r) (each_of (R := R) I rs d2)
theorem vals_each {xs : List V} {us : List Value} {kz : List PyData} (r : Vals xs us) (hl : xs.length = kz.length) : EachIs (fun (v : Value) (b : V × PyData) => RelV b.1 v) us (xs.zip kz) := by
  induction r generalizing kz with
  | nil => exact .nil
  | cons h t ih =>
    cases kz with
    | nil => cases hl
    | cons k kz => exact .cons h (ih (Nat.succ.inj hl))
theorem each_vals : ∀ {us : List Value} {bs : List (V × PyData)}, EachIs (fun (v : Value) (b : V × PyData) => RelV b.1 v) us bs → Vals (bs.map (·.1)) us
  | _, _, .nil => .nil
  | _, _, .cons h t => .cons h (each_vals t)
theorem map_snd_zip {α β : Type} : ∀ {xs : List α} {ys : List β}, xs.length = ys.length → (xs.zip ys).map (·.2) = ys
  | [], [], _ => rfl
  | [], _ :: _, h => by cases h
  | _ :: _, [], h => by cases h
  | _ :: xs, _ :: ys, h => by
    rw [List.zip_cons_cons, List.map_cons, map_snd_zip (Nat.succ.inj h)]
theorem vals_snoc {xs : List V} {us : List Value} {x : V} {u : Value} (h : Vals xs us) (r : RelV x u) : Vals (xs ++ [x]) (us ++ [u]) := by
  induction h with
  | nil => exact .cons r .nil
  | cons h t ih => exact .cons h ih

section
variable {X : Cx} {pins : List (Addr × Obj)} {σ : L2.St} {H : Hp} {s : Shared} {l f : Addr} {xs : List V} {Q : VK}
theorem sorted_def (I : Inv X pins σ H s) (hs : SqL X.K H l xs) (hu : X.A.units + 64 < cLine) (J : Nat → List V → Hp → Prop) (h0 : J 0 [] H)
    (turn : ∀ (pins : List (Addr × Obj)) (i : Nat) (x : V) (u : Value) (ys : List V) (H : Hp) (s : Shared), Inv X pins σ H s → xs[i]? = some x → RelV x u → J i ys H →
      wpAny (model X.prog X.w) X.A.in1.in1 (call (.ref f) [u]) (fun v s' => ∃ y H', Inv X pins σ H' s' ∧ RelV y v ∧ J (i + 1) (ys ++ [y]) H') (fun _ _ => False) s)
    (hend : ∀ ys H', J xs.length ys H' → ∃ kz, DpAll X.K H' ys kz ∧ kz.length = xs.length ∧ AllAlike kz ∧ Sortable kz ∧ (∀ d ∈ kz, d.depth ≤ 40) ∧ ∀ p, H' p = none → Q (.ref p) (upd H' p (.lst (byKeys false xs kz)))) :
    wpAny (model X.prog X.w) X.A (call (.builtin "sorted") [.ref l] [(Str.ofString "key", .ref f)]) (EP X pins σ Q) X.xe s := by
  obtain ⟨its, rv, pl, hz⟩ := I.list hs
  have hlen := rv.length
  refine sorted_of_sort pl.isList (by rw [← hlen]; exact hz) (ksk_s1 _ _) (fun _ => ksk_l1 _ _) fun E' => ?_
  rw [ksk_t1]
  have ho := copyHeap_at s.heap its
  generalize ha : s.heap.objs.size + 1 = a at ho ⊢
  obtain ⟨e1, ho1⟩ : ∃ e1, ((copyHeap s.heap its).update a (Obj.mapSeq fun _ => (#[] : Array Value))).get? a = some (seqObj "list" #[] e1) := ⟨_, get?_update_seq ho fun _ => #[]⟩
  have hal : a < (copyHeap s.heap its).objs.size := Heap.lt_size ho
  have hage : s.heap.objs.size ≤ a := by rw [← ha]; exact Nat.le_succ _
  unfold ksk_tree
  refine wpAny_bind (listItems_at ho rfl ?_)
  refine wpAny_bind (listUpdate_at ho rfl ?_ (by rw [List.size_toArray, ← hlen]; exact hz) (Nat.zero_le _))
  refine wpAny_bind (seqEpoch_at ho1 rfl ?_)
  refine wpAny_bind (wpAny_newTuple ?_ (by show its.length ≤ _; rw [← hlen]; exact hz))
  refine wpAny_bind (wpAny_newList ?_ (Nat.zero_le _))
  refine wpAny_holding ?_
  have hkS : ((((copyHeap s.heap its).update a (Obj.mapSeq fun _ => (#[] : Array Value))).push (seqObj "tuple" its.toArray 0)).objs.size) = (copyHeap s.heap its).objs.size + 1 := by rw [size_push', Heap.size_update]
  show wpAny _ _ (ksk_rest a (.ref f) false its.toArray e1 (.ref ((((copyHeap s.heap its).update a (Obj.mapSeq fun _ => (#[] : Array Value))).push (seqObj "tuple" its.toArray 0)).objs.size))) _ _ { s with heap := (((copyHeap s.heap its).update a (Obj.mapSeq fun _ => (#[] : Array Value))).push (seqObj "tuple" its.toArray 0)).push (seqObj "list" #[] 0) }
  have ga : ((((copyHeap s.heap its).update a (Obj.mapSeq fun _ => (#[] : Array Value))).push (seqObj "tuple" its.toArray 0)).push (seqObj "list" #[] 0)).get? a = some (seqObj "list" #[] e1) := Heap.get?_push_of_some _ (Heap.get?_push_of_some _ ho1)
  have gk : ((((copyHeap s.heap its).update a (Obj.mapSeq fun _ => (#[] : Array Value))).push (seqObj "tuple" its.toArray 0)).push (seqObj "list" #[] 0)).get? ((((copyHeap s.heap its).update a (Obj.mapSeq fun _ => (#[] : Array Value))).push (seqObj "tuple" its.toArray 0)).objs.size) = some (seqObj "list" #[] 0) := Heap.get?_push_size _ rfl
  have old : ∀ b o, s.heap.get? b = some o → ((((copyHeap s.heap its).update a (Obj.mapSeq fun _ => (#[] : Array Value))).push (seqObj "tuple" its.toArray 0)).push (seqObj "list" #[] 0)).get? b = some o := fun b o e =>
    Heap.get?_push_of_some _ (Heap.get?_push_of_some _ (((Heap.SameBut.update (copyHeap s.heap its) a (Obj.mapSeq fun _ => (#[] : Array Value))).2 b (Nat.ne_of_lt (Nat.lt_of_lt_of_le (Heap.lt_size e) hage))).trans (copyHeap_old e)))
  rw [hkS] at gk ⊢
  generalize hk0 : (copyHeap s.heap its).objs.size + 1 = kS at gk ⊢
  generalize ((((copyHeap s.heap its).update a (Obj.mapSeq fun _ => (#[] : Array Value))).push (seqObj "tuple" its.toArray 0)).push (seqObj "list" #[] 0)) = hp at ga gk old ⊢
  have hka : kS ≠ a := by rw [← hk0]; exact Nat.ne_of_gt (Nat.lt_succ_of_lt hal)
  have hkge : s.heap.objs.size ≤ kS := Nat.le_trans hage (by rw [← hk0]; exact Nat.le_of_lt (Nat.lt_succ_of_lt hal))
  have I1 : Inv X pins σ H { s with heap := hp } := I.kept (t' := s.toks) old
  have fp : ∀ {H' : Hp} {b : Addr}, (b = a ∨ b = kS) → H' b = none → FpOk X pins H' b := fun {H' b} hb hn => I.fpOk (by rcases hb with e | e <;> rw [e] <;> assumption) hn
  unfold ksk_rest
  refine wpAny_bind (wpAny_rule ?_)
  first
    | rw [List.forIn_toArray]
    | (rw [← Array.forIn_toList]; simp only [List.toList_toArray])
    | rw [← Array.forIn_toList]
  refine wpAny_bind (ksk_fold (fun i s' => ∃ H' ys kA e, Inv X pins σ H' s' ∧ H' a = none ∧ H' kS = none ∧ s'.heap.get? a = some (seqObj "list" #[] e1) ∧ s'.heap.get? kS = some (seqObj "list" kA e) ∧ Vals ys kA.toList ∧ ys.length = i ∧ J i ys H') its 0 _
    ⟨H, [], #[], 0, I1, I.hok.fresh hage, I.hok.fresh hkge, ga, gk, .nil, rfl, h0⟩ ?step ?done)
  case step =>
    rintro j x s' hx ⟨H', ys, kA, e, I', na, nk, ga', gk', rv', hl', hJ⟩
    simp only [Nat.zero_add] at hl' hJ ⊢
    have hj : j < its.length := (List.getElem?_eq_some_iff.mp hx).1
    obtain ⟨y0, hy0⟩ : ∃ y, xs[j]? = some y := ⟨_, List.getElem?_eq_getElem (by rw [hlen]; exact hj)⟩
    obtain ⟨u0, hu0, ru0⟩ := rv.get hy0
    rw [hx] at hu0
    cases hu0
    have hsz : kA.size = j := by rw [← Array.length_toList, ← rv'.length, hl']
    have hszL : kA.size ≤ sizeLine := by rw [hsz]; rw [hlen] at hz; exact Nat.le_trans (Nat.le_of_lt hj) hz
    have I'p := I'.pinned (fp := [a, kS]) (fun b hb => by
      rcases List.mem_cons.mp hb with rfl | hb
      · exact fp (.inl rfl) na
      · rw [List.mem_singleton.mp hb]; exact fp (.inr rfl) nk) (fun b hb => by
      rcases List.mem_cons.mp hb with rfl | hb
      · exact ⟨_, ga', fun v q => nomatch q⟩
      · rw [List.mem_singleton.mp hb]; exact ⟨_, gk', fun v q => nomatch q⟩)
    refine wpAny_bind (wpAny_attempt (wpAny_mono (turn _ j y0 x ys H' s' I'p hy0 ru0 hJ) (fun v s2 he => ?_) fun _ _ hF => hF.elim))
    obtain ⟨y, H2, I2, ry, hJ2⟩ := he
    have pa := I2.pin (a, seqObj "list" #[] e1) (List.mem_append_right _ (List.mem_append_right _ (mem_pinsAt (List.mem_cons_self) ga')))
    have pk := I2.pin (kS, seqObj "list" kA e) (List.mem_append_right _ (List.mem_append_right _ (mem_pinsAt (List.mem_cons_of_mem _ List.mem_cons_self) gk')))
    have na2 : H2 a = none := pa.2.1
    have nk2 : H2 kS = none := pk.2.1
    have ga2 : s2.heap.get? a = some (seqObj "list" #[] e1) := pa.1
    have gk2 : s2.heap.get? kS = some (seqObj "list" kA e) := pk.1
    have I3 := I2.unpinned
    try dsimp only
    have s1 := Heap.SameBut.update s2.heap kS (Obj.mapSeq (·.push v))
    obtain ⟨c2, hc2⟩ : ∃ c2, (s2.heap.update kS (Obj.mapSeq (·.push v))).get? kS = some (seqObj "list" (kA.push v) c2) := ⟨_, get?_update_seq gk2 (·.push v)⟩
    refine wpAny_bind (listUpdate_at gk2 rfl ?_ hszL (Nat.le_trans (Nat.le_of_eq (Array.size_push ..)) (Nat.succ_le_succ hszL)))
    refine wpAny_pure ⟨rfl, H2, ys ++ [y], kA.push v, c2, I3.turnedL (t' := s2.toks) (ch := [kS]) (fun b o hb e => (s1.2 b (fun z => hb (by simp [z]))).trans e) (fun b hb => by rw [List.mem_singleton.mp hb]; exact fp (.inr rfl) nk2), na2, nk2, (s1.2 a hka.symm).trans ga2, hc2, ?_, by rw [List.length_append, hl']; rfl, hJ2⟩
    have e3 : (kA.push v).toList = kA.toList ++ [v] := by simp
    rw [e3]
    exact vals_snoc rv' ry
  case done =>
    rintro s' ⟨H', ys, kA, e, I', na, nk, ga', gk', rv', hl', hJ⟩
    rw [Nat.zero_add, ← hlen] at hJ hl'
    obtain ⟨kz, hdp, hkl, hal2, hsk, hdep, hQ⟩ := hend ys H' hJ
    have hk' := each_of (R := fun _ _ => True) I' rv' hdp
    have hsz : kA.size = its.length := by rw [← Array.length_toList, ← rv'.length, hl', hlen]
    obtain ⟨G, hG1, hG2⟩ := L2.restrict s'.heap (fun b => b != kS)
    have up : ∀ b o, b ≠ kS → s'.heap.get? b = some o → G.get? b = some o := fun b o hb e => by rw [hG1 b (by simpa using hb)]; exact e
    refine wpAny_bind (listItems_at gk' rfl ?_)
    refine keyH_end (κ := dataKind s'.heap kz) (h₁ := G) (fun b o hb e => ?_) (hG2 kS (by simp)) gk' ga' hka (SortsAt.data (s := s') hk' hal2 hsk fun d hd => ?_) hsz (by rw [← hlen]; exact hz) fun h' tk c kp2 ha2 => ?_
    · by_cases hbk : b = kS
      · rw [hbk, hG2 kS (by simp)] at e; cases e
      · rw [← hG1 b (by simpa using hbk)]; exact e
    · have := hdep d hd
      show X.A.units + 1 + 1 + d.depth < cLine
      omega
    · have KO : KeyedOut false kz its (sortVals (dataKind s'.heap kz) false kA.toList its) := ⟨s'.heap, kA.toList, hal2, rfl, hk'⟩
      have hR := vals_each (kz := kz) rv hkl.symm
      have EO := keyedOut_each (bs := xs.zip kz) (fun b : V × PyData => b.2) (by rw [map_snd_zip hkl.symm]; exact KO) hR
      have VO := each_vals EO
      have ho2 : (byKeys false xs kz).length ≤ sizeLine := by
        unfold byKeys
        rw [List.length_map, List.length_mergeSort, List.length_zip]
        exact Nat.le_trans (Nat.min_le_left _ _) hz
      have I2 : Inv X pins σ H' { s' with heap := h', toks := tk } := I'.turnedL (t' := tk) (ch := [a, kS]) (fun b o hb e => kp2 b o (fun z => hb (by simp [z])) (up b o (fun z => hb (by simp [z])) e)) (fun b hb => by
        rcases List.mem_cons.mp hb with rfl | hb
        · exact fp (.inl rfl) na
        · rw [List.mem_singleton.mp hb]; exact fp (.inr rfl) nk)
      have I3 : Inv X pins σ (upd H' a (.lst (byKeys false xs kz))) { s' with heap := h', toks := tk } := L2.Inv.take (s := { s' with heap := h', toks := tk }) (h' := h') (t' := tk) I2 (fun b o _ e => e) (fp (.inl rfl) na) ⟨ho2, _, c, VO, ha2⟩
      exact ⟨rfl, .ref a, _, I3, rfl, hQ a na⟩
end
end Mi.So

/-! Mi, part N: dict(a list of pairs), dict displays. -/
namespace Mi
open PySem L2 PyProof.Rows RT RZ

def mergeT (kvs more : List (List Key × V)) : List (List Key × V) := more.foldl (fun acc kv => putK acc kv.1 kv.2) kvs
theorem length_mergeT : ∀ (more kvs : List (List Key × V)), (mergeT kvs more).length ≤ kvs.length + more.length
  | [], kvs => by show kvs.length ≤ kvs.length + 0; omega
  | p :: r, kvs => by
    have h1 := length_mergeT r (putK kvs p.1 p.2)
    have h2 := length_putK kvs p.1 p.2
    show (mergeT (putK kvs p.1 p.2) r).length ≤ _
    rw [List.length_cons]; omega
theorem kt_merge {H : Hp} : ∀ {more : List (List Key × V)} {rs : List (List Key × Addr × Value)} {kvs : List (List Key × V)} {xs : List (List Key × Addr × Value)}, L2.KT H more rs → L2.KT H kvs xs → L2.KT H (mergeT kvs more) (PySem.storedAllH xs rs) := by
  intro more rs kvs xs r
  unfold L2.KT at r
  induction r generalizing kvs xs with
  | nil => intro q; exact q
  | @cons p q ps qs h t ih =>
    intro r0
    obtain ⟨h1, h2, h3⟩ := h
    have e : L2.KT H (putK kvs p.1 p.2) (storedH xs q.1 q.2.1 q.2.2) := by
      have := r0.put p.1 h2 h3
      rw [← h1]; exact this
    exact ih e
section
variable {X : Cx}
theorem pairsT_of {pins : List (Addr × Obj)} {σ : L2.St} {H : Hp} {s : Shared} (I : Inv X pins σ H s) : ∀ {ps : List Addr} {kvs : List (List Key × V)}, Paired (fun (p : Addr) (kv : List Key × V) => ∃ b, SqT X.K H p [V.ref b, kv.2] ∧ H b = some (.tup (kv.1.map kV))) ps kvs →
    ∃ rs : List (List Key × Addr × Value), L2.KT H kvs rs ∧ rs.length = ps.length ∧ ∀ (j : Nat) (q : List Key × Addr × Value), rs[j]? = some q → ∃ (b : Addr), ps[j]? = some b ∧ IsTup s.heap b #[Value.ref q.2.1, q.2.2] ∧ H q.2.1 = some (.tup (q.1.map kV))
  | _, _, .nil => ⟨[], .nil, rfl, fun j q e => by simp at e⟩
  | _, _, .cons (a := p) (b := kv) h t => by
    obtain ⟨rs, r, hl, hp⟩ := pairsT_of I t
    obtain ⟨b, h, hb⟩ := h
    obtain ⟨its, rv, ht, _⟩ := I.tuple h
    obtain ⟨u, y, ei, ru, ry⟩ := vals2 rv
    subst ei
    have eu : u = Value.ref b := ru
    subst eu
    refine ⟨(kv.1, b, y) :: rs, .cons ⟨rfl, hb, ry⟩ r, by rw [List.length_cons, List.length_cons, hl], fun j q e => ?_⟩
    cases j with
    | zero =>
      have e' : (kv.1, b, y) = q := Option.some.inj e
      subst e'
      exact ⟨p, rfl, ht, hb⟩
    | succ j =>
      obtain ⟨b', e1, e2, e3⟩ := hp j q (by simpa using e)
      exact ⟨b', by simpa using e1, e2, e3⟩
/-- dict(xs) of a list of pairs (tuple key, value) -/
theorem call_dictT (hcalm : X.calm = true) (hu : X.A.units + 64 < cLine) : CallR X (.type "dict") (fun xs H Q => ∃ (a : Addr) (ps : List Addr) (kvs : List (List Key × V)), xs = [.ref a] ∧ SqL X.K H a (ps.map V.ref) ∧
    Paired (fun (p : Addr) (kv : List Key × V) => ∃ b, SqT X.K H p [V.ref b, kv.2] ∧ H b = some (.tup (kv.1.map kV))) ps kvs ∧ ∀ p, H p = none → Q (.ref p) (upd H p (.dT (mergeT [] kvs)))) := by
  intro pins s σ H xs us Q I r q
  obtain ⟨a, ps, kvs, ex, hq, hp, q⟩ := q
  subst ex
  obtain ⟨u, eu, rx⟩ := vals1 r
  subst eu
  cases rx
  obtain ⟨its, rv, pl, hz⟩ := I.list hq
  have ei := refs_at rv
  subst ei
  rw [List.length_map] at hz
  obtain ⟨rs, rel, hl, hpr⟩ := pairsT_of I hp
  obtain ⟨o, n, ho, hc, hd, hdat⟩ := pl
  have hPI : PySem.PairItems s.heap (ps.map Value.ref).toArray (fun j => ps.getD j 0) (rs.map fun q => (Value.ref q.2.1, q.2.2)) := by
    refine ⟨by simp [hl], fun j k v hj => ?_⟩
    rw [List.getElem?_map] at hj
    obtain ⟨q, hq, e⟩ := Option.map_eq_some_iff.mp hj
    cases e
    obtain ⟨b, e1, e2, e3⟩ := hpr j q hq
    have eb : ps.getD j 0 = b := by rw [List.getD_eq_getElem?_getD, e1]; rfl
    dsimp only
    rw [eb]
    exact ⟨by simp [e1], .inl e2⟩
  have key : ∀ (h' : Heap) (x : List Key × Addr × Value), x ∈ rs → (∀ b o, s.heap.get? b = some o → h'.get? b = some o) → (tupleKind (mixKind X.prog X.w)).is h' x.1 x.2.1 := fun h' x hx hk => by
    obtain ⟨j, hj⟩ := List.mem_iff_getElem?.mp hx
    obtain ⟨b, _, _, e3⟩ := hpr j x hj
    obtain ⟨o, its, n, h1, h2, h3, h4⟩ := key_of I.hok e3
    exact ⟨o, its, n, hk _ _ h1, h2, h3, h4⟩
  refine PySem.call_dict_pairsH (knd := tupleKind (mixKind X.prog X.w)) (ps := rs) (PySem.PairArg.list a _ _ _) (I.ok.hd hcalm) (by show X.A.units + 1 + 1 < cLine; omega) ⟨⟨o, n, ho, hc, hd, hdat⟩, hPI⟩ ⟨by simp, fun i k v hr => ?_⟩ (fun h' hk x hx => ?_) (by rw [List.length_map, hl]; exact hz) fun h' tk hd' k => ?_
  · have hr : (rs.map fun q => (Value.ref q.2.1, q.2.2))[i]? = some (k, v) := hr
    rw [List.getElem?_map] at hr
    obtain ⟨q, hq, e⟩ := Option.map_eq_some_iff.mp hr
    cases e
    exact ⟨q.1, q.2.1, hq, rfl⟩
  · exact key h' x hx fun b o e => hk b o (Nat.ne_of_lt (Heap.lt_size e)) (by simp) e
  · have hm : (s.heap.objs.size == sysModules) = false := beq_eq_false_iff_ne.mpr (Nat.ne_of_gt I.big)
    have hlen : (mergeT [] kvs).length ≤ sizeLine := by
      refine Nat.le_trans (length_mergeT kvs []) ?_
      have l2 : kvs.length = rs.length := Paired.length rel
      rw [List.length_nil, Nat.zero_add, l2, hl]
      exact hz
    have hn := I.hok.fresh (Nat.le_refl s.heap.objs.size)
    have rel2 : L2.KT (upd H s.heap.objs.size (.dT (mergeT [] kvs))) (mergeT [] kvs) (PySem.storedAllH [] rs) := (kt_merge rel .nil).keeps fun b ys e => by
      rw [upd_ne (fun z => by rw [z, hn] at e; cases e)]
      exact e
    obtain ⟨o', es, ep, d1, d2, d3, d4, d5, d6⟩ := hd'
    exact ⟨.ref s.heap.objs.size, upd H s.heap.objs.size (.dT (mergeT [] kvs)), I.laid (t' := tk) (fun b o e => k b o (by simp) e) (Nat.le_refl _) (show ObjOk X.prog X.w _ _ _ (.dT (mergeT [] kvs)) from ⟨hlen, hm, PySem.storedAllH [] rs, rel2, o', es, ep, d1, d2, d3, d4, d6⟩), rfl, q _ hn⟩
end

/-! ### dict(xs) for the small language -/
section
variable {G : Gb} {X : Cx}
theorem RpKV.put {κ : Type} [DecidableEq κ] {φ : List Addr} {H : Hp} {k : κ} {d : Mi.D} {v : V} (r : Rp G φ H d v) : ∀ {kvs : List (κ × Mi.D)} {vs : List (κ × V)}, RpKV G φ H kvs vs → RpKV G φ H (putD kvs k d) (putK vs k v) := by
  have any : ∀ {kvs : List (κ × Mi.D)} {vs : List (κ × V)}, RpKV G φ H kvs vs → (kvs.any fun kv => decide (kv.1 = k)) = vs.any fun kv => decide (kv.1 = k) := by
    intro kvs
    induction kvs with
    | nil => intro vs h; have h : vs = [] := h; subst h; rfl
    | cons p rr ih =>
      intro vs h
      obtain ⟨w, t, rfl, h1, h2⟩ := h
      rw [List.any_cons, List.any_cons, ih h2]
  intro kvs vs h
  unfold putD putK
  rw [any h]
  by_cases c : (vs.any fun kv => decide (kv.1 = k)) = true
  · rw [if_pos c, if_pos c]
    clear c
    induction kvs generalizing vs with
    | nil => have h : vs = [] := h; subst h; rfl
    | cons p rr ih =>
      obtain ⟨w, t, rfl, h1, h2⟩ := h
      show RpKV G φ H ((if p.1 = k then (p.1, d) else p) :: _) ((if p.1 = k then (p.1, v) else (p.1, w)) :: _)
      by_cases e : p.1 = k
      · rw [if_pos e, if_pos e]
        exact ⟨v, _, rfl, r, ih h2⟩
      · rw [if_neg e, if_neg e]
        exact ⟨w, _, rfl, h1, ih h2⟩
  · rw [if_neg c, if_neg c]
    clear c
    induction kvs generalizing vs with
    | nil => have h : vs = [] := h; subst h; exact ⟨v, [], rfl, r, rfl⟩
    | cons p rr ih =>
      obtain ⟨w, t, rfl, h1, h2⟩ := h
      exact ⟨w, t ++ [(k, v)], rfl, h1, ih h2⟩
theorem RpKV.length {κ : Type} {φ : List Addr} {H : Hp} : ∀ {kvs : List (κ × Mi.D)} {vs : List (κ × V)}, RpKV G φ H kvs vs → kvs.length = vs.length
  | [], _, h => by have h : _ = [] := h; subst h; rfl
  | p :: r, _, h => by
    obtain ⟨w, t, rfl, h1, h2⟩ := h
    rw [List.length_cons, List.length_cons, h2.length]

theorem putD_all {κ : Type} [DecidableEq κ] {φ : List Addr} {H : Hp} : ∀ {more kvs : List (κ × Mi.D)} {vm vs : List (κ × V)}, RpKV G φ H more vm → RpKV G φ H kvs vs → RpKV G φ H (more.foldl (fun acc kv => putD acc kv.1 kv.2) kvs) (vm.foldl (fun acc kv => putK acc kv.1 kv.2) vs)
  | [], _, _, _, h, h2 => by have h : _ = [] := h; subst h; exact h2
  | p :: r, _, _, _, h, h2 => by
    obtain ⟨w, t, rfl, h3, h4⟩ := h
    exact putD_all (more := r) (vm := t) h4 (h2.put h3)
theorem pairK_rp (hK : X.K = G.K) {φ : List Addr} {H : Hp} : ∀ {ds : List Mi.D} {kvs : List (Key × Mi.D)} {vs : List V}, mapO pairK ds = some kvs → Rps G φ H ds vs → ∃ (ps : List Addr) (vk : List (Key × V)), vs = ps.map V.ref ∧ Paired (fun (p : Addr) (kv : Key × V) => SqT X.K H p [kV kv.1, kv.2]) ps vk ∧ RpKV G φ H kvs vk
  | [], _, _, h, r => by
    rw [mapO_nil h]
    unfold Rps at r
    exact ⟨[], [], r, .nil, rfl⟩
  | d :: ds, _, _, h, r => by
    obtain ⟨b, bs, h1, h2, rfl⟩ := mapO_cons h
    unfold Rps at r
    obtain ⟨v, t, rfl, r1, r2⟩ := r
    obtain ⟨ps, vk, rfl, q1, q2⟩ := pairK_rp hK h2 r2
    unfold pairK at h1
    split at h1
    · rename_i kd vd
      obtain ⟨k, hk, rfl⟩ := Option.map_eq_some_iff.mp h1
      unfold Rp at r1
      obtain ⟨a, us, rfl, ha, hr⟩ := r1
      unfold Rps at hr
      obtain ⟨x, r', rfl, hx, hr⟩ := hr
      unfold Rps at hr
      obtain ⟨y, r'', rfl, hy, hr⟩ := hr
      unfold Rps at hr
      subst hr
      have e := key_v hk hx
      subst e
      exact ⟨a :: ps, (k, y) :: vk, rfl, .cons (by rw [hK]; exact ha.sq) q1, y, vk, rfl, hy, q2⟩
    · cases h1
theorem pairT_rp (hK : X.K = G.K) {φ : List Addr} {H : Hp} : ∀ {ds : List Mi.D} {kvs : List (List Key × Mi.D)} {vs : List V}, mapO pairT ds = some kvs → Rps G φ H ds vs →
    ∃ (ps : List Addr) (vk : List (List Key × V)), vs = ps.map V.ref ∧ Paired (fun (p : Addr) (kv : List Key × V) => ∃ b, SqT X.K H p [V.ref b, kv.2] ∧ H b = some (.tup (kv.1.map kV))) ps vk ∧ RpKV G φ H kvs vk
  | [], _, _, h, r => by
    rw [mapO_nil h]
    unfold Rps at r
    exact ⟨[], [], r, .nil, rfl⟩
  | d :: ds, _, _, h, r => by
    obtain ⟨b, bs, h1, h2, rfl⟩ := mapO_cons h
    unfold Rps at r
    obtain ⟨v, t, rfl, r1, r2⟩ := r
    obtain ⟨ps, vk, rfl, q1, q2⟩ := pairT_rp hK h2 r2
    unfold pairT at h1
    split at h1
    · rename_i kd vd
      obtain ⟨k, hk, rfl⟩ := Option.map_eq_some_iff.mp h1
      unfold Rp at r1
      obtain ⟨a, us, rfl, ha, hr⟩ := r1
      unfold Rps at hr
      obtain ⟨x, r', rfl, hx, hr⟩ := hr
      unfold Rps at hr
      obtain ⟨y, r'', rfl, hy, hr⟩ := hr
      unfold Rps at hr
      subst hr
      obtain ⟨b, rfl, hb⟩ := keyT_v hk hx
      exact ⟨a :: ps, (k, y) :: vk, rfl, .cons ⟨b, by rw [hK]; exact ha.sq, hb⟩ q1, y, vk, rfl, hy, q2⟩
    · cases h1
theorem dictOf_cases {ds : List Mi.D} {o : O} (h : dictOf ds = some o) : (∃ kvs, mapO pairK ds = some kvs ∧ o = .dk (kvs.foldl (fun acc kv => putD acc kv.1 kv.2) [])) ∨ ∃ kvs, mapO pairT ds = some kvs ∧ o = .dt (kvs.foldl (fun acc kv => putD acc kv.1 kv.2) []) := by
  unfold dictOf at h
  split at h
  · cases h; exact .inl ⟨[], rfl, rfl⟩
  · rename_i k v r
    cases hk : k.key with
    | some k' =>
      simp only [hk] at h
      obtain ⟨rs, hr, rfl⟩ := Option.map_eq_some_iff.mp h
      refine .inl ⟨(k', v) :: rs, ?_, rfl⟩
      have e : pairK (.tup [k, v]) = some (k', v) := by unfold pairK; simp only [hk]; rfl
      unfold mapO
      simp only [e, hr]
    | none =>
      simp only [hk] at h
      cases hkt : k.keyT with
      | some k' =>
        simp only [hkt] at h
        obtain ⟨rs, hr, rfl⟩ := Option.map_eq_some_iff.mp h
        refine .inr ⟨(k', v) :: rs, ?_, rfl⟩
        have e : pairT (.tup [k, v]) = some (k', v) := by unfold pairT; simp only [hkt]; rfl
        unfold mapO
        simp only [e, hr]
      | none => simp only [hkt] at h; cases h
  · cases h
/-- a new object gets the next place -/
theorem place_new {φ : List Addr} {H : Hp} {S : Store} {p : Addr} {u : HO} {o : O} {xk : XK} {Q : VK} (R : Rel G φ H S) (hp : H p = none) (ho : RpO G φ (upd H p u) o p) (h : Post G (RlW G) φ H (.ok (.val (.ref S.length)) (S ++ [o])) xk Q) : Q (.ref p) (upd H p u) := by
  have E := Ext.fresh R hp u
  have R1 := R.fresh hp u
  have n : p ∉ φ := R.unk hp
  refine Post.ok (L := RlW G) (φ' := φ ++ [p]) h ⟨List.prefix_append _ _, E.keep, fun x hx => ?_⟩ (R1.more n ho) (rl_val ?_)
  · rcases List.mem_append.mp hx with q | q
    · exact .inl q
    · simp at q; subst q; exact .inr hp
  · unfold Rp
    exact ⟨p, rfl, by rw [← R.len]; simp⟩
theorem c_dict (hK : X.K = G.K) (hc : X.calm = true) (hu : X.A.units + 64 < cLine) : CallR X (.type "dict") (rC1 G .dict_) := by
  intro pins s σ H xs us Q I r h
  obtain ⟨v, rfl, φ, w1, S, xk, R, r1, h⟩ := h
  unfold p1 at h
  dsimp only at h
  split at h
  · rename_i ds hq
    split at h
    · rename_i o ho
      obtain ⟨a, vs, rfl, hs, hr⟩ := seq_rp R r1 hq
      have hs : SqL X.K H a vs := by rw [hK]; exact ifF hs
      have kp : ∀ {p : Addr} {u : HO}, H p = none → Keep φ H φ (upd H p u) := fun {p u} hp => (Ext.fresh R hp u).toKeep R
      rcases dictOf_cases ho with ⟨kvs, h1, rfl⟩ | ⟨kvs, h1, rfl⟩
      · obtain ⟨ps, vk, rfl, q1, q2⟩ := pairK_rp (X := X) hK h1 hr
        refine call_dictP hc pins s σ H _ us Q I r ⟨a, ps, vk, rfl, hs, q1, fun p hp => ?_⟩
        exact place_new R hp (show RpO G φ _ (.dk _) p from ⟨_, upd_same, RpKV.mono (kp hp) _ _ (putD_all (kvs := []) (vs := []) q2 rfl)⟩) h
      · obtain ⟨ps, vk, rfl, q1, q2⟩ := pairT_rp (X := X) hK h1 hr
        refine call_dictT hc hu pins s σ H _ us Q I r ⟨a, ps, vk, rfl, hs, q1, fun p hp => ?_⟩
        exact place_new R hp (show RpO G φ _ (.dt _) p from ⟨_, upd_same, RpKV.mono (kp hp) _ _ (putD_all (kvs := []) (vs := []) q2 rfl)⟩) h
    · exact h.elim
  · exact h.elim

/-! ### list(zip(a, b)) -/
theorem zip_rps {φ : List Addr} {H : Hp} : ∀ {ds es : List Mi.D} {xs ys : List V} {ts : List Addr}, Rps G φ H ds xs → Rps G φ H es ys → ts.length = (xs.zip ys).length →
    (∀ (j : Nat) (t : Addr) (q : V × V), ts[j]? = some t → (xs.zip ys)[j]? = some q → H t = some (.tup [q.1, q.2])) → Rps G φ H ((ds.zip es).map fun p => Mi.D.tup [p.1, p.2]) (ts.map V.ref)
  | [], _, _, _, ts, r, _, hl, _ => by
    unfold Rps at r
    subst r
    have e : ts = [] := List.length_eq_zero_iff.mp (by simpa using hl)
    subst e
    show Rps G φ H [] []
    unfold Rps; rfl
  | d :: ds, [], _, _, ts, _, r, hl, _ => by
    unfold Rps at r
    subst r
    have e : ts = [] := List.length_eq_zero_iff.mp (by simpa using hl)
    subst e
    show Rps G φ H [] []
    unfold Rps; rfl
  | d :: ds, e :: es, _, _, ts, r, r2, hl, hk => by
    unfold Rps at r r2
    obtain ⟨x, xs, rfl, h1, h2⟩ := r
    obtain ⟨y, ys, rfl, h3, h4⟩ := r2
    cases ts with
    | nil => simp at hl
    | cons t ts =>
      have ht := hk 0 t (x, y) rfl rfl
      have ih := zip_rps h2 h4 (ts := ts) (by simpa using hl) fun j t q e1 e2 => hk (j + 1) t q (by simpa using e1) (by simpa using e2)
      rw [List.zip_cons_cons, List.map_cons, List.map_cons]
      unfold Rps
      refine ⟨.ref t, _, rfl, ?_, ih⟩
      unfold Rp
      refine ⟨t, [x, y], rfl, ht, ?_⟩
      unfold Rps
      refine ⟨x, [y], rfl, h1, ?_⟩
      unfold Rps
      refine ⟨y, [], rfl, h3, ?_⟩
      unfold Rps
      rfl
theorem k_lzip {Wx : WX} {e e2 : Expr} {A B : AX W} {p p2 cpos pos : Pos} (hK : X.K = G.K) (hc : X.calm = true) (hg : L2.Gl X "list") (hm : X.mg "list" = none) (hg2 : L2.Gl X "zip") (hm2 : X.mg "zip" = none) (ha : PE X e (tK G Wx A)) (hb : PE X e2 (tK G Wx B))
    (hs : starEach [e, e2] X.env = (false, eval e X.env) :: starEach [e2] X.env) (hs2 : starEach [e2] X.env = (false, eval e2 X.env) :: starEach [] X.env) (hpl : (backTo cpos (starEach [e2] X.env)).any (·.1) = false) :
    PE X (.Call (.Name "list" p) [.Call (.Name "zip" p2) [e, e2] [] cpos] [] pos) (tK G Wx fun ρ S => (A ρ S).bd fun x S => (B ρ S).bd fun y S => Mi.p2 .lzip x y S) := by
  refine (Z.pe_listZip hc hg hm hg2 hm2 (pa_cons ha (pa_cons hb pa_nil hs2) hs) hs hpl).im fun σ H Q q => ?_
  refine tI.bd (F := fun x ρ S => (B ρ S).bd fun y S => Mi.p2 .lzip x y S) q fun φ ρ S v φ1 H1 x S1 R sl e1 R1 l h => ?_
  refine tI.next R sl e1 R1 h fun u H2 φ2 y S2 e2 R2 l2 h2 => ?_
  have h2 : Post G (RlW G) φ H (lzipW x y S2) (fun c d H' => Wx c d σ H') Q := h2
  unfold lzipW at h2
  cases hx : x.seq S2 with
  | none => simp only [hx] at h2; exact h2.elim
  | some bx =>
    cases hy : y.seq S2 with
    | none => simp only [hx, hy] at h2; exact h2.elim
    | some bz =>
      simp only [hx, hy] at h2
      by_cases hbb : bx.1 = bz.1
      · rw [if_pos hbb] at h2
        obtain ⟨bx, ds⟩ := bx
        obtain ⟨bz, es⟩ := bz
        obtain ⟨a, xs, rfl, hsa, hra⟩ := seq_rp R2 (RpW.mono e2 R1 l.1) hx
        obtain ⟨b, ys, rfl, hsb, hrb⟩ := seq_rp R2 l2.1 hy
        have e12 := e1.trans e2
        refine ⟨a, b, xs, ys, rfl, ?_, fun H' p ts k1 k2 k3 k4 k5 k6 k7 => ?_⟩
        · have hbb : bx = bz := hbb
          subst hbb
          cases bx with
          | true => exact .inr ⟨by rw [hK]; exact ifT hsa, by rw [hK]; exact ifT hsb⟩
          | false => exact .inl ⟨by rw [hK]; exact ifF hsa, by rw [hK]; exact ifF hsb⟩
        · have E3 : Ext φ2 H2 φ2 H' := ⟨List.prefix_refl _, fun a o h _ => k1 a o h, fun _ h => .inl h⟩
          have kp : Keep φ2 H2 φ2 H' := E3.toKeep R2
          have R3 : Rel G φ2 H' S2 := ⟨R2.len, R2.nd, fun n a o h1 h2 => by
            obtain ⟨u, hu, _⟩ := R2.at (List.mem_of_getElem? h1)
            exact RpO.mono kp (R2.obj n a o h1 h2) (by rw [hu, k1 a u hu])⟩
          refine Post.ok (L := RlW G) (a := W.lis _) h2 (e12.trans E3) R3 ⟨⟨p, _, rfl, k5, R2.unk k2, zip_rps (Rps.mono kp _ _ hra) (Rps.mono kp _ _ hrb) k6 k7⟩, fun ds' a' e1' e2' => ?_⟩
          cases e2'
          exact e12.fr R2 _ k2
      · rw [if_neg hbb] at h2; exact h2.elim

/-! ### {k: v, ..} -/
def flatV : List (V × V) → List V
  | [] => []
  | p :: r => p.1 :: p.2 :: flatV r
theorem unpair_rp {φ : List Addr} {H : Hp} : ∀ {ds : List Mi.D} {kvs : List (Key × Mi.D)} {ps : List (V × V)}, unpair ds = some kvs → Rps G φ H ds (flatV ps) → ∃ vk : List (Key × V), ps = vk.map (fun kv => (kV kv.1, kv.2)) ∧ RpKV G φ H kvs vk
  | [], kvs, ps, h, r => by
    cases h
    unfold Rps at r
    cases ps with
    | nil => exact ⟨[], rfl, rfl⟩
    | cons p ps => cases r
  | [d], kvs, ps, h, r => by cases h
  | k :: v :: ds, kvs, ps, h, r => by
    unfold unpair at h
    cases hk : k.key with
    | none => simp only [hk] at h; cases h
    | some k' =>
      simp only [hk] at h
      obtain ⟨rest, hr, rfl⟩ := Option.map_eq_some_iff.mp h
      unfold Rps at r
      obtain ⟨x, t, e, r1, r⟩ := r
      unfold Rps at r
      obtain ⟨y, t', rfl, r2, r⟩ := r
      cases ps with
      | nil => cases e
      | cons p ps =>
        cases e
        have e1 := key_v hk r1
        obtain ⟨vk, rfl, q⟩ := unpair_rp hr r
        refine ⟨(k', p.2) :: vk, ?_, p.2, vk, rfl, r2, q⟩
        rw [List.map_cons, ← e1]
theorem unk_upd {φ : List Addr} {H : Hp} {S : Store} {p : Addr} {kvs : List (Key × V)} {u : HO} (R : Rel G φ H S) (hp : H p = some (.dK kvs)) (n : p ∉ φ) : Keep φ H φ (upd H p u) ∧ Rel G φ (upd H p u) S := by
  have kp : Keep φ H φ (upd H p u) := by
    refine ⟨fun _ _ h => h, fun a xs h => ?_, fun a o x h => ?_⟩
    · rw [upd_ne]
      · exact h
      · rintro rfl; rw [hp] at h; cases h
    · rw [upd_ne]
      · exact h
      · rintro rfl; rw [hp] at h; cases h
  exact ⟨kp, R.len, R.nd, fun m a o h1 h2 => RpO.mono kp (R.obj m a o h1 h2) (upd_ne fun e => n (e ▸ List.mem_of_getElem? h1))⟩
theorem k_dsp {Wx : WX} {keys : List (Option Expr)} {values : List Expr} {trs : List (TE × TE)} {pos : Pos} {As : AX (List Mi.D)} (h : PPs X pos keys values trs) (hall : keys.all (·.isSome) = true) (hl : keys.length = values.length) (h0 : keys ≠ []) (h15 : keys.length ≤ 15)
    (hi : ∀ σ H Q, tDs G Wx As σ H (fun vs H' => ∀ ps, flatV ps = vs → Q ps H') → tPairs trs σ H Q) :
    PE X (.Dict keys values pos) (tK G Wx fun ρ S => (As ρ S).bd fun ds S => match dispO ds with
      | some o => .ok (.val (.ref S.length)) (S ++ [o])
      | none => .bad) := by
  refine (pe_disp h hall hl h0 h15).im fun σ H Q q p hp => hi _ _ _ ?_
  obtain ⟨φ, ρ, S, R, sl, q⟩ := q
  refine tI.next (L := RlDs G) (F := fun ds S => match dispO ds with
      | some o => Mi.R.ok (W.val (.ref S.length)) (S ++ [o])
      | none => .bad) R sl (Ext.fresh R hp _) (R.fresh hp _) q fun vs H2 φ2 ds S2 e2 R2 l2 h2 ps hps => ?_
  subst hps
  have l2 : Rps G φ2 H2 ds (flatV ps) := l2
  have hp2 : H2 p = some (.dK []) := e2.keep p _ upd_same (R.unk hp)
  have np : p ∉ φ2 := e2.out (upd_same (H := H) (a := p) (o := .dK [])) (R.unk hp)
  refine ⟨hp2, ?_⟩
  unfold dispO at h2
  cases hu : unpair ds with
  | none => simp only [hu] at h2; exact h2.elim
  | some kvs =>
    simp only [hu] at h2
    by_cases c : kvs.length ≤ 15
    · rw [if_pos c] at h2
      obtain ⟨vk, rfl, q2⟩ := unpair_rp hu l2
      refine ⟨vk, rfl, by rw [← q2.length]; exact c, ?_⟩
      obtain ⟨kp, R3⟩ := unk_upd (u := .dK (mergeK [] vk)) R2 hp2 np
      have E := (Ext.fresh R hp (.dK [])).trans e2
      refine Post.ok (L := RlW G) (φ' := φ2 ++ [p]) h2 ⟨E.pre.trans (List.prefix_append _ _), fun a o ha hn => ?_, fun x hx => ?_⟩ (R3.more np (show RpO G φ2 _ (.dk _) p from ⟨_, upd_same, RpKV.mono kp _ _ (putD_all (kvs := []) (vs := []) q2 rfl)⟩)) (rl_val ?_)
      · rw [upd_ne (fun z => by rw [z, hp] at ha; cases ha)]
        exact E.keep a o ha hn
      · rcases List.mem_append.mp hx with z | z
        · exact E.new x z
        · simp at z; subst z; exact .inr hp
      · unfold Rp
        exact ⟨p, rfl, by rw [← R2.len]; simp⟩
    · rw [if_neg c] at h2; exact h2.elim
theorem k_dsp0 {Wx : WX} {pos : Pos} : PE X (.Dict [] [] pos) (tK G Wx fun ρ S => .ok (.val (.ref S.length)) (S ++ [.dk []])) :=
  (pe_dnewK (pos := pos)).im fun σ H Q ⟨φ, ρ, S, R, sl, q⟩ p hp => place_new R hp (show RpO G φ _ (.dk []) p from ⟨[], upd_same, rfl⟩) q
end

/-! ### sorted(xs, key=f) -/
abbrev Calls := Nat → List Mi.D → Store → Mi.R Mi.D
def spI (G : Gb) (C : Calls) (i : Nat) : Sp := fun vs H Q E => ∃ φ S ds, Rel G φ H S ∧ Rps G φ H ds vs ∧ Post G (RlD G) φ H (C i ds S) E Q
section
variable {G : Gb} {X : Cx} {C : Calls} {lev : Nat}
theorem Rps.drop1 {φ : List Addr} {H : Hp} {ds : List Mi.D} {vs : List V} (r : Rps G φ H ds vs) {i : Nat} {x : V} (h : vs[i]? = some x) : ∃ d, ds.drop i = d :: ds.drop (i + 1) ∧ Rp G φ H d x := by
  have hi : i < ds.length := by rw [r.len]; exact (List.getElem?_eq_some_iff.mp h).1
  obtain ⟨v, h1, h2⟩ := r.get (List.getElem?_eq_getElem hi)
  rw [h] at h1
  cases h1
  exact ⟨ds[i], List.drop_eq_getElem_cons hi, h2⟩
theorem rps_snoc {φ : List Addr} {H : Hp} {d : Mi.D} {v : V} {ds : List Mi.D} {vs : List V} (h : Rps G φ H ds vs) (r : Rp G φ H d v) : Rps G φ H (ds ++ [d]) (vs ++ [v]) := h.snoc r
theorem rps_by {φ : List Addr} {H : Hp} {ds : List Mi.D} {vs : List V} {kz : List PyData} (r : Rps G φ H ds vs) (hl : kz.length = ds.length) : Rps G φ H (byKeys false ds kz) (byKeys false vs kz) := by
  -- the pairs, sorted alike
  have h1 : ds.zip kz = (((ds.zip vs).zip kz).map fun q => (q.1.1, q.2)) := by
    have := r.len
    clear r
    induction ds generalizing vs kz with
    | nil => rfl
    | cons d ds ih =>
      cases vs with
      | nil => cases this
      | cons v vs =>
        cases kz with
        | nil => rfl
        | cons k kz => rw [List.zip_cons_cons, List.zip_cons_cons, List.zip_cons_cons, List.map_cons, ih (by simpa using hl) (by simpa using this)]
  have h2 : vs.zip kz = (((ds.zip vs).zip kz).map fun q => (q.1.2, q.2)) := by
    have := r.len
    clear r h1
    induction ds generalizing vs kz with
    | nil =>
      cases vs with
      | nil => rfl
      | cons v vs => cases this
    | cons d ds ih =>
      cases vs with
      | nil => cases this
      | cons v vs =>
        cases kz with
        | nil => rfl
        | cons k kz => rw [List.zip_cons_cons, List.zip_cons_cons, List.zip_cons_cons, List.map_cons, ih (by simpa using hl) (by simpa using this)]
  unfold byKeys
  rw [h1, h2]
  rw [← List.map_mergeSort (f := fun q : (Mi.D × V) × PyData => (q.1.1, q.2)) (r := fun a b => PySem.W.dataLe false (fun q : (Mi.D × V) × PyData => q.2) a b) (fun _ _ _ _ => rfl), ← List.map_mergeSort (f := fun q : (Mi.D × V) × PyData => (q.1.2, q.2)) (r := fun a b => PySem.W.dataLe false (fun q : (Mi.D × V) × PyData => q.2) a b) (fun _ _ _ _ => rfl)]
  rw [List.map_map, List.map_map]
  have all : ∀ q ∈ ((ds.zip vs).zip kz).mergeSort (fun a b => PySem.W.dataLe false (fun q : (Mi.D × V) × PyData => q.2) a b), Rp G φ H q.1.1 q.1.2 := fun q hq => by
    have hq := (List.mergeSort_perm _ _).mem_iff.mp hq
    have hq := (List.of_mem_zip hq).1
    obtain ⟨j, hj⟩ := List.mem_iff_getElem?.mp hq
    rw [List.getElem?_zip_eq_some] at hj
    obtain ⟨v, e1, e2⟩ := r.get hj.1
    rw [hj.2] at e1
    cases e1
    exact e2
  generalize ((ds.zip vs).zip kz).mergeSort (fun a b => PySem.W.dataLe false (fun q : (Mi.D × V) × PyData => q.2) a b) = l at all
  induction l with
  | nil => show Rps G φ H [] []; unfold Rps; rfl
  | cons q l ih =>
    rw [List.map_cons, List.map_cons]
    unfold Rps
    exact ⟨_, _, rfl, all q List.mem_cons_self, ih fun q hq => all q (List.mem_cons_of_mem _ hq)⟩
theorem cr_srt {j : Nat} {f : Addr} {fd : FuncData} {ps : List Str} (hK : X.K = G.K) (hu : X.A.units + 64 < cLine) (hr : Room (lev + 2) X.A) (hb : Binds X.K fd ps []) (F : FnOk X.prog X.w X.K X.mg X.base (L2.CX X.prog X.w) lev f fd ps (spI G C j)) :
    CallRK X (.builtin "sorted") [Str.ofString "key"] (fun vs zs H Q => zs = [.ref f] ∧ ∃ v φ w S xk, vs = [v] ∧ Rel G φ H S ∧ RpW G φ H w v ∧ Post G (RlW G) φ H (srtW (fun d S => C j [d] S) w S) xk Q) := by
  intro pins s σ H xs zs us ws Q I r rz h
  obtain ⟨rfl, v, φ, w, S, xk, rfl, R, r1, h⟩ := h
  obtain ⟨w1, rfl, e1⟩ := vals1 rz
  have e1 : w1 = Value.ref f := e1
  subst e1
  unfold srtW at h
  split at h
  · rename_i ds hq
    obtain ⟨a, vs, rfl, hs, hr0⟩ := seq_rp R r1 hq
    have hs : SqL X.K H a vs := by rw [hK]; exact ifF hs
    obtain rfl := Vals.ref1 r
    show wpAny _ _ (call (.builtin "sorted") [.ref a] [(Str.ofString "key", .ref f)]) _ _ s
    refine So.sorted_def I hs hu (fun i ys H' => ∃ φ' S' ks, Ext φ H φ' H' ∧ Rel G φ' H' S' ∧ Rps G φ' H' ks ys ∧ ks.length = i ∧ Post G (RlW G) φ H ((keysL (fun d S => C j [d] S) (ds.drop i) S').bd fun ks2 S => srtEnd ds (ks ++ ks2) S) xk Q) ⟨φ, S, [], Ext.refl _ _, R, by unfold Rps; rfl, rfl, by simpa using h⟩ ?_ ?_
    · rintro pins' i x u ys H1 s1 I1 hx ru ⟨φ1, S1, ks, E1, R1, rk, hkl, hp⟩
      obtain ⟨d, hd, rd⟩ := hr0.drop1 hx
      rw [hd] at hp
      unfold keysL at hp
      rw [bd_bd] at hp
      have rd1 := Rp.mono (E1.toKeep R) _ _ rd
      have hA : Room lev X.A.in1.in1 := (hr.in1).in1
      have hsp : spI G C j [x] H1 (fun y H2 => ∃ φ' S' ks', Ext φ H φ' H2 ∧ Rel G φ' H2 S' ∧ Rps G φ' H2 ks' (ys ++ [y]) ∧ ks'.length = i + 1 ∧ Post G (RlW G) φ H ((keysL (fun d S => C j [d] S) (ds.drop (i + 1)) S').bd fun ks2 S => srtEnd ds (ks' ++ ks2) S) xk Q) (fun _ _ _ => False) := by
        refine ⟨φ1, S1, [d], R1, by unfold Rps; refine ⟨x, [], rfl, rd1, ?_⟩; unfold Rps; rfl, ?_⟩
        cases hC : C j [d] S1 with
        | bad => rw [hC] at hp; exact hp.elim
        | ex c fs S2 => rw [hC] at hp; exact hp.elim
        | ok k S2 =>
          rw [hC] at hp
          intro y H2 φ2 E2 R2 l2
          refine ⟨φ2, S2, ks ++ [k], E1.trans E2, R2, Rps.snoc (Rps.mono (E2.toKeep R1) _ _ rk) l2, by rw [List.length_append, hkl]; rfl, ?_⟩
          have hp : Post G (RlW G) φ H ((((keysL (fun d S => C j [d] S) (ds.drop (i + 1)) S2).bd fun ks S => .ok (k :: ks) S)).bd fun ks2 S => srtEnd ds (ks ++ ks2) S) xk Q := hp
          rw [bd_bd] at hp
          have e : (fun (ks2 : List Mi.D) (S : Store) => srtEnd ds (ks ++ [k] ++ ks2) S) = fun ks2 S => srtEnd ds (ks ++ (k :: ks2)) S := by
            funext ks2 S
            rw [List.append_assoc]
            rfl
          rw [e]
          exact hp
      have hps : 1 = ps.length := F.len _ _ _ _ hsp
      refine wpAny_call (codeAny_mono (F.run X.A.in1.in1 X.stack s1 H1 ⟨[u], []⟩ [u] [x] _ (fun _ _ _ => False) hA I1.env0.in1.in1 (by
        have q := hb s1 [u] I1.kIn (by rw [← hps]; rfl)
        simpa using q) (.cons ru .nil) hsp) fun r2 s2 hq2 => ?_)
      cases r2 with
        | error e =>
          have hq2 : L2.CX X.prog X.w X.stack H1 s1 (fun _ _ _ => False) e s2 := hq2
          obtain ⟨_, _, _, _, _, _, _, _, _, _, _, _, hF⟩ := hq2
          exact hF.elim
        | ok fl =>
          cases fl with
          | ret u2 =>
            obtain ⟨y, H2, I2, ry, q⟩ := I1.after (show CE X.stack X.prog X.w H1 s1 _ u2 s2 from hq2)
            exact ⟨y, H2, I2, ry, q⟩
          | _ => exact hq2.elim
    · rintro ys H1 ⟨φ1, S1, ks, E1, R1, rk, hkl, hp⟩
      rw [← hr0.len, List.drop_length] at hp
      unfold keysL at hp
      have hp : Post G (RlW G) φ H (srtEnd ds (ks ++ []) S1) xk Q := hp
      rw [List.append_nil] at hp
      unfold srtEnd at hp
      cases hm : mapO (toPy S1 deepest) ks with
      | none => rw [hm] at hp; exact hp.elim
      | some kz =>
        rw [hm] at hp
        dsimp only at hp
        by_cases hok : PySem.W.AllAlike kz ∧ PySem.W.Sortable kz
        · rw [if_pos hok] at hp
          have hml : ∀ {l : List Mi.D} {k : List PyData}, mapO (toPy S1 deepest) l = some k → k.length = l.length := by
            intro l
            induction l with
            | nil => intro k h; rw [mapO_nil h]; rfl
            | cons d l ih =>
              intro k h
              obtain ⟨b, bs, _, h2, rfl⟩ := mapO_cons h
              rw [List.length_cons, List.length_cons, ih h2]
          have hlen : kz.length = ds.length := by rw [hml hm, hkl, hr0.len]
          have hdep : ∀ {l : List PyData}, ∀ d ∈ l, d.depth ≤ PyData.depthAll l := by
            intro l
            induction l with
            | nil => intro d hd; cases hd
            | cons x l ih =>
              intro d hd
              have e : PyData.depthAll (x :: l) = max x.depth (PyData.depthAll l) := by simp [PyData.depthAll]
              rw [e]
              rcases List.mem_cons.mp hd with rfl | hd
              · exact Nat.le_max_left _ _
              · exact Nat.le_trans (ih d hd) (Nat.le_max_right _ _)
          refine ⟨kz, by rw [hK]; exact mapPy_dp R1 rk hm, by rw [hlen, hr0.len], hok.1, hok.2, fun d hd => Nat.le_trans (hdep d hd) (mapPy_ok hm).2, fun p hpn => ?_⟩
          have hr1 := Rps.mono (E1.toKeep R) _ _ hr0
          have E2 := Ext.fresh R1 hpn (.lst (byKeys false vs kz))
          refine Post.ok (L := RlW G) hp (E1.trans E2) (R1.fresh hpn _) ⟨⟨p, _, rfl, upd_same, R1.unk hpn, Rps.mono (E2.toKeep R1) _ _ (rps_by hr1 hlen)⟩, fun ds' a' e1 e2 => ?_⟩
          cases e2
          exact E1.fr R1 _ hpn
        · rw [if_neg hok] at hp; exact hp.elim
  · exact h.elim
end
end Mi

/-! Mi, part H: from the text to the small language; it tells the truth: expressions. -/
namespace Mi
open PySem L2 PyProof.Rows RT RZ

/-! ### the translation -/
inductive Gl where
  | fn (i : Nat) | cst (d : D)
structure Ct where
  N : List Str
  gl : List (Str × Gl)
  sc : Scope
def Ct.vis (c : Ct) (x : Str) : Bool := match c.sc.names.lookup x with
  | some .local => true | some .cell => true | some .free => true | _ => false
def Ct.glb (c : Ct) (x : Str) : Bool := decide (c.sc.names.lookup x = some .globalImplicit)
def Ct.loc (c : Ct) (x : Str) : Bool := match c.sc.names.lookup x with
  | some .local => true | some .cell => true | _ => false
def ixOf (N : List Str) (x : Str) : Option Nat := match N with
  | [] => none
  | y :: r => if y = x then some 0 else (ixOf r x).map (· + 1)
def bad : List Str := ["__debug__", "__classdict__", "__name__"]
def okName (x : Str) : Bool := !(bad.contains x)
def binOf : Operator → Option P2
  | .Add => some .add | .Sub => some .sub | .Mult => some .mul | .FloorDiv => some .fdiv | .Mod => some .mod | .Pow => some .pow | _ => none
def cmpOf : CmpOp → Option P2
  | .Eq => some .eq | .NotEq => some .ne | .Lt => some .lt | .LtE => some .le | .Gt => some .gt | .GtE => some .ge | .In => some .inn | .NotIn => some .nin | _ => none
def isSet : Expr → Bool
  | .Set _ _ _ => true | _ => false
def isStar : Expr → Bool
  | .Starred _ _ => true | _ => false
def isSlice : Expr → Bool
  | .Slice _ _ _ _ => true | _ => false
def baseOk : Expr → Bool
  | .Call (.Name _ _) [] [] _ => false | _ => true
/-- built-in names that a text may call -/
def b1Of (x : Str) : Option P1 := if x = ("len" : Str) then some .len else if x = ("int" : Str) then some .int_ else if x = ("ord" : Str) then some .ord else if x = ("str" : Str) then some .str_ else if x = ("tuple" : Str) then some .tuple_ else if x = ("list" : Str) then some .list_ else if x = ("dict" : Str) then some .dict_ else none
def tyOf (x : Str) : Option Ty := if x = ("int" : Str) then some .int else if x = ("str" : Str) then some .str else if x = ("bool" : Str) then some .bool else if x = ("tuple" : Str) then some .tuple else if x = ("list" : Str) then some .list else none
def m0Of (x : Str) : Option (MK × P1) := if x = ("pop" : Str) then some (.list, .pop) else none
def m1Of (x : Str) : Option (MK × P2) := if x = ("append" : Str) then some (.list, .append) else if x = ("extend" : Str) then some (.list, .extend) else if x = ("join" : Str) then some (.str, .join) else none
def Ct.blt (c : Ct) (x : Str) : Bool := c.glb x && (c.gl.lookup x).isNone
def ty1 (c : Ct) (e : Expr) : Option Ty := match e with
  | Expr.Name x _ => if c.blt x = true then tyOf x else none
  | _ => none
def tyE (c : Ct) : Expr → Option (List Ty)
  | .Name x p => (ty1 c (.Name x p)).map fun t => [t]
  | .Tuple es _ _ => if es.length ≤ 100 then mapO (ty1 c) es else none
  | _ => none
def tgE (c : Ct) : Expr → Option Tg
  | .Name x _ => if c.loc x = true then (ixOf c.N x).map .nm else none
  | .Tuple es _ _ => (mapO (fun e => match e with | Expr.Name x _ => if c.loc x = true then ixOf c.N x else none | _ => none) es).map .tp
  | _ => none
def andE : List Ex → Option Ex
  | [] => none
  | [a] => some a
  | a :: b :: r => (andE (b :: r)).map (.and_ a)
def orE : List Ex → Option Ex
  | [] => none
  | [a] => some a
  | a :: b :: r => (orE (b :: r)).map (.or_ a)
def ownE (N : List Str) (sc : Scope) : List (Str × Nat) := sc.names.filterMap fun y => match y.2 with
  | .local => (ixOf N y.1).map fun i => (y.1, i)
  | .cell => (ixOf N y.1).map fun i => (y.1, i)
  | _ => none
def optE (f : Expr → Option Ex) : Option Expr → Option (List Ex)
  | none => some []
  | some e => (f e).map fun e => [e]

/-- the iterators that give tuples want a target of several names -/
def tupT (k : IK) (tg : Expr) : Bool := match k, tg with
  | .zip, .Tuple _ _ _ => true
  | .enm, .Tuple _ _ _ => true
  | .zip, _ => false
  | .enm, _ => false
  | _, _ => true
/-- one step of it: rec is for the parts -/
def iStep (rec : Ct → Expr → Option Ex) (c : Ct) : Expr → Option (IK × List Ex)
  | .Call (.Name x p) es kw pos => if (c.blt x && kw.isEmpty) = true then
      if x = ("range" : Str) then match es with
        | [a] => if isStar a = true then none else (rec c a).map fun a => (.rng1, [a])
        | [a, b] => if (isStar a || isStar b) = true then none else match rec c a, rec c b with
          | some a, some b => some (.rng2, [a, b])
          | _, _ => none
        | [a, b, d] => if (isStar a || isStar b || isStar d) = true then none else match rec c a, rec c b, rec c d with
          | some a, some b, some d => some (.rng3, [a, b, d])
          | _, _, _ => none
        | _ => none
      else if x = ("zip" : Str) then match es with
        | [a, b] => if (isStar a || isStar b) = true then none else match rec c a, rec c b with
          | some a, some b => some (.zip, [a, b])
          | _, _ => none
        | _ => none
      else if x = ("enumerate" : Str) then match es with
        | [a] => if isStar a = true then none else (rec c a).map fun a => (.enm, [a])
        | _ => none
      else if x = ("reversed" : Str) then match es with
        | [a] => if isStar a = true then none else (rec c a).map fun a => (.rev, [a])
        | _ => none
      else (rec c (.Call (.Name x p) es kw pos)).map fun a => (.it, [a])
    else (rec c (.Call (.Name x p) es kw pos)).map fun a => (.it, [a])
  | e => if isSet e = true then none else (rec c e).map fun a => (.it, [a])
def cmpStep (rec : Ct → Expr → Option Ex) (c : Ct) (a : Expr) : List CmpOp → List Expr → Option Ex
  | [op], [b] => if isSet b = true then none else match op, b with
    | .Is, .Constant .none _ _ => (rec c a).map (.p1 .isN)
    | .IsNot, .Constant .none _ _ => (rec c a).map (.p1 .notN)
    | op, b => match cmpOf op, rec c a, rec c b with
      | some o, some a, some b => some (.p2 o a b)
      | _, _, _ => none
  | [op, op'], [b, d] => if isSet d = true then none else match cmpOf op, cmpOf op', rec c a, rec c b, rec c d with
    | some o, some o', some a, some b, some d => some (.ch o o' a b d)
    | _, _, _, _, _ => none
  | _, _ => none
/-- zip(u, v) in list(..) -/
def zipArg (x : Str) (a : Expr) : Option (Expr × Expr) := match a with
  | .Call (.Name y _) [u, v] [] _ => if x = ("list" : Str) then (if y = ("zip" : Str) then some (u, v) else none) else none
  | _ => none
/-- sorted(a, key=f) -/
def srtStep (rec : Ct → Expr → Option Ex) (c : Ct) (x : Str) (es : List Expr) (k y : Str) : Option Ex := match es with
  | [a] => if (c.blt x && decide (x = ("sorted" : Str)) && decide (k = ("key" : Str)) && !isStar a && c.glb y && okName y) = true then match c.gl.lookup y, rec c a with
      | some (.fn i), some a => some (.srt i false a)
      | _, _ => none
    else none
  | _ => none
/-- a display's keys and values, in turn -/
def flatE : List (Option Expr) → List Expr → Option (List Expr)
  | [], [] => some []
  | some k :: ks, v :: vs => (flatE ks vs).map fun r => k :: v :: r
  | _, _ => none
def callStep (rec : Ct → Expr → Option Ex) (c : Ct) (x : Str) (es : List Expr) : Option Ex :=
  if (okName x && !es.any isStar) = false then none else if c.glb x = false then none else match c.gl.lookup x with
    | some (.fn i) => (mapO (rec c) es).map (.call i)
    | some (.cst _) => none
    | none => match es with
      | [a] => match zipArg x a with
        | some (u, v) => if (c.blt "zip" && !isStar u && !isStar v) = true then match rec c u, rec c v with
            | some u, some v => some (.p2 .lzip u v)
            | _, _ => none
          else none
        | none => match b1Of x, rec c a with
          | some o, some a => some (.p1 o a)
          | _, _ => none
      | [a, t] => if x = ("isinstance" : Str) then match rec c a, tyE c t with
          | some a, some ts => some (.isi ts a)
          | _, _ => none
        else none
      | _ => none
def methStep (rec : Ct → Expr → Option Ex) (c : Ct) (o : Expr) (m : Str) (es : List Expr) : Option Ex :=
  if (baseOk o && !es.any isStar) = false then none else match es with
    | [] => match m0Of m, rec c o with
      | some (k, p), some o => some (.m0 k p o)
      | _, _ => none
    | [a] => match m1Of m, rec c o, rec c a with
      | some (k, p), some o, some a => some (.m1 k p o a)
      | _, _, _ => none
    | _ => none
def compStep (rec : Ct → Expr → Option Ex) (c : Ct) (elt tg iter : Expr) (ifs : List Expr) (sc : Scope) : Option Ex :=
  if (blkC c.N c.sc sc (ownE c.N sc) && !isSet iter) = true then match tgE ⟨c.N, c.gl, sc⟩ tg, iStep rec c iter, rec ⟨c.N, c.gl, sc⟩ elt with
    | some t, some (k, is), some e => if (tupT k tg && t.slots.all fun i => decide (i ∈ (ownE c.N sc).map (·.2))) = true then match ifs with
      | [] => some (.comp t k is [] e ((ownE c.N sc).map (·.2)))
      | [f] => (rec ⟨c.N, c.gl, sc⟩ f).map fun f => .comp t k is [f] e ((ownE c.N sc).map (·.2))
      | _ => none
      else none
    | _, _, _ => none
  else none
def eStep (rec : Ct → Expr → Option Ex) (c : Ct) : Expr → Option Ex
  | .Name x _ => if okName x = false then none else if c.vis x = true then (ixOf c.N x).map .v else if c.glb x = true then match c.gl.lookup x with
      | some (.cst d) => some (.c d)
      | _ => none
    else none
  | .Constant k _ _ => match k with
    | .none => some (.c .non)
    | .bool b => some (.c (.bl b))
    | .int i => some (.c (.int i))
    | .str x => some (.c (.str x))
    | _ => none
  | .BinOp a op b _ => match binOf op, rec c a, rec c b with
    | some o, some a, some b => some (.p2 o a b)
    | _, _, _ => none
  | .UnaryOp op a _ => match op with
    | .Not => (rec c a).map .not_
    | .USub => (rec c a).map (.p1 .neg)
    | _ => none
  | .BoolOp op es _ => match op with
    | .And => (mapO (rec c) es).bind andE
    | .Or => (mapO (rec c) es).bind orE
  | .IfExp t a b _ => match rec c t, rec c a, rec c b with
    | some t, some a, some b => some (.ite t a b)
    | _, _, _ => none
  | .Compare a ops es _ => cmpStep rec c a ops es
  | .Call f es kw pos => match kw with
    | [] => match f with
      | .Name x _ => callStep rec c x es
      | .Attribute o m apos => if (apos.endLine == pos.line) = false then none else methStep rec c o m es
      | _ => none
    | [⟨some k, .Name y _, _⟩] => match f with
      | .Name x _ => srtStep rec c x es k y
      | _ => none
    | _ => none
  | .Dict keys values _ => match flatE keys values with
    | some es => if keys.length ≤ 15 then (mapO (rec c) es).map .dict else none
    | none => none
  | .Subscript a b _ => match b with
    | .Slice lo hi none _ => match rec c a, optE (rec c) lo, optE (rec c) hi with
      | some a, some lo, some hi => some (.sl a lo hi)
      | _, _, _ => none
    | .Slice _ _ (some _) _ => none
    | b => match rec c a, rec c b with
      | some a, some b => some (.p2 .ix a b)
      | _, _ => none
  | .Tuple es _ _ => if es.any isStar = true then none else (mapO (rec c) es).map .tup
  | .List es _ => if es.any isStar = true then none else (mapO (rec c) es).map .disp
  | .ListComp elt gs sc _ => match gs with
    | [⟨tg, iter, ifs, 0⟩] => compStep rec c elt tg iter ifs sc
    | _ => none
  | _ => none
def cE : Nat → Ct → Expr → Option Ex
  | 0 => fun _ _ => none
  | n + 1 => eStep (cE n)
def cI (n : Nat) : Ct → Expr → Option (IK × List Ex) := iStep (cE n)

/-! ### it tells the truth -/
structure FnAt (G : Gb) (C : Calls) (lev : Nat) (X : Cx) (x : Str) (i : Nat) : Prop where
  ex : ∃ (f : Addr) (fd : FuncData) (ps : List Str), X.mg x = some (.ref f) ∧ PySem.W.keepIn X.K (.ref f) = true ∧ Binds X.K fd ps [] ∧ FnOk X.prog X.w X.K X.mg X.base (L2.CX X.prog X.w) lev f fd ps (spI G C i)
def bltNames : List Str := ["len", "int", "ord", "str", "tuple", "list", "isinstance", "bool", "range", "zip", "enumerate", "reversed", "dict", "sorted", "sum", "all", "any", "max", "min", "abs", "set"]
structure Good (G : Gb) (C : Calls) (Wx : WX) (lev : Nat) (X : Cx) (c : Ct) : Prop where
  hK : X.K = G.K
  hN : X.N = c.N
  nd : c.N.Nodup
  vis : ∀ x, c.vis x = true → Vis X.env.scope x
  glb : ∀ x, c.glb x = true → L2.Gl X x
  loc : ∀ x, c.loc x = true → Loc X.env.scope x ∧ (X.fn x = true ∨ X.env.scope.names.lookup x = some .local)
  cf : ∀ y, (c.sc.names.lookup y = some .cell ∨ c.sc.names.lookup y = some .free) → (X.env.scope.names.lookup y = some .cell ∨ X.env.scope.names.lookup y = some .free)
  calm : X.calm = true
  hu : X.A.units + 64 < cLine
  room : Room (lev + 2) X.A
  fns : ∀ x i, c.gl.lookup x = some (.fn i) → FnAt G C lev X x i
  cst : ∀ x d, c.gl.lookup x = some (.cst d) → ∃ v u, X.mg x = some u ∧ L2.RelV v u ∧ ∀ φ H, Rp G φ H d v
  blt : ∀ x ∈ bltNames, c.gl.lookup x = none → X.mg x = none
  pas : ∀ σ, PassesAt (L2.CX X.prog X.w) X σ (fun cl d H => Wx cl d σ H)
section
variable {G : Gb} {C : Calls} {Wx : WX} {lev : Nat} {X : Cx} {c : Ct} {n : Nat}
theorem ixOf_get : ∀ {N : List Str} {x : Str} {i : Nat}, ixOf N x = some i → N[i]? = some x
  | [], _, _, h => by cases h
  | y :: r, x, i, h => by
    unfold ixOf at h
    by_cases e : y = x
    · rw [if_pos e] at h
      cases h
      rw [e]; rfl
    · rw [if_neg e] at h
      obtain ⟨j, hj, rfl⟩ := Option.map_eq_some_iff.mp h
      simpa using ixOf_get hj
theorem okName_of {x : Str} (h : okName x = true) : (x == ("__debug__" : Str)) = false ∧ (x == ("__classdict__" : Str)) = false ∧ x ≠ ("__name__" : Str) := by
  unfold okName bad at h
  simp only [List.contains_cons, List.contains_nil, Bool.or_false, Bool.not_or, Bool.and_eq_true, Bool.not_eq_true'] at h
  obtain ⟨h1, h2, h3⟩ := h
  exact ⟨h1, h2, by simpa using h3⟩
theorem star_cons {e : Expr} {es : List Expr} {env : PySem.Env} (h : isStar e = false) : starEach (e :: es) env = (false, eval e env) :: starEach es env := by
  cases e <;> first | rfl | cases h
theorem star_any {es : List Expr} {env : PySem.Env} {pos : Pos} (h : es.any isStar = false) : (backTo pos (starEach es env)).any (·.1) = false := by
  have q : ∀ es : List Expr, es.any isStar = false → (starEach es env).any (·.1) = false := by
    intro es
    induction es with
    | nil => intro _; rfl
    | cons e es ih =>
      intro h
      rw [List.any_cons, Bool.or_eq_false_iff] at h
      rw [star_cons h.1, List.any_cons, ih h.2]
      rfl
  have z := q es h
  have e : ∀ l : List (Bool × Sem Value), (backTo pos l).any (·.1) = l.any (·.1) := by
    intro l
    unfold backTo
    rw [List.any_map]
    rfl
  rw [e]
  exact z
theorem behind_ok {op : CmpOp} {b : Expr} (h : isSet b = false) : behindInMarks op b = false := by
  cases b <;> first | rfl | cases h
theorem last_ok {op op' : CmpOp} {b d : Expr} (h : isSet d = false) : lastMarks [op, op'] [b, d] = false := by
  show lastMarks [op'] [d] = false
  show behindInMarks op' d = false
  exact behind_ok h
theorem base_ok {o : Expr} {m : Str} {env : PySem.Env} (h : baseOk o = true) : attributeBase o m env (eval o env) = eval o env := by
  cases o with
  | Call f es ks p =>
    cases f with
    | Name x q =>
      cases es with
      | nil =>
        cases ks with
        | nil => cases h
        | cons _ _ => rfl
      | cons _ _ => rfl
    | _ => rfl
  | _ => rfl
theorem plainIx_ok {b : Expr} (h : isSlice b = false) : PlainIx b := by
  intro o i
  cases b <;> first | rfl | cases h
theorem fold_ok {e : Expr} {env : PySem.Env} (h : isSet e = false) : ∀ x, foldedSetIterable e env x = pure x := by
  intro x
  cases e <;> first | rfl | cases h
/-- a comprehension's block -/
theorem lookup_relabel {env : PySem.Env} {x : Str} : ∀ {names : List (Str × NameKind)},
    (names.map fun (n, k) => if (k == NameKind.free && env.scope.kind == .function && env.kindOf n == some .cell) then (n, NameKind.cell) else (n, k)).lookup x = (names.lookup x).map fun k => if (k == NameKind.free && env.scope.kind == .function && env.kindOf x == some .cell) = true then NameKind.cell else k
  | [] => rfl
  | (n, k) :: r => by
    have ih := @lookup_relabel env x r
    show List.lookup x ((if (k == NameKind.free && env.scope.kind == .function && env.kindOf n == some .cell) = true then (n, NameKind.cell) else (n, k)) :: _) = _
    cases hx : x == n with
    | true =>
      have e : x = n := by simpa using hx
      subst e
      by_cases hc : (k == NameKind.free && env.scope.kind == .function && env.kindOf x == some .cell) = true
      · rw [if_pos hc]
        simp only [List.lookup_cons, beq_self_eq_true, Option.map_some, if_pos hc]
      · rw [if_neg hc]
        simp only [List.lookup_cons, beq_self_eq_true, Option.map_some, if_neg hc]
    | false =>
      by_cases hc : (k == NameKind.free && env.scope.kind == .function && env.kindOf n == some .cell) = true
      · rw [if_pos hc]; simp only [List.lookup_cons, hx]; exact ih
      · rw [if_neg hc]; simp only [List.lookup_cons, hx]; exact ih
theorem Good.blk (g : Good G C Wx lev X c) (sc : Scope) (s : Shared) (H : Hp) (Ca : Addr) (cl : List (Str × Addr)) (fp : List Addr) : Good G C WxF lev (X.blk s H sc (compEnvC sc cl Ca X.env) fp) ⟨c.N, c.gl, sc⟩ := by
  have key : ∀ x, (compEnvC sc cl Ca X.env).scope.names.lookup x = (sc.names.lookup x).map fun k => if (k == NameKind.free && X.env.scope.kind == .function && X.env.kindOf x == some .cell) = true then NameKind.cell else k := fun x => lookup_relabel
  refine ⟨g.hK, g.hN, g.nd, fun x h => ?_, fun x h => ?_, fun x h => ?_, fun x h => ?_, g.calm, g.hu, g.room, fun x i h => ⟨(g.fns x i h).ex⟩, g.cst, g.blt, fun σ pins H s e s' I cx => ?_⟩
  · unfold Ct.vis at h
    show Vis (compEnvC sc cl Ca X.env).scope x
    unfold Vis
    rw [key]
    have h : (match sc.names.lookup x with | some .local => true | some .cell => true | some .free => true | _ => false) = true := h
    cases q : sc.names.lookup x with
    | none => rw [q] at h; cases h
    | some k =>
      rw [q] at h
      cases k with
      | «local» => exact .inl rfl
      | cell => exact .inr (.inl rfl)
      | free =>
        show some (if _ then NameKind.cell else NameKind.free) = _ ∨ some (if _ then NameKind.cell else NameKind.free) = _ ∨ some (if _ then NameKind.cell else NameKind.free) = _
        split
        · exact .inr (.inl rfl)
        · exact .inr (.inr rfl)
      | _ => cases h
  · have h : sc.names.lookup x = some .globalImplicit := of_decide_eq_true h
    show (compEnvC sc cl Ca X.env).scope.names.lookup x = some .globalImplicit
    rw [key, h]
    rfl
  · unfold Ct.loc at h
    show L2.Loc (compEnvC sc cl Ca X.env).scope x ∧ ((sc.names.lookup x == some .cell) = true ∨ (compEnvC sc cl Ca X.env).scope.names.lookup x = some .local)
    unfold L2.Loc
    rw [key]
    have h : (match sc.names.lookup x with | some .local => true | some .cell => true | _ => false) = true := h
    cases q : sc.names.lookup x with
    | none => rw [q] at h; cases h
    | some k =>
      rw [q] at h
      cases k with
      | «local» => exact ⟨.inl rfl, .inr rfl⟩
      | cell => exact ⟨.inr rfl, .inl rfl⟩
      | _ => cases h
  · show (compEnvC sc cl Ca X.env).scope.names.lookup x = some .cell ∨ (compEnvC sc cl Ca X.env).scope.names.lookup x = some .free
    rw [key]
    have h : sc.names.lookup x = some .cell ∨ sc.names.lookup x = some .free := h
    rcases h with h | h
    · rw [h]; exact .inl rfl
    · rw [h]
      show some (if _ then NameKind.cell else NameKind.free) = _ ∨ some (if _ then NameKind.cell else NameKind.free) = _
      split
      · exact .inl rfl
      · exact .inr rfl
  · obtain ⟨a, B, H', cls, d, rfl, fl, hok, ub, na, os, ag, hE⟩ := cx
    exact hE.elim
/-- a call of a def -/
theorem call_im {i : Nat} {As : AX (List D)} {σ : L2.St} {H : Hp} {Q : VK} (h : tK G Wx (fun ρ S => (As ρ S).bd fun ds S => (C i ds S).bd fun d S => vv d S) σ H Q) :
    tDs G Wx As σ H fun vs H1 => spI G C i vs H1 Q (fun cl d H' => Wx cl d σ H') :=
  tI.bd (F := fun ds _ S => (C i ds S).bd fun d S => vv d S) h fun φ ρ S vs φ1 H1 ds S1 R sl e R1 l h => by
    refine ⟨φ1, S1, ds, R1, l, ?_⟩
    refine (Post.bd (L := RlD G) (h.sh e R1 mnW)).mono fun v H2 ⟨φ2, d, S2, _, e2, R2, l2, h2⟩ => ?_
    exact Post.ok (L := RlW G) h2 e2 R2 (rl_val l2)
theorem run_at {i : Nat} {σ : L2.St} {pins : List (Addr × Obj)} {H : Hp} {s : Shared} {Q : VK} {us : List Value} {vs : List V} (g : Good G C Wx lev X c) {f : Addr} {fd : FuncData} {ps : List Str} (hb : Binds X.K fd ps [])
    (F : FnOk X.prog X.w X.K X.mg X.base (L2.CX X.prog X.w) lev f fd ps (spI G C i)) (I : L2.Inv X pins σ H s) (r : Vals vs us) (h : spI G C i vs H Q (fun cl d H' => Wx cl d σ H')) : wpAny (model X.prog X.w) X.A (call (.ref f) us) (EP X pins σ Q) X.xe s :=
  run_fnS (E := fun σ cl d H' => Wx cl d σ H') F (g.room.mono (by omega)) hb (g.pas σ) I r h
theorem k_call {x : Str} {i : Nat} {es : List Expr} {p pos : Pos} {As : AX (List D)} (g : Good G C Wx lev X c) (hx : c.glb x = true) (hi : c.gl.lookup x = some (.fn i)) (hn : okName x = true) (hs : es.any isStar = false) (ha : PA X es (tDs G Wx As)) (h0 : es = [] → As = fun _ S => .ok [] S) :
    PE X (.Call (.Name x p) es [] pos) (tK G Wx fun ρ S => (As ρ S).bd fun ds S => (C i ds S).bd fun d S => vv d S) := by
  obtain ⟨f, fd, ps, hm, hk, hb, F⟩ := (g.fns x i hi).ex
  obtain ⟨n1, n2, n3⟩ := okName_of hn
  cases es with
  | nil =>
    refine ⟨fun pins s σ H Q I h => ?_⟩
    refine wpAny_Call_Name_kw (ld_glob I (g.glb x hx) hm ?_ n1)
    refine PySem.W.callWith_K0 I.kIn hk ?_
    obtain ⟨φ, ρ, S, R, sl, h⟩ := h
    refine run_at (us := []) (vs := []) g hb F I .nil ⟨φ, S, [], R, by unfold Rps; rfl, ?_⟩
    rw [h0 rfl] at h
    have h : Post G (RlW G) φ H ((C i [] S).bd fun d S => vv d S) (fun c d H' => Wx c d σ H') Q := h
    refine (Post.bd (L := RlD G) h).mono fun v H2 ⟨φ2, d, S2, _, e2, R2, l2, h2⟩ => ?_
    exact Post.ok (L := RlW G) h2 e2 R2 (rl_val l2)
  | cons e es =>
    rw [List.any_cons, Bool.or_eq_false_iff] at hs
    refine ⟨fun pins s σ H Q I h => ?_⟩
    refine wpAny_Call_Name_kw (ld_glob I (g.glb x hx) hm ?_ n1)
    refine PySem.W.callWith_K (h₀ := X.base) I.ok.mod.kin hk (thn (ha.run pos pins s σ H _ I (call_im h)) fun us s1 ⟨vs, H1, I1, r, q⟩ => ⟨I1.kIn, ?_⟩) (star_cons hs.1) (star_any hs.2)
    exact run_at g hb F I1 r q
/-! ### built-in calls, methods -/
theorem k_b1 {x : Str} {o : P1} {a : Expr} {id : Value} {p pos : Pos} {A : AX W} (g : Good G C Wx lev X c) (hx : c.blt x = true) (hb : x ∈ bltNames) (hn : okName x = true) (hs : isStar a = false) (ha : PE X a (tK G Wx A))
    (hc : (∃ i, id = .builtin i ∧ bootBuiltins x = some (.builtin i) ∧ CallR X (.builtin i) (rC1 G o)) ∨ (∃ i, id = .type i ∧ bootBuiltins x = some (.type i) ∧ CallR X (.type i) (rC1 G o))) :
    PE X (.Call (.Name x p) [a] [] pos) (tK G Wx fun ρ S => (A ρ S).bd fun x S => p1 o x S) := by
  obtain ⟨n1, n2, n3⟩ := okName_of hn
  unfold Ct.blt at hx
  obtain ⟨h1, h2⟩ := Bool.and_eq_true_iff.mp hx
  have hm := g.blt x hb (by simpa using h2)
  have him : ∀ σ H Q, tK G Wx (fun ρ S => (A ρ S).bd fun x S => p1 o x S) σ H Q → tCB (rC1 G o) (tCons (tK G Wx A) tNil) σ H Q := fun σ H Q q =>
    tI.bd (F := fun x _ S => p1 o x S) q fun φ ρ S v φ1 H1 x S1 R sl e R1 l h => ⟨v, rfl, φ1, x, S1, _, R1, l.1, h.sh e R1 mnW⟩
  rcases hc with ⟨i, rfl, hv, hc⟩ | ⟨i, rfl, hv, hc⟩
  · exact (pe_callB hc (g.glb x h1) hm hv (pa_cons ha pa_nil (star_cons hs)) n3 n1 (star_cons hs) rfl).im him
  · exact (pe_callTy hc (g.glb x h1) hm hv (pa_cons ha pa_nil (star_cons hs)) n3 n1 (star_cons hs) rfl).im him
theorem b1_hc {x : Str} {o : P1} (g : Good G C Wx lev X c) (h : b1Of x = some o) : x ∈ bltNames ∧ okName x = true ∧ ∃ id, ((∃ i, id = Value.builtin i ∧ bootBuiltins x = some (.builtin i) ∧ CallR X (.builtin i) (rC1 G o)) ∨ (∃ i, id = Value.type i ∧ bootBuiltins x = some (.type i) ∧ CallR X (.type i) (rC1 G o))) := by
  unfold b1Of at h
  split at h
  · rename_i e; subst e; cases h
    exact ⟨by decide +kernel, by decide +kernel, _, .inl ⟨"len", rfl, PySem.boot_len, c_len g.hK⟩⟩
  split at h
  · rename_i e; subst e; cases h
    exact ⟨by decide +kernel, by decide +kernel, _, .inr ⟨"int", rfl, boot_int, c_int⟩⟩
  split at h
  · rename_i e; subst e; cases h
    exact ⟨by decide +kernel, by decide +kernel, _, .inl ⟨"ord", rfl, boot_ord, c_ord⟩⟩
  split at h
  · rename_i e; subst e; cases h
    exact ⟨by decide +kernel, by decide +kernel, _, .inr ⟨"str", rfl, boot_str, c_str⟩⟩
  split at h
  · rename_i e; subst e; cases h
    exact ⟨by decide +kernel, by decide +kernel, _, .inr ⟨"tuple", rfl, boot_tuple, c_tuple g.hK⟩⟩
  split at h
  · rename_i e; subst e; cases h
    exact ⟨by decide +kernel, by decide +kernel, _, .inr ⟨"list", rfl, boot_list, c_list g.hK⟩⟩
  split at h
  · rename_i e; subst e; cases h
    exact ⟨by decide +kernel, by decide +kernel, _, .inr ⟨"dict", rfl, PyProof.Rows.boot_dict, c_dict g.hK g.calm g.hu⟩⟩
  · cases h
theorem ty_boot {x : Str} {t : Ty} (h : tyOf x = some t) : x ∈ bltNames ∧ okName x = true ∧ bootBuiltins x = some (.type t.name) := by
  unfold tyOf at h
  split at h
  · rename_i e; subst e; cases h; exact ⟨by decide +kernel, by decide +kernel, boot_int⟩
  split at h
  · rename_i e; subst e; cases h; exact ⟨by decide +kernel, by decide +kernel, boot_str⟩
  split at h
  · rename_i e; subst e; cases h; exact ⟨by decide +kernel, by decide +kernel, boot_bool⟩
  split at h
  · rename_i e; subst e; cases h; exact ⟨by decide +kernel, by decide +kernel, boot_tuple⟩
  split at h
  · rename_i e; subst e; cases h; exact ⟨by decide +kernel, by decide +kernel, boot_list⟩
  · cases h
theorem blt_of {x : Str} (g : Good G C Wx lev X c) (hx : c.blt x = true) (hb : x ∈ bltNames) : c.glb x = true ∧ X.mg x = none := by
  unfold Ct.blt at hx
  obtain ⟨h1, h2⟩ := Bool.and_eq_true_iff.mp hx
  exact ⟨h1, g.blt x hb (by simpa using h2)⟩
theorem k_ty {x : Str} {t : Ty} {pos : Pos} (g : Good G C Wx lev X c) (hx : c.blt x = true) (h : tyOf x = some t) : PE X (.Name x pos) (tC (.ty t.name)) := by
  obtain ⟨b1, b2, b3⟩ := ty_boot h
  obtain ⟨h1, h2⟩ := blt_of g hx b1
  obtain ⟨n1, n2, n3⟩ := okName_of b2
  exact pe_bltn (g.glb x h1) h2 b3 rfl n3 n1
theorem isi_post {φ : List Addr} {H : Hp} {S : Store} {w : W} {x : V} {ts : List Ty} {xk : XK} {Q : VK} (R : Rel G φ H S) (r : RpW G φ H w x) (h : Post G (RlW G) φ H (isiW ts w S) xk Q) :
    ∃ t b, TyX G.K H x (.type t) ∧ PySem.W.kitAny G.K (.type t) (ts.map fun ty => Value.type ty.name) = some b ∧ Q (.bl b) H := by
  unfold isiW at h
  by_cases hp : w.plain S = true
  · rw [if_pos hp] at h
    obtain ⟨t, h1, h2⟩ := ty_of R r hp
    exact ⟨t, _, h1, kit_any h2 ts, vv_ok R h rp_bl⟩
  · rw [if_neg hp] at h; exact h.elim
theorem k_isi1 {x : Str} {t : Ty} {a : Expr} {p p2 pos : Pos} {A : AX W} (g : Good G C Wx lev X c) (hi : c.blt "isinstance" = true) (hx : c.blt x = true) (h : tyOf x = some t) (hs : isStar a = false) (ha : PE X a (tK G Wx A)) :
    PE X (.Call (.Name "isinstance" p) [a, .Name x p2] [] pos) (tK G Wx fun ρ S => (A ρ S).bd fun w S => isiW [t] w S) := by
  obtain ⟨h1, hm⟩ := blt_of g hi (by decide +kernel)
  refine (pe_callB call_isi (g.glb _ h1) hm boot_isinstance (pa_cons ha (pa_cons (k_ty (pos := p2) g hx h) pa_nil rfl) (star_cons hs)) (by decide) (by decide) (star_cons hs) rfl).im fun σ H Q q => ?_
  refine tI.bd (F := fun w _ S => isiW [t] w S) q fun φ ρ S v φ1 H1 w S1 R sl e R1 l hq => ?_
  obtain ⟨ty, b, t1, t2, q1⟩ := isi_post R1 l.1 (hq.sh e R1 mnW)
  refine ⟨v, .ty t.name, .type ty, .type t.name, b, rfl, .ty _, by rw [g.hK]; exact t1, ?_, q1⟩
  have z : PySem.W.kitAny G.K (.type ty) [.type t.name] = some b := t2
  unfold PySem.W.kitAny at z
  rw [g.hK]
  cases k : PySem.W.kitOne G.K (.type ty) (.type t.name) with
  | none => rw [k] at z; cases z
  | some kb =>
    rw [k] at z
    cases kb with
    | true => cases z; rfl
    | false => exact z
theorem tys_pa {es : List Expr} {ts : List Ty} (g : Good G C Wx lev X c) (h : mapO (ty1 c) es = some ts) :
    ∃ t, PA X es t ∧ (∀ σ H (Q : List V → Hp → Prop), Q (ts.map fun ty => V.ty ty.name) H → t σ H Q) := by
  induction es generalizing ts with
  | nil => rw [mapO_nil h]; exact ⟨_, pa_nil, fun σ H Q q => q⟩
  | cons e es ih =>
    obtain ⟨b, bs, h1, h2, rfl⟩ := mapO_cons h
    cases e with
    | Name x p =>
      unfold ty1 at h1
      dsimp only at h1
      by_cases hx : c.blt x = true
      · rw [if_pos hx] at h1
        obtain ⟨t, pt, ht⟩ := ih h2
        exact ⟨_, pa_cons (k_ty (pos := p) g hx h1) pt rfl, fun σ H Q q => ht σ H _ q⟩
      · rw [if_neg hx] at h1; cases h1
    | _ => cases h1
theorem k_isiT {es : List Expr} {ts : List Ty} {k : Nat} {a : Expr} {p p2 pos : Pos} {A : AX W} (g : Good G C Wx lev X c) (hi : c.blt "isinstance" = true) (h : mapO (ty1 c) es = some ts) (hl : ts.length ≤ 100)
    (hs : isStar a = false) (ha : PE X a (tK G Wx A)) : PE X (.Call (.Name "isinstance" p) [a, .Tuple es k p2] [] pos) (tK G Wx fun ρ S => (A ρ S).bd fun w S => isiW ts w S) := by
  obtain ⟨h1, hm⟩ := blt_of g hi (by decide +kernel)
  obtain ⟨t, pt, ht⟩ := tys_pa g h
  refine (pe_callB call_isiT (g.glb _ h1) hm boot_isinstance (pa_cons ha (pa_cons (pe_tup (pos := p2) (x1 := k) pt) pa_nil rfl) (star_cons hs)) (by decide) (by decide) (star_cons hs) rfl).im fun σ H Q q => ?_
  refine tI.bd (F := fun w _ S => isiW ts w S) q fun φ ρ S v φ1 H1 w S1 R sl e R1 l hq => ?_
  refine ht σ H1 _ ⟨?_, fun tp htp => ?_⟩
  · rw [List.length_map]
    exact Nat.le_trans hl (by decide)
  · have E := Ext.fresh R1 htp (.tup (ts.map fun ty => V.ty ty.name))
    obtain ⟨ty, b, t1, t2, q1⟩ := isi_post (R1.fresh htp (.tup (ts.map fun ty => V.ty ty.name))) (RpW.mono E R1 l.1) (hq.sh (e.trans E) (R1.fresh htp _) mnW)
    refine ⟨v, tp, ts.map fun ty => V.ty ty.name, .type ty, ts.map fun ty => Value.type ty.name, b, rfl, upd_same, ?_, by rw [g.hK]; exact t1, by rw [g.hK]; exact t2, q1⟩
    clear t1 t2 ht h hq q E q1 hl
    induction ts with
    | nil => exact .nil
    | cons t ts ih => exact .cons (.ty _) ih
theorem k_m0 {o : Expr} {m : Str} {id : String} {k : MK} {pr : P1} {A : AX W} {apos pos : Pos} (T : String) (pa : PlainAttrs T) (slot : Slot T m id) (hty : typeOf (.builtin id) = pure (.type "method_descriptor")) (hm : MtR X id (fun x xs H Q => xs = [] ∧ rP1 G (p1 pr) x H Q))
    (hT : ∀ φ H S w x, Rel G φ H S → RpW G φ H w x → k.is S w = true → tyV X.K T x H) (ho : PE X o (tK G Wx A)) (hb : baseOk o = true) (hl : (apos.endLine == pos.line) = true) :
    PE X (.Call (.Attribute o m apos) [] [] pos) (tK G Wx fun ρ S => (A ρ S).bd fun x S => if k.is S x = true then p1 pr x S else .bad) :=
  (pe_bm0 pa slot hty hm ho (base_ok hb) hl).im fun σ H Q q => tI.bd (F := fun x _ S => if k.is S x = true then p1 pr x S else .bad) q fun φ ρ S v φ1 H1 x S1 R sl e R1 l h => by
    by_cases c : k.is S1 x = true
    · rw [if_pos c] at h
      exact ⟨hT φ1 H1 S1 x v R1 l.1 c, rfl, φ1, x, S1, _, R1, l.1, h.sh e R1 mnW⟩
    · rw [if_neg c] at h; exact h.elim
theorem k_m1 {o a : Expr} {m : Str} {id : String} {k : MK} {pr : P2} {A B : AX W} {apos pos : Pos} (T : String) (pa : PlainAttrs T) (slot : Slot T m id) (hty : typeOf (.builtin id) = pure (.type "method_descriptor")) (hm : MtR X id (rM1 G pr))
    (hT : ∀ φ H S w x, Rel G φ H S → RpW G φ H w x → k.is S w = true → tyV X.K T x H) (ho : PE X o (tK G Wx A)) (ha : PE X a (tK G Wx B)) (hs : isStar a = false) (hb : baseOk o = true) (hl : (apos.endLine == pos.line) = true) :
    PE X (.Call (.Attribute o m apos) [a] [] pos) (tK G Wx fun ρ S => (A ρ S).bd fun x S => if k.is S x = true then (B ρ S).bd fun y S => p2 pr x y S else .bad) := by
  have hfew : ((backTo pos (starEach [a] X.env)).all (fun x => !x.1) && (backToKw pos (keywordEach [] X.env)).all (fun x => x.1.isSome) && decide ([a].length + ([] : List Keyword).length + (if ([] : List Keyword).isEmpty then 0 else 1) < 30)) = true := by
    rw [star_cons hs]; rfl
  refine (pe_bm pa slot hty hm ho (pa_cons ha pa_nil (star_cons hs)) (base_ok hb) hfew hl (star_cons hs) rfl).im fun σ H Q q => ?_
  refine tI.bd (F := fun x ρ S => if k.is S x = true then (B ρ S).bd fun y S => p2 pr x y S else .bad) q fun φ ρ S v φ1 H1 x S1 R sl e R1 l h => ?_
  by_cases c : k.is S1 x = true
  · rw [if_pos c] at h
    refine ⟨hT φ1 H1 S1 x v R1 l.1 c, ?_⟩
    refine tI.next R sl e R1 h fun u H2 φ2 y S2 e2 R2 l2 h2 => ?_
    exact ⟨u, φ, H, φ2, x, y, S2, _, rfl, e.trans e2, R2, RpW.mono e2 R1 l.1, mnW _ _ _ _ _ _ (e.fr R1) l2, h2⟩
  · rw [if_neg c] at h; exact h.elim
theorem k_srt {x k y : Str} {i : Nat} {a : Expr} {p pf kpos pos : Pos} {A : AX W} (g : Good G C Wx lev X c) (hx : c.blt "sorted" = true) (hy : c.glb y = true) (hi : c.gl.lookup y = some (.fn i)) (hn : okName y = true) (hs : isStar a = false) (ha : PE X a (tK G Wx A)) :
    PE X (.Call (.Name "sorted" p) [a] [⟨some "key", .Name y pf, kpos⟩] pos) (tK G Wx fun ρ S => (A ρ S).bd fun w S => srtW (fun d S => C i [d] S) w S) := by
  obtain ⟨h1, hm⟩ := blt_of g hx (by decide +kernel)
  obtain ⟨f, fd, ps, hmf, hk, hb, F⟩ := (g.fns y i hi).ex
  obtain ⟨n1, n2, n3⟩ := okName_of hn
  have hf : PE X (.Name y pf) (tC (.ref f)) := pe_glob (g.glb y hy) hmf rfl n1
  refine (pe_callBK (cr_srt g.hK g.hu g.room hb F) (g.glb _ h1) hm PyProof.Rows.boot_sorted (pa_cons ha pa_nil (star_cons hs)) (pk_cons hf pk_nil) (by decide) (by decide) (by rw [star_cons hs]; rfl) (by rw [star_cons hs]; rfl)).im fun σ H Q q => ?_
  refine tI.bd (F := fun w _ S => srtW (fun d S => C i [d] S) w S) q fun φ ρ S v φ1 H1 w S1 R sl e R1 l h => ?_
  exact ⟨rfl, v, φ1, w, S1, _, rfl, R1, l.1, h.sh e R1 mnW⟩
theorem is_list (hK : X.K = G.K) {φ : List Addr} {H : Hp} {S : Store} {w : W} {x : V} (R : Rel G φ H S) (r : RpW G φ H w x) (h : MK.list.is S w = true) : tyV X.K "list" x H := by
  have q : ∃ ds, w.seq S = some (false, ds) := by
    cases w with
    | lis ds => exact ⟨ds, rfl⟩
    | val d =>
      cases d with
      | ls ds => exact ⟨ds, rfl⟩
      | ref n =>
        unfold MK.is at h
        dsimp only at h
        split at h
        · rename_i ds hs
          exact ⟨ds, by unfold W.seq; simp only [hs]⟩
        · cases h
      | _ => cases h
  obtain ⟨ds, hq⟩ := q
  obtain ⟨a, vs, rfl, hs, hr⟩ := seq_rp R r hq
  exact .inl ⟨rfl, vs, by rw [hK]; exact ifF hs⟩
theorem is_str {φ : List Addr} {H : Hp} {S : Store} {w : W} {x : V} (r : RpW G φ H w x) (h : MK.str.is S w = true) : tyV X.K "str" x H := by
  cases w with
  | lis ds => cases h
  | val d =>
    cases d with
    | str z => have e := rp_str r; subst e; rfl
    | _ => cases h
end
end Mi

/-! Mi, part I: the translation of expressions tells the truth. -/
namespace Mi
open PySem L2 PyProof.Rows RT RZ

section
variable {C : Calls}
theorem ev_c {d : D} : evK C (.c d) = fun _ S => vv d S := by funext ρ S; rw [evK]
theorem ev_v {i : Nat} : evK C (.v i) = fun ρ S => match ρ[i]? with | some (some d) => vv d S | _ => .bad := by funext ρ S; rw [evK]; try rfl
theorem ev_p1 {o : P1} {a : Ex} : evK C (.p1 o a) = fun ρ S => (evK C a ρ S).bd fun x S => p1 o x S := by funext ρ S; rw [evK]
theorem ev_p2 {o : P2} {a b : Ex} : evK C (.p2 o a b) = fun ρ S => (evK C a ρ S).bd fun x S => (evK C b ρ S).bd fun y S => p2 o x y S := by funext ρ S; rw [evK]
theorem ev_isi {ts : List Ty} {a : Ex} : evK C (.isi ts a) = fun ρ S => (evK C a ρ S).bd fun x S => isiW ts x S := by funext ρ S; rw [evK]
theorem ev_and {a b : Ex} : evK C (.and_ a b) = fun ρ S => ((evK C a ρ S).bd toB).bd fun c S => if c = true then evK C b ρ S else vv (.bl false) S := by funext ρ S; rw [evK]
theorem ev_or {a b : Ex} : evK C (.or_ a b) = fun ρ S => ((evK C a ρ S).bd toB).bd fun c S => if c = true then vv (.bl true) S else evK C b ρ S := by funext ρ S; rw [evK]
theorem ev_not {a : Ex} : evK C (.not_ a) = fun ρ S => ((evK C a ρ S).bd toB).bd fun c S => vv (.bl (!c)) S := by funext ρ S; rw [evK]
theorem ev_ite {c a b : Ex} : evK C (.ite c a b) = fun ρ S => (evB C c ρ S).bd fun k S => if k = true then evK C a ρ S else evK C b ρ S := by funext ρ S; rw [evK]; try rfl
theorem ev_ch {o o' : P2} {a b c : Ex} : evK C (.ch o o' a b c) = fun ρ S => (evK C a ρ S).bd fun x S => (evK C b ρ S).bd fun y S => ((p2 o x y S).bd toB).bd fun k S =>
      if k = true then (evK C c ρ S).bd fun z S => p2 o' y z S else vv (.bl false) S := by funext ρ S; rw [evK]
theorem ev_tup {es : List Ex} : evK C (.tup es) = fun ρ S => (evDs C es ρ S).bd fun ds S => if ds.length ≤ sizeLine then vv (.tup ds) S else .bad := by funext ρ S; rw [evK]
theorem ev_disp {es : List Ex} : evK C (.disp es) = fun ρ S => (evDs C es ρ S).bd fun ds S => if ds.length ≤ sizeLine then .ok (.lis ds) S else .bad := by funext ρ S; rw [evK]
theorem ev_sl {a : Ex} {lo hi : List Ex} : evK C (.sl a lo hi) = fun ρ S => (evK C a ρ S).bd fun x S => ((evWs C lo ρ S).bd partI).bd fun l S => ((evWs C hi ρ S).bd partI).bd fun h S => cutW x l h S := by funext ρ S; rw [evK]
theorem ev_dict {es : List Ex} : evK C (.dict es) = fun ρ S => (evDs C es ρ S).bd fun ds S => match dispO ds with
    | some o => .ok (.val (.ref S.length)) (S ++ [o])
    | none => .bad := by funext ρ S; rw [evK]; try rfl
theorem ev_srt {f : Nat} {a : Ex} : evK C (.srt f false a) = fun ρ S => (evK C a ρ S).bd fun w S => srtW (fun d S => C f [d] S) w S := by funext ρ S; rw [evK]; try rfl
theorem ev_call {f : Nat} {es : List Ex} : evK C (.call f es) = fun ρ S => (evDs C es ρ S).bd fun ds S => (C f ds S).bd fun d S => vv d S := by funext ρ S; rw [evK]
theorem ev_m0 {k : MK} {o : P1} {a : Ex} : evK C (.m0 k o a) = fun ρ S => (evK C a ρ S).bd fun x S => if k.is S x = true then p1 o x S else .bad := by funext ρ S; rw [evK]
theorem ev_m1 {k : MK} {o : P2} {a b : Ex} : evK C (.m1 k o a b) = fun ρ S => (evK C a ρ S).bd fun x S => if k.is S x = true then (evK C b ρ S).bd fun y S => p2 o x y S else .bad := by funext ρ S; rw [evK]
noncomputable def itA (C : Calls) (k : IK) (is : List Ex) : AX Its := fun ρ S => (evWs C is ρ S).bd fun ws S => itsA k ws S
theorem ev_comp {t : Tg} {k : IK} {is cs : List Ex} {e : Ex} {own : List Nat} : evK C (.comp t k is cs e own) = compA t own (itA C k is) (evCs C cs) (evD C e) := by
  funext ρ S
  rw [evK]
  unfold compA itA
  rw [bd_bd]
  congr 1
  funext ws S
  unfold itsA
  cases its k ws S with
  | none => rfl
  | some I => rfl
theorem ev_ds0 : evDs C [] = fun _ S => .ok [] S := by funext ρ S; rw [evDs]
theorem ev_ds {e : Ex} {r : List Ex} : evDs C (e :: r) = fun ρ S => (evD C e ρ S).bd fun d S => (evDs C r ρ S).bd fun ds S => .ok (d :: ds) S := by funext ρ S; rw [evDs]; try rfl
theorem ev_ws0 : evWs C [] = fun _ S => .ok [] S := by funext ρ S; rw [evWs]
theorem ev_ws {e : Ex} {r : List Ex} : evWs C (e :: r) = fun ρ S => (evK C e ρ S).bd fun d S => (evWs C r ρ S).bd fun ds S => .ok (d :: ds) S := by funext ρ S; rw [evWs]
theorem ev_cs0 : evCs C [] = fun _ S => .ok true S := by funext ρ S; rw [evCs]
theorem ev_cs1 {e : Ex} : evCs C [e] = evB C e := by
  funext ρ S
  rw [evCs]
  unfold evB
  cases h : (evK C e ρ S).bd toB with
  | ok b S' => cases b <;> (simp only [R.bd]; try rw [evCs]; try rfl)
  | ex c fs S => rfl
  | bad => rfl
end

section
variable {G : Gb} {C : Calls} {lev : Nat}
/-- what is known of the parts -/
def SE (G : Gb) (C : Calls) (lev : Nat) (rec : Ct → Expr → Option Ex) : Prop := ∀ {Wx : WX} {X : Cx} {c : Ct} {e : Expr} {x : Ex}, Good G C Wx lev X c → rec c e = some x → PE X e (tK G Wx (evK C x)) ∧ PT X e (tBo G Wx (evB C x))
variable {rec : Ct → Expr → Option Ex} {Wx : WX} {X : Cx} {c : Ct} {x : Ex} {pos : Pos}
theorem both {e : Expr} (h : PE X e (tK G Wx (evK C x))) (he : ∀ whole, isTrue e X.env whole = (do let v ← whole; standAt e.pos; holding [v] (truthy v)) := by intro _; rfl) : PE X e (tK G Wx (evK C x)) ∧ PT X e (tBo G Wx (evB C x)) := ⟨h, k_B h he⟩

theorem s_name {n : Str} (g : Good G C Wx lev X c) (h : eStep rec c (.Name n pos) = some x) : PE X (.Name n pos) (tK G Wx (evK C x)) ∧ PT X (.Name n pos) (tBo G Wx (evB C x)) := by
  dsimp only [eStep] at h
  by_cases hn : okName n = false
  · rw [if_pos hn] at h; cases h
  rw [if_neg hn] at h
  obtain ⟨n1, n2, n3⟩ := okName_of (by simpa using hn)
  by_cases hv : c.vis n = true
  · rw [if_pos hv] at h
    obtain ⟨i, hi, rfl⟩ := Option.map_eq_some_iff.mp h
    refine both ?_
    rw [ev_v]
    exact k_var (by rw [g.hN]; exact ixOf_get hi) (g.vis n hv) n1 n2
  · rw [if_neg hv] at h
    by_cases hg : c.glb n = true
    · rw [if_pos hg] at h
      cases hq : c.gl.lookup n with
      | none => simp only [hq] at h; cases h
      | some gg =>
        simp only [hq] at h
        cases gg with
        | fn i => cases h
        | cst d =>
          cases h
          obtain ⟨v, u, h1, h2, h3⟩ := g.cst n d hq
          refine both ?_
          rw [ev_c]
          exact k_const (pe_glob (g.glb n hg) h1 h2 n1) h3
    · rw [if_neg hg] at h; cases h
theorem s_const {k : Const} {kd : Nat} (h : eStep rec c (.Constant k kd pos) = some x) : PE X (.Constant k kd pos) (tK G Wx (evK C x)) ∧ PT X (.Constant k kd pos) (tBo G Wx (evB C x)) := by
  dsimp only [eStep] at h
  cases k <;> cases h <;> refine both ?_ <;> rw [ev_c]
  · exact k_const pe_non fun _ _ => by unfold Rp; rfl
  · exact k_const pe_bl fun _ _ => by unfold Rp; rfl
  · exact k_const pe_int fun _ _ => by unfold Rp; rfl
  · exact k_const pe_str fun _ _ => by unfold Rp; rfl

theorem s_un {op : UnaryOp} {a : Expr} (ih : SE G C lev rec) (g : Good G C Wx lev X c) (h : eStep rec c (.UnaryOp op a pos) = some x) : PE X (.UnaryOp op a pos) (tK G Wx (evK C x)) ∧ PT X (.UnaryOp op a pos) (tBo G Wx (evB C x)) := by
  dsimp only [eStep] at h
  cases op with
  | Not =>
    obtain ⟨y, hy, rfl⟩ := Option.map_eq_some_iff.mp h
    obtain ⟨i1, i2⟩ := ih g hy
    refine ⟨by rw [ev_not]; exact kv_not i1, ?_⟩
    have e : evB C (.not_ y) = fun ρ S => (evB C y ρ S).bd fun k S => .ok (!k) S := by
      funext ρ S
      unfold evB
      rw [ev_not, bd_bd]
      rfl
    rw [e]
    exact k_not i2
  | USub =>
    obtain ⟨y, hy, rfl⟩ := Option.map_eq_some_iff.mp h
    refine both ?_
    rw [ev_p1]
    exact k_neg o_neg (ih g hy).1
  | _ => cases h
theorem o_bin {op : Operator} {o : P2} (g : Good G C Wx lev X c) (h : binOf op = some o) : OpR X (binaryOp op) (rP2 G (p2 o)) := by
  cases op <;> cases h
  · exact o_add g.hK
  · exact o_sub
  · exact o_mul
  · exact o_mod
  · exact o_pow
  · exact o_fdiv
theorem o_cmp {op : CmpOp} {o : P2} (g : Good G C Wx lev X c) (h : cmpOf op = some o) : OpR X (compareOp op) (rP2 G (p2 o)) := by
  cases op <;> cases h
  · exact o_eq g.hK g.hu
  · exact o_ne g.hK g.hu
  · exact o_lt g.hK g.hu
  · exact o_le g.hK g.hu
  · exact o_gt g.hK g.hu
  · exact o_ge g.hK g.hu
  · exact o_in g.hK g.hu
  · exact o_nin g.hK g.hu
theorem s_bin {op : Operator} {a b : Expr} (ih : SE G C lev rec) (g : Good G C Wx lev X c) (h : eStep rec c (.BinOp a op b pos) = some x) : PE X (.BinOp a op b pos) (tK G Wx (evK C x)) ∧ PT X (.BinOp a op b pos) (tBo G Wx (evB C x)) := by
  dsimp only [eStep] at h
  split at h
  · rename_i o xa xb ho ha hb
    cases h
    refine both ?_
    rw [ev_p2]
    exact k_bin (o_bin g ho) (ih g ha).1 (ih g hb).1
  · cases h
theorem s_ite {t a b : Expr} (ih : SE G C lev rec) (g : Good G C Wx lev X c) (h : eStep rec c (.IfExp t a b pos) = some x) : PE X (.IfExp t a b pos) (tK G Wx (evK C x)) ∧ PT X (.IfExp t a b pos) (tBo G Wx (evB C x)) := by
  dsimp only [eStep] at h
  split at h
  · rename_i o xa xb ho ha hb
    cases h
    refine ⟨by rw [ev_ite]; exact k_ite (ih g ho).2 (ih g ha).1 (ih g hb).1, ?_⟩
    have e : evB C (.ite o xa xb) = fun ρ S => (evB C o ρ S).bd fun k S => if k = true then evB C xa ρ S else evB C xb ρ S := by
      funext ρ S
      rw [evB, ev_ite, bd_bd]
      congr 1
      funext k S
      cases k <;> rfl
    rw [e]
    refine ⟨fun pins s σ H Q I h => isTrue_IfExp (thn ((ih g ho).2.run pins s σ H (fun b H1 => if b = true then tBo G Wx (evB C xa) σ H1 Q else tBo G Wx (evB C xb) σ H1 Q) I ?_) ?_)⟩
    · refine tI.bd (F := fun k ρ S => if k = true then evB C xa ρ S else evB C xb ρ S) h fun φ ρ S b φ1 H1 x S1 R sl e R1 l h => ?_
      have l' : x = b := l
      subst l'
      cases x with
      | true => exact (if_pos rfl).mpr (tI.go R sl e R1 mnB h)
      | false => exact (if_neg Bool.false_ne_true).mpr (tI.go R sl e R1 mnB h)
    · rintro b s1 ⟨H1, I1, q⟩
      cases b with
      | true => exact (ih g ha).2.run pins s1 σ H1 Q I1 q
      | false => exact (ih g hb).2.run pins s1 σ H1 Q I1 q
  · cases h
theorem s_and {es : List Expr} {xs : List Ex} (ih : SE G C lev rec) (g : Good G C Wx lev X c) (h1 : mapO (rec c) es = some xs) (h : andE xs = some x) : PE X (.BoolOp .And es pos) (tK G Wx (evK C x)) ∧ L2.PW X (.BoolOp .And es pos) (tBo G Wx (evB C x)) := by
  induction es generalizing xs x with
  | nil => rw [mapO_nil h1] at h; cases h
  | cons e es ihe =>
    obtain ⟨y, ys, hy, hys, rfl⟩ := mapO_cons h1
    obtain ⟨i1, i2⟩ := ih g hy
    cases es with
    | nil =>
      rw [mapO_nil hys] at h
      cases h
      exact ⟨pe_one i1, k_and1 i2⟩
    | cons e2 es =>
      obtain ⟨z, zs, hz, hzs, rfl⟩ := mapO_cons hys
      obtain ⟨w, hw, rfl⟩ := Option.map_eq_some_iff.mp h
      obtain ⟨j1, j2⟩ := ihe hys hw
      refine ⟨by rw [ev_and]; exact kv_and i1 j1, ?_⟩
      have e : evB C (.and_ y w) = fun ρ S => (evB C y ρ S).bd fun k S => if k = true then evB C w ρ S else .ok false S := by
        funext ρ S
        rw [evB, ev_and, bd_bd]
        congr 1
        funext k S
        cases k <;> rfl
      rw [e]
      exact k_and i2 j2
theorem s_or {es : List Expr} {xs : List Ex} (ih : SE G C lev rec) (g : Good G C Wx lev X c) (h1 : mapO (rec c) es = some xs) (h : orE xs = some x) : PE X (.BoolOp .Or es pos) (tK G Wx (evK C x)) ∧ L2.PW X (.BoolOp .Or es pos) (tBo G Wx (evB C x)) := by
  induction es generalizing xs x with
  | nil => rw [mapO_nil h1] at h; cases h
  | cons e es ihe =>
    obtain ⟨y, ys, hy, hys, rfl⟩ := mapO_cons h1
    obtain ⟨i1, i2⟩ := ih g hy
    cases es with
    | nil =>
      rw [mapO_nil hys] at h
      cases h
      exact ⟨pe_one i1, k_or1 i2⟩
    | cons e2 es =>
      obtain ⟨z, zs, hz, hzs, rfl⟩ := mapO_cons hys
      obtain ⟨w, hw, rfl⟩ := Option.map_eq_some_iff.mp h
      obtain ⟨j1, j2⟩ := ihe hys hw
      refine ⟨by rw [ev_or]; exact kv_or i1 j1, ?_⟩
      have e : evB C (.or_ y w) = fun ρ S => (evB C y ρ S).bd fun k S => if k = true then .ok true S else evB C w ρ S := by
        funext ρ S
        rw [evB, ev_or, bd_bd]
        congr 1
        funext k S
        cases k <;> rfl
      rw [e]
      exact k_or i2 j2
theorem s_bool {op : BoolOp} {es : List Expr} (ih : SE G C lev rec) (g : Good G C Wx lev X c) (h : eStep rec c (.BoolOp op es pos) = some x) : PE X (.BoolOp op es pos) (tK G Wx (evK C x)) ∧ PT X (.BoolOp op es pos) (tBo G Wx (evB C x)) := by
  dsimp only [eStep] at h
  cases op with
  | And =>
    obtain ⟨xs, h1, h2⟩ := Option.bind_eq_some_iff.mp h
    obtain ⟨i1, i2⟩ := s_and (pos := pos) ih g h1 h2
    exact ⟨i1, i2.pt⟩
  | Or =>
    obtain ⟨xs, h1, h2⟩ := Option.bind_eq_some_iff.mp h
    obtain ⟨i1, i2⟩ := s_or (pos := pos) ih g h1 h2
    exact ⟨i1, i2.pt⟩
theorem s_args {es : List Expr} {xs : List Ex} (ih : SE G C lev rec) (g : Good G C Wx lev X c) (hs : es.any isStar = false) (h : mapO (rec c) es = some xs) : PA X es (tDs G Wx (evDs C xs)) := by
  induction es generalizing xs with
  | nil => rw [mapO_nil h, ev_ds0]; exact ka_nil
  | cons e es ihe =>
    obtain ⟨y, ys, hy, hys, rfl⟩ := mapO_cons h
    rw [List.any_cons, Bool.or_eq_false_iff] at hs
    rw [ev_ds]
    exact ka_cons (k_D (ih g hy).1) (ihe hs.2 hys) (star_cons hs.1)
theorem s_tup {es : List Expr} {k : Nat} (ih : SE G C lev rec) (g : Good G C Wx lev X c) (h : eStep rec c (.Tuple es k pos) = some x) : PE X (.Tuple es k pos) (tK G Wx (evK C x)) ∧ PT X (.Tuple es k pos) (tBo G Wx (evB C x)) := by
  dsimp only [eStep] at h
  by_cases hs : es.any isStar = true
  · rw [if_pos hs] at h; cases h
  rw [if_neg hs] at h
  obtain ⟨xs, hx, rfl⟩ := Option.map_eq_some_iff.mp h
  refine both ?_
  rw [ev_tup]
  exact k_tup (s_args ih g (by simpa using hs) hx)
theorem s_list {es : List Expr} (ih : SE G C lev rec) (g : Good G C Wx lev X c) (h : eStep rec c (.List es pos) = some x) : PE X (.List es pos) (tK G Wx (evK C x)) ∧ PT X (.List es pos) (tBo G Wx (evB C x)) := by
  dsimp only [eStep] at h
  by_cases hs : es.any isStar = true
  · rw [if_pos hs] at h; cases h
  rw [if_neg hs] at h
  obtain ⟨xs, hx, rfl⟩ := Option.map_eq_some_iff.mp h
  refine both ?_
  rw [ev_disp]
  exact k_disp (s_args ih g (by simpa using hs) hx)

theorem s_cmp {a : Expr} {ops : List CmpOp} {es : List Expr} (ih : SE G C lev rec) (g : Good G C Wx lev X c) (h : cmpStep rec c a ops es = some x) : PE X (.Compare a ops es pos) (tK G Wx (evK C x)) ∧ PT X (.Compare a ops es pos) (tBo G Wx (evB C x)) := by
  unfold cmpStep at h
  split at h
  · rename_i op b
    by_cases hs : isSet b = true
    · rw [if_pos hs] at h; cases h
    rw [if_neg hs] at h
    have hm : ∀ op, behindInMarks op b = false := fun op => behind_ok (by simpa using hs)
    split at h
    · obtain ⟨y, hy, rfl⟩ := Option.map_eq_some_iff.mp h
      have i1 := (ih g hy).1
      have im : ∀ σ H Q, tK G Wx (evK C (.p1 .isN y)) σ H Q → tOp (fun u v H Q => v = .non ∧ rP1 G (p1 .isN) u H Q) (tK G Wx (evK C y)) (tC .non) σ H Q := fun σ H Q q => by
        rw [ev_p1] at q
        exact tI.bd (F := fun x _ S => p1 .isN x S) q fun φ ρ S v φ1 H1 x S1 R sl e R1 l h => ⟨rfl, φ1, x, S1, _, R1, l.1, h.sh e R1 mnW⟩
      exact ⟨(pe_cmpR o_isN i1 pe_non (hm _)).im im, k_Bcmp o_isN i1 pe_non (hm _) im⟩
    · obtain ⟨y, hy, rfl⟩ := Option.map_eq_some_iff.mp h
      have i1 := (ih g hy).1
      have im : ∀ σ H Q, tK G Wx (evK C (.p1 .notN y)) σ H Q → tOp (fun u v H Q => v = .non ∧ rP1 G (p1 .notN) u H Q) (tK G Wx (evK C y)) (tC .non) σ H Q := fun σ H Q q => by
        rw [ev_p1] at q
        exact tI.bd (F := fun x _ S => p1 .notN x S) q fun φ ρ S v φ1 H1 x S1 R sl e R1 l h => ⟨rfl, φ1, x, S1, _, R1, l.1, h.sh e R1 mnW⟩
      exact ⟨(pe_cmpR o_notN i1 pe_non (hm _)).im im, k_Bcmp o_notN i1 pe_non (hm _) im⟩
    · split at h
      · rename_i o xa xb ho ha hb
        cases h
        refine ⟨by rw [ev_p2]; exact k_cmp (o_cmp g ho) (ih g ha).1 (ih g hb).1 (hm _), ?_⟩
        have e : evB C (.p2 o xa xb) = fun ρ S => ((evK C xa ρ S).bd fun x S => (evK C xb ρ S).bd fun y S => p2 o x y S).bd toB := by
          funext ρ S
          rw [evB, ev_p2]
        rw [e]
        exact k_cmpB (o_cmp g ho) (ih g ha).1 (ih g hb).1 (hm _)
      · cases h
  · rename_i op op' b d
    by_cases hs : isSet d = true
    · rw [if_pos hs] at h; cases h
    rw [if_neg hs] at h
    split at h
    · rename_i o o' xa xb xd ho ho' ha hb hd
      cases h
      have hm : lastMarks [op, op'] [b, d] = false := last_ok (by simpa using hs)
      refine ⟨by rw [ev_ch]; exact k_ch (o_cmp g ho) (o_cmp g ho') (ih g ha).1 (ih g hb).1 (ih g hd).1 hm, ?_⟩
      have e : evB C (.ch o o' xa xb xd) = fun ρ S => (evK C (.ch o o' xa xb xd) ρ S).bd toB := rfl
      rw [e, ev_ch]
      exact k_chB (o_cmp g ho) (o_cmp g ho') (ih g ha).1 (ih g hb).1 (ih g hd).1 hm
    · cases h
  · cases h
theorem ty1_of {e : Expr} {t : Ty} (h : ty1 c e = some t) : ∃ n p, e = .Name n p ∧ c.blt n = true ∧ tyOf n = some t := by
  unfold ty1 at h
  split at h
  · rename_i n p
    by_cases hb : c.blt n = true
    · rw [if_pos hb] at h; exact ⟨n, p, rfl, hb, h⟩
    · rw [if_neg hb] at h; cases h
  · cases h
theorem s_call {n : Str} {es : List Expr} {p : Pos} (ih : SE G C lev rec) (g : Good G C Wx lev X c) (h : callStep rec c n es = some x) : PE X (.Call (.Name n p) es [] pos) (tK G Wx (evK C x)) := by
  unfold callStep at h
  by_cases hk : (okName n && !es.any isStar) = false
  · rw [if_pos hk] at h; cases h
  rw [if_neg hk] at h
  simp only [Bool.not_eq_false, Bool.and_eq_true, Bool.not_eq_true'] at hk
  obtain ⟨hn, hs⟩ := hk
  by_cases hg : c.glb n = false
  · rw [if_pos hg] at h; cases h
  rw [if_neg hg] at h
  have hg : c.glb n = true := by simpa using hg
  split at h
  · rename_i i hi
    obtain ⟨xs, hx, rfl⟩ := Option.map_eq_some_iff.mp h
    rw [ev_call]
    refine k_call g hg hi hn hs (s_args ih g hs hx) fun e0 => ?_
    subst e0
    rw [mapO_nil hx, ev_ds0]
  · cases h
  · rename_i hi
    have hb : c.blt n = true := by
      unfold Ct.blt
      rw [hg, hi]; rfl
    split at h
    · rename_i a
      split at h
      · rename_i u v hz
        unfold zipArg at hz
        split at hz
        · rename_i y yp u' v' cpos
          by_cases e1 : n = ("list" : Str)
          · rw [if_pos e1] at hz
            by_cases e2 : y = ("zip" : Str)
            · rw [if_pos e2] at hz
              cases hz
              subst e1
              subst e2
              by_cases hk2 : (c.blt "zip" && !isStar u && !isStar v) = true
              · rw [if_pos hk2] at h
                simp only [Bool.and_eq_true, Bool.not_eq_true'] at hk2
                obtain ⟨⟨z1, z2⟩, z3⟩ := hk2
                split at h
                · rename_i xu xv hu hv
                  cases h
                  obtain ⟨l1, l2⟩ := blt_of g hb (by decide +kernel)
                  obtain ⟨m1, m2⟩ := blt_of g z1 (by decide +kernel)
                  rw [ev_p2]
                  exact k_lzip g.hK g.calm (g.glb _ l1) l2 (g.glb _ m1) m2 (ih g hu).1 (ih g hv).1 (star_cons z2) (star_cons z3) (star_any (by simp [z3]))
                · cases h
              · rw [if_neg hk2] at h; cases h
            · rw [if_neg e2] at hz; cases hz
          · rw [if_neg e1] at hz; cases hz
        · cases hz
      · split at h
        · rename_i o xa ho ha
          cases h
          obtain ⟨b1, b2, id, b3⟩ := b1_hc g ho
          rw [ev_p1]
          exact k_b1 g hb b1 b2 (by simpa using hs) (ih g ha).1 b3
        · cases h
    · rename_i a t
      by_cases hx : n = ("isinstance" : Str)
      · rw [if_pos hx] at h
        subst hx
        have hsa : isStar a = false := by
          rw [List.any_cons, Bool.or_eq_false_iff] at hs
          exact hs.1
        split at h
        · rename_i xa ts ha ht
          cases h
          rw [ev_isi]
          unfold tyE at ht
          split at ht
          · rename_i n2 p2
            obtain ⟨t, h1, rfl⟩ := Option.map_eq_some_iff.mp ht
            obtain ⟨n3, p3, e, q1, q2⟩ := ty1_of h1
            cases e
            exact k_isi1 g hb q1 q2 hsa (ih g ha).1
          · rename_i es2 k2 p2
            by_cases hl : es2.length ≤ 100
            · rw [if_pos hl] at ht
              refine k_isiT g hb ht ?_ hsa (ih g ha).1
              have : ∀ {es : List Expr} {ts : List Ty}, mapO (ty1 c) es = some ts → ts.length = es.length := by
                intro es
                induction es with
                | nil => intro ts h; rw [mapO_nil h]; rfl
                | cons e es ih =>
                  intro ts h
                  obtain ⟨b, bs, _, h2, rfl⟩ := mapO_cons h
                  rw [List.length_cons, List.length_cons, ih h2]
              rw [this ht]
              exact hl
            · rw [if_neg hl] at ht; cases ht
          · cases ht
        · cases h
      · rw [if_neg hx] at h; cases h
    · cases h
theorem s_meth {o : Expr} {m : Str} {es : List Expr} {apos : Pos} (ih : SE G C lev rec) (g : Good G C Wx lev X c) (hl : (apos.endLine == pos.line) = true) (h : methStep rec c o m es = some x) : PE X (.Call (.Attribute o m apos) es [] pos) (tK G Wx (evK C x)) := by
  unfold methStep at h
  by_cases hk : (baseOk o && !es.any isStar) = false
  · rw [if_pos hk] at h; cases h
  rw [if_neg hk] at h
  simp only [Bool.not_eq_false, Bool.and_eq_true, Bool.not_eq_true'] at hk
  obtain ⟨hb, hs⟩ := hk
  split at h
  · split at h
    · rename_i k p xo hm ho
      cases h
      rw [ev_m0]
      unfold m0Of at hm
      split at hm
      · rename_i e; subst e; cases hm
        exact k_m0 "list" F.plainAttrs_list F.slot_list_pop F.type_list_pop m_pop (fun φ H S w x R r q => is_list g.hK R r q) (ih g ho).1 hb hl
      · cases hm
    · cases h
  · rename_i a
    have hsa : isStar a = false := by simpa using hs
    split at h
    · rename_i k p xo xa hm ho ha
      cases h
      rw [ev_m1]
      unfold m1Of at hm
      split at hm
      · rename_i e; subst e; cases hm
        exact k_m1 "list" F.plainAttrs_list F.slot_list_append F.type_list_append m_append (fun φ H S w x R r q => is_list g.hK R r q) (ih g ho).1 (ih g ha).1 hsa hb hl
      split at hm
      · rename_i e; subst e; cases hm
        exact k_m1 "list" F.plainAttrs_list F.slot_list_extend F.type_list_extend m_extend (fun φ H S w x R r q => is_list g.hK R r q) (ih g ho).1 (ih g ha).1 hsa hb hl
      split at hm
      · rename_i e; subst e; cases hm
        exact k_m1 "str" F.plainAttrs_str F.slot_str_join F.type_str_join (m_join g.hK) (fun φ H S w x R r q => is_str r q) (ih g ho).1 (ih g ha).1 hsa hb hl
      · cases hm
    · cases h
  · cases h

theorem s_ix {a b : Expr} (ih : SE G C lev rec) (g : Good G C Wx lev X c) (h : eStep rec c (.Subscript a b pos) = some x) : PE X (.Subscript a b pos) (tK G Wx (evK C x)) := by
  by_cases hb : isSlice b = true
  · cases b <;> try cases hb
    rename_i lo hi st p2
    cases st with
    | some st => dsimp only [eStep] at h; cases h
    | none =>
      dsimp only [eStep] at h
      split at h
      · rename_i xa l u ha hl hu
        cases h
        have part : ∀ {o : Option Expr} {l : List Ex}, optE (rec c) o = some l → ∃ t, PO X o t ∧ ∀ {σ : L2.St} {H : Hp} {Q : Option Int → Hp → Prop}, tI G Wx (fun H φ1 H1 (w : Option Int) (v : Option Int) => w = v) (fun ρ S => (evWs C l ρ S).bd partI) σ H Q → t σ H Q := by
          intro o l h
          cases o with
          | none =>
            cases h
            refine ⟨_, po_none, fun {σ H Q} q => ?_⟩
            obtain ⟨φ, ρ, S, R, sl, q⟩ := q
            dsimp only at q
            rw [ev_ws0] at q
            exact q none H φ (Ext.refl _ _) R rfl
          | some e =>
            obtain ⟨y, hy, rfl⟩ := Option.map_eq_some_iff.mp h
            refine ⟨_, po_some (ih g hy).1, fun {σ H Q} q => ?_⟩
            have e : (fun ρ S => (evWs C [y] ρ S).bd partI) = fun ρ S => (evK C y ρ S).bd fun w S => partI [w] S := by
              funext ρ S
              rw [ev_ws, bd_bd, ev_ws0]
              rfl
            rw [e] at q
            refine tI.bd (F := fun w _ S => partI [w] S) q fun φ ρ S v φ1 H1 w S1 R sl e R1 l h => ?_
            cases w with
            | lis ds => exact h.elim
            | val d =>
              cases d with
              | int i =>
                have e2 := rp_int l.1
                exact ⟨i, e2, h (some i) H1 φ1 e R1 rfl⟩
              | _ => exact h.elim
        obtain ⟨tl, pl, il⟩ := part hl
        obtain ⟨tu, pu, iu⟩ := part hu
        refine (pe_slice (o_sl g.hK) (ih g ha).1 pl pu).im fun σ H Q q => ?_
        rw [ev_sl] at q
        refine tI.bd (F := fun x ρ S => ((evWs C l ρ S).bd partI).bd fun i S => ((evWs C u ρ S).bd partI).bd fun j S => cutW x i j S) q fun φ ρ S v φ1 H1 x S1 R sl e R1 lx h => ?_
        refine il (tI.next (L := fun H φ1 H1 (w : Option Int) (v : Option Int) => w = v) (F := fun i S => ((evWs C u ρ S).bd partI).bd fun j S => cutW x i j S) R sl e R1 h fun i H2 φ2 i' S2 e2 R2 l2 h2 => ?_)
        have l2 : i' = i := l2
        subst l2
        refine iu (tI.next (L := fun H φ1 H1 (w : Option Int) (v : Option Int) => w = v) (F := fun j S => cutW x i' j S) R sl (e.trans e2) R2 h2 fun j H3 φ3 j' S3 e3 R3 l3 h3 => ?_)
        have l3 : j' = j := l3
        subst l3
        exact ⟨φ3, x, S3, _, R3, RpW.mono (e2.trans e3) R1 lx.1, h3.sh ((e.trans e2).trans e3) R3 mnW⟩
      · cases h
  · have hb : isSlice b = false := by simpa using hb
    have h : (match rec c a, rec c b with | some a, some b => some (Ex.p2 .ix a b) | _, _ => none) = some x := by
      cases b <;> first | exact h | cases hb
    split at h
    · rename_i xa xb ha hb2
      cases h
      rw [ev_p2]
      exact k_ix (o_ix g.hK g.hu) (ih g ha).1 (ih g hb2).1 (plainIx_ok hb)
    · cases h

/-! ### what is walked, comprehensions -/
theorem ita_1 {k : IK} {a : Ex} : itA C k [a] = fun ρ S => (evK C a ρ S).bd fun w S => itsA k [w] S := by
  funext ρ S
  unfold itA
  rw [ev_ws, bd_bd, ev_ws0]
  rfl
theorem ita_2 {k : IK} {a b : Ex} : itA C k [a, b] = fun ρ S => (evK C a ρ S).bd fun w S => (evK C b ρ S).bd fun w2 S => itsA k [w, w2] S := by
  funext ρ S
  unfold itA
  simp only [ev_ws, ev_ws0, bd_bd]
  rfl
theorem ita_3 {k : IK} {a b d : Ex} : itA C k [a, b, d] = fun ρ S => (evK C a ρ S).bd fun w S => (evK C b ρ S).bd fun w2 S => (evK C d ρ S).bd fun w3 S => itsA k [w, w2, w3] S := by
  funext ρ S
  unfold itA
  simp only [ev_ws, ev_ws0, bd_bd]
  rfl
theorem s_it {tg e : Expr} {k : IK} {is : List Ex} (ih : SE G C lev rec) (g : Good G C Wx lev X c) (h : iStep rec c e = some (k, is)) (ht : tupT k tg = true) : PI X tg e (tIts G Wx (itA C k is)) := by
  have plain : ∀ {e : Expr}, (rec c e).map (fun a => (IK.it, [a])) = some (k, is) → PI X tg e (tIts G Wx (itA C k is)) := by
    intro e h
    obtain ⟨y, hy, q⟩ := Option.map_eq_some_iff.mp h
    cases q
    rw [ita_1]
    exact ki_it (ih g hy).1 g.hK
  unfold iStep at h
  split at h
  · rename_i n p es kw pos
    by_cases hb : (c.blt n && kw.isEmpty) = true
    · rw [if_pos hb] at h
      rw [Bool.and_eq_true] at hb
      obtain ⟨hb, hkw⟩ := hb
      cases kw with
      | cons _ _ => cases hkw
      | nil =>
      by_cases h1 : n = ("range" : Str)
      · rw [if_pos h1] at h
        subst h1
        obtain ⟨hg, hm⟩ := blt_of g hb (by decide +kernel)
        split at h
        · rename_i a
          by_cases hs : isStar a = true
          · rw [if_pos hs] at h; cases h
          rw [if_neg hs] at h
          obtain ⟨y, hy, q⟩ := Option.map_eq_some_iff.mp h
          cases q
          rw [ita_1]
          exact ki_rng1 (g.glb _ hg) hm (ih g hy).1 (star_cons (by simpa using hs))
        · rename_i a b
          by_cases hs : (isStar a || isStar b) = true
          · rw [if_pos hs] at h; cases h
          rw [if_neg hs] at h
          simp only [Bool.not_eq_true, Bool.or_eq_false_iff] at hs
          split at h
          · rename_i xa xb ha hb2
            cases h
            rw [ita_2]
            have e1 : starEach [b] X.env = [(false, eval b X.env)] := star_cons hs.2
            exact ki_rng2 (g.glb _ hg) hm (ih g ha).1 (ih g hb2).1 (by rw [star_cons hs.1, e1]) e1
          · cases h
        · rename_i a b d
          by_cases hs : (isStar a || isStar b || isStar d) = true
          · rw [if_pos hs] at h; cases h
          rw [if_neg hs] at h
          simp only [Bool.not_eq_true, Bool.or_eq_false_iff] at hs
          split at h
          · rename_i xa xb xd ha hb2 hd
            cases h
            rw [ita_3]
            exact ki_rng3 (g.glb _ hg) hm (ih g ha).1 (ih g hb2).1 (ih g hd).1 (star_cons hs.1.1) (star_cons hs.1.2) (star_cons hs.2) (star_any (by simp [hs.1.2, hs.2]))
          · cases h
        · cases h
      rw [if_neg h1] at h
      by_cases h2 : n = ("zip" : Str)
      · rw [if_pos h2] at h
        subst h2
        obtain ⟨hg, hm⟩ := blt_of g hb (by decide +kernel)
        split at h
        · rename_i a b
          by_cases hs : (isStar a || isStar b) = true
          · rw [if_pos hs] at h; cases h
          rw [if_neg hs] at h
          simp only [Bool.not_eq_true, Bool.or_eq_false_iff] at hs
          split at h
          · rename_i xa xb ha hb2
            cases h
            rw [ita_2]
            cases tg <;> try cases ht
            exact ki_zip (g.glb _ hg) hm (ih g ha).1 (ih g hb2).1 g.hK (star_cons hs.1) (star_cons hs.2) (star_any (by simp [hs.2]))
          · cases h
        · cases h
      rw [if_neg h2] at h
      by_cases h3 : n = ("enumerate" : Str)
      · rw [if_pos h3] at h
        subst h3
        obtain ⟨hg, hm⟩ := blt_of g hb (by decide +kernel)
        split at h
        · rename_i a
          by_cases hs : isStar a = true
          · rw [if_pos hs] at h; cases h
          rw [if_neg hs] at h
          obtain ⟨y, hy, q⟩ := Option.map_eq_some_iff.mp h
          cases q
          rw [ita_1]
          cases tg <;> try cases ht
          exact ki_enm (g.glb _ hg) hm (ih g hy).1 g.hK (star_cons (by simpa using hs))
        · cases h
      rw [if_neg h3] at h
      by_cases h4 : n = ("reversed" : Str)
      · rw [if_pos h4] at h
        subst h4
        obtain ⟨hg, hm⟩ := blt_of g hb (by decide +kernel)
        split at h
        · rename_i a
          by_cases hs : isStar a = true
          · rw [if_pos hs] at h; cases h
          rw [if_neg hs] at h
          obtain ⟨y, hy, q⟩ := Option.map_eq_some_iff.mp h
          cases q
          rw [ita_1]
          exact ki_rev (g.glb _ hg) hm (ih g hy).1 g.hK (star_cons (by simpa using hs))
        · cases h
      rw [if_neg h4] at h
      exact plain h
    · rw [if_neg hb] at h
      exact plain h
  · by_cases hs : isSet e = true
    · rw [if_pos hs] at h; cases h
    · rw [if_neg hs] at h; exact plain h
theorem s_tg {tg : Expr} {t : Tg} (g : Good G C Wx lev X c) (h : tgE c tg = some t) : PG X tg (gTg G.K t) := by
  unfold tgE at h
  split at h
  · rename_i n p
    by_cases hl : c.loc n = true
    · rw [if_pos hl] at h
      obtain ⟨i, hi, rfl⟩ := Option.map_eq_some_iff.mp h
      obtain ⟨l1, l2⟩ := g.loc n hl
      exact pg_name (by rw [g.hN]; exact g.nd) (by rw [g.hN]; exact ixOf_get hi) l1 l2
    · rw [if_neg hl] at h; cases h
  · rename_i es k p
    obtain ⟨is, hi, rfl⟩ := Option.map_eq_some_iff.mp h
    have many : ∀ {es : List Expr} {is : List Nat}, mapO (fun e => match e with | Expr.Name x _ => if c.loc x = true then ixOf c.N x else none | _ => none) es = some is →
        PGs X es (gNames is) ∧ (assignEach es X.env).length = is.length ∧ (assignEach es X.env).findIdx? (·.1) = none := by
      intro es
      induction es with
      | nil => intro is h; rw [mapO_nil h]; exact ⟨pgs_nil, rfl, rfl⟩
      | cons e es ihe =>
        intro is h
        obtain ⟨i, is, h1, h2, rfl⟩ := mapO_cons h
        obtain ⟨j1, j2, j3⟩ := ihe h2
        cases e with
        | Name n p =>
          dsimp only at h1
          by_cases hl : c.loc n = true
          · rw [if_pos hl] at h1
            obtain ⟨l1, l2⟩ := g.loc n hl
            have p1 : PG X (.Name n p) (gName i) := pg_name (by rw [g.hN]; exact g.nd) (by rw [g.hN]; exact ixOf_get h1) l1 l2
            refine ⟨pgs_cons p1 j1 rfl, ?_, ?_⟩
            · show (_ :: assignEach es X.env).length = _
              rw [List.length_cons, List.length_cons, j2]
            · show ((false, _) :: assignEach es X.env).findIdx? (·.1) = none
              rw [List.findIdx?_cons, j3]
              rfl
          · rw [if_neg hl] at h1; cases h1
        | _ => cases h1
    obtain ⟨m1, m2, m3⟩ := many hi
    unfold gTg
    rw [← g.hK]
    exact pg_tup g.calm m1 m2 m3
  · cases h
theorem comp_parts {elt tg iter : Expr} {ifs : List Expr} {sc : Scope} (ih : SE G C lev rec) (g : Good G C Wx lev X c) (h : compStep rec c elt tg iter ifs sc = some x) :
    ∃ t k is cs y own, x = .comp t k is cs y (own.map (·.2)) ∧ tgE ⟨c.N, c.gl, sc⟩ tg = some t ∧ PI X tg iter (tIts G Wx (itA C k is)) ∧ BlkOk X.N X.env.scope sc own ∧
      (∀ (s : Shared) (H : Hp) (Ca : Addr) (cl : List (Str × Addr)) (fp : List Addr), PG (X.blk s H sc (compEnvC sc cl Ca X.env) fp) tg (gTg G.K t)) ∧
      (∀ (s : Shared) (H : Hp) (Ca : Addr) (cl : List (Str × Addr)) (fp : List Addr), PTs (X.blk s H sc (compEnvC sc cl Ca X.env) fp) ifs (tBo G WxF (evCs C cs))) ∧
      (∀ (s : Shared) (H : Hp) (Ca : Addr) (cl : List (Str × Addr)) (fp : List Addr), PE (X.blk s H sc (compEnvC sc cl Ca X.env) fp) elt (tD G WxF (evD C y))) ∧
      (∀ y, foldedSetIterable iter X.env y = pure y) ∧ ∀ i ∈ t.slots, i ∈ own.map (·.2) := by
  unfold compStep at h
  by_cases hb : (blkC c.N c.sc sc (ownE c.N sc) && !isSet iter) = true
  · rw [if_pos hb] at h
    rw [Bool.and_eq_true] at hb
    obtain ⟨hb, hset⟩ := hb
    have B := blkOk_by hb
    have B : BlkOk X.N X.env.scope sc (ownE c.N sc) := ⟨B.kind, B.uniq, by rw [g.hN]; exact B.ix, fun y hy e => g.cf _ (B.free y hy e), by rw [g.hN]; exact B.own⟩
    split at h
    · rename_i t k is e ht hi he
      by_cases hk : (tupT k tg && t.slots.all fun i => decide (i ∈ (ownE c.N sc).map (·.2))) = true
      · rw [if_pos hk] at h
        rw [Bool.and_eq_true] at hk
        obtain ⟨hk, hsl⟩ := hk
        have hown : ∀ i ∈ t.slots, i ∈ (ownE c.N sc).map (·.2) := fun i hi => by
          have q := List.all_eq_true.mp hsl i hi
          exact of_decide_eq_true q
        have hI := s_it (tg := tg) ih g hi hk
        have hF : ∀ y, foldedSetIterable iter X.env y = pure y := fold_ok (by simpa using hset)
        split at h
        · cases h
          exact ⟨t, k, is, [], e, _, rfl, ht, hI, B, fun s H Ca cl fp => s_tg (g.blk sc s H Ca cl fp) ht, fun s H Ca cl fp => by rw [ev_cs0]; exact kt_nil, fun s H Ca cl fp => k_D (ih (g.blk sc s H Ca cl fp) he).1, hF, hown⟩
        · obtain ⟨y, hy, rfl⟩ := Option.map_eq_some_iff.mp h
          exact ⟨t, k, is, [y], e, _, rfl, ht, hI, B, fun s H Ca cl fp => s_tg (g.blk sc s H Ca cl fp) ht, fun s H Ca cl fp => by rw [ev_cs1]; exact kt_one (ih (g.blk sc s H Ca cl fp) hy).2, fun s H Ca cl fp => k_D (ih (g.blk sc s H Ca cl fp) he).1, hF, hown⟩
        · cases h
      · rw [if_neg hk] at h; cases h
    · cases h
  · rw [if_neg hb] at h; cases h
theorem s_comp {elt tg iter : Expr} {ifs : List Expr} {sc : Scope} (ih : SE G C lev rec) (g : Good G C Wx lev X c) (h : compStep rec c elt tg iter ifs sc = some x) : PE X (.ListComp elt [⟨tg, iter, ifs, 0⟩] sc pos) (tK G Wx (evK C x)) := by
  obtain ⟨t, k, is, cs, y, own, rfl, ht, hI, B, p1, p2, p3, hF, hown⟩ := comp_parts ih g h
  rw [ev_comp]
  exact k_comp g.calm (by rw [g.hN]; exact g.nd) hI B p1 p2 p3 hF hown

theorem pps_of (ih : SE G C lev rec) (g : Good G C Wx lev X c) : ∀ {keys : List (Option Expr)} {values es : List Expr} {xs : List Ex}, flatE keys values = some es → mapO (rec c) es = some xs →
    keys.all (·.isSome) = true ∧ keys.length = values.length ∧ ∃ trs, PPs X pos keys values trs ∧ ∀ σ H Q, tDs G Wx (evDs C xs) σ H (fun vs H' => ∀ ps, flatV ps = vs → Q ps H') → tPairs trs σ H Q
  | [], [], es, xs, h, hm => by
    cases h
    rw [mapO_nil hm]
    refine ⟨rfl, rfl, [], pps_nil, fun σ H Q q => ?_⟩
    obtain ⟨φ, ρ, S, R, sl, q⟩ := q
    rw [ev_ds0] at q
    exact q [] H φ (Ext.refl _ _) R (by show Rps G φ H [] []; unfold Rps; rfl) [] rfl
  | some k :: ks, v :: vs, es, xs, h, hm => by
    obtain ⟨r, hr, rfl⟩ := Option.map_eq_some_iff.mp (show (flatE ks vs).map (fun r => k :: v :: r) = some es from h)
    obtain ⟨xk, xs1, hk, hm1, rfl⟩ := mapO_cons hm
    obtain ⟨xv, xs2, hv, hm2, rfl⟩ := mapO_cons hm1
    obtain ⟨h1, h2, trs, hp, hq⟩ := pps_of ih g hr hm2
    refine ⟨by rw [List.all_cons, h1]; rfl, by rw [List.length_cons, List.length_cons, h2], _ :: trs, pps_cons (k_D (ih g hk).1) (k_D (ih g hv).1) hp, fun σ H Q q => ?_⟩
    rw [ev_ds, ev_ds] at q
    refine tI.bd (F := fun d ρ S => ((evD C xv ρ S).bd fun d2 S => (evDs C xs2 ρ S).bd fun ds S => Mi.R.ok (d2 :: ds) S).bd fun ds S => Mi.R.ok (d :: ds) S) q fun φ ρ S x φ1 H1 d S1 R sl e R1 l h => ?_
    rw [bd_bd] at h
    refine tI.next R sl e R1 h fun y H2 φ2 d2 S2 e2 R2 l2 h2 => hq _ _ _ ?_
    rw [bd_bd] at h2
    refine tI.next (L := RlDs G) R sl (e.trans e2) R2 h2 fun us H3 φ3 ds S3 e3 R3 l3 h3 ps hps => ?_
    refine Post.ok (L := RlDs G) (a := d :: d2 :: ds) (b := x :: y :: us) h3 ((e.trans e2).trans e3) R3 ?_ ((x, y) :: ps) (by rw [← hps]; rfl)
    show Rps G φ3 H3 (d :: d2 :: ds) (x :: y :: us)
    unfold Rps
    refine ⟨x, y :: us, rfl, Rp.mono ((e2.trans e3).toKeep R1) _ _ l, ?_⟩
    unfold Rps
    exact ⟨y, us, rfl, Rp.mono (e3.toKeep R2) _ _ l2, l3⟩
  | some k :: ks, [], es, xs, h, hm => by cases h
  | none :: ks, v, es, xs, h, hm => by cases v <;> cases h
  | [], v :: vs, es, xs, h, hm => by cases h
theorem s_dict {keys : List (Option Expr)} {values : List Expr} (ih : SE G C lev rec) (g : Good G C Wx lev X c) (h : eStep rec c (.Dict keys values pos) = some x) : PE X (.Dict keys values pos) (tK G Wx (evK C x)) := by
  dsimp only [eStep] at h
  split at h
  · rename_i es he
    by_cases hl : keys.length ≤ 15
    · rw [if_pos hl] at h
      obtain ⟨xs, hx, rfl⟩ := Option.map_eq_some_iff.mp h
      rw [ev_dict]
      cases keys with
      | nil =>
        cases values with
        | cons _ _ => cases he
        | nil =>
          cases he
          rw [mapO_nil hx, ev_ds0]
          exact k_dsp0
      | cons k ks =>
        obtain ⟨h1, h2, trs, hp, hq⟩ := pps_of (pos := pos) ih g he hx
        exact k_dsp hp h1 h2 (by simp) hl hq
    · rw [if_neg hl] at h; cases h
  · cases h
theorem s_srt {n k y : Str} {es : List Expr} {p pf kpos : Pos} (ih : SE G C lev rec) (g : Good G C Wx lev X c) (h : srtStep rec c n es k y = some x) : PE X (.Call (.Name n p) es [⟨some k, .Name y pf, kpos⟩] pos) (tK G Wx (evK C x)) := by
  unfold srtStep at h
  split at h
  · rename_i a
    by_cases hk : (c.blt n && decide (n = ("sorted" : Str)) && decide (k = ("key" : Str)) && !isStar a && c.glb y && okName y) = true
    · rw [if_pos hk] at h
      simp only [Bool.and_eq_true, Bool.not_eq_true', decide_eq_true_eq] at hk
      obtain ⟨⟨⟨⟨⟨k1, rfl⟩, rfl⟩, k4⟩, k5⟩, k6⟩ := hk
      split at h
      · rename_i i xa hi ha
        cases h
        rw [ev_srt]
        exact k_srt (x := "sorted") (k := "key") g k1 k5 hi k6 k4 (ih g ha).1
      · cases h
    · rw [if_neg hk] at h; cases h
  · cases h
theorem s_step (ih : SE G C lev rec) : SE G C lev (eStep rec) := by
  intro Wx X c e x g h
  cases e with
  | Name n pos => exact s_name g h
  | Constant k kd pos => exact s_const h
  | BinOp a op b pos => exact s_bin ih g h
  | UnaryOp op a pos => exact s_un ih g h
  | BoolOp op es pos => exact s_bool ih g h
  | IfExp t a b pos => exact s_ite ih g h
  | Compare a ops es pos => exact s_cmp ih g h
  | Call f es kw pos =>
    dsimp only [eStep] at h
    split at h
    · cases f with
      | Name n p => exact both (s_call ih g h)
      | Attribute o m apos =>
        dsimp only at h
        by_cases hl : (apos.endLine == pos.line) = false
        · rw [if_pos hl] at h; cases h
        · rw [if_neg hl] at h
          exact both (s_meth ih g (by simpa using hl) h)
      | _ => cases h
    · cases f with
      | Name n p => exact both (s_srt ih g h)
      | _ => cases h
    · cases h
  | Dict keys values pos => exact both (s_dict ih g h)
  | Subscript a b pos => exact both (s_ix ih g h)
  | Tuple es k pos => exact s_tup ih g h
  | List es pos => exact s_list ih g h
  | ListComp elt gs sc pos =>
    dsimp only [eStep] at h
    split at h
    · exact both (s_comp ih g h)
    · cases h
  | _ => cases h
theorem s_all : ∀ n : Nat, SE G C lev (cE n)
  | 0 => fun _ h => by cases h
  | n + 1 => s_step (s_all n)
end
end Mi

/-! Mi, part J: the translation of statements, and that it tells the truth. -/
namespace Mi
open PySem L2 PyProof.Rows RT RZ

/-! ### the translation -/
def isComp : Expr → Bool
  | .ListComp _ _ _ _ => true | .SetComp _ _ _ _ => true | .DictComp _ _ _ _ _ => true | _ => false
def isTup : Expr → Bool
  | .Tuple _ _ _ => true | _ => false
/-- the name is stored ahead of the block's end -/
def swB (c : Ct) (y : Str) (py pos : Pos) (sc : Scope) : Bool := decide (c.sc.names.lookup y = some .local) && py.line == pos.line && !(sc.names.any fun (n, k) => n == y && (k == .local || k == .cell))
def isSub : Expr → Bool
  | .Subscript _ i _ => !isSlice i
  | _ => false
def sStep (n : Nat) (rec : Ct → List Stmt → Option (List Stm)) (c : Ct) : Stmt → Option Stm
  | .Assign [tg] e _ => match tg with
    | .Subscript o i _ => if isSlice i = true then none else match cE n c o, cE n c i, cE n c e with
      | some o, some i, some e => some (.setIx o i e)
      | _, _, _ => none
    | tg => if isTup tg && isTup e then none else match tgE c tg, cE n c e with
      | some t, some e => some (.set t e)
      | _, _ => none
  | .AugAssign (.Name x _) op e _ => if c.loc x = true then match ixOf c.N x, op, cE n c e with
      | some i, .Add, some e => some (.aug i .add e)
      | some i, .Sub, some e => some (.aug i .sub e)
      | _, _, _ => none
    else none
  | .Expr e _ => match e with
    | .Constant (.str _) _ _ => some .pass
    | e => if isComp e = true then none else (cE n c e).map .exp
  | .Return (some e) _ => (cE n c e).map .ret
  | .Return none _ => some (.ret (.c .non))
  | .If t a b _ => match cE n c t, rec c a, rec c b with
    | some t, some a, some b => some (.iff t a b)
    | _, _, _ => none
  | .For tg iter body [] _ => if isSet iter = true then none else match tgE c tg, cI n c iter, rec c body with
    | some t, some (k, is), some b => if tupT k tg = true then some (.for_ t k is b) else none
    | _, _, _ => none
  | .While t body [] _ => match cE n c t, rec c body with
    | some t, some b => some (.whl t b)
    | _, _ => none
  | .Pass _ => some .pass
  | .Break _ => some .brk
  | .Continue _ => some .cnt
  | _ => none
def cSs (n : Nat) : Nat → Ct → List Stmt → Option (List Stm)
  | 0 => fun _ _ => none
  | m + 1 => fun c l => mapO (sStep n (cSs n m) c) l

section
variable {C : Calls}
theorem ex_set {t : Tg} {e : Ex} : exS C (.set t e) = setA t (evD C e) := by funext ρ S; rw [exS]; try rfl
theorem ex_setIx {o i e : Ex} : exS C (.setIx o i e) = fun ρ S => (evD C e ρ S).st ρ fun d S => (evK C o ρ S).st ρ fun x S => (evK C i ρ S).st ρ fun y S => match setItem x y d S with
    | some S => .ok .nx ρ S
    | none => .bad := by funext ρ S; rw [exS]; try rfl
theorem ex_exp {e : Ex} : exS C (.exp e) = fun ρ S => (evK C e ρ S).st ρ fun _ S => .ok .nx ρ S := by funext ρ S; rw [exS]
theorem ex_ret {e : Ex} : exS C (.ret e) = fun ρ S => (evD C e ρ S).st ρ fun d S => .ok (.rt d) ρ S := by funext ρ S; rw [exS]
theorem ex_iff {c : Ex} {a b : List Stm} : exS C (.iff c a b) = fun ρ S => (evB C c ρ S).st ρ fun k S => if k = true then exSs C a ρ S else exSs C b ρ S := by funext ρ S; rw [exS]
theorem ex_for {t : Tg} {k : IK} {is : List Ex} {b : List Stm} : exS C (.for_ t k is b) = fun ρ S => (itA C k is ρ S).st ρ fun I S => forL I.live (bodyA t (exSs C b)) I.items ρ S := by
  funext ρ S
  rw [exS]
  unfold itA
  cases evWs C is ρ S with
  | ok ws S1 =>
    show _ = (itsA k ws S1).st ρ _
    unfold itsA
    show (match its k ws S1 with | some I => _ | none => _) = _
    cases its k ws S1 with
    | none => rfl
    | some I => rfl
  | ex c fs S => rfl
  | bad => rfl
theorem ex_whl {c : Ex} {b : List Stm} : exS C (.whl c b) = fun ρ S => whileR (evB C c) (exSs C b) ρ S := by funext ρ S; rw [exS]
theorem ex_brk : exS C .brk = fun ρ S => .ok .brk ρ S := by funext ρ S; rw [exS]
theorem ex_cnt : exS C .cnt = fun ρ S => .ok .cnt ρ S := by funext ρ S; rw [exS]
theorem ex_pass : exS C .pass = fun ρ S => .ok .nx ρ S := by funext ρ S; rw [exS]
theorem ex_aug {i : Nat} {o : P2} {e : Ex} : exS C (.aug i o e) = fun ρ S => match ρ[i]? with
    | some (some x) => (evK C e ρ S).st ρ fun y S => match augV o x y with
      | some d => .ok .nx (ρ.set i (some d)) S
      | none => .bad
    | _ => .bad := by funext ρ S; rw [exS]; try rfl
theorem ex_ss0 : exSs C [] = fun ρ S => .ok .nx ρ S := by funext ρ S; rw [exSs]
theorem ex_ss {s : Stm} {r : List Stm} : exSs C (s :: r) = fun ρ S => (exS C s ρ S).sq fun ρ S => exSs C r ρ S := by funext ρ S; rw [exSs]
end

/-! ### it tells the truth -/
structure GoodS (G : Gb) (C : Calls) (Wx : WX) (lev : Nat) (X : Cx) (c : Ct) : Prop extends Good G C Wx lev X c where
  sc : X.env.scope = c.sc
  kind : c.sc.kind = .function
  own : PassesOwn (model X.prog X.w) X.A X.env X.xe
def SS (G : Gb) (C : Calls) (lev : Nat) (rec : Ct → List Stmt → Option (List Stm)) : Prop := ∀ {Wx : WX} {X : Cx} {c : Ct} {l : List Stmt} {x : List Stm}, GoodS G C Wx lev X c → rec c l = some x → PSs X l (tS G Wx (exSs C x))
section
variable {G : Gb} {C : Calls} {lev n : Nat} {rec : Ct → List Stmt → Option (List Stm)} {Wx : WX} {X : Cx} {c : Ct} {x : Stm} {pos : Pos} {D : Ends}
theorem sw_no {e : Expr} {t : Option Expr} {l : Nat} {env : PySem.Env} (h : isComp e = false) : swapsWith e t l env = pure false := by
  cases e <;> first | rfl | cases h
theorem sw_val {elt : Expr} {gs : List Comprehension} {sc : Scope} {pos py : Pos} {y : Str} {l : Nat} (g : GoodS G C Wx lev X c) : swapsWith (.ListComp elt gs sc pos) (some (.Name y py)) l X.env = pure (swB c y py pos sc) := by
  have hb : X.env.blockKind = .function := by unfold Env.blockKind; rw [g.sc, g.kind]; rfl
  unfold swapsWith swB
  have hk : X.env.kindOf y = c.sc.names.lookup y := by unfold Env.kindOf; rw [g.sc]
  simp only [hb, hk, Expr.pos]
  have e : (c.sc.names.lookup y == some NameKind.local) = decide (c.sc.names.lookup y = some NameKind.local) := by
    by_cases q : c.sc.names.lookup y = some NameKind.local
    · rw [q]; rfl
    · rw [decide_eq_false q]; simpa using q
  rw [← e]
  rfl
theorem t_exp {e : Expr} {y : Ex} (g : GoodS G C Wx lev X c) (h : cE n c e = some y) (hc : isComp e = false) : PS X (.Expr e pos) (tS G Wx (exS C (.exp y))) := by
  rw [ex_exp]
  exact k_exp (s_all n g.toGood h).1 (sw_no hc)
theorem t_aug {y : Str} {py : Pos} {op : Operator} {e : Expr} (g : GoodS G C Wx lev X c) (h : sStep n rec c (.AugAssign (.Name y py) op e pos) = some x) : PS X (.AugAssign (.Name y py) op e pos) (tS G Wx (exS C x)) := by
  dsimp only [sStep] at h
  by_cases hl : c.loc y = true
  · rw [if_pos hl] at h
    obtain ⟨l1, l2⟩ := g.loc y hl
    have hnd : X.N.Nodup := by rw [g.hN]; exact g.nd
    split at h
    · rename_i i xe hi he
      cases h
      rw [ex_aug]
      exact (ps_aug hnd (by rw [g.hN]; exact ixOf_get hi) l1 (s_all n g.toGood he).1 ip_add l2).im fun _ _ _ q => aug_im augAdd q
    · rename_i i xe hi he
      cases h
      rw [ex_aug]
      exact (ps_aug hnd (by rw [g.hN]; exact ixOf_get hi) l1 (s_all n g.toGood he).1 ip_sub l2).im fun _ _ _ q => aug_im augSub q
    · cases h
  · rw [if_neg hl] at h; cases h

/-! ### o[i] = v -/
/-- the empty dict's keys may be tuples -/
theorem Inv.retype {pins : List (Addr × Obj)} {σ : L2.St} {H : Hp} {s : Shared} {a : Addr} (I : Inv X pins σ H s) (h : H a = some (.dK [])) : Inv X pins σ (upd H a (.dT [])) s := by
  obtain ⟨_, hd, vs, kv, o, es, ep, h1, h2, h3, h4⟩ := (show ObjOk X.prog X.w H s.heap a (.dK []) from I.hok a _ h)
  cases kv
  have he : es.toList = [] := by
    obtain ⟨_, p, _⟩ := h4
    generalize es.toList = l at p
    cases p
    rfl
  have q := I.write (x := a) (e := a) (o := .dT []) (h' := s.heap) (t' := s.toks) (by rw [h]; trivial) (.inl rfl) (fun _ _ _ e => e) ⟨o, h1⟩ ⟨Nat.zero_le _, hd, [], .nil, o, es, ep, h1, h2, h3, he, List.nodup_nil⟩
  exact q
def rIx (G : Gb) : TSet := fun o i v H Q => ∃ φ w1 w2 d S S', Rel G φ H S ∧ RpW G φ H w1 o ∧ RpW G φ H w2 i ∧ Rp G φ H d v ∧ setItem w1 w2 d S = some S' ∧ ∀ H', Ext φ H φ H' → Rel G φ H' S' → Q H'
theorem set_mi (hu : X.A.units + 64 < cLine) : PSet X (rIx G) := by
  intro pins s σ H o i v ov iv u Q I ro ri rv h
  obtain ⟨φ, w1, w2, d, S, S', R, r1, r2, rd, h, hQ⟩ := h
  have hu1 : X.A.units + 1 < cLine := by omega
  unfold Mi.setItem at h
  split at h
  · rename_i n
    unfold RpW Rp at r1
    obtain ⟨a, rfl, ha⟩ := r1
    split at h
    · rename_i ds hs
      split at h
      · rename_i k
        obtain ⟨j, hj, rfl⟩ := Option.map_eq_some_iff.mp h
        obtain ⟨vs, h1, h2⟩ := R.obj n a _ ha hs
        have e := rp_int r2
        subst e
        refine set_list pins s σ H _ _ v ov iv u Q I ro ri rv ⟨a, vs, k, j, rfl, rfl, h1, by rw [← h2.len]; exact hj, ?_⟩
        have kp := keep_write (u := .lst (vs.set j v)) R ha
        exact hQ _ (Ext.write R ha) (R.write ha ⟨_, upd_same, Rps.set (Rp.mono kp _ _ rd) j (Rps.mono kp _ _ h2)⟩)
      · cases h
    · rename_i o ho hs
      split at h
      · rename_i kd
        obtain ⟨o', ho', rfl⟩ := Option.map_eq_some_iff.mp h
        have r2 : Rp G φ H kd i := r2
        cases o with
        | lst ds => exact (ho ds rfl).elim
        | ins c fs => cases ho'
        | dk kvs =>
          obtain ⟨vs, h1, h2⟩ := R.obj n a _ ha hs
          unfold putO at ho'
          dsimp only at ho'
          cases hk : kd.key with
          | some k =>
            simp only [hk] at ho'
            by_cases hl : kvs.length < sizeLine
            · rw [if_pos hl] at ho'
              cases ho'
              have e := key_v hk r2
              subst e
              have kp := keep_write (u := .dK (putK vs k v)) R ha
              refine set_dict hu1 pins s σ H _ _ v ov iv u Q I ro ri rv ⟨a, _, rfl, DPut.k h1 (by rw [← h2.length]; exact hl), ?_⟩
              exact hQ _ (Ext.write R ha) (R.write ha ⟨_, upd_same, RpKV.mono kp _ _ (h2.put rd)⟩)
            · rw [if_neg hl] at ho'; cases ho'
          | none =>
            simp only [hk] at ho'
            cases hkt : kd.keyT with
            | none => simp only [hkt] at ho'; cases ho'
            | some k =>
              simp only [hkt] at ho'
              by_cases he : kvs.isEmpty = true
              · rw [if_pos he] at ho'
                cases ho'
                have e : kvs = [] := by simpa using he
                subst e
                have e : vs = [] := h2
                subst e
                obtain ⟨b, rfl, hb⟩ := keyT_v hkt r2
                have I2 := Inv.retype I h1
                have kp1 := keep_write (u := .dT []) R ha
                have hb2 : upd H a (.dT []) b = some (.tup (k.map kV)) := by
                  rw [upd_ne]
                  · exact hb
                  · rintro rfl; rw [h1] at hb; cases hb
                refine set_dict hu1 pins s σ _ _ _ v ov iv u Q I2 ro ri rv ⟨a, _, rfl, DPut.t (kvs := []) upd_same hb2 (by decide), ?_⟩
                have eu : upd (upd H a (.dT [])) a (.dT (putK [] k v)) = upd H a (.dT (putK [] k v)) := upd_upd
                rw [eu]
                have kp := keep_write (u := .dT (putK [] k v)) R ha
                exact hQ _ (Ext.write R ha) (R.write ha ⟨_, upd_same, v, [], rfl, Rp.mono kp _ _ rd, rfl⟩)
              · rw [if_neg he] at ho'; cases ho'
        | dt kvs =>
          obtain ⟨vs, h1, h2⟩ := R.obj n a _ ha hs
          unfold putO at ho'
          dsimp only at ho'
          cases hkt : kd.keyT with
          | none => simp only [hkt] at ho'; cases ho'
          | some k =>
            simp only [hkt] at ho'
            by_cases hl : kvs.length < sizeLine
            · rw [if_pos hl] at ho'
              cases ho'
              obtain ⟨b, rfl, hb⟩ := keyT_v hkt r2
              have kp := keep_write (u := .dT (putK vs k v)) R ha
              refine set_dict hu1 pins s σ H _ _ v ov iv u Q I ro ri rv ⟨a, _, rfl, DPut.t h1 hb (by rw [← h2.length]; exact hl), ?_⟩
              exact hQ _ (Ext.write R ha) (R.write ha ⟨_, upd_same, RpKV.mono kp _ _ (h2.put rd)⟩)
            · rw [if_neg hl] at ho'; cases ho'
      · cases h
    · cases h
  · cases h

/-! ### name = .., a, b = .., o[i] = .. -/
theorem t_ix {o i e : Expr} {tpos : Pos} {xo xi xe : Ex} (g : GoodS G C Wx lev X c) (ho : cE n c o = some xo) (hi : cE n c i = some xi) (he : cE n c e = some xe) (hs : isSlice i = false) :
    PS X (.Assign [.Subscript o i tpos] e pos) (tS G Wx (exS C (.setIx xo xi xe))) := by
  have hsw : swapsWithSole [.Subscript o i tpos] e pos.line X.env = pure false := by cases e <;> rfl
  have hw : swappedStores [.Subscript o i tpos] e X.env = pure none := by cases e <;> rfl
  have hg : PG X (.Subscript o i tpos) (gSub (tK G Wx (evK C xo)) (tK G Wx (evK C xi)) (rIx G)) := pg_sub (s_all n g.toGood ho).1 (s_all n g.toGood hi).1 (set_mi g.hu) (by intro _; cases i <;> first | rfl | cases hs)
  refine (ps_asg (k_D (s_all n g.toGood he).1) hg hsw hw).im fun D σ H q => ?_
  rw [ex_setIx] at q
  refine tS.bd (F := fun d ρ S => (evK C xo ρ S).st ρ fun x S => (evK C xi ρ S).st ρ fun y S => match Mi.setItem x y d S with
    | some S => .ok .nx ρ S
    | none => .bad) q fun φ ρ S v φ1 H1 d S1 R sl e R1 l h => ?_
  refine tS.next (L := RlW G) (F := fun x S => (evK C xi ρ S).st ρ fun y S => match Mi.setItem x y d S with
    | some S => .ok .nx ρ S
    | none => .bad) R sl e R1 h fun vo H2 φ2 xo S2 e2 R2 l2 h2 => ?_
  refine tS.next (L := RlW G) (F := fun y S => match Mi.setItem xo y d S with
    | some S => .ok .nx ρ S
    | none => .bad) R sl (e.trans e2) R2 h2 fun vi H3 φ3 xi S3 e3 R3 l3 h3 => ?_
  cases qi : Mi.setItem xo xi d S3 with
  | none => simp only [qi] at h3; exact h3.elim
  | some S4 =>
    simp only [qi] at h3
    refine ⟨φ3, xo, xi, d, S3, S4, R3, RpW.mono e3 R2 l2.1, l3.1, Rp.mono ((e2.trans e3).toKeep R1) _ _ l, qi, fun H4 e4 R4 => ?_⟩
    exact h3 σ H4 φ3 (((e.trans e2).trans e3).trans e4) R4 (sl.mono ((((e.trans e2).trans e3).trans e4).toKeep R))
theorem t_set {tg e : Expr} {t : Tg} {xe : Ex} (g : GoodS G C Wx lev X c) (ht : tgE c tg = some t) (he : cE n c e = some xe) (hh : (isTup tg && isTup e) = false) : PS X (.Assign [tg] e pos) (tS G Wx (exS C (.set t xe))) := by
  have hg := s_tg g.toGood ht
  have h3 : (assignEach [tg] X.env).map (·.2) = [assign tg X.env] := by
    unfold tgE at ht
    split at ht <;> first | rfl | cases ht
  have plain : swapsWithSole [tg] e pos.line X.env = pure false → swappedStores [tg] e X.env = pure none → PS X (.Assign [tg] e pos) (tS G Wx (exS C (.set t xe))) := by
    intro h1 h2
    rw [ex_set]
    exact (ps_asg (k_D (s_all n g.toGood he).1) hg h1 h2 (h1 := h3)).im fun _ _ _ q => set_im q
  have hw : swappedStores [tg] e X.env = pure none := by
    unfold tgE at ht
    split at ht
    · cases e <;> rfl
    · cases e <;> first | rfl | cases hh
    · cases ht
  by_cases hc : isComp e = false
  · exact plain (sw_no hc) hw
  · unfold tgE at ht
    split at ht
    · rename_i y py
      cases e <;> try exact absurd rfl hc
      · rename_i elt gs sc lpos
        have sv : swapsWithSole [.Name y py] (.ListComp elt gs sc lpos) pos.line X.env = pure (swB c y py lpos sc) := sw_val (l := pos.line) g
        cases hb : swB c y py lpos sc with
        | false => rw [hb] at sv; exact plain sv hw
        | true =>
          rw [hb] at sv
          unfold swB at hb
          simp only [Bool.and_eq_true, decide_eq_true_eq] at hb
          have hyl : X.env.scope.names.lookup y = some .local := by rw [g.sc]; exact hb.1.1
          by_cases hl : c.loc y = true
          · rw [if_pos hl] at ht
            obtain ⟨i, hi, rfl⟩ := Option.map_eq_some_iff.mp ht
            cases n with
            | zero => cases he
            | succ m =>
              have he : eStep (cE m) c (.ListComp elt gs sc lpos) = some xe := he
              dsimp only [eStep] at he
              split at he
              · obtain ⟨t2, k, is, cs, z, own, rfl, ht2, hI, B, p1, p2, p3, hF, hown⟩ := comp_parts (s_all m) g.toGood he
                refine (ps_setLc g.calm (by rw [g.hN]; exact g.nd) (by rw [g.hN]; exact ixOf_get hi) hyl sv hI B p1 p2 p3 hF).im fun D σ H q => ?_
                rw [ex_set] at q
                refine comp_im hown ?_
                rw [← ev_comp]
                exact set_imK q
              · cases he
          · rw [if_neg hl] at ht; cases ht
      · cases n with
        | zero => cases he
        | succ n => cases he
      · cases n with
        | zero => cases he
        | succ n => cases he
    · refine plain ?_ hw
      cases e <;> rfl
    · cases ht

theorem ts_step {m : Nat} {st : Stmt} (ih : SS G C lev rec) (g : GoodS G C Wx lev X c) (h : sStep n rec c st = some x) : PS X st (tS G Wx (exS C x)) := by
  cases st with
  | Assign tgs e pos =>
    cases tgs with
    | nil => cases h
    | cons tg r =>
      cases r with
      | cons _ _ => cases h
      | nil =>
        have plain : ((if (isTup tg && isTup e) = true then none else match tgE c tg, cE n c e with
          | some t, some e => some (.set t e)
          | _, _ => none) = some x) → PS X (.Assign [tg] e pos) (tS G Wx (exS C x)) := by
          intro h
          by_cases hh : (isTup tg && isTup e) = true
          · rw [if_pos hh] at h; cases h
          · rw [if_neg hh] at h
            split at h
            · rename_i t xe ht he
              cases h
              exact t_set g ht he (by simpa using hh)
            · cases h
        cases tg with
        | Subscript o i tpos =>
          have h : (if isSlice i = true then none else match cE n c o, cE n c i, cE n c e with
            | some o, some i, some e => some (Stm.setIx o i e)
            | _, _, _ => none) = some x := h
          by_cases hs : isSlice i = true
          · rw [if_pos hs] at h; cases h
          · rw [if_neg hs] at h
            split at h
            · rename_i xo xi xe ho hi he
              cases h
              exact t_ix g ho hi he (by simpa using hs)
            · cases h
        | _ => exact plain h
  | AugAssign tg op e pos =>
    cases tg with
    | Name y py => exact t_aug (rec := rec) g h
    | _ => cases h
  | Expr e pos =>
    have go : ((if isComp e = true then none else (cE n c e).map Stm.exp) = some x) → PS X (.Expr e pos) (tS G Wx (exS C x)) := by
      intro h
      by_cases hc : isComp e = true
      · rw [if_pos hc] at h; cases h
      · rw [if_neg hc] at h
        obtain ⟨y, hy, rfl⟩ := Option.map_eq_some_iff.mp h
        exact t_exp g hy (by simpa using hc)
    cases e with
    | Constant k kd cpos =>
      cases k with
      | str z =>
        cases h
        rw [ex_pass]
        exact k_doc
      | _ => exact go h
    | _ => exact go h
  | Return o pos =>
    cases o with
    | none =>
      cases h
      refine (ps_retN (pos := pos)).im fun D σ H q => ?_
      rw [ex_ret] at q
      obtain ⟨φ, ρ, S, R, sl, q⟩ := q
      have q : PostS G Wx φ H (((evK C (.c .non) ρ S).bd toD).st ρ fun d S => .ok (.rt d) ρ S) D := q
      rw [ev_c] at q
      exact q .non H φ (Ext.refl _ _) R (by unfold Rp; rfl)
    | some e =>
      obtain ⟨y, hy, rfl⟩ := Option.map_eq_some_iff.mp (show (cE n c e).map Stm.ret = some x from h)
      rw [ex_ret]
      exact k_ret (k_D (s_all n g.toGood hy).1)
  | If t a b pos =>
    have h : (match cE n c t, rec c a, rec c b with
      | some t, some a, some b => some (Stm.iff t a b)
      | _, _, _ => none) = some x := h
    split at h
    · rename_i xt xa xb ht ha hb
      cases h
      rw [ex_iff]
      exact k_if (s_all n g.toGood ht).2 (ih g ha) (ih g hb)
    · cases h
  | For tg iter body els pos =>
    cases els with
    | cons _ _ => cases h
    | nil =>
      have h : (if isSet iter = true then none else match tgE c tg, cI n c iter, rec c body with
        | some t, some (k, is), some b => if tupT k tg = true then some (Stm.for_ t k is b) else none
        | _, _, _ => none) = some x := h
      by_cases hs : isSet iter = true
      · rw [if_pos hs] at h; cases h
      · rw [if_neg hs] at h
        split at h
        · rename_i t k is b ht hi hb
          by_cases hk : tupT k tg = true
          · rw [if_pos hk] at h
            cases h
            rw [ex_for]
            exact k_for g.own g.calm (s_it (s_all n) g.toGood hi hk) (s_tg g.toGood ht) (ih g hb) (fold_ok (by simpa using hs))
          · rw [if_neg hk] at h; cases h
        · cases h
  | While t body els pos =>
    cases els with
    | cons _ _ => cases h
    | nil =>
      have h : (match cE n c t, rec c body with
        | some t, some b => some (Stm.whl t b)
        | _, _ => none) = some x := h
      split at h
      · rename_i xt xb ht hb
        cases h
        rw [ex_whl]
        exact k_whl g.own (s_all n g.toGood ht).2 (ih g hb)
      · cases h
  | Pass pos => cases h; rw [ex_pass]; exact k_pass
  | Break pos => cases h; rw [ex_brk]; exact k_brk
  | Continue pos => cases h; rw [ex_cnt]; exact k_cnt
  | _ => cases h
theorem ss_step {l : List Stmt} {xs : List Stm} (ih : SS G C lev rec) (g : GoodS G C Wx lev X c) (h : mapO (sStep n rec c) l = some xs) : PSs X l (tS G Wx (exSs C xs)) := by
  induction l generalizing xs with
  | nil => rw [mapO_nil h, ex_ss0]; exact k_nil
  | cons st l ihl =>
    obtain ⟨y, ys, h1, h2, rfl⟩ := mapO_cons h
    rw [ex_ss]
    exact k_cons (ts_step (m := 0) ih g h1) (ihl h2)
theorem ss_all : ∀ m : Nat, SS G C lev (cSs n m)
  | 0 => fun _ h => by cases h
  | m + 1 => fun g h => ss_step (ss_all m) g h
end
end Mi

/-! Mi, part K: a call's end; the defs. -/
namespace Mi
open PySem L2 PyProof.Rows RT RZ

section
variable {G : Gb} {φ φ' : List Addr} {H : Hp}
theorem get_back (p : φ <+: φ') {n : Nat} {a : Addr} (hn : n < φ.length) (h : φ'[n]? = some a) : φ[n]? = some a := by
  obtain ⟨t, rfl⟩ := p
  rw [List.getElem?_append_left hn] at h
  exact h
mutual
theorem Rp.back (p : φ <+: φ') : ∀ (d : Mi.D) (v : V), d.und φ.length = true → Rp G φ' H d v → Rp G φ H d v
  | .non, _, _, h => by unfold Rp at h ⊢; exact h
  | .bl _, _, _, h => by unfold Rp at h ⊢; exact h
  | .int _, _, _, h => by unfold Rp at h ⊢; exact h
  | .str _, _, _, h => by unfold Rp at h ⊢; exact h
  | .tup ds, _, u, h => by
    unfold Rp at h ⊢
    unfold D.und at u
    obtain ⟨a, vs, e, ha, hr⟩ := h
    exact ⟨a, vs, e, ha, Rps.back p ds vs u hr⟩
  | .ls ds, _, u, h => by
    unfold Rp at h ⊢
    unfold D.und at u
    obtain ⟨a, vs, e, ha, hr⟩ := h
    exact ⟨a, vs, e, ha, Rps.back p ds vs u hr⟩
  | .kt ds, _, u, h => by
    unfold Rp at h ⊢
    unfold D.und at u
    obtain ⟨a, vs, e, ha, hr⟩ := h
    exact ⟨a, vs, e, ha, Rps.back p ds vs u hr⟩
  | .ref n, _, u, h => by
    unfold Rp at h ⊢
    unfold D.und at u
    obtain ⟨a, e, ha⟩ := h
    exact ⟨a, e, get_back p (of_decide_eq_true u) ha⟩
theorem Rps.back (p : φ <+: φ') : ∀ (ds : List Mi.D) (vs : List V), D.unds φ.length ds = true → Rps G φ' H ds vs → Rps G φ H ds vs
  | [], _, _, h => by unfold Rps at h ⊢; exact h
  | d :: ds, _, u, h => by
    unfold Rps at h ⊢
    unfold D.unds at u
    rw [Bool.and_eq_true] at u
    obtain ⟨v, r, e, h1, h2⟩ := h
    exact ⟨v, r, e, Rp.back p d v u.1 h1, Rps.back p ds r u.2 h2⟩
end
theorem RpKV.back {κ : Type} (p : φ <+: φ') : ∀ {kvs : List (κ × Mi.D)} {vs : List (κ × V)}, D.unds φ.length (kvs.map (·.2)) = true → RpKV G φ' H kvs vs → RpKV G φ H kvs vs
  | [], _, _, h => h
  | q :: r, _, u, h => by
    rw [List.map_cons] at u
    unfold D.unds at u
    rw [Bool.and_eq_true] at u
    obtain ⟨v, t, e, h1, h2⟩ := h
    exact ⟨v, t, e, Rp.back p _ v u.1 h1, RpKV.back p u.2 h2⟩
theorem RpO.back (p : φ <+: φ') {o : O} {a : Addr} (u : o.und φ.length = true) (h : RpO G φ' H o a) : RpO G φ H o a := by
  cases o with
  | lst ds => obtain ⟨vs, h1, h2⟩ := h; exact ⟨vs, h1, Rps.back p _ _ u h2⟩
  | dk ds => obtain ⟨vs, h1, h2⟩ := h; exact ⟨vs, h1, RpKV.back p u h2⟩
  | dt ds => obtain ⟨vs, h1, h2⟩ := h; exact ⟨vs, h1, RpKV.back p u h2⟩
  | ins c ds => obtain ⟨C, dx, vs, h0, h1, h2⟩ := h; exact ⟨C, dx, vs, h0, h1, RpKV.back p u h2⟩
mutual
theorem Rp.und : ∀ (d : Mi.D) (v : V), Rp G φ H d v → d.und φ.length = true
  | .non, _, _ => by unfold D.und; rfl
  | .bl _, _, _ => by unfold D.und; rfl
  | .int _, _, _ => by unfold D.und; rfl
  | .str _, _, _ => by unfold D.und; rfl
  | .tup ds, _, h => by
    unfold Rp at h
    unfold D.und
    obtain ⟨a, vs, e, ha, hr⟩ := h
    exact Rps.und ds vs hr
  | .ls ds, _, h => by
    unfold Rp at h
    unfold D.und
    obtain ⟨a, vs, e, ha, hr⟩ := h
    exact Rps.und ds vs hr
  | .kt ds, _, h => by
    unfold Rp at h
    unfold D.und
    obtain ⟨a, vs, e, ha, hr⟩ := h
    exact Rps.und ds vs hr
  | .ref n, _, h => by
    unfold Rp at h
    unfold D.und
    obtain ⟨a, e, ha⟩ := h
    exact decide_eq_true (List.getElem?_eq_some_iff.mp ha).1
theorem Rps.und : ∀ (ds : List Mi.D) (vs : List V), Rps G φ H ds vs → D.unds φ.length ds = true
  | [], _, _ => by unfold D.unds; rfl
  | d :: ds, _, h => by
    unfold Rps at h
    unfold D.unds
    obtain ⟨v, r, e, h1, h2⟩ := h
    rw [Rp.und d v h1, Rps.und ds r h2]
    rfl
end
theorem RpKV.und {κ : Type} : ∀ {kvs : List (κ × Mi.D)} {vs : List (κ × V)}, RpKV G φ H kvs vs → D.unds φ.length (kvs.map (·.2)) = true
  | [], _, _ => by unfold D.unds; rfl
  | q :: r, _, h => by
    obtain ⟨v, t, e, h1, h2⟩ := h
    rw [List.map_cons]
    unfold D.unds
    rw [Rp.und _ v h1, RpKV.und h2]
    rfl
theorem RpO.und {o : O} {a : Addr} (h : RpO G φ H o a) : o.und φ.length = true := by
  cases o with
  | lst ds => obtain ⟨vs, h1, h2⟩ := h; exact Rps.und _ _ h2
  | dk ds => obtain ⟨vs, h1, h2⟩ := h; exact RpKV.und h2
  | dt ds => obtain ⟨vs, h1, h2⟩ := h; exact RpKV.und h2
  | ins c ds => obtain ⟨C, dx, vs, h0, h1, h2⟩ := h; exact RpKV.und h2
theorem Rel.back {H' : Hp} {S S' : Store} (R : Rel G φ H S) (e : Ext φ H φ' H') (R' : Rel G φ' H' S') (k : keeps S S') : Rel G φ H' (S'.take S.length) := by
  have hl : S.length ≤ S'.length := by
    rw [← R.len, ← R'.len]
    obtain ⟨t, ht⟩ := e.pre
    rw [← ht, List.length_append]
    omega
  refine ⟨by rw [List.length_take, R.len]; omega, R.nd, fun n a o h1 h2 => ?_⟩
  have hn : n < S.length := by rw [← R.len]; exact (List.getElem?_eq_some_iff.mp h1).1
  rw [List.getElem?_take_of_lt hn] at h2
  have q := R'.obj n a o (e.get h1) h2
  refine RpO.back e.pre ?_ q
  rcases k n o hn h2 with z | z
  · exact RpO.und (R.obj n a o h1 z)
  · rw [R.len]; exact z
theorem Ext.back {H' : Hp} (e : Ext φ H φ' H') : Ext φ H φ H' := ⟨List.prefix_refl _, e.keep, fun _ h => .inl h⟩
theorem pack_post {S S' : Store} {d : Mi.D} {xk : XK} {Q : VK} (R : Rel G φ H S) (h : Post G (RlD G) φ H (pack S d S') xk Q) {v : V} {H' : Hp} (e : Ext φ H φ' H') (R' : Rel G φ' H' S') (r : Rp G φ' H' d v) : Q v H' := by
  unfold pack at h
  by_cases k : keeps S S'
  · rw [if_pos k] at h
    by_cases u : d.und S.length = true
    · rw [if_pos u] at h
      exact h v H' φ e.back (R.back e R' k) (Rp.back e.pre d v (by rw [R.len]; exact u) r)
    · rw [if_neg u] at h
      have keep : Post G (RlD G) φ H (.ok d S') xk Q → Q v H' := fun h => h v H' φ' e R' r
      cases d with
      | ref m =>
        dsimp only at h
        cases hm : S'[m]? with
        | none => rw [hm] at h; exact keep h
        | some o =>
          rw [hm] at h
          dsimp only at h
          by_cases uo : o.und S.length = true
          · rw [if_pos uo] at h
            unfold Rp at r
            obtain ⟨a, rfl, ha⟩ := r
            have hge : S.length ≤ m := by
              by_cases q : m < S.length
              · exact absurd (by unfold D.und; exact decide_eq_true q) u
              · omega
            have na : a ∉ φ := fun hmem => by
              obtain ⟨i, hi, ei⟩ := List.getElem_of_mem hmem
              have e1 : φ'[i]? = some a := e.get (by rw [List.getElem?_eq_getElem hi, ei])
              obtain ⟨hi', ei'⟩ := List.getElem?_eq_some_iff.mp e1
              obtain ⟨hm', em'⟩ := List.getElem?_eq_some_iff.mp ha
              have z : i = m := (List.getElem?_inj hi' R'.nd).mp (e1.trans ha.symm)
              rw [R.len] at hi
              omega
            have q := R'.obj m a o ha hm
            have q := RpO.back e.pre (by rw [R.len]; exact uo) q
            refine h _ H' (φ ++ [a]) ⟨List.prefix_append _ _, e.keep, fun x hx => ?_⟩ ((R.back e R' k).more na q) ?_
            · rcases List.mem_append.mp hx with z | z
              · exact .inl z
              · simp at z; subst z
                exact e.new x (List.mem_of_getElem? ha)
            · show Rp G _ _ (.ref S.length) _
              unfold Rp
              exact ⟨a, rfl, by rw [← R.len]; simp⟩
          · rw [if_neg uo] at h; exact keep h
      | _ => exact keep h
  · rw [if_neg k] at h
    exact h v H' φ' e R' r
end

/-! ### the defs -/
/-- a look at the names of a def's scope -/
def scC (N P : List Str) (sc : Scope) : Bool :=
  decide (sc.kind = .function) && !sc.isCoroutine && !sc.isGenerator && decide N.Nodup && decide (N.take P.length = P) && P.all (fun x => decide (sc.names.lookup x = some .local) || decide (sc.names.lookup x = some .cell)) && sc.names.all (fun y => !decide (y.2 = .free))
theorem fnScope_by {N P : List Str} {sc : Scope} (h : scC N P sc = true) : FnScope N P sc := by
  unfold scC at h
  simp only [Bool.and_eq_true, Bool.not_eq_true', decide_eq_true_eq, List.all_eq_true, Bool.or_eq_true, decide_eq_false_iff_not] at h
  obtain ⟨⟨⟨⟨⟨⟨h1, h2⟩, h3⟩, h4⟩, h5⟩, h6⟩, h7⟩ := h
  exact ⟨h1, h2, h3, h4, h5, h6, h7⟩
/-- what is known of a def of the table -/
structure DefOk (G : Gb) (tab : Nat → Option Fn) (gl : List (Str × Gl)) (x : Str) (i : Nat) (f : Addr) (fd : FuncData) (ps : List Str) : Prop where
  ex : ∃ (st : Stmt) (N : List Str) (F : Fn), L2.Fun G.K x x st f fd ∧ scC N ps (defScope st) = true ∧ cSs 100 100 ⟨N, gl, defScope st⟩ (defBody st) = some F.body ∧ tab i = some F ∧ F.np = ps.length ∧ F.nl = N.length
/-- what is known of the text's top -/
structure TopOk (G : Gb) (tab : Nat → Option Fn) (gl : List (Str × Gl)) (mg : Str → Option Value) : Prop where
  fns : ∀ x i, gl.lookup x = some (.fn i) → ∃ f fd ps, mg x = some (.ref f) ∧ PySem.W.keepIn G.K (.ref f) = true ∧ Binds G.K fd ps [] ∧ DefOk G tab gl x i f fd ps
  cst : ∀ x d, gl.lookup x = some (.cst d) → ∃ v u, mg x = some u ∧ L2.RelV v u ∧ ∀ φ H, Rp G φ H d v
  blt : ∀ x ∈ bltNames, gl.lookup x = none → mg x = none
section
variable {G : Gb} {tab : Nat → Option Fn} {gl : List (Str × Gl)} {mg : Str → Option Value} {P : Program} {w : World} {base : Heap}
theorem sl_start {φ : List Addr} {H : Hp} {ds : List Mi.D} {vs : List V} {N : List Str} (r : Rps G φ H ds vs) : Sl G φ H (ds.map some ++ List.replicate (N.length - ds.length) none) (L2.start N vs) := by
  unfold L2.start
  rw [r.len]
  refine ⟨by simp [r.len], fun i d h => ?_⟩
  by_cases hi : i < ds.length
  · rw [List.getElem?_append_left (by simpa using hi), List.getElem?_map] at h
    obtain ⟨d', h1, h2⟩ := Option.map_eq_some_iff.mp h
    cases h2
    obtain ⟨v, h3, h4⟩ := r.get h1
    refine ⟨v, ?_, h4⟩
    rw [List.getElem?_append_left (by rw [List.length_map, ← r.len]; exact hi), List.getElem?_map, h3]
    rfl
  · rw [List.getElem?_append_right (by simpa using hi), List.getElem?_replicate] at h
    split at h <;> cases h
theorem def_ok (T : TopOk G tab gl mg) : ∀ (n : Nat) (x : Str) (i : Nat) (f : Addr) (fd : FuncData) (ps : List Str), DefOk G tab gl x i f fd ps → FnOk P w G.K mg base (L2.CX P w) (3 * n) f fd ps (spI G (run tab n) i)
  | 0, x, i, f, fd, ps, _ => ⟨fun vs H Q E ⟨φ, S, ds, _, _, h⟩ => by unfold run at h; exact h.elim, fun A outer s H args us vs Q E _ _ _ _ ⟨φ, S, ds, _, _, h⟩ => by unfold run at h; exact h.elim⟩
  | n + 1, x, i, f, fd, ps, D => by
    obtain ⟨st, N, F, hF, hsc, htr, htab, hnp, hnl⟩ := D.ex
    obtain ⟨oc, od, kV, doc, pm, an, cdv, ct, osl, rfl, lk, hcd⟩ := hF.ex
    have Sc := fnScope_by hsc
    -- what a run of it is
    have key : ∀ vs H Q E, spI G (run tab (n + 1)) i vs H Q E → vs.length = ps.length ∧ ∃ φ S ds, Rel G φ H S ∧ Rps G φ H ds vs ∧ ds.length = F.np ∧ Post G (RlD G) φ H (match exSs (run tab n) F.body (ds.map some ++ List.replicate (F.nl - F.np) none) S with
        | .ok (.rt d) _ S' => pack S d S'
        | .ok .nx _ S' => pack S .non S'
        | .ok _ _ _ => .bad
        | .ex c fs _ S' => .ex c fs S'
        | .bad => .bad) E Q := by
      intro vs H Q E h
      obtain ⟨φ, S, ds, R, r, h⟩ := h
      unfold run at h
      rw [htab] at h
      dsimp only at h
      by_cases hl : ds.length = F.np
      · rw [if_pos hl] at h
        exact ⟨by rw [← r.len, hl, hnp], φ, S, ds, R, r, hl, h⟩
      · rw [if_neg hl] at h; exact h.elim
    refine fn_of lk hcd Sc (fun vs H Q E h => (key vs H Q E h).1) fun A outer s H vs Q E hr h => ?_
    obtain ⟨_, φ, S, ds, R, r, hl, h⟩ := key vs H Q E h
    have tk : Takes (cxOf (L2.CX P w) P w G.K mg base N x (defScope st) f cdv A outer s H E) (fun cls d _ H => E cls d H) := takes_of rfl rfl rfl rfl
    have g : GoodS G (run tab n) (fun cls d _ H => E cls d H) (3 * n) (cxOf (L2.CX P w) P w G.K mg base N x (defScope st) f cdv A outer s H E) ⟨N, gl, defScope st⟩ :=
      { hK := rfl
        hN := rfl
        nd := Sc.nd
        vis := fun y hy => by
          unfold Ct.vis at hy
          have hy : (match (defScope st).names.lookup y with | some .local => true | some .cell => true | some .free => true | _ => false) = true := hy
          show (defScope st).names.lookup y = _ ∨ (defScope st).names.lookup y = _ ∨ (defScope st).names.lookup y = _
          split at hy
          · exact .inl (by assumption)
          · exact .inr (.inl (by assumption))
          · exact .inr (.inr (by assumption))
          · cases hy
        glb := fun y hy => show (defScope st).names.lookup y = some .globalImplicit from of_decide_eq_true hy
        loc := fun y hy => by
          unfold Ct.loc at hy
          have hy : (match (defScope st).names.lookup y with | some .local => true | some .cell => true | _ => false) = true := hy
          refine ⟨?_, .inl rfl⟩
          show (defScope st).names.lookup y = _ ∨ (defScope st).names.lookup y = _
          split at hy
          · exact .inl (by assumption)
          · exact .inr (by assumption)
          · cases hy
        cf := fun y h => h
        calm := rfl
        hu := by
          have := hr.un
          show (A.deeper (envOfC x (defScope st) s.heap.objs.size f cdv)).units + 64 < cLine
          omega
        room := hr
        fns := fun y j hj => by
          obtain ⟨f2, fd2, ps2, h1, h2, h3, h4⟩ := T.fns y j hj
          exact ⟨f2, fd2, ps2, h1, h2, h3, def_ok T n y j f2 fd2 ps2 h4⟩
        cst := T.cst
        blt := T.blt
        pas := fun σ pins H s e s' I cx => passes_call (W := fun cls d _ H => E cls d H) (E := E) tk (fun cls d σ H h => h) pins σ H s e s' I cx
        sc := rfl
        kind := Sc.kind
        own := passes_of rfl }
    refine ⟨_, ss_all 100 g htr, φ, _, S, R, sl_start r, ?_⟩
    rw [← hnl, hl]
    cases q : exSs (run tab n) F.body (ds.map some ++ List.replicate (F.nl - F.np) none) S with
    | bad => rw [q] at h; exact h.elim
    | ex c fs ρ' S' =>
      rw [q] at h
      exact fun cls dx σ' H' φ' e R' sl x => h cls dx H' φ' e R' x
    | ok fl ρ' S' =>
      rw [q] at h
      cases fl with
      | nx => exact fun σ' H' φ' e R' sl => pack_post R h e R' (by unfold Rp; rfl)
      | rt d => exact fun v H' φ' e R' r' => pack_post R h e R' r'
      | brk => exact h.elim
      | cnt => exact h.elim
end
end Mi

/-! Mi, part P: the law's end. -/
namespace Mi
open PySem L2 PyProof.Rows RT RZ
/-- no class of the text's own -/
def gb0 (K : PySem.W.Frag) : Gb := ⟨K, fun _ => none, fun _ => none⟩
theorem ints_rps {G : Gb} {φ : List Addr} {H : Hp} : ∀ ns : List Int, Rps G φ H (ns.map Mi.D.int) (ns.map V.int)
  | [] => by show Rps G φ H [] []; unfold Rps; rfl
  | n :: ns => by
    rw [List.map_cons, List.map_cons]
    unfold Rps
    exact ⟨.int n, _, rfl, by unfold Rp; rfl, ints_rps ns⟩
theorem rel0 {G : Gb} {H : Hp} : Rel G [] H [] := ⟨rfl, List.nodup_nil, fun n a o h _ => by simp at h⟩
theorem lis_of {K : PySem.W.Frag} {H : Hp} {a : Addr} {xs : List V} (hO : Only H) (h : SqL K H a xs) : LisA K H a xs := by
  rcases h with (h | ⟨o, h⟩) | h
  · rcases hO a with z | ⟨o, ys, z⟩
    · rw [z] at h; cases h
    · rw [z] at h; cases h
  · exact .inl ⟨o, h⟩
  · exact .inr h
/-- what is known of a row of the table of globals -/
def TopQ (G : Gb) (tab : Nat → Option Fn) (gl : List (Str × Gl)) (mg : Str → Option Value) (p : Str × Gl) : Prop := match p.2 with
  | .fn i => ∃ f fd ps, mg p.1 = some (.ref f) ∧ PySem.W.keepIn G.K (.ref f) = true ∧ Binds G.K fd ps [] ∧ DefOk G tab gl p.1 i f fd ps
  | .cst d => ∃ v u, mg p.1 = some u ∧ L2.RelV v u ∧ ∀ φ H, Rp G φ H d v
theorem lookup_mem {α : Type} {x : Str} {v : α} : ∀ {l : List (Str × α)}, l.lookup x = some v → (x, v) ∈ l
  | [], h => by cases h
  | (y, w) :: r, h => by
    rw [List.lookup_cons] at h
    cases e : x == y with
    | true =>
      rw [e] at h
      cases h
      have q : x = y := by simpa using e
      subst q
      exact List.mem_cons_self
    | false =>
      rw [e] at h
      exact List.mem_cons_of_mem _ (lookup_mem h)
theorem topOk_of {G : Gb} {tab : Nat → Option Fn} {gl : List (Str × Gl)} {mg : Str → Option Value} (h : ∀ p ∈ gl, TopQ G tab gl mg p) (hb : ∀ x ∈ bltNames, mg x = none) : TopOk G tab gl mg :=
  ⟨fun x i hi => h _ (lookup_mem hi), fun x d hd => h _ (lookup_mem hd), fun x hx _ => hb x hx⟩
/-- a law of the given script, from what run tells -/
theorem walk_mi {l : PySem.W.OpenLaw} {n k i : Nat} {q : Program} {loose : List Str} {XP : (Str → Option Value) → Heap → Prop} {YP : World → Heap → Prop} {d : DefRec} {K : Params → PySem.W.Frag} {tab : Nat → Option Fn} {gl : List (Str × Gl)} {x y : Str}
    (hn : l.most = some n) (hn2 : n ≤ sizeLine) (hdf : d.params.defaults = []) (hr : Room (3 * k) callerA)
    (hY : ∀ (w : World) (h : Heap), YP w h → (K w.params).In h)
    (F : ∀ (w : World) (mg : Str → Option Value) (fa : Addr) (h : Heap), (K w.params).In h → h.Ns mainGlobals mg → mg d.name = some (.ref fa) →
      ∃ fd : FuncData, (∀ (s : Shared) (u : Value), BindsTo s fd ⟨[u], []⟩ [(x, u)]) ∧ TopOk (gb0 (K w.params)) tab gl mg ∧ DefOk (gb0 (K w.params)) tab gl y i fa fd [x])
    (hlaw : ∀ ns : List Int, ns.length ≤ n → ∃ S, run tab k i [.ls (ns.map Mi.D.int)] [] = .ok (.bl true) S) :
    PySem.W.WalkO q loose XP YP l.row.toRowW d [] (fun f vs => PySem.call f vs) := by
  refine L2.walk_of (n := n) (k := 3 * k) (x := x) (K := K) (CX := fun w => L2.CX l.prog w) (sp := fun w => spI (gb0 (K w.params)) (run tab k) i) hn hn2 hdf hr hY (fun w mg fa h KX G hmg => ?_) (fun w H a ns hl hO hS => ?_) fun w H s e s' h => ?_
  · obtain ⟨fd, hb, T, D⟩ := F w mg fa h KX G hmg
    exact ⟨fd, hb, fun base _ _ => def_ok T k y i fa fd [x] D⟩
  · obtain ⟨S, hrun⟩ := hlaw ns hl
    refine ⟨[], [], [.ls (ns.map Mi.D.int)], rel0, ?_, ?_⟩
    · unfold Rps
      refine ⟨.ref a, [], rfl, ?_, ?_⟩
      · unfold Rp
        exact ⟨a, ns.map V.int, rfl, lis_of hO hS, ints_rps ns⟩
      · unfold Rps; rfl
    · rw [hrun]
      intro v H' φ' _ _ r
      have r : Rp (gb0 (K w.params)) φ' H' (.bl true) v := r
      unfold Rp at r
      exact r
  · obtain ⟨_, _, _, _, _, _, _, _, _, _, _, _, hF⟩ := h
    exact hF.elim
end Mi

/-! Mi, part Q: reckoning with run. -/
namespace Mi
open PySem
abbrev CF := Nat → List D → Store → R D
/-- a call's end -/
noncomputable def fin (S : Store) (r : RS) : R D := match r with
  | .ok (.rt d) _ S' => pack S d S'
  | .ok .nx _ S' => pack S .non S'
  | .ok _ _ _ => .bad
  | .ex c fs _ S' => .ex c fs S'
  | .bad => .bad
theorem run_fin {tab : Nat → Option Fn} {n i : Nat} {F : Fn} {ds : List D} {S : Store} (h : tab i = some F) (hl : ds.length = F.np) : run tab (n + 1) i ds S = fin S (exSs (run tab n) F.body (ds.map some ++ List.replicate (F.nl - F.np) none) S) := by
  unfold run
  rw [h]
  dsimp only
  rw [if_pos hl]
  rfl
theorem keeps_refl (S : Store) : keeps S S := fun i o _ h => .inl h
theorem keeps_app (S T : Store) : keeps S (S ++ T) := fun i o h e => .inl (by rw [List.getElem?_append_left h] at e; exact e)
theorem pack_app {S T : Store} {d : D} (h : d.und S.length = true) : pack S d (S ++ T) = .ok d S := by
  unfold pack
  rw [if_pos (keeps_app S T), if_pos h, List.take_left]
theorem pack_same {S : Store} {d : D} (h : d.und S.length = true) : pack S d S = .ok d S := by
  have := pack_app (T := []) h
  rwa [List.append_nil] at this
/-- one place that stood is written, with what knows nothing new -/
theorem pack_set {S T : Store} {d : D} {k : Nat} {o : O} (hk : k < S.length) (ho : o.und S.length = true) (h : d.und S.length = true) : pack S d ((S.set k o) ++ T) = .ok d (S.set k o) := by
  unfold pack
  have hkp : keeps S (S.set k o ++ T) := fun i u hi e => by
    rw [List.getElem?_append_left (by rw [List.length_set]; exact hi)] at e
    by_cases z : k = i
    · subst z
      rw [List.getElem?_set_self hk] at e
      cases e
      exact .inr ho
    · rw [List.getElem?_set_ne z] at e
      exact .inl e
  have ht : (S.set k o ++ T).take S.length = S.set k o := by
    rw [List.take_append_of_le_length (by rw [List.length_set]; exact Nat.le_refl _), List.take_of_length_le (by rw [List.length_set]; exact Nat.le_refl _)]
  rw [if_pos hkp, if_pos h, ht]
/-- a new object that knows nothing new is handed out -/
theorem pack_new {S : Store} {o : O} (ho : o.und S.length = true) : pack S (.ref S.length) (S ++ [o]) = .ok (.ref S.length) (S ++ [o]) := by
  unfold pack
  rw [if_pos (keeps_app S [o]), if_neg (by unfold D.und; simp)]
  dsimp only
  rw [List.getElem?_append_right (Nat.le_refl _), Nat.sub_self]
  show (if o.und S.length = true then _ else _) = _
  rw [if_pos ho, List.take_left]

@[simp] theorem und_int {k : Nat} {i : Int} : D.und k (.int i) = true := by unfold D.und; rfl
@[simp] theorem und_str {k : Nat} {i : Str} : D.und k (.str i) = true := by unfold D.und; rfl
@[simp] theorem und_bl {k : Nat} {i : Bool} : D.und k (.bl i) = true := by unfold D.und; rfl
@[simp] theorem und_non {k : Nat} : D.und k .non = true := by unfold D.und; rfl
@[simp] theorem und_tup {k : Nat} {ds : List D} : D.und k (.tup ds) = D.unds k ds := by rw [D.und]
@[simp] theorem unds_nil {k : Nat} : D.unds k [] = true := by unfold D.unds; rfl
@[simp] theorem unds_cons {k : Nat} {d : D} {r : List D} : D.unds k (d :: r) = (D.und k d && D.unds k r) := by rw [D.unds]
@[simp] theorem und_ref {k n : Nat} : D.und k (.ref n) = decide (n < k) := by rw [D.und]

/-! ### operations -/
section
variable {S : Store}
@[simp] theorem py_int {i : Int} : W.py S (.val (.int i)) = some (.int i) := rfl
@[simp] theorem py_str {x : Str} : W.py S (.val (.str x)) = some (.str x) := rfl
@[simp] theorem py_bl {b : Bool} : W.py S (.val (.bl b)) = some (.bool b) := rfl
@[simp] theorem py_non : W.py S (.val .non) = some .none := rfl
theorem eq_ii {i j : Int} : p2 .eq (.val (.int i)) (.val (.int j)) S = .ok (.val (.bl (decide (i = j)))) S := by
  show vv (.bl (i == j)) S = _
  by_cases h : i = j
  · subst h; simp [vv]
  · rw [decide_eq_false h]; have : (i == j) = false := by simpa using h
    rw [this]; rfl
theorem ne_ii {i j : Int} : p2 .ne (.val (.int i)) (.val (.int j)) S = .ok (.val (.bl (!decide (i = j)))) S := by
  show vv (.bl (!(i == j))) S = _
  by_cases h : i = j
  · subst h; simp [vv]
  · rw [decide_eq_false h]; have : (i == j) = false := by simpa using h
    rw [this]; rfl
theorem eq_ss {i j : Str} : p2 .eq (.val (.str i)) (.val (.str j)) S = .ok (.val (.bl (decide (i = j)))) S := by
  show vv (.bl (i == j)) S = _
  by_cases h : i = j
  · subst h; simp [vv]
  · rw [decide_eq_false h]; have : (i == j) = false := by simpa using h
    rw [this]; rfl
theorem ne_ss {i j : Str} : p2 .ne (.val (.str i)) (.val (.str j)) S = .ok (.val (.bl (!decide (i = j)))) S := by
  show vv (.bl (!(i == j))) S = _
  by_cases h : i = j
  · subst h; simp [vv]
  · rw [decide_eq_false h]; have : (i == j) = false := by simpa using h
    rw [this]; rfl
theorem lt_ii {i j : Int} : p2 .lt (.val (.int i)) (.val (.int j)) S = .ok (.val (.bl (decide (i < j)))) S := by
  have e : W.dataLt (.int i) (.int j) = decide (i < j) := by simp [W.dataLt, W.keyToks, PyProof.Rows.lex_cons, PyProof.Rows.itemLt, PyProof.Rows.lexLt]
  show ob (some (W.dataLt (.int i) (.int j))) S = _
  rw [e]; rfl
theorem lt_ss {i j : Str} : p2 .lt (.val (.str i)) (.val (.str j)) S = .ok (.val (.bl (decide (i.cps.toList < j.cps.toList)))) S := by
  have e : W.dataLt (.str i) (.str j) = decide (i.cps.toList < j.cps.toList) := by simp [W.dataLt, W.keyToks, PyProof.Rows.lex_cons, PyProof.Rows.itemLt, PyProof.Rows.lexLt]
  show ob (some (W.dataLt (.str i) (.str j))) S = _
  rw [e]; rfl
end
end Mi

/-! the defs of the law in the small language -/
namespace Mi.L
open PySem L2 Mi
def top (i : Nat) : Stmt := PySem.Challenge.pw_papervault_k75_bounds_of_conditions.main.body.getD i (.Pass ⟨0, 0, 0, 0⟩)
def glT : List (Str × Mi.Gl) := [("kind_of", .fn 0), ("side_of", .fn 1), ("ahead", .fn 2), ("further", .fn 3), ("by_test", .fn 4), ("bounds", .fn 5), ("_law_cell_at", .fn 6), ("_law_take", .fn 7), ("_law_value", .fn 8), ("_law_key", .fn 9), ("_law_test", .fn 10), ("_law_lets", .fn 11), ("_law_one_test", .fn 12), ("_law_condition", .fn 13), ("_law_least", .fn 14), ("_law_bounds", .fn 15), ("_law_exact", .fn 16), ("_law_columns", .fn 17), ("_law_within", .fn 18), ("_law_own", .fn 19), ("law", .fn 20)]
abbrev s0 : Stmt := top 1
def N0 : List Str := ["thing"]
def P0 : List Str := ["thing"]
/-- kind_of -/
def b0 : List Stm := [.iff (.p1 .isN (.v 0)) [.ret (.c (.int 0))] [], .iff (.isi [.int] (.v 0)) [.ret (.c (.int 1))] [], .iff (.isi [.str] (.v 0)) [.ret (.c (.int 2))] [], .ret (.c (.int 3))]
theorem c0 : cSs 100 100 ⟨N0, glT, defScope s0⟩ (defBody s0) = some b0 := by kernel_rfl
theorem sc0 : scC N0 P0 (defScope s0) = true := by decide +kernel
abbrev s1 : Stmt := top 2
def N1 : List Str := ["one", "other", "part", "another", "side"]
def P1 : List Str := ["one", "other"]
def b1_0 : List Stm := [.set (.nm 4) (.call 1 [(.v 2), (.v 3)]), .iff (.p2 .ne (.v 4) (.c (.int 0))) [.ret (.v 4)] []]
/-- side_of -/
def b1 : List Stm := [.iff (.p2 .ne (.call 0 [(.v 0)]) (.call 0 [(.v 1)])) [.ret (.p2 .sub (.c (.int 1)) (.p2 .mul (.c (.int 2)) (.p1 .int_ (.p2 .lt (.call 0 [(.v 0)]) (.call 0 [(.v 1)])))))] [], .iff (.p2 .eq (.v 0) (.v 1)) [.ret (.c (.int 0))] [], .iff (.not_ (.isi [.tuple] (.v 0))) [.ret (.p2 .sub (.c (.int 1)) (.p2 .mul (.c (.int 2)) (.p1 .int_ (.p2 .lt (.v 0) (.v 1)))))] [], .for_ (.tp [2, 3]) .zip [(.v 0), (.v 1)] b1_0, .ret (.p2 .sub (.c (.int 1)) (.p2 .mul (.c (.int 2)) (.p1 .int_ (.p2 .lt (.p1 .len (.v 0)) (.p1 .len (.v 1))))))]
theorem c1 : cSs 100 100 ⟨N1, glT, defScope s1⟩ (defBody s1) = some b1 := by kernel_rfl
theorem sc1 : scC N1 P1 (defScope s1) = true := by decide +kernel
abbrev s2 : Stmt := top 3
def N2 : List Str := ["one", "other"]
def P2 : List Str := ["one", "other"]
/-- ahead -/
def b2 : List Stm := [.ret (.p2 .lt (.call 1 [(.v 0), (.v 1)]) (.c (.int 0)))]
theorem c2 : cSs 100 100 ⟨N2, glT, defScope s2⟩ (defBody s2) = some b2 := by kernel_rfl
theorem sc2 : scC N2 P2 (defScope s2) = true := by decide +kernel
abbrev s3 : Stmt := top 5
def N3 : List Str := ["value", "other", "lower"]
def P3 : List Str := ["value", "other", "lower"]
/-- further -/
def b3 : List Stm := [.iff (.p1 .isN (.v 0)) [.ret (.v 1)] [], .iff (.or_ (.p1 .isN (.v 1)) (.p2 .eq (.call 2 [(.v 0), (.v 1)]) (.v 2))) [.ret (.v 0)] [], .ret (.v 1)]
theorem c3 : cSs 100 100 ⟨N3, glT, defScope s3⟩ (defBody s3) = some b3 := by kernel_rfl
theorem sc3 : scC N3 P3 (defScope s3) = true := by decide +kernel
abbrev s4 : Stmt := top 6
def N4 : List Str := ["condition", "column", "value"]
def P4 : List Str := ["condition", "column"]
/-- by_test -/
def b4 : List Stm := [.iff (.or_ (.p2 .ne (.p2 .ix (.v 0) (.c (.int 1))) (.v 1)) (.p2 .ne (.p2 .ix (.p2 .ix (.v 0) (.c (.int 3))) (.c (.int 0))) (.c (.str "value")))) [.ret (.tup [(.c .non), (.c .non)])] [], .set (.nm 2) (.p2 .ix (.p2 .ix (.v 0) (.c (.int 3))) (.c (.int 1))), .iff (.p2 .eq (.p2 .ix (.v 0) (.c (.int 2))) (.c (.str "="))) [.ret (.tup [(.v 2), (.v 2)])] [], .iff (.p2 .inn (.p2 .ix (.v 0) (.c (.int 2))) (.tup [(.c (.str "<")), (.c (.str "<="))])) [.ret (.tup [(.c .non), (.v 2)])] [], .iff (.p2 .inn (.p2 .ix (.v 0) (.c (.int 2))) (.tup [(.c (.str ">")), (.c (.str ">="))])) [.ret (.tup [(.v 2), (.c .non)])] [], .ret (.tup [(.c .non), (.c .non)])]
theorem c4 : cSs 100 100 ⟨N4, glT, defScope s4⟩ (defBody s4) = some b4 := by kernel_rfl
theorem sc4 : scC N4 P4 (defScope s4) = true := by decide +kernel
abbrev s5 : Stmt := top 7
def N5 : List Str := ["condition", "column", "low", "high", "some", "least", "most"]
def P5 : List Str := ["condition", "column"]
def b5_0 : List Stm := [.set (.tp [5, 6]) (.call 5 [(.v 4), (.v 1)]), .iff (.p2 .eq (.p2 .ix (.v 0) (.c (.int 0))) (.c (.str "and"))) [.set (.nm 2) (.call 3 [(.v 2), (.v 5), (.c (.bl false))]), .set (.nm 3) (.call 3 [(.v 3), (.v 6), (.c (.bl true))])] [.set (.nm 2) (.ite (.or_ (.p1 .isN (.v 2)) (.p1 .isN (.v 5))) (.c .non) (.call 3 [(.v 2), (.v 5), (.c (.bl true))])), .set (.nm 3) (.ite (.or_ (.p1 .isN (.v 3)) (.p1 .isN (.v 6))) (.c .non) (.call 3 [(.v 3), (.v 6), (.c (.bl false))]))]]
/-- bounds -/
def b5 : List Stm := [.iff (.or_ (.p1 .isN (.v 0)) (.p2 .eq (.p2 .ix (.v 0) (.c (.int 0))) (.c (.str "not")))) [.ret (.tup [(.c .non), (.c .non)])] [], .iff (.p2 .eq (.p2 .ix (.v 0) (.c (.int 0))) (.c (.str "test"))) [.ret (.call 4 [(.v 0), (.v 1)])] [], .set (.tp [2, 3]) (.call 5 [(.p2 .ix (.p2 .ix (.v 0) (.c (.int 1))) (.c (.int 0))), (.v 1)]), .for_ (.nm 4) .it [(.sl (.p2 .ix (.v 0) (.c (.int 1))) [(.c (.int 1))] [])] b5_0, .ret (.tup [(.v 2), (.v 3)])]
theorem c5 : cSs 100 100 ⟨N5, glT, defScope s5⟩ (defBody s5) = some b5 := by kernel_rfl
theorem sc5 : scC N5 P5 (defScope s5) = true := by decide +kernel
abbrev s6 : Stmt := top 9
def N6 : List Str := ["script", "k"]
def P6 : List Str := ["script", "k"]
/-- _law_cell_at -/
def b6 : List Stm := [.iff (.p2 .lt (.v 1) (.p1 .len (.v 0))) [.ret (.p2 .ix (.v 0) (.v 1))] [], .ret (.c (.int 0))]
theorem c6 : cSs 100 100 ⟨N6, glT, defScope s6⟩ (defBody s6) = some b6 := by kernel_rfl
theorem sc6 : scC N6 P6 (defScope s6) = true := by decide +kernel
abbrev s7 : Stmt := top 10
def N7 : List Str := ["deck", "many", "told", "number"]
def P7 : List Str := ["deck", "many"]
/-- _law_take -/
def b7 : List Stm := [.iff (.p2 .eq (.p2 .ix (.v 0) (.c (.int 1))) (.c (.int 0))) [.set (.nm 2) (.p2 .mod (.p2 .ix (.v 0) (.c (.int 0))) (.v 1)), .setIx (.v 0) (.c (.int 0)) (.p2 .fdiv (.p2 .ix (.v 0) (.c (.int 0))) (.v 1)), .ret (.v 2)] [], .setIx (.v 0) (.c (.int 2)) (.p2 .add (.p2 .ix (.v 0) (.c (.int 2))) (.c (.int 1))), .set (.nm 3) (.p2 .mod (.p2 .add (.p2 .mul (.p2 .mod (.p2 .ix (.v 0) (.c (.int 0))) (.c (.int 2147483647))) (.p2 .add (.p2 .mul (.p2 .ix (.v 0) (.c (.int 2))) (.p2 .ix (.v 0) (.c (.int 2)))) (.c (.int 48271)))) (.p2 .ix (.v 0) (.c (.int 2)))) (.c (.int 2147483629))), .set (.nm 3) (.p2 .mod (.p2 .mul (.v 3) (.v 3)) (.c (.int 2147483587))), .ret (.p2 .mod (.p2 .fdiv (.p2 .mod (.p2 .mul (.v 3) (.c (.int 69621))) (.c (.int 2147483563))) (.c (.int 3))) (.v 1))]
theorem c7 : cSs 100 100 ⟨N7, glT, defScope s7⟩ (defBody s7) = some b7 := by kernel_rfl
theorem sc7 : scC N7 P7 (defScope s7) = true := by decide +kernel
abbrev s8 : Stmt := top 11
def N8 : List Str := ["deck", "some", "kind", "letters", "k"]
def P8 : List Str := ["deck"]
/-- _law_value -/
def b8 : List Stm := [.set (.nm 1) (.disp [(.c (.int 0)), (.c (.int 1)), (.c (.int 2)), (.c (.int 3)), (.p1 .neg (.c (.int 1))), (.c (.str "")), (.c (.str "a")), (.c (.str "b")), (.c (.str "ab")), (.c (.str " ")), (.c (.str "a ")), (.c (.str "aa")), (.c (.str "A")), (.c (.str "0")), (.c (.str "~")), (.p2 .pow (.c (.int 10)) (.c (.int 12))), (.p1 .neg (.p2 .pow (.c (.int 10)) (.c (.int 12)))), (.c (.str "-1")), (.c (.str "zz")), (.c (.int 12))]), .set (.nm 2) (.call 7 [(.v 0), (.c (.int 6))]), .iff (.p2 .lt (.v 2) (.c (.int 3))) [.ret (.p2 .ix (.v 1) (.call 7 [(.v 0), (.c (.int 4))]))] [], .iff (.p2 .lt (.v 2) (.c (.int 5))) [.ret (.p2 .ix (.v 1) (.call 7 [(.v 0), (.c (.int 20))]))] [], .iff (.p2 .eq (.call 7 [(.v 0), (.c (.int 2))]) (.c (.int 0))) [.ret (.p2 .sub (.call 7 [(.v 0), (.p2 .add (.p2 .mul (.c (.int 2)) (.p2 .pow (.c (.int 10)) (.c (.int 12)))) (.c (.int 1)))]) (.p2 .pow (.c (.int 10)) (.c (.int 12))))] [], .set (.nm 3) (.c (.str " !\"#$&()*+,-./0123456789:<=>?@ABCXYZ[]^_abcxyz{|}~")), .ret (.m1 .str .join (.c (.str "")) (.comp (.nm 4) .rng1 [(.call 7 [(.v 0), (.c (.int 21))])] [] (.p2 .ix (.v 3) (.call 7 [(.v 0), (.p1 .len (.v 3))])) [4]))]
theorem c8 : cSs 100 100 ⟨N8, glT, defScope s8⟩ (defBody s8) = some b8 := by kernel_rfl
theorem sc8 : scC N8 P8 (defScope s8) = true := by decide +kernel
abbrev s9 : Stmt := top 12
def N9 : List Str := ["value", "sign"]
def P9 : List Str := ["value"]
/-- _law_key -/
def b9 : List Stm := [.iff (.isi [.str] (.v 0)) [.ret (.tup [(.c (.int 1)), (.c (.int 0)), (.comp (.nm 1) .it [(.v 0)] [] (.p1 .ord (.v 1)) [1])])] [], .ret (.tup [(.c (.int 0)), (.v 0), (.disp [])])]
theorem c9 : cSs 100 100 ⟨N9, glT, defScope s9⟩ (defBody s9) = some b9 := by kernel_rfl
theorem sc9 : scC N9 P9 (defScope s9) = true := by decide +kernel
abbrev s10 : Stmt := top 13
def N10 : List Str := ["left", "sign", "right", "one", "two"]
def P10 : List Str := ["left", "sign", "right"]
/-- _law_test -/
def b10 : List Stm := [.set (.nm 3) (.call 9 [(.v 0)]), .set (.nm 4) (.call 9 [(.v 2)]), .ret (.p2 .ix (.dict [(.c (.str "=")), (.p2 .eq (.v 3) (.v 4)), (.c (.str "#")), (.p2 .ne (.v 3) (.v 4)), (.c (.str "<")), (.p2 .lt (.v 3) (.v 4)), (.c (.str ">")), (.p2 .gt (.v 3) (.v 4)), (.c (.str "<=")), (.p2 .le (.v 3) (.v 4)), (.c (.str ">=")), (.p2 .ge (.v 3) (.v 4))]) (.v 1))]
theorem c10 : cSs 100 100 ⟨N10, glT, defScope s10⟩ (defBody s10) = some b10 := by kernel_rfl
theorem sc10 : scC N10 P10 (defScope s10) = true := by decide +kernel
abbrev s11 : Stmt := top 14
def N11 : List Str := ["condition", "line", "right", "told", "some"]
def P11 : List Str := ["condition", "line"]
/-- _law_lets -/
def b11 : List Stm := [.iff (.p1 .isN (.v 0)) [.ret (.c (.bl true))] [], .iff (.p2 .eq (.p2 .ix (.v 0) (.c (.int 0))) (.c (.str "test"))) [.set (.nm 2) (.p2 .ix (.p2 .ix (.v 0) (.c (.int 3))) (.c (.int 1))), .iff (.p2 .eq (.p2 .ix (.p2 .ix (.v 0) (.c (.int 3))) (.c (.int 0))) (.c (.str "column"))) [.set (.nm 2) (.p2 .ix (.v 1) (.v 2))] [], .ret (.call 10 [(.p2 .ix (.v 1) (.p2 .ix (.v 0) (.c (.int 1)))), (.p2 .ix (.v 0) (.c (.int 2))), (.v 2)])] [], .iff (.p2 .eq (.p2 .ix (.v 0) (.c (.int 0))) (.c (.str "not"))) [.ret (.not_ (.call 11 [(.p2 .ix (.v 0) (.c (.int 1))), (.v 1)]))] [], .set (.nm 3) (.comp (.nm 4) .it [(.p2 .ix (.v 0) (.c (.int 1)))] [] (.call 11 [(.v 4), (.v 1)]) [4]), .iff (.p2 .eq (.p2 .ix (.v 0) (.c (.int 0))) (.c (.str "and"))) [.ret (.p2 .nin (.c (.bl false)) (.v 3))] [], .ret (.p2 .inn (.c (.bl true)) (.v 3))]
theorem c11 : cSs 100 100 ⟨N11, glT, defScope s11⟩ (defBody s11) = some b11 := by kernel_rfl
theorem sc11 : scC N11 P11 (defScope s11) = true := by decide +kernel
abbrev s12 : Stmt := top 15
def N12 : List Str := ["deck", "columns", "column", "sign"]
def P12 : List Str := ["deck", "columns"]
/-- _law_one_test -/
def b12 : List Stm := [.set (.nm 2) (.p2 .ix (.v 1) (.call 7 [(.v 0), (.p1 .len (.v 1))])), .set (.nm 3) (.p2 .ix (.disp [(.c (.str "=")), (.c (.str "#")), (.c (.str "<")), (.c (.str ">")), (.c (.str "<=")), (.c (.str ">="))]) (.call 7 [(.v 0), (.c (.int 6))])), .iff (.p2 .eq (.call 7 [(.v 0), (.c (.int 4))]) (.c (.int 3))) [.ret (.tup [(.c (.str "test")), (.v 2), (.v 3), (.tup [(.c (.str "column")), (.p2 .ix (.v 1) (.call 7 [(.v 0), (.p1 .len (.v 1))]))])])] [], .ret (.tup [(.c (.str "test")), (.v 2), (.v 3), (.tup [(.c (.str "value")), (.call 8 [(.v 0)])])])]
theorem c12 : cSs 100 100 ⟨N12, glT, defScope s12⟩ (defBody s12) = some b12 := by kernel_rfl
theorem sc12 : scC N12 P12 (defScope s12) = true := by decide +kernel
abbrev s13 : Stmt := top 16
def N13 : List Str := ["deck", "columns", "deep", "kind", "some", "k"]
def P13 : List Str := ["deck", "columns", "deep"]
def b13_0 : List Stm := [.exp (.m1 .list .append (.v 4) (.call 13 [(.v 0), (.v 1), (.p2 .sub (.v 2) (.c (.int 1)))]))]
/-- _law_condition -/
def b13 : List Stm := [.set (.nm 3) (.call 7 [(.v 0), (.c (.int 6))]), .iff (.or_ (.p2 .lt (.v 2) (.c (.int 2))) (.p2 .lt (.v 3) (.c (.int 2)))) [.ret (.call 12 [(.v 0), (.v 1)])] [], .iff (.p2 .eq (.v 3) (.c (.int 2))) [.ret (.tup [(.c (.str "not")), (.call 13 [(.v 0), (.v 1), (.p2 .sub (.v 2) (.c (.int 1)))])])] [], .set (.nm 4) (.disp []), .for_ (.nm 5) .rng1 [(.p2 .add (.c (.int 2)) (.call 7 [(.v 0), (.c (.int 2))]))] b13_0, .ret (.tup [(.p2 .ix (.disp [(.c (.str "and")), (.c (.str "or"))]) (.call 7 [(.v 0), (.c (.int 2))])), (.p1 .tuple_ (.v 4))])]
theorem c13 : cSs 100 100 ⟨N13, glT, defScope s13⟩ (defBody s13) = some b13 := by kernel_rfl
theorem sc13 : scC N13 P13 (defScope s13) = true := by decide +kernel
abbrev s14 : Stmt := top 17
def N14 : List Str := ["values", "greatest", "rising"]
def P14 : List Str := ["values", "greatest"]
/-- _law_least -/
def b14 : List Stm := [.iff (.p2 .eq (.v 0) (.disp [])) [.ret (.c .non)] [], .set (.nm 2) (.srt 9 false (.v 0)), .ret (.p2 .ix (.disp [(.p2 .ix (.v 2) (.c (.int 0))), (.p2 .ix (.v 2) (.p1 .neg (.c (.int 1))))]) (.p1 .int_ (.v 1)))]
theorem c14 : cSs 100 100 ⟨N14, glT, defScope s14⟩ (defBody s14) = some b14 := by kernel_rfl
theorem sc14 : scC N14 P14 (defScope s14) = true := by decide +kernel
abbrev s15 : Stmt := top 18
def N15 : List Str := ["condition", "column", "word", "value", "told", "some", "lows", "low", "high", "highs"]
def P15 : List Str := ["condition", "column"]
/-- _law_bounds -/
def b15 : List Stm := [.iff (.or_ (.p1 .isN (.v 0)) (.p2 .eq (.p2 .ix (.v 0) (.c (.int 0))) (.c (.str "not")))) [.ret (.tup [(.c .non), (.c .non)])] [], .iff (.p2 .eq (.p2 .ix (.v 0) (.c (.int 0))) (.c (.str "test"))) [.set (.tp [2, 3]) (.p2 .ix (.v 0) (.c (.int 3))), .iff (.or_ (.p2 .ne (.p2 .ix (.v 0) (.c (.int 1))) (.v 1)) (.or_ (.p2 .eq (.v 2) (.c (.str "column"))) (.p2 .eq (.p2 .ix (.v 0) (.c (.int 2))) (.c (.str "#"))))) [.ret (.tup [(.c .non), (.c .non)])] [], .ret (.tup [(.p2 .ix (.disp [(.v 3), (.c .non)]) (.p1 .int_ (.p2 .eq (.p2 .ix (.p2 .ix (.v 0) (.c (.int 2))) (.c (.int 0))) (.c (.str "<"))))), (.p2 .ix (.disp [(.v 3), (.c .non)]) (.p1 .int_ (.p2 .eq (.p2 .ix (.p2 .ix (.v 0) (.c (.int 2))) (.c (.int 0))) (.c (.str ">")))))])] [], .set (.nm 4) (.comp (.nm 5) .it [(.p2 .ix (.v 0) (.c (.int 1)))] [] (.call 15 [(.v 5), (.v 1)]) [5]), .set (.nm 6) (.comp (.tp [7, 8]) .it [(.v 4)] [(.p1 .notN (.v 7))] (.v 7) [7, 8]), .set (.nm 9) (.comp (.tp [7, 8]) .it [(.v 4)] [(.p1 .notN (.v 8))] (.v 8) [7, 8]), .iff (.p2 .eq (.p2 .ix (.v 0) (.c (.int 0))) (.c (.str "and"))) [.ret (.tup [(.call 14 [(.v 6), (.c (.bl true))]), (.call 14 [(.v 9), (.c (.bl false))])])] [], .set (.nm 7) (.p2 .ix (.disp [(.c .non), (.call 14 [(.v 6), (.c (.bl false))])]) (.p1 .int_ (.p2 .eq (.p1 .len (.v 6)) (.p1 .len (.v 4))))), .ret (.tup [(.v 7), (.p2 .ix (.disp [(.c .non), (.call 14 [(.v 9), (.c (.bl true))])]) (.p1 .int_ (.p2 .eq (.p1 .len (.v 9)) (.p1 .len (.v 4)))))])]
theorem c15 : cSs 100 100 ⟨N15, glT, defScope s15⟩ (defBody s15) = some b15 := by kernel_rfl
theorem sc15 : scC N15 P15 (defScope s15) = true := by decide +kernel
abbrev s16 : Stmt := top 19
def N16 : List Str := ["told", "due", "pile", "one", "two"]
def P16 : List Str := ["told", "due"]
def b16_0 : List Stm := [.set (.tp [3, 4]) (.m0 .list .pop (.v 2)), .iff (.isi [.tuple, .list] (.v 4)) [.iff (.or_ (.not_ (.isi [.tuple, .list] (.v 3))) (.p2 .ne (.isi [.list] (.v 3)) (.isi [.list] (.v 4)))) [.ret (.c (.bl false))] [], .iff (.p2 .ne (.p1 .len (.v 3)) (.p1 .len (.v 4))) [.ret (.c (.bl false))] [], .exp (.m1 .list .extend (.v 2) (.p2 .lzip (.v 3) (.v 4)))] [.iff (.or_ (.isi [.bool] (.v 3)) (.or_ (.isi [.tuple, .list] (.v 3)) (.p2 .ne (.v 3) (.v 4)))) [.ret (.c (.bl false))] []]]
/-- _law_exact -/
def b16 : List Stm := [.set (.nm 2) (.disp [(.tup [(.v 0), (.v 1)])]), .whl (.p2 .ne (.v 2) (.disp [])) b16_0, .ret (.c (.bl true))]
theorem c16 : cSs 100 100 ⟨N16, glT, defScope s16⟩ (defBody s16) = some b16 := by kernel_rfl
theorem sc16 : scC N16 P16 (defScope s16) = true := by decide +kernel
abbrev s17 : Stmt := top 20
def N17 : List Str := ["deck", "words", "tables", "k"]
def P17 : List Str := ["deck"]
/-- _law_columns -/
def b17 : List Stm := [.set (.nm 1) (.disp [(.c (.str "a")), (.c (.str "b")), (.c (.str "ab")), (.c (.str "of")), (.c (.str "show")), (.c (.str "zzzzzzzz")), (.c (.str "x")), (.c (.str "count"))]), .set (.nm 2) (.disp [(.p2 .ix (.v 1) (.call 7 [(.v 0), (.c (.int 4))])), (.p2 .ix (.v 1) (.p2 .add (.c (.int 4)) (.call 7 [(.v 0), (.c (.int 4))])))]), .ret (.comp (.nm 3) .rng1 [(.p2 .add (.c (.int 1)) (.call 7 [(.v 0), (.c (.int 6))]))] [] (.tup [(.p2 .ix (.v 2) (.p2 .mod (.p2 .mul (.v 3) (.call 7 [(.v 0), (.c (.int 2))])) (.c (.int 2)))), (.p2 .ix (.v 1) (.v 3))]) [3])]
theorem c17 : cSs 100 100 ⟨N17, glT, defScope s17⟩ (defBody s17) = some b17 := by kernel_rfl
theorem sc17 : scC N17 P17 (defScope s17) = true := by decide +kernel
abbrev s18 : Stmt := top 21
def N18 : List Str := ["line", "column", "told", "value"]
def P18 : List Str := ["line", "column", "told"]
/-- _law_within -/
def b18 : List Stm := [.set (.nm 3) (.call 9 [(.p2 .ix (.v 0) (.v 1))]), .iff (.and_ (.p1 .notN (.p2 .ix (.v 2) (.c (.int 0)))) (.p2 .lt (.v 3) (.call 9 [(.p2 .ix (.v 2) (.c (.int 0)))]))) [.ret (.c (.bl false))] [], .ret (.or_ (.p1 .isN (.p2 .ix (.v 2) (.c (.int 1)))) (.p2 .le (.v 3) (.call 9 [(.p2 .ix (.v 2) (.c (.int 1)))])))]
theorem c18 : cSs 100 100 ⟨N18, glT, defScope s18⟩ (defBody s18) = some b18 := by kernel_rfl
theorem sc18 : scC N18 P18 (defScope s18) = true := by decide +kernel
abbrev s19 : Stmt := top 22
def N19 : List Str := ["condition", "line", "some"]
def P19 : List Str := ["condition", "line"]
/-- _law_own -/
def b19 : List Stm := [.iff (.p2 .eq (.p2 .ix (.v 0) (.c (.int 0))) (.c (.str "test"))) [.ret (.tup [(.c (.str "test")), (.p2 .ix (.v 0) (.c (.int 1))), (.p2 .ix (.v 0) (.c (.int 2))), (.tup [(.c (.str "value")), (.p2 .ix (.v 1) (.p2 .ix (.v 0) (.c (.int 1))))])])] [], .iff (.p2 .eq (.p2 .ix (.v 0) (.c (.int 0))) (.c (.str "not"))) [.ret (.tup [(.c (.str "not")), (.call 19 [(.p2 .ix (.v 0) (.c (.int 1))), (.v 1)])])] [], .ret (.tup [(.p2 .ix (.v 0) (.c (.int 0))), (.p1 .tuple_ (.comp (.nm 2) .it [(.p2 .ix (.v 0) (.c (.int 1)))] [] (.call 19 [(.v 2), (.v 1)]) [2]))])]
theorem c19 : cSs 100 100 ⟨N19, glT, defScope s19⟩ (defBody s19) = some b19 := by kernel_rfl
theorem sc19 : scC N19 P19 (defScope s19) = true := by decide +kernel
abbrev s20 : Stmt := top 23
def N20 : List Str := ["script", "way", "columns", "cell", "deck", "line", "column", "condition", "some", "lets", "told"]
def P20 : List Str := ["script"]
def b20_0 : List Stm := [.set (.nm 10) (.call 5 [(.v 8), (.v 6)]), .iff (.or_ (.not_ (.call 16 [(.v 10), (.call 15 [(.v 8), (.v 6)])])) (.and_ (.v 9) (.not_ (.call 18 [(.v 5), (.v 6), (.v 10)])))) [.ret (.c (.bl false))] []]
def b20_1 : List Stm := [.set (.nm 9) (.call 11 [(.v 8), (.v 5)]), .for_ (.nm 6) .it [(.v 2)] b20_0]
def b20_2 : List Stm := [.set (.nm 4) (.disp [(.v 3), (.v 1), (.c (.int 7))]), .set (.nm 5) (.p1 .dict_ (.comp (.nm 6) .it [(.v 2)] [] (.tup [(.v 6), (.call 8 [(.v 4)])]) [6])), .set (.nm 7) (.call 13 [(.v 4), (.v 2), (.p2 .add (.c (.int 1)) (.call 7 [(.v 4), (.c (.int 5))]))]), .for_ (.nm 8) .it [(.disp [(.v 7), (.call 19 [(.v 7), (.v 5)])])] b20_1]
/-- law -/
def b20 : List Stm := [.set (.nm 1) (.p2 .mod (.call 6 [(.v 0), (.c (.int 0))]) (.c (.int 2))), .set (.nm 2) (.call 17 [(.disp [(.p2 .fdiv (.call 6 [(.v 0), (.c (.int 0))]) (.c (.int 2))), (.v 1), (.c (.int 0))])]), .for_ (.nm 3) .it [(.p2 .add (.sl (.v 0) [(.c (.int 2))] [(.c (.int 63))]) (.disp [(.call 6 [(.v 0), (.c (.int 1))])]))] b20_2, .ret (.p2 .eq (.call 5 [(.c .non), (.p2 .ix (.v 2) (.c (.int 0)))]) (.tup [(.c .non), (.c .non)]))]
theorem c20 : cSs 100 100 ⟨N20, glT, defScope s20⟩ (defBody s20) = some b20 := by kernel_rfl
theorem sc20 : scC N20 P20 (defScope s20) = true := by decide +kernel
def tab : Nat → Option Fn
  | 0 => some ⟨1, 1, b0⟩
  | 1 => some ⟨2, 5, b1⟩
  | 2 => some ⟨2, 2, b2⟩
  | 3 => some ⟨3, 3, b3⟩
  | 4 => some ⟨2, 3, b4⟩
  | 5 => some ⟨2, 7, b5⟩
  | 6 => some ⟨2, 2, b6⟩
  | 7 => some ⟨2, 4, b7⟩
  | 8 => some ⟨1, 5, b8⟩
  | 9 => some ⟨1, 2, b9⟩
  | 10 => some ⟨3, 5, b10⟩
  | 11 => some ⟨2, 5, b11⟩
  | 12 => some ⟨2, 4, b12⟩
  | 13 => some ⟨3, 6, b13⟩
  | 14 => some ⟨2, 3, b14⟩
  | 15 => some ⟨2, 10, b15⟩
  | 16 => some ⟨2, 5, b16⟩
  | 17 => some ⟨1, 4, b17⟩
  | 18 => some ⟨3, 4, b18⟩
  | 19 => some ⟨2, 3, b19⟩
  | 20 => some ⟨1, 11, b20⟩
  | _ => none
end Mi.L

namespace Mi.L
open PySem Mi
theorem r_kind_int {n : Nat} {S : Store} {i : Int} : run tab (n + 1) 0 [.int i] S = .ok (.int 1) S := by
  rw [run_fin (F := ⟨1, 1, b0⟩) rfl rfl]
  simp [b0, exSs, exS, evD, evB, evK, vv, R.bd, R.st, RS.sq, toD, toB, p1, isiW, W.plain, Ty.of, fin, pack_same]
theorem r_kind_str {n : Nat} {S : Store} {i : Str} : run tab (n + 1) 0 [.str i] S = .ok (.int 2) S := by
  rw [run_fin (F := ⟨1, 1, b0⟩) rfl rfl]
  simp [b0, exSs, exS, evD, evB, evK, vv, R.bd, R.st, RS.sq, toD, toB, p1, isiW, W.plain, Ty.of, fin, pack_same]
theorem mod_ok {i j : Int} {S : Store} (h : 0 < j) : p2 .mod (.val (.int i)) (.val (.int j)) S = .ok (.val (.int (i % j))) S := by
  show (if 0 < j then _ else _) = _
  rw [if_pos h]; rfl
theorem fdiv_ok {i j : Int} {S : Store} (h : 0 < j) (h2 : j < 2 ^ 64) : p2 .fdiv (.val (.int i)) (.val (.int j)) S = .ok (.val (.int (i / j))) S := by
  show (if divFits j = true then _ else _) = _
  rw [if_pos]
  · rfl
  · unfold divFits
    refine decide_eq_true ⟨h, ?_⟩
    have : j.natAbs < 2 ^ 64 := by omega
    exact Nat.lt_trans (Nat.log2_lt (by omega) |>.mpr this) (by decide)
theorem mul_ok {i j : Int} {S : Store} (h : i.natAbs < 2 ^ 100) (h2 : j.natAbs < 2 ^ 100) : p2 .mul (.val (.int i)) (.val (.int j)) S = .ok (.val (.int (i * j))) S := by
  show (if mulFits i j = true then _ else _) = _
  rw [if_pos]
  · rfl
  · unfold mulFits
    have lg : ∀ n : Nat, n < 2 ^ 100 → n.log2 < 100 := fun n hn => by
      by_cases z : n = 0
      · subst z; decide
      · exact (Nat.log2_lt z).mpr hn
    have := lg _ h
    have := lg _ h2
    exact decide_eq_true (by omega)
theorem add_ok {i j : Int} {S : Store} : p2 .add (.val (.int i)) (.val (.int j)) S = .ok (.val (.int (i + j))) S := rfl
theorem sub_ok {i j : Int} {S : Store} : p2 .sub (.val (.int i)) (.val (.int j)) S = .ok (.val (.int (i - j))) S := rfl
theorem ix_ref {S : Store} {k : Nat} {ds : List D} {i : Int} {d : D} (hS : S[k]? = some (.lst ds)) (h : L2.atI ds i = some d) : p2 .ix (.val (.ref k)) (.val (.int i)) S = .ok (.val d) S := by
  have e : W.seq S (.val (.ref k)) = some (false, ds) := by show (match S[k]? with | some (.lst ds) => _ | _ => _) = _; rw [hS]
  show (match W.seq S (.val (.ref k)) with | some (_, ds) => _ | none => _) = _
  rw [e]
  show (match L2.atI ds i with | some d => vv d S | none => .bad) = _
  rw [h]; rfl
theorem setItem_ref {S : Store} {k : Nat} {ds : List D} {i : Int} {d : D} {j : Nat} (hS : S[k]? = some (.lst ds)) (h : L2.ixN ds.length i = some j) : setItem (.val (.ref k)) (.val (.int i)) d S = some (S.set k (.lst (ds.set j d))) := by
  unfold setItem
  simp only [hS, h]
  rfl
theorem r_take {n : Nat} {S : Store} {k : Nat} {a w c m : Int} (hS : S[k]? = some (.lst [.int a, .int w, .int c])) (hm : 0 < m) (hm2 : m < 2 ^ 60) (hc : 0 ≤ c) (hc2 : c < 2 ^ 40) :
    ∃ r a' c', run tab (n + 1) 7 [.ref k, .int m] S = .ok (.int r) (S.set k (.lst [.int a', .int w, .int c'])) ∧ 0 ≤ r ∧ r < m ∧ c ≤ c' ∧ c' ≤ c + 1 := by
  have hk : k < S.length := (List.getElem?_eq_some_iff.mp hS).1
  have i0 : p2 .ix (.val (.ref k)) (.val (.int 0)) S = .ok (.val (.int a)) S := ix_ref hS rfl
  have i1 : p2 .ix (.val (.ref k)) (.val (.int 1)) S = .ok (.val (.int w)) S := ix_ref hS rfl
  have i2 : p2 .ix (.val (.ref k)) (.val (.int 2)) S = .ok (.val (.int c)) S := ix_ref hS rfl
  have pk : ∀ (r : Int) (ds : List D), D.unds S.length ds = true → pack S (.int r) (S.set k (.lst ds)) = .ok (.int r) (S.set k (.lst ds)) := fun r ds h => by
    have := pack_set (T := []) (d := .int r) (o := .lst ds) hk h und_int
    rwa [List.append_nil] at this
  rw [run_fin (F := ⟨2, 4, b7⟩) rfl rfl]
  by_cases hw : w = 0
  · refine ⟨a % m, a / m, c, ?_, Int.emod_nonneg _ (by omega), Int.emod_lt_of_pos _ hm, by omega, by omega⟩
    have s0 : ∀ d, setItem (.val (.ref k)) (.val (.int 0)) d S = some (S.set k (.lst [d, .int w, .int c])) := fun d => setItem_ref (j := 0) hS rfl
    simp [b7, exSs, exS, evD, evB, evK, vv, R.bd, R.st, RS.sq, toD, toB, bindTg, fin, i0, i1, i2, eq_ii, mod_ok hm, fdiv_ok hm (by omega : m < 2 ^ 64), hw, s0, pk]
  · have s2 : ∀ d, setItem (.val (.ref k)) (.val (.int 2)) d S = some (S.set k (.lst [.int a, .int w, d])) := fun d => setItem_ref (j := 2) hS rfl
    have hS2 : (S.set k (.lst [.int a, .int w, .int (c + 1)]))[k]? = some (.lst [.int a, .int w, .int (c + 1)]) := List.getElem?_set_self hk
    have j0 : p2 .ix (.val (.ref k)) (.val (.int 0)) (S.set k (.lst [.int a, .int w, .int (c + 1)])) = .ok (.val (.int a)) (S.set k (.lst [.int a, .int w, .int (c + 1)])) := ix_ref hS2 rfl
    have j2 : p2 .ix (.val (.ref k)) (.val (.int 2)) (S.set k (.lst [.int a, .int w, .int (c + 1)])) = .ok (.val (.int (c + 1))) (S.set k (.lst [.int a, .int w, .int (c + 1)])) := ix_ref hS2 rfl
    have q1 : 0 ≤ a % 2147483647 ∧ a % 2147483647 < 2147483647 := ⟨Int.emod_nonneg _ (by decide), Int.emod_lt_of_pos _ (by decide)⟩
    have sq0 : 0 ≤ (c + 1) * (c + 1) := Int.mul_nonneg (by omega) (by omega)
    have sq : (c + 1) * (c + 1) ≤ 2 ^ 41 * 2 ^ 41 := Int.mul_le_mul (by omega) (by omega) (by omega) (by decide)
    have m1 : ∀ T : Store, p2 .mul (.val (.int (c + 1))) (.val (.int (c + 1))) T = .ok (.val (.int ((c + 1) * (c + 1)))) T := fun T => mul_ok (by omega) (by omega)
    have m2 : ∀ T : Store, p2 .mul (.val (.int (a % 2147483647))) (.val (.int ((c + 1) * (c + 1) + 48271))) T = .ok (.val (.int (a % 2147483647 * ((c + 1) * (c + 1) + 48271)))) T := fun T => mul_ok (by omega) (by omega)
    generalize hx : (a % 2147483647 * ((c + 1) * (c + 1) + 48271) + (c + 1)) % 2147483629 = x at *
    have q2 : 0 ≤ x ∧ x < 2147483629 := by rw [← hx]; exact ⟨Int.emod_nonneg _ (by decide), Int.emod_lt_of_pos _ (by decide)⟩
    have m3 : ∀ T : Store, p2 .mul (.val (.int x)) (.val (.int x)) T = .ok (.val (.int (x * x))) T := fun T => mul_ok (by omega) (by omega)
    have q3 : 0 ≤ x * x % 2147483587 ∧ x * x % 2147483587 < 2147483587 := ⟨Int.emod_nonneg _ (by decide), Int.emod_lt_of_pos _ (by decide)⟩
    have m4 : ∀ T : Store, p2 .mul (.val (.int (x * x % 2147483587))) (.val (.int 69621)) T = .ok (.val (.int (x * x % 2147483587 * 69621))) T := fun T => mul_ok (by omega) (by decide)
    refine ⟨x * x % 2147483587 * 69621 % 2147483563 / 3 % m, a, c + 1, ?_, Int.emod_nonneg _ (by omega), Int.emod_lt_of_pos _ hm, by omega, by omega⟩
    simp [b7, exSs, exS, evD, evB, evK, vv, R.bd, R.st, RS.sq, toD, toB, bindTg, fin, i0, i1, i2, j0, j2, eq_ii, mod_ok, fdiv_ok, add_ok, mod_ok hm, hw, s2, pk, m1, m2, m3, m4, hx]
end Mi.L

namespace Mi.L
open PySem Mi
/-! ### values, their order -/
abbrev Vl := Int ⊕ Str
abbrev Cl := Str × Str
def dv : Vl → D
  | .inl i => .int i
  | .inr s => .str s
def dc (c : Cl) : D := .tup [.str c.1, .str c.2]
def dop : Option Vl → D
  | none => .non
  | some v => dv v
def vlt : Vl → Vl → Bool
  | .inl a, .inl b => decide (a < b)
  | .inl _, .inr _ => true
  | .inr _, .inl _ => false
  | .inr a, .inr b => decide (a.cps.toList < b.cps.toList)
theorem str_ext {a b : Str} (h : a.cps.toList = b.cps.toList) : a = b := W.str_of_cps h
theorem vlt_irr (a : Vl) : vlt a a = false := by
  cases a with
  | inl a => simp [vlt]
  | inr a => simpa [vlt] using List.lt_irrefl a.cps.toList
theorem vlt_tr {a b c : Vl} (h1 : vlt a b = true) (h2 : vlt b c = true) : vlt a c = true := by
  cases a with
  | inl a =>
    cases b with
    | inl b =>
      cases c with
      | inl c => simp only [vlt, decide_eq_true_eq] at *; omega
      | inr c => rfl
    | inr b =>
      cases c with
      | inl c => simp [vlt] at h2
      | inr c => rfl
  | inr a =>
    cases b with
    | inl b => simp [vlt] at h1
    | inr b =>
      cases c with
      | inl c => simp [vlt] at h2
      | inr c => simp only [vlt, decide_eq_true_eq] at *; exact List.lt_trans h1 h2
theorem vlt_tot {a b : Vl} (h1 : vlt a b = false) (h2 : vlt b a = false) : a = b := by
  cases a with
  | inl a =>
    cases b with
    | inl b =>
      simp only [vlt, decide_eq_false_iff_not] at *
      have : a = b := by omega
      rw [this]
    | inr b => simp [vlt] at h1
  | inr a =>
    cases b with
    | inl b => simp [vlt] at h2
    | inr b =>
      simp only [vlt, decide_eq_false_iff_not] at *
      have := PyProof.Rows.strKind.total a.cps.toList b.cps.toList (by simpa using h1) (by simpa using h2)
      rw [str_ext this]
theorem eq_is {S : Store} {i : Int} {j : Str} : p2 .eq (.val (.int i)) (.val (.str j)) S = .ok (.val (.bl false)) S := rfl
theorem eq_si {S : Store} {i : Int} {j : Str} : p2 .eq (.val (.str j)) (.val (.int i)) S = .ok (.val (.bl false)) S := rfl
theorem r_kind {n : Nat} {S : Store} (v : Vl) : run tab (n + 1) 0 [dv v] S = .ok (.int (match v with | .inl _ => 1 | .inr _ => 2)) S := by
  cases v with
  | inl i => exact r_kind_int
  | inr i => exact r_kind_str
theorem r_side {n : Nat} {S : Store} (v w : Vl) : run tab (n + 2) 1 [dv v, dv w] S = .ok (.int (if vlt v w = true then -1 else if v = w then 0 else 1)) S := by
  have mz : ∀ b : Int, (b = 0 ∨ b = 1) → p2 .mul (.val (.int 2)) (.val (.int b)) S = .ok (.val (.int (2 * b))) S := fun b hb => mul_ok (by decide) (by omega)
  rw [run_fin (F := ⟨2, 5, b1⟩) rfl rfl]
  cases v with
  | inl i =>
    cases w with
    | inl j =>
      by_cases h : i = j
      · subst h
        simp [b1, exSs, exS, evD, evB, evK, evDs, vv, R.bd, R.st, RS.sq, toD, toB, bindTg, fin, dv, r_kind_int, r_kind_str, ne_ii, eq_ii, pack_same, vlt]
      · by_cases hl : i < j
        · simp [b1, exSs, exS, evD, evB, evK, evDs, vv, R.bd, R.st, RS.sq, toD, toB, bindTg, fin, dv, r_kind_int, r_kind_str, ne_ii, eq_ii, lt_ii, pack_same, vlt, h, hl, isiW, W.plain, Ty.of, p1, mz, sub_ok]
        · simp [b1, exSs, exS, evD, evB, evK, evDs, vv, R.bd, R.st, RS.sq, toD, toB, bindTg, fin, dv, r_kind_int, r_kind_str, ne_ii, eq_ii, lt_ii, pack_same, vlt, h, hl, isiW, W.plain, Ty.of, p1, mz, sub_ok]
    | inr j =>
      simp [b1, exSs, exS, evD, evB, evK, evDs, vv, R.bd, R.st, RS.sq, toD, toB, bindTg, fin, dv, r_kind_int, r_kind_str, ne_ii, eq_ii, lt_ii, pack_same, vlt, isiW, W.plain, Ty.of, p1, mz, sub_ok]
  | inr i =>
    cases w with
    | inl j =>
      simp [b1, exSs, exS, evD, evB, evK, evDs, vv, R.bd, R.st, RS.sq, toD, toB, bindTg, fin, dv, r_kind_int, r_kind_str, ne_ii, eq_ii, lt_ii, pack_same, vlt, isiW, W.plain, Ty.of, p1, mz, sub_ok]
    | inr j =>
      by_cases h : i = j
      · subst h
        simp [b1, exSs, exS, evD, evB, evK, evDs, vv, R.bd, R.st, RS.sq, toD, toB, bindTg, fin, dv, r_kind_int, r_kind_str, ne_ii, eq_ss, pack_same, vlt]
      · by_cases hl : i.cps.toList < j.cps.toList
        · simp [b1, exSs, exS, evD, evB, evK, evDs, vv, R.bd, R.st, RS.sq, toD, toB, bindTg, fin, dv, r_kind_int, r_kind_str, ne_ii, eq_ss, lt_ss, pack_same, vlt, h, hl, isiW, W.plain, Ty.of, p1, mz, sub_ok]
        · simp [b1, exSs, exS, evD, evB, evK, evDs, vv, R.bd, R.st, RS.sq, toD, toB, bindTg, fin, dv, r_kind_int, r_kind_str, ne_ii, eq_ss, lt_ss, pack_same, vlt, h, hl, isiW, W.plain, Ty.of, p1, mz, sub_ok]
theorem r_ahead {n : Nat} {S : Store} (v w : Vl) : run tab (n + 3) 2 [dv v, dv w] S = .ok (.bl (vlt v w)) S := by
  rw [run_fin (F := ⟨2, 2, b2⟩) rfl rfl]
  simp [b2, exSs, exS, evD, evB, evK, evDs, vv, R.bd, R.st, RS.sq, toD, toB, fin, r_side, lt_ii, pack_same]
  by_cases h : vlt v w = true
  · simp [h]
  · simp only [Bool.not_eq_true] at h
    simp [h]
    split <;> decide
def fur (v o : Option Vl) (lower : Bool) : Option Vl := match v with
  | none => o
  | some a => match o with
    | none => some a
    | some b => if vlt a b = lower then some a else some b
theorem eq_bb {S : Store} {i j : Bool} : p2 .eq (.val (.bl i)) (.val (.bl j)) S = .ok (.val (.bl (decide (i = j)))) S := by
  cases i <;> cases j <;> rfl
theorem isN_non {S : Store} : p1 .isN (.val .non) S = .ok (.val (.bl true)) S := rfl
theorem isN_dv {S : Store} {v : Vl} : p1 .isN (.val (dv v)) S = .ok (.val (.bl false)) S := by cases v <;> rfl
theorem notN_non {S : Store} : p1 .notN (.val .non) S = .ok (.val (.bl false)) S := rfl
theorem notN_dv {S : Store} {v : Vl} : p1 .notN (.val (dv v)) S = .ok (.val (.bl true)) S := by cases v <;> rfl
theorem und_dv {k : Nat} {v : Vl} : D.und k (dv v) = true := by cases v <;> simp [dv]
theorem und_dop {k : Nat} {v : Option Vl} : D.und k (dop v) = true := by cases v <;> simp [dop, und_dv]
theorem r_further {n : Nat} {S : Store} (v o : Option Vl) (lower : Bool) : run tab (n + 4) 3 [dop v, dop o, .bl lower] S = .ok (dop (fur v o lower)) S := by
  rw [run_fin (F := ⟨3, 3, b3⟩) rfl rfl]
  cases v with
  | none => cases o <;> simp [b3, exSs, exS, evD, evB, evK, evDs, vv, R.bd, R.st, RS.sq, toD, toB, fin, dop, isN_non, fur, pack_same, und_dv]
  | some a =>
    cases o with
    | none => simp [b3, exSs, exS, evD, evB, evK, evDs, vv, R.bd, R.st, RS.sq, toD, toB, fin, dop, isN_non, isN_dv, fur, pack_same, und_dv]
    | some b =>
      by_cases h : vlt a b = lower
      · simp [b3, exSs, exS, evD, evB, evK, evDs, vv, R.bd, R.st, RS.sq, toD, toB, fin, dop, isN_dv, fur, pack_same, und_dv, r_ahead, eq_bb, h]
      · simp [b3, exSs, exS, evD, evB, evK, evDs, vv, R.bd, R.st, RS.sq, toD, toB, fin, dop, isN_dv, fur, pack_same, und_dv, r_ahead, eq_bb, h]
end Mi.L

namespace Mi.L
open PySem Mi
theorem sx0 : ((Str.ofString "test") = Str.ofString "not") = False := eq_false (by decide +kernel)
theorem sx1 : ((Str.ofString "test") = Str.ofString "and") = False := eq_false (by decide +kernel)
theorem sx2 : ((Str.ofString "test") = Str.ofString "or") = False := eq_false (by decide +kernel)
theorem sx3 : ((Str.ofString "not") = Str.ofString "test") = False := eq_false (by decide +kernel)
theorem sx4 : ((Str.ofString "not") = Str.ofString "and") = False := eq_false (by decide +kernel)
theorem sx5 : ((Str.ofString "not") = Str.ofString "or") = False := eq_false (by decide +kernel)
theorem sx6 : ((Str.ofString "and") = Str.ofString "test") = False := eq_false (by decide +kernel)
theorem sx7 : ((Str.ofString "and") = Str.ofString "not") = False := eq_false (by decide +kernel)
theorem sx8 : ((Str.ofString "and") = Str.ofString "or") = False := eq_false (by decide +kernel)
theorem sx9 : ((Str.ofString "or") = Str.ofString "test") = False := eq_false (by decide +kernel)
theorem sx10 : ((Str.ofString "or") = Str.ofString "not") = False := eq_false (by decide +kernel)
theorem sx11 : ((Str.ofString "or") = Str.ofString "and") = False := eq_false (by decide +kernel)
theorem sx12 : ((Str.ofString "value") = Str.ofString "column") = False := eq_false (by decide +kernel)
theorem sx13 : ((Str.ofString "column") = Str.ofString "value") = False := eq_false (by decide +kernel)
theorem sx14 : ((Str.ofString "=") = Str.ofString "#") = False := eq_false (by decide +kernel)
theorem sx15 : ((Str.ofString "=") = Str.ofString "<") = False := eq_false (by decide +kernel)
theorem sx16 : ((Str.ofString "=") = Str.ofString ">") = False := eq_false (by decide +kernel)
theorem sx17 : ((Str.ofString "=") = Str.ofString "<=") = False := eq_false (by decide +kernel)
theorem sx18 : ((Str.ofString "=") = Str.ofString ">=") = False := eq_false (by decide +kernel)
theorem sx19 : ((Str.ofString "#") = Str.ofString "=") = False := eq_false (by decide +kernel)
theorem sx20 : ((Str.ofString "#") = Str.ofString "<") = False := eq_false (by decide +kernel)
theorem sx21 : ((Str.ofString "#") = Str.ofString ">") = False := eq_false (by decide +kernel)
theorem sx22 : ((Str.ofString "#") = Str.ofString "<=") = False := eq_false (by decide +kernel)
theorem sx23 : ((Str.ofString "#") = Str.ofString ">=") = False := eq_false (by decide +kernel)
theorem sx24 : ((Str.ofString "<") = Str.ofString "=") = False := eq_false (by decide +kernel)
theorem sx25 : ((Str.ofString "<") = Str.ofString "#") = False := eq_false (by decide +kernel)
theorem sx26 : ((Str.ofString "<") = Str.ofString ">") = False := eq_false (by decide +kernel)
theorem sx27 : ((Str.ofString "<") = Str.ofString "<=") = False := eq_false (by decide +kernel)
theorem sx28 : ((Str.ofString "<") = Str.ofString ">=") = False := eq_false (by decide +kernel)
theorem sx29 : ((Str.ofString ">") = Str.ofString "=") = False := eq_false (by decide +kernel)
theorem sx30 : ((Str.ofString ">") = Str.ofString "#") = False := eq_false (by decide +kernel)
theorem sx31 : ((Str.ofString ">") = Str.ofString "<") = False := eq_false (by decide +kernel)
theorem sx32 : ((Str.ofString ">") = Str.ofString "<=") = False := eq_false (by decide +kernel)
theorem sx33 : ((Str.ofString ">") = Str.ofString ">=") = False := eq_false (by decide +kernel)
theorem sx34 : ((Str.ofString "<=") = Str.ofString "=") = False := eq_false (by decide +kernel)
theorem sx35 : ((Str.ofString "<=") = Str.ofString "#") = False := eq_false (by decide +kernel)
theorem sx36 : ((Str.ofString "<=") = Str.ofString "<") = False := eq_false (by decide +kernel)
theorem sx37 : ((Str.ofString "<=") = Str.ofString ">") = False := eq_false (by decide +kernel)
theorem sx38 : ((Str.ofString "<=") = Str.ofString ">=") = False := eq_false (by decide +kernel)
theorem sx39 : ((Str.ofString ">=") = Str.ofString "=") = False := eq_false (by decide +kernel)
theorem sx40 : ((Str.ofString ">=") = Str.ofString "#") = False := eq_false (by decide +kernel)
theorem sx41 : ((Str.ofString ">=") = Str.ofString "<") = False := eq_false (by decide +kernel)
theorem sx42 : ((Str.ofString ">=") = Str.ofString ">") = False := eq_false (by decide +kernel)
theorem sx43 : ((Str.ofString ">=") = Str.ofString "<=") = False := eq_false (by decide +kernel)
-- sx0, sx1, sx2, sx3, sx4, sx5, sx6, sx7, sx8, sx9, sx10, sx11, sx12, sx13, sx14, sx15, sx16, sx17, sx18, sx19, sx20, sx21, sx22, sx23, sx24, sx25, sx26, sx27, sx28, sx29, sx30, sx31, sx32, sx33, sx34, sx35, sx36, sx37, sx38, sx39, sx40, sx41, sx42, sx43
/-! ### conditions -/
inductive Sg where
  | eq | ne | lt | gt | le | ge
def Sg.str : Sg → Str
  | .eq => "=" | .ne => "#" | .lt => "<" | .gt => ">" | .le => "<=" | .ge => ">="
inductive Cd where
  | tst (c : Cl) (s : Sg) (v : Vl)
  | tcol (c : Cl) (s : Sg) (c2 : Cl)
  | neg (x : Cd)
  | many (a : Bool) (xs : List Cd)
mutual
def enc : Cd → D
  | .tst c s v => .tup [.str "test", dc c, .str s.str, .tup [.str "value", dv v]]
  | .tcol c s c2 => .tup [.str "test", dc c, .str s.str, .tup [.str "column", dc c2]]
  | .neg x => .tup [.str "not", enc x]
  | .many a xs => .tup [.str (if a = true then "and" else "or"), .tup (encs xs)]
def encs : List Cd → List D
  | [] => []
  | x :: r => enc x :: encs r
end
/-- the bounds of one test -/
def tb (s : Sg) (v : Vl) : Option Vl × Option Vl := match s with
  | .eq => (some v, some v)
  | .lt => (none, some v)
  | .le => (none, some v)
  | .gt => (some v, none)
  | .ge => (some v, none)
  | .ne => (none, none)
def stepB (a : Bool) (p q : Option Vl × Option Vl) : Option Vl × Option Vl :=
  if a = true then (fur p.1 q.1 false, fur p.2 q.2 true)
  else (if (p.1 = none ∨ q.1 = none) then none else fur p.1 q.1 true, if (p.2 = none ∨ q.2 = none) then none else fur p.2 q.2 false)
mutual
def bnd (col : Cl) : Cd → Option Vl × Option Vl
  | .tst c s v => if c = col then tb s v else (none, none)
  | .tcol _ _ _ => (none, none)
  | .neg _ => (none, none)
  | .many a xs => match bnds col xs with
    | [] => (none, none)
    | p :: r => r.foldl (stepB a) p
def bnds (col : Cl) : List Cd → List (Option Vl × Option Vl)
  | [] => []
  | x :: r => bnd col x :: bnds col r
end
def dpair (p : Option Vl × Option Vl) : D := .tup [dop p.1, dop p.2]
theorem ix_tup {S : Store} {ds : List D} {i : Int} {d : D} (h : L2.atI ds i = some d) : p2 .ix (.val (.tup ds)) (.val (.int i)) S = .ok (.val d) S := by
  show (match L2.atI ds i with | some d => vv d S | none => .bad) = _
  rw [h]; rfl
theorem py_dc {S : Store} {c : Cl} : W.py S (.val (dc c)) = some (.tuple [.str c.1, .str c.2]) := rfl
theorem ne_cc {S : Store} {a b : Cl} : p2 .ne (.val (dc a)) (.val (dc b)) S = .ok (.val (.bl (!decide (a = b)))) S := by
  have e : p2 .ne (.val (dc a)) (.val (dc b)) S = vv (.bl (!PyData.eqv (.tuple [.str a.1, .str a.2]) (.tuple [.str b.1, .str b.2]))) S := rfl
  rw [e]
  obtain ⟨a1, a2⟩ := a
  obtain ⟨b1, b2⟩ := b
  by_cases h1 : a1 = b1
  · by_cases h2 : a2 = b2
    · simp [PyData.eqv, PyData.eqvAll, h1, h2, vv]
    · simp [PyData.eqv, PyData.eqvAll, h1, h2, vv]
  · simp [PyData.eqv, PyData.eqvAll, h1, vv]
theorem in_ss {S : Store} {s a b : Str} : p2 .inn (.val (.str s)) (.val (.tup [.str a, .str b])) S = .ok (.val (.bl (decide (s = a) || decide (s = b)))) S := by
  have e : p2 .inn (.val (.str s)) (.val (.tup [.str a, .str b])) S = vv (.bl ([PyData.str a, PyData.str b].any fun y => PyData.eqv y (.str s))) S := rfl
  rw [e]
  have h1 : ∀ x : Str, (x == s) = decide (s = x) := fun x => by
    by_cases h : s = x
    · subst h; simp
    · rw [decide_eq_false h]
      have : ¬ x = s := fun z => h z.symm
      simpa using this
  simp [PyData.eqv, h1, vv]
theorem atI0 {α : Type} {x : α} {r : List α} : L2.atI (x :: r) 0 = some x := by
  have h : (0 : Int) < ((x :: r).length : Int) := by rw [List.length_cons]; omega
  unfold L2.atI L2.ixN
  rw [if_pos (by decide), if_pos h]
  rfl
theorem atI1 {α : Type} {x y : α} {r : List α} : L2.atI (x :: y :: r) 1 = some y := by
  have h : (1 : Int) < ((x :: y :: r).length : Int) := by simp; omega
  unfold L2.atI L2.ixN
  rw [if_pos (by decide), if_pos h]
  rfl
theorem atI2 {α : Type} {x y z : α} {r : List α} : L2.atI (x :: y :: z :: r) 2 = some z := by
  have h : (2 : Int) < ((x :: y :: z :: r).length : Int) := by simp; omega
  unfold L2.atI L2.ixN
  rw [if_pos (by decide), if_pos h]
  rfl
theorem atI3 {α : Type} {x y z w : α} {r : List α} : L2.atI (x :: y :: z :: w :: r) 3 = some w := by
  have h : (3 : Int) < ((x :: y :: z :: w :: r).length : Int) := by simp; omega
  unfold L2.atI L2.ixN
  rw [if_pos (by decide), if_pos h]
  rfl
theorem t0 {S : Store} {x : D} {r : List D} : p2 .ix (.val (.tup (x :: r))) (.val (.int 0)) S = .ok (.val x) S := ix_tup atI0
theorem t1 {S : Store} {x y : D} {r : List D} : p2 .ix (.val (.tup (x :: y :: r))) (.val (.int 1)) S = .ok (.val y) S := ix_tup atI1
theorem t2 {S : Store} {x y z : D} {r : List D} : p2 .ix (.val (.tup (x :: y :: z :: r))) (.val (.int 2)) S = .ok (.val z) S := ix_tup atI2
theorem t3 {S : Store} {x y z w : D} {r : List D} : p2 .ix (.val (.tup (x :: y :: z :: w :: r))) (.val (.int 3)) S = .ok (.val w) S := ix_tup atI3
theorem und_dc {k : Nat} {c : Cl} : D.und k (dc c) = true := by simp [dc]
theorem sz2 : (2 : Nat) ≤ sizeLine := by decide
theorem r_bytest {n : Nat} {S : Store} (c : Cl) (s : Sg) (v : Vl) (col : Cl) : run tab (n + 1) 4 [enc (.tst c s v), dc col] S = .ok (dpair (if c = col then tb s v else (none, none))) S := by
  rw [run_fin (F := ⟨2, 3, b4⟩) rfl rfl]
  by_cases h : c = col
  · cases s <;> simp [b4, exSs, exS, evD, evB, evK, evDs, vv, R.bd, R.st, RS.sq, toD, toB, fin, enc, t0, t1, t2, t3, ne_cc, ne_ss, eq_ss, h, in_ss, Sg.str, sx0, sx1, sx2, sx3, sx4, sx5, sx6, sx7, sx8, sx9, sx10, sx11, sx12, sx13, sx14, sx15, sx16, sx17, sx18, sx19, sx20, sx21, sx22, sx23, sx24, sx25, sx26, sx27, sx28, sx29, sx30, sx31, sx32, sx33, sx34, sx35, sx36, sx37, sx38, sx39, sx40, sx41, sx42, sx43, pack_same, dpair, dop, tb, sz2, und_dv, bindTg]
  · simp [b4, exSs, exS, evD, evB, evK, evDs, vv, R.bd, R.st, RS.sq, toD, toB, fin, enc, t0, t1, t2, t3, ne_cc, ne_ss, eq_ss, h, pack_same, dpair, dop, sz2]

theorem r_bytest2 {n : Nat} {S : Store} (c : Cl) (s : Sg) (c2 col : Cl) : run tab (n + 1) 4 [enc (.tcol c s c2), dc col] S = .ok (dpair (none, none)) S := by
  rw [run_fin (F := ⟨2, 3, b4⟩) rfl rfl]
  by_cases h : c = col
  · simp [b4, exSs, exS, evD, evB, evK, evDs, vv, R.bd, R.st, RS.sq, toD, toB, fin, enc, t0, t1, t2, t3, ne_cc, ne_ss, eq_ss, h, sx0, sx1, sx2, sx3, sx4, sx5, sx6, sx7, sx8, sx9, sx10, sx11, sx12, sx13, sx14, sx15, sx16, sx17, sx18, sx19, sx20, sx21, sx22, sx23, sx24, sx25, sx26, sx27, sx28, sx29, sx30, sx31, sx32, sx33, sx34, sx35, sx36, sx37, sx38, sx39, sx40, sx41, sx42, sx43, pack_same, dpair, dop, sz2, und_dv, bindTg]
  · simp [b4, exSs, exS, evD, evB, evK, evDs, vv, R.bd, R.st, RS.sq, toD, toB, fin, enc, t0, t1, t2, t3, ne_cc, ne_ss, eq_ss, h, pack_same, dpair, dop, sz2]
mutual
def dep : Cd → Nat
  | .tst _ _ _ => 0
  | .tcol _ _ _ => 0
  | .neg x => dep x + 1
  | .many _ xs => deps xs + 1
def deps : List Cd → Nat
  | [] => 0
  | x :: r => max (dep x) (deps r)
end
mutual
/-- nothing joined is empty -/
def wf : Cd → Prop
  | .tst _ _ _ => True
  | .tcol _ _ _ => True
  | .neg x => wf x
  | .many _ xs => xs ≠ [] ∧ xs.length ≤ 10 ∧ wfs xs
def wfs : List Cd → Prop
  | [] => True
  | x :: r => wf x ∧ wfs r
end
@[simp] theorem isLive_nil {S : Store} : isLive [] S := fun p hp => by cases hp
theorem und_pair {k : Nat} {p : Option Vl × Option Vl} : D.und k (dpair p) = true := by simp [dpair, und_dop]
theorem isN_dop {S : Store} {v : Option Vl} : p1 .isN (.val (dop v)) S = .ok (.val (.bl v.isNone)) S := by
  cases v with
  | none => rfl
  | some v => exact isN_dv
mutual
theorem und_enc {k : Nat} : ∀ c : Cd, D.und k (enc c) = true
  | .tst c s v => by simp [enc, und_dc, und_dv]
  | .tcol c s v => by simp [enc, und_dc]
  | .neg x => by simp [enc, und_enc x]
  | .many a xs => by simp [enc, und_encs xs]
theorem und_encs {k : Nat} : ∀ xs : List Cd, D.unds k (encs xs) = true
  | [] => by simp [encs]
  | x :: r => by simp [encs, und_enc x, und_encs r]
end
theorem isN_tup {S : Store} {ds : List D} : p1 .isN (.val (.tup ds)) S = .ok (.val (.bl false)) S := rfl
theorem cut1 {S : Store} {d : D} {r : List D} : cutW (.val (.tup (d :: r))) (some 1) none S = .ok (.val (.tup r)) S := by
  have e : cutD (d :: r) (some 1) none = r := by
    unfold cutD
    have h1 : HT.sIx (d :: r).length 0 (some ((1 : Nat) : Int)) = 1 := by rw [HT.sIx_nat]; simp
    have h1 : HT.sIx (d :: r).length 0 (some 1) = 1 := h1
    rw [h1, HT.sIx_none, List.drop_one, List.tail_cons, List.length_cons, Nat.add_sub_cancel, List.take_length]
  show (if (cutD (d :: r) (some 1) none).length = (d :: r).length then .bad else vv (.tup (cutD (d :: r) (some 1) none)) S) = _
  rw [e, if_neg (by simp)]
  rfl
theorem encs_len : ∀ xs : List Cd, (encs xs).length = xs.length
  | [] => rfl
  | x :: r => by rw [encs, List.length_cons, List.length_cons, encs_len r]
theorem forL_nx {live : List (Nat × List D)} {turn : D → Env → Store → RS} {d : D} {r : List D} {ρ ρ' : Env} {S S' : Store} (h : isLive live S) (ht : turn d ρ S = .ok .nx ρ' S') : forL live turn (d :: r) ρ S = forL live turn r ρ' S' := by
  rw [forL, if_pos h, ht]
theorem forL_end {live : List (Nat × List D)} {turn : D → Env → Store → RS} {ρ : Env} {S : Store} (h : isLive live S) : forL live turn [] ρ S = .ok .nx ρ S := by
  rw [forL, if_pos h]
theorem bturn {S : Store} {col : Cl} {m : Nat} {a : Bool} {e : D} {y : Cd} {p q : Option Vl × Option Vl} {o5 o6 : Option D} (hy : run tab (m + 4) 5 [enc y, dc col] S = .ok (dpair q) S) :
    exSs (run tab (m + 4)) b5_0 [some (.tup [.str (if a = true then "and" else "or"), e]), some (dc col), some (dop p.1), some (dop p.2), some (enc y), o5, o6] S =
      .ok .nx [some (.tup [.str (if a = true then "and" else "or"), e]), some (dc col), some (dop (stepB a p q).1), some (dop (stepB a p q).2), some (enc y), some (dop q.1), some (dop q.2)] S := by
  have hy' : run tab (m + 4) 5 [enc y, dc col] S = .ok (.tup [dop q.1, dop q.2]) S := hy
  have f1 := fun (v o : Option Vl) (l : Bool) => r_further (n := m) (S := S) v o l
  cases a with
  | true => simp [b5_0, exSs, exS, evD, evB, evK, evDs, vv, R.bd, R.st, RS.sq, toD, toB, bindTg, bindTs, hy', t0, eq_ss, f1, stepB]
  | false =>
    have dn : dop none = .non := rfl
    obtain ⟨p1, p2⟩ := p
    obtain ⟨q1, q2⟩ := q
    cases p1 <;> cases q1 <;> cases p2 <;> cases q2 <;> simp [b5_0, exSs, exS, evD, evB, evK, evDs, vv, R.bd, R.st, RS.sq, toD, toB, bindTg, bindTs, hy', t0, eq_ss, f1, stepB, isN_dop, isN_non, sx0, sx1, sx2, sx3, sx4, sx5, sx6, sx7, sx8, sx9, sx10, sx11, sx12, sx13, sx14, sx15, sx16, sx17, sx18, sx19, sx20, sx21, sx22, sx23, sx24, sx25, sx26, sx27, sx28, sx29, sx30, sx31, sx32, sx33, sx34, sx35, sx36, sx37, sx38, sx39, sx40, sx41, sx42, sx43, dn]
theorem bloop {S : Store} {col : Cl} {m : Nat} {a : Bool} {e : D} : ∀ (r : List Cd), (∀ y ∈ r, run tab (m + 4) 5 [enc y, dc col] S = .ok (dpair (bnd col y)) S) → ∀ (p : Option Vl × Option Vl) (o4 o5 o6 : Option D), ∃ o4' o5' o6',
    forL [] (fun d ρ S => match bindTg (.nm 4) d ρ with | some ρ => exSs (run tab (m + 4)) b5_0 ρ S | none => .bad) (encs r) [some (.tup [.str (if a = true then "and" else "or"), e]), some (dc col), some (dop p.1), some (dop p.2), o4, o5, o6] S =
      .ok .nx [some (.tup [.str (if a = true then "and" else "or"), e]), some (dc col), some (dop ((bnds col r).foldl (stepB a) p).1), some (dop ((bnds col r).foldl (stepB a) p).2), o4', o5', o6'] S
  | [], _, p, o4, o5, o6 => ⟨o4, o5, o6, by simp [encs, forL, bnds]⟩
  | y :: r, h, p, o4, o5, o6 => by
    obtain ⟨o4', o5', o6', ih⟩ := bloop (a := a) (e := e) r (fun z hz => h z (List.mem_cons_of_mem _ hz)) (stepB a p (bnd col y)) (some (enc y)) (some (dop (bnd col y).1)) (some (dop (bnd col y).2))
    refine ⟨o4', o5', o6', ?_⟩
    rw [encs, forL_nx isLive_nil (bturn (h y List.mem_cons_self)), ih, bnds, List.foldl_cons]
mutual
theorem r_bounds {S : Store} {col : Cl} : ∀ (c : Cd), wf c → ∀ n, run tab (n + dep c + 8) 5 [enc c, dc col] S = .ok (dpair (bnd col c)) S
  | .tst c s v, _, n => by
    show run tab ((n + 7) + 1) 5 _ S = _
    have h := r_bytest (n := n + 6) (S := S) c s v col
    rw [run_fin (F := ⟨2, 7, b5⟩) rfl rfl]
    have e : enc (.tst c s v) = .tup [.str "test", dc c, .str s.str, .tup [.str "value", dv v]] := by rw [enc]
    have nn : ∀ T : Store, p1 .isN (.val (.tup [.str "test", dc c, .str s.str, .tup [.str "value", dv v]])) T = .ok (.val (.bl false)) T := fun T => rfl
    rw [e] at h ⊢
    simp [b5, exSs, exS, evD, evB, evK, evDs, vv, R.bd, R.st, RS.sq, toD, toB, fin, t0, eq_ss, sx0, sx1, sx2, sx3, sx4, sx5, sx6, sx7, sx8, sx9, sx10, sx11, sx12, sx13, sx14, sx15, sx16, sx17, sx18, sx19, sx20, sx21, sx22, sx23, sx24, sx25, sx26, sx27, sx28, sx29, sx30, sx31, sx32, sx33, sx34, sx35, sx36, sx37, sx38, sx39, sx40, sx41, sx42, sx43, nn, h, pack_same, und_pair, bnd]
  | .tcol c s v, _, n => by
    show run tab ((n + 7) + 1) 5 _ S = _
    have h := r_bytest2 (n := n + 6) (S := S) c s v col
    rw [run_fin (F := ⟨2, 7, b5⟩) rfl rfl]
    have e : enc (.tcol c s v) = .tup [.str "test", dc c, .str s.str, .tup [.str "column", dc v]] := by rw [enc]
    have nn : ∀ T : Store, p1 .isN (.val (.tup [.str "test", dc c, .str s.str, .tup [.str "column", dc v]])) T = .ok (.val (.bl false)) T := fun T => rfl
    rw [e] at h ⊢
    simp [b5, exSs, exS, evD, evB, evK, evDs, vv, R.bd, R.st, RS.sq, toD, toB, fin, t0, eq_ss, sx0, sx1, sx2, sx3, sx4, sx5, sx6, sx7, sx8, sx9, sx10, sx11, sx12, sx13, sx14, sx15, sx16, sx17, sx18, sx19, sx20, sx21, sx22, sx23, sx24, sx25, sx26, sx27, sx28, sx29, sx30, sx31, sx32, sx33, sx34, sx35, sx36, sx37, sx38, sx39, sx40, sx41, sx42, sx43, nn, h, pack_same, und_pair, bnd]
  | .neg x, _, n => by
    have e1 : n + dep (.neg x) + 8 = (n + dep x + 8) + 1 := by rw [dep]; omega
    rw [e1, run_fin (F := ⟨2, 7, b5⟩) rfl rfl]
    have e : enc (.neg x) = .tup [.str "not", enc x] := by rw [enc]
    have nn : ∀ T : Store, p1 .isN (.val (.tup [.str "not", enc x])) T = .ok (.val (.bl false)) T := fun T => rfl
    rw [e]
    simp [b5, exSs, exS, evD, evB, evK, evDs, vv, R.bd, R.st, RS.sq, toD, toB, fin, t0, eq_ss, sx0, sx1, sx2, sx3, sx4, sx5, sx6, sx7, sx8, sx9, sx10, sx11, sx12, sx13, sx14, sx15, sx16, sx17, sx18, sx19, sx20, sx21, sx22, sx23, sx24, sx25, sx26, sx27, sx28, sx29, sx30, sx31, sx32, sx33, sx34, sx35, sx36, sx37, sx38, sx39, sx40, sx41, sx42, sx43, nn, pack_same, bnd, dpair, dop, sz2]
  | .many a xs, hw, n => by
    have e1 : n + dep (.many a xs) + 8 = (n + deps xs + 8) + 1 := by rw [dep]; omega
    rw [e1, run_fin (F := ⟨2, 7, b5⟩) rfl rfl]
    unfold wf at hw
    obtain ⟨h0, h1, h2⟩ := hw
    have all := r_boundss (S := S) (col := col) xs h2 n
    cases xs with
    | nil => exact absurd rfl h0
    | cons x r =>
      have hx := all x List.mem_cons_self
      obtain ⟨o4, o5, o6, lp⟩ := bloop (S := S) (col := col) (m := n + deps (x :: r) + 4) (a := a) (e := .tup (enc x :: encs r)) r (fun y hy => all y (List.mem_cons_of_mem _ hy)) (bnd col x) none none none
      have e : enc (.many a (x :: r)) = .tup [.str (if a = true then "and" else "or"), .tup (enc x :: encs r)] := by rw [enc, encs]
      have nn : ∀ T : Store, p1 .isN (.val (.tup [.str (if a = true then "and" else "or"), .tup (enc x :: encs r)])) T = .ok (.val (.bl false)) T := fun T => rfl
      have hx : run tab (n + deps (x :: r) + 8) 5 [enc x, dc col] S = .ok (.tup [dop (bnd col x).1, dop (bnd col x).2]) S := hx
      have eb : bnd col (.many a (x :: r)) = (bnds col r).foldl (stepB a) (bnd col x) := by rw [bnd, bnds]
      rw [e, eb]
      generalize (bnds col r).foldl (stepB a) (bnd col x) = q at lp ⊢
      cases a with
      | true =>
        have lp : forL [] (fun d ρ S => exSs (run tab (n + deps (x :: r) + 8)) b5_0 (ρ.set 4 (some d)) S) (encs r) [some (.tup [.str "and", .tup (enc x :: encs r)]), some (dc col), some (dop (bnd col x).1), some (dop (bnd col x).2), none, none, none] S = .ok .nx [some (.tup [.str "and", .tup (enc x :: encs r)]), some (dc col), some (dop q.1), some (dop q.2), o4, o5, o6] S := lp
        simp [b5, exSs, exS, evD, evB, evK, evDs, evWs, vv, R.bd, R.st, RS.sq, toD, toB, fin, t0, t1, eq_ss, sx0, sx1, sx2, sx3, sx4, sx5, sx6, sx7, sx8, sx9, sx10, sx11, sx12, sx13, sx14, sx15, sx16, sx17, sx18, sx19, sx20, sx21, sx22, sx23, sx24, sx25, sx26, sx27, sx28, sx29, sx30, sx31, sx32, sx33, sx34, sx35, sx36, sx37, sx38, sx39, sx40, sx41, sx42, sx43, isN_tup, hx, bindTs, partI, optI, cut1, its, W.seq, live1, pack_same, und_dop, dpair, sz2, lp, bindTg]
      | false =>
        have lp : forL [] (fun d ρ S => exSs (run tab (n + deps (x :: r) + 8)) b5_0 (ρ.set 4 (some d)) S) (encs r) [some (.tup [.str "or", .tup (enc x :: encs r)]), some (dc col), some (dop (bnd col x).1), some (dop (bnd col x).2), none, none, none] S = .ok .nx [some (.tup [.str "or", .tup (enc x :: encs r)]), some (dc col), some (dop q.1), some (dop q.2), o4, o5, o6] S := lp
        simp [b5, exSs, exS, evD, evB, evK, evDs, evWs, vv, R.bd, R.st, RS.sq, toD, toB, fin, t0, t1, eq_ss, sx0, sx1, sx2, sx3, sx4, sx5, sx6, sx7, sx8, sx9, sx10, sx11, sx12, sx13, sx14, sx15, sx16, sx17, sx18, sx19, sx20, sx21, sx22, sx23, sx24, sx25, sx26, sx27, sx28, sx29, sx30, sx31, sx32, sx33, sx34, sx35, sx36, sx37, sx38, sx39, sx40, sx41, sx42, sx43, isN_tup, hx, bindTs, partI, optI, cut1, its, W.seq, live1, pack_same, und_dop, dpair, sz2, lp, bindTg]
theorem r_boundss {S : Store} {col : Cl} : ∀ (xs : List Cd), wfs xs → ∀ n, ∀ x ∈ xs, run tab (n + deps xs + 8) 5 [enc x, dc col] S = .ok (dpair (bnd col x)) S
  | [], _, _, _, h => absurd h List.not_mem_nil
  | y :: r, hw, n, x, hx => by
    unfold wfs at hw
    rcases List.mem_cons.mp hx with e | hx
    · have e1 : n + deps (y :: r) + 8 = (n + deps (y :: r) - dep y) + dep y + 8 := by rw [deps]; omega
      rw [e, e1]
      exact r_bounds y hw.1 _
    · have e1 : n + deps (y :: r) + 8 = (n + deps (y :: r) - deps r) + deps r + 8 := by rw [deps]; omega
      rw [e1]
      exact r_boundss r hw.2 _ x hx
end
theorem r_bounds_none {n : Nat} {S : Store} {col : Cl} : run tab (n + 8) 5 [.non, dc col] S = .ok (dpair (none, none)) S := by
  rw [run_fin (F := ⟨2, 7, b5⟩) rfl rfl]
  simp [b5, exSs, exS, evD, evB, evK, evDs, vv, R.bd, R.st, RS.sq, toD, toB, fin, isN_non, pack_same, dpair, dop, sz2]
end Mi.L

namespace Mi.L
open PySem Mi
/-! ### keys -/
def kls : Vl → List Int
  | .inl _ => []
  | .inr s => s.cps.toList.map fun c : Nat => (c : Int)
def ka : Vl → Int
  | .inl _ => 0
  | .inr _ => 1
def kb : Vl → Int
  | .inl i => i
  | .inr _ => 0
def vkey (v : Vl) : PyData := .tuple [.int (ka v), .int (kb v), .list ((kls v).map .int)]
def dk (v : Vl) (m : Nat) : D := .tup [.int (ka v), .int (kb v), .ref m]
def ko (v : Vl) : O := .lst ((kls v).map .int)
theorem pack_keep {S T : Store} {ds : List D} (h : D.unds S.length ds = false) : pack S (.tup ds) (S ++ T) = .ok (.tup ds) (S ++ T) := by
  unfold pack
  rw [if_pos (keeps_app S T), if_neg (by rw [und_tup, h]; exact Bool.false_ne_true)]
theorem compL_map {live : List (Nat × List D)} {turn : D → Store → R (Option D)} {f : D → D} {S : Store} (hl : isLive live S) : ∀ (items acc : List D), (∀ d ∈ items, turn d S = .ok (some (f d)) S) → acc.length + items.length ≤ sizeLine → compL live turn items S acc = .ok (acc ++ items.map f) S
  | [], acc, _, _ => by rw [compL, if_pos hl, List.map_nil, List.append_nil]
  | d :: r, acc, h, hz => by
    rw [List.length_cons] at hz
    rw [compL, if_pos hl, h d List.mem_cons_self]
    show (if acc.length < sizeLine then compL live turn r S (acc ++ [f d]) else .bad) = _
    rw [if_pos (by omega), compL_map hl r (acc ++ [f d]) (fun x hx => h x (List.mem_cons_of_mem _ hx)) (by rw [List.length_append]; simp; omega)]
    simp
theorem tuple_sz3 : (3 : Nat) ≤ sizeLine := by decide
theorem r_key {n : Nat} {S : Store} (v : Vl) (hv : (kls v).length ≤ sizeLine) : run tab (n + 1) 9 [dv v] S = .ok (dk v S.length) (S ++ [ko v]) := by
  rw [run_fin (F := ⟨1, 2, b9⟩) rfl rfl]
  cases v with
  | inl i =>
    have pk := pack_keep (S := S) (T := [.lst []]) (ds := [.int 0, .int i, .ref S.length]) (by simp)
    simp [b9, exSs, exS, evD, evB, evK, evDs, vv, R.bd, R.st, RS.sq, toD, toB, fin, dv, isiW, W.plain, Ty.of, tuple_sz3, pk, dk, ko, kls, ka, kb]
  | inr s =>
    have pk := pack_keep (S := S) (T := [.lst (s.cps.toList.map fun c : Nat => D.int (c : Int))]) (ds := [.int 1, .int 0, .ref S.length]) (by simp)
    have cp : evK (run tab n) (.comp (.nm 1) .it [.v 0] [] (.p1 .ord (.v 1)) [1]) [some (.str s), none] S = .ok (.lis (s.cps.toList.map fun c : Nat => D.int (c : Int))) S := by
      rw [evK]
      simp only [evWs, evK, vv, R.bd, List.getElem?_cons_zero, its, W.seq]
      rw [compL_map (f := fun d => match d with | .str x => .int (x.cps.getD 0 0 : Nat) | d => d) isLive_nil _ _ (fun d hd => ?_) (by simpa [kls] using hv)]
      · simp [Function.comp_def]
      · obtain ⟨c, hc, rfl⟩ := List.mem_map.mp hd
        simp [bindTg, wipeD, evCs, evK, vv, R.bd, p1, toD, R.nox, Str.length]
    simp [↓cp, b9, exSs, exS, evD, evB, evK, evDs, evWs, vv, R.bd, R.st, RS.sq, toD, toB, fin, dv, isiW, W.plain, Ty.of, tuple_sz3, pk, dk, ko, kls, ka, kb, Function.comp_def]

theorem py_ints {T : Store} {n : Nat} : ∀ l : List Int, mapO (toPy T (n + 1)) (l.map D.int) = some (l.map PyData.int)
  | [] => rfl
  | x :: r => by
    rw [List.map_cons, List.map_cons, mapO, py_ints r]
    rfl
theorem py_dk {T : Store} {v : Vl} {m : Nat} (h : T[m]? = some (ko v)) : W.py T (.val (dk v m)) = some (vkey v) := by
  have e : toPy T 39 (.ref m) = some (.list ((kls v).map .int)) := by
    show (match T[m]? with | some (.lst ds) => (mapO (toPy T 38) ds).map PyData.list | _ => none) = _
    rw [h]
    show (mapO (toPy T (37 + 1)) ((kls v).map D.int)).map PyData.list = _
    rw [py_ints]
    rfl
  show (mapO (toPy T 39) [.int (ka v), .int (kb v), .ref m]).map PyData.tuple = _
  have e2 : mapO (toPy T 39) [.int (ka v), .int (kb v), .ref m] = some [.int (ka v), .int (kb v), .list ((kls v).map .int)] := by
    simp only [mapO, e]
    rfl
  rw [e2]
  rfl
/-! the keys' order -/
def lexT : List (Int ⊕ List Nat) → List (Int ⊕ List Nat) → Bool
  | [], [] => false
  | [], _ :: _ => true
  | _ :: _, [] => false
  | x :: r, y :: t => PyProof.Rows.itemLt x y || (!PyProof.Rows.itemLt y x && lexT r t)
theorem lex_T : ∀ a b : List (Int ⊕ List Nat), PyProof.Rows.lexLt PyProof.Rows.itemOrd a b = lexT a b
  | [], [] => rfl
  | [], _ :: _ => rfl
  | _ :: _, [] => rfl
  | x :: r, y :: t => by
    show (PyProof.Rows.itemLt x y || (!PyProof.Rows.itemLt y x && PyProof.Rows.lexLt PyProof.Rows.itemOrd r t)) = _
    rw [lex_T r t]
    rfl
theorem lt_T (x y : PyData) : W.dataLt x y = lexT (W.keyToks x) (W.keyToks y) := lex_T _ _
theorem lexT_irr : ∀ a : List (Int ⊕ List Nat), lexT a a = false
  | [] => rfl
  | x :: r => by
    have := PyProof.Rows.itemOrd.irrefl x
    have : PyProof.Rows.itemLt x x = false := this
    rw [lexT, this, lexT_irr r]
    rfl
theorem toks_ints {p : List (Int ⊕ List Nat)} : ∀ {a b : List Nat}, lexT (W.keyToksAll (a.map fun c : Nat => PyData.int (c : Int)) ++ p) (W.keyToksAll (b.map fun c : Nat => PyData.int (c : Int)) ++ p) = decide (a < b)
  | [], [] => by
    have := lexT_irr (W.keyToksAll ([] : List PyData) ++ p)
    simpa using this
  | [], y :: b => by
    simp only [List.map_nil, List.map_cons, W.keyToksAll, W.keyToks, List.cons_append, List.nil_append, lexT, PyProof.Rows.itemLt]
    simp
  | x :: a, [] => by
    simp only [List.map_nil, List.map_cons, W.keyToksAll, W.keyToks, List.cons_append, List.nil_append, lexT, PyProof.Rows.itemLt]
    simp
  | x :: a, y :: b => by
    have ih := toks_ints (p := p) (a := a) (b := b)
    simp only [List.map_cons, W.keyToksAll, W.keyToks, List.cons_append, List.nil_append, lexT, PyProof.Rows.itemLt, ih]
    by_cases h : x < y
    · have : (x : Int) < y := by omega
      simp [h, this, List.cons_lt_cons_iff]
    · by_cases h2 : x = y
      · subst h2
        simp [List.cons_lt_cons_iff]
      · have h3 : (y : Int) < x := by omega
        have h4 : ¬ ((x : Int) < y) := by omega
        simp [h, h2, h3, h4, List.cons_lt_cons_iff]
theorem key_lt (v w : Vl) : W.dataLt (vkey v) (vkey w) = vlt v w := by
  cases v with
  | inl i =>
    cases w with
    | inl j =>
      simp [lt_T, vkey, W.keyToks, W.keyToksAll, ka, kb, kls, lexT, PyProof.Rows.itemLt, PyProof.Rows.lexLt, vlt]
    | inr j => simp [lt_T, vkey, W.keyToks, W.keyToksAll, ka, kb, kls, lexT, PyProof.Rows.itemLt, vlt]
  | inr i =>
    cases w with
    | inl j => simp [lt_T, vkey, W.keyToks, W.keyToksAll, ka, kb, kls, lexT, PyProof.Rows.itemLt, vlt]
    | inr j =>
      have h := toks_ints (p := W.keyToksAll []) (a := i.cps.toList) (b := j.cps.toList)
      simp only [W.keyToksAll] at h
      simp [lt_T, vkey, W.keyToks, W.keyToksAll, ka, kb, kls, lexT, PyProof.Rows.itemLt, vlt, Function.comp_def, h]
theorem alike_ints : ∀ a b : List Int, W.alikeAll (a.map PyData.int) (b.map PyData.int) = true
  | [], _ => by simp [W.alikeAll]
  | _ :: _, [] => by simp [W.alikeAll]
  | x :: a, y :: b => by simp [W.alikeAll, W.alike, alike_ints a b]
theorem key_alike (v w : Vl) : W.alike (vkey v) (vkey w) = true := by
  have := alike_ints (kls v) (kls w)
  simp [vkey, W.alike, W.alikeAll, this]
theorem eqv_ints : ∀ a b : List Int, PyData.eqvAll (a.map PyData.int) (b.map PyData.int) = decide (a = b)
  | [], [] => by simp [PyData.eqvAll]
  | [], _ :: _ => by simp [PyData.eqvAll]
  | _ :: _, [] => by simp [PyData.eqvAll]
  | x :: a, y :: b => by
    simp [PyData.eqvAll, PyData.eqv, eqv_ints a b]
    by_cases h : x = y <;> simp [h]
theorem kls_inj {a b : Str} (h : (kls (.inr a)) = kls (.inr b)) : a = b := by
  refine str_ext ?_
  have : ∀ {l m : List Nat}, (l.map fun c : Nat => (c : Int)) = (m.map fun c : Nat => (c : Int)) → l = m := by
    intro l
    induction l with
    | nil => intro m h; cases m with
      | nil => rfl
      | cons _ _ => cases h
    | cons x l ih =>
      intro m h
      cases m with
      | nil => cases h
      | cons y m =>
        rw [List.map_cons, List.map_cons] at h
        injection h with h1 h2
        rw [ih h2]
        have : x = y := by omega
        rw [this]
  exact this h
theorem key_eqv (v w : Vl) : PyData.eqv (vkey v) (vkey w) = decide (v = w) := by
  cases v with
  | inl i =>
    cases w with
    | inl j =>
      simp [vkey, PyData.eqv, PyData.eqvAll, ka, kb, kls]
      by_cases h : i = j <;> simp [h]
    | inr j => simp [vkey, PyData.eqv, PyData.eqvAll, ka, kb, kls]
  | inr i =>
    cases w with
    | inl j => simp [vkey, PyData.eqv, PyData.eqvAll, ka, kb, kls]
    | inr j =>
      simp only [vkey, PyData.eqv, PyData.eqvAll, ka, kb, eqv_ints]
      by_cases h : i = j
      · subst h; simp
      · have : ¬ kls (.inr i) = kls (.inr j) := fun z => h (kls_inj z)
        simp [h, this]
end Mi.L

namespace Mi.L
open PySem Mi
def lets1 (s : Sg) (l r : Vl) : Bool := match s with
  | .eq => decide (l = r)
  | .ne => !decide (l = r)
  | .lt => vlt l r
  | .gt => vlt r l
  | .le => !vlt r l
  | .ge => !vlt l r
theorem key_none (v : Vl) : isNonePy (vkey v) = false := rfl
section
variable {T : Store} {l r : Vl} {m k : Nat} (hl : T[m]? = some (ko l)) (hr : T[k]? = some (ko r))
include hl hr
theorem k_eq : p2 .eq (.val (dk l m)) (.val (dk r k)) T = .ok (.val (.bl (decide (l = r)))) T := by
  show (match W.py T (.val (dk l m)), W.py T (.val (dk r k)) with | some a, some b => vv (.bl (PyData.eqv a b)) T | _, _ => .bad) = _
  rw [py_dk hl, py_dk hr]
  show vv (.bl (PyData.eqv (vkey l) (vkey r))) T = _
  rw [key_eqv]; rfl
theorem k_ne : p2 .ne (.val (dk l m)) (.val (dk r k)) T = .ok (.val (.bl (!decide (l = r)))) T := by
  show (match W.py T (.val (dk l m)), W.py T (.val (dk r k)) with | some a, some b => vv (.bl (!PyData.eqv a b)) T | _, _ => .bad) = _
  rw [py_dk hl, py_dk hr]
  show vv (.bl (!PyData.eqv (vkey l) (vkey r))) T = _
  rw [key_eqv]; rfl
theorem k_lt : p2 .lt (.val (dk l m)) (.val (dk r k)) T = .ok (.val (.bl (vlt l r))) T := by
  show (match W.py T (.val (dk l m)), W.py T (.val (dk r k)) with | some a, some b => ob (cmpD .lt a b) T | _, _ => .bad) = _
  rw [py_dk hl, py_dk hr]
  show ob (if (W.alike (vkey l) (vkey r) && !isNonePy (vkey l)) = true then some (W.dataLt (vkey l) (vkey r)) else none) T = _
  rw [key_alike, key_none, key_lt]; rfl
theorem k_gt : p2 .gt (.val (dk l m)) (.val (dk r k)) T = .ok (.val (.bl (vlt r l))) T := by
  show (match W.py T (.val (dk l m)), W.py T (.val (dk r k)) with | some a, some b => ob (cmpD .gt a b) T | _, _ => .bad) = _
  rw [py_dk hl, py_dk hr]
  show ob (if (W.alike (vkey l) (vkey r) && !isNonePy (vkey l)) = true then some (W.dataLt (vkey r) (vkey l)) else none) T = _
  rw [key_alike, key_none, key_lt]; rfl
theorem k_le : p2 .le (.val (dk l m)) (.val (dk r k)) T = .ok (.val (.bl (!vlt r l))) T := by
  show (match W.py T (.val (dk l m)), W.py T (.val (dk r k)) with | some a, some b => ob (cmpD .le a b) T | _, _ => .bad) = _
  rw [py_dk hl, py_dk hr]
  show ob (if (W.alike (vkey l) (vkey r) && !isNonePy (vkey l)) = true then some (!W.dataLt (vkey r) (vkey l)) else none) T = _
  rw [key_alike, key_none, key_lt]; rfl
theorem k_ge : p2 .ge (.val (dk l m)) (.val (dk r k)) T = .ok (.val (.bl (!vlt l r))) T := by
  show (match W.py T (.val (dk l m)), W.py T (.val (dk r k)) with | some a, some b => ob (cmpD .ge a b) T | _, _ => .bad) = _
  rw [py_dk hl, py_dk hr]
  show ob (if (W.alike (vkey l) (vkey r) && !isNonePy (vkey l)) = true then some (!W.dataLt (vkey l) (vkey r)) else none) T = _
  rw [key_alike, key_none, key_lt]; rfl
end
def six (b0 b1 b2 b3 b4 b5 : D) : List (L2.Key × D) := [(.inr "=", b0), (.inr "#", b1), (.inr "<", b2), (.inr ">", b3), (.inr "<=", b4), (.inr ">=", b5)]
theorem disp6 (b0 b1 b2 b3 b4 b5 : D) : dispO [.str "=", b0, .str "#", b1, .str "<", b2, .str ">", b3, .str "<=", b4, .str ">=", b5] = some (.dk (six b0 b1 b2 b3 b4 b5)) := by kernel_rfl
def pick (s : Sg) (b0 b1 b2 b3 b4 b5 : D) : D := match s with
  | .eq => b0 | .ne => b1 | .lt => b2 | .gt => b3 | .le => b4 | .ge => b5
theorem six_at (s : Sg) (b0 b1 b2 b3 b4 b5 : D) : lookD (six b0 b1 b2 b3 b4 b5) (.inr s.str) = some (pick s b0 b1 b2 b3 b4 b5) := by
  cases s <;> kernel_rfl
theorem ix_six {T : Store} {m : Nat} {s : Sg} {b0 b1 b2 b3 b4 b5 : D} (h : T[m]? = some (.dk (six b0 b1 b2 b3 b4 b5))) : p2 .ix (.val (.ref m)) (.val (.str s.str)) T = .ok (.val (pick s b0 b1 b2 b3 b4 b5)) T := by
  have e : W.seq T (.val (.ref m)) = none := by show (match T[m]? with | some (.lst ds) => some (false, ds) | _ => none) = _; rw [h]
  have e2 : look T m (.str s.str) = some (some (pick s b0 b1 b2 b3 b4 b5)) := by
    unfold look
    rw [h]
    show some (lookD (six b0 b1 b2 b3 b4 b5) (.inr s.str)) = _
    rw [six_at]
  show (match W.seq T (.val (.ref m)) with | some (_, ds) => _ | none => (match look T m (.str s.str) with | some (some d) => vv d T | _ => .bad)) = _
  rw [e]
  show (match look T m (.str s.str) with | some (some d) => vv d T | _ => .bad) = _
  rw [e2]
  rfl
theorem r_test {n : Nat} {S : Store} (l r : Vl) (s : Sg) (hl : (kls l).length ≤ sizeLine) (hr : (kls r).length ≤ sizeLine) : run tab (n + 2) 10 [dv l, .str s.str, dv r] S = .ok (.bl (lets1 s l r)) S := by
  rw [run_fin (F := ⟨3, 5, b10⟩) rfl rfl]
  have h1 := r_key (n := n) (S := S) l hl
  have h2 := r_key (n := n) (S := S ++ [ko l]) r hr
  have g1 : (S ++ [ko l] ++ [ko r])[S.length]? = some (ko l) := by simp
  have g2 : (S ++ [ko l] ++ [ko r])[(S ++ [ko l]).length]? = some (ko r) := by rw [List.getElem?_append_right (Nat.le_refl _), Nat.sub_self]; rfl
  have q1 := k_eq g1 g2
  have q2 := k_ne g1 g2
  have q3 := k_lt g1 g2
  have q4 := k_gt g1 g2
  have q5 := k_le g1 g2
  have q6 := k_ge g1 g2
  generalize hT : S ++ [ko l] ++ [ko r] = T at *
  generalize hk : (S ++ [ko l]).length = k at *
  have q7 := ix_six (T := T ++ [.dk (six (.bl (decide (l = r))) (.bl (!decide (l = r))) (.bl (vlt l r)) (.bl (vlt r l)) (.bl (!vlt r l)) (.bl (!vlt l r)))]) (m := T.length) (s := s) (by rw [List.getElem?_append_right (Nat.le_refl _), Nat.sub_self]; rfl)
  have pk : ∀ b : Bool, ∀ o : O, pack S (.bl b) (T ++ [o]) = .ok (.bl b) S := fun b o => by
    rw [← hT, List.append_assoc, List.append_assoc]
    exact pack_app und_bl
  have pe : pick s (.bl (decide (l = r))) (.bl (!decide (l = r))) (.bl (vlt l r)) (.bl (vlt r l)) (.bl (!vlt r l)) (.bl (!vlt l r)) = .bl (lets1 s l r) := by cases s <;> rfl
  rw [pe] at q7
  simp [b10, exSs, exS, evD, evB, evK, evDs, vv, R.bd, R.st, RS.sq, toD, toB, bindTg, fin, h1, h2, q1, q2, q3, q4, q5, q6, q7, disp6, pk]
end Mi.L

namespace Mi.L
open PySem Mi
mutual
def lets (L : Cl → Vl) : Cd → Bool
  | .tst c s v => lets1 s (L c) v
  | .tcol c s c2 => lets1 s (L c) (L c2)
  | .neg x => !lets L x
  | .many a xs => if a = true then letsAll L xs else letsAny L xs
def letsAll (L : Cl → Vl) : List Cd → Bool
  | [] => true
  | x :: r => lets L x && letsAll L r
def letsAny (L : Cl → Vl) : List Cd → Bool
  | [] => false
  | x :: r => lets L x || letsAny L r
end
/-! the columns are some of these, the texts short -/
mutual
def inC (cols : List Cl) : Cd → Prop
  | .tst c _ v => c ∈ cols ∧ (kls v).length ≤ 1000
  | .tcol c _ c2 => c ∈ cols ∧ c2 ∈ cols
  | .neg x => inC cols x
  | .many _ xs => inCs cols xs
def inCs (cols : List Cl) : List Cd → Prop
  | [] => True
  | x :: r => inC cols x ∧ inCs cols r
end
theorem compL_encs {turn : D → Store → R (Option D)} {g : Cd → D} {S : Store} : ∀ (xs : List Cd) (acc : List D), (∀ x ∈ xs, turn (enc x) S = .ok (some (g x)) S) → acc.length + xs.length ≤ sizeLine → compL [] turn (encs xs) S acc = .ok (acc ++ xs.map g) S
  | [], acc, _, _ => by rw [encs, compL, if_pos isLive_nil, List.map_nil, List.append_nil]
  | x :: r, acc, h, hz => by
    rw [List.length_cons] at hz
    rw [encs, compL, if_pos isLive_nil, h x List.mem_cons_self]
    show (if acc.length < sizeLine then compL [] turn (encs r) S (acc ++ [g x]) else .bad) = _
    rw [if_pos (by omega), compL_encs r (acc ++ [g x]) (fun y hy => h y (List.mem_cons_of_mem _ hy)) (by rw [List.length_append]; simp; omega)]
    simp
theorem py_bls {T : Store} {n : Nat} : ∀ l : List Bool, mapO (toPy T (n + 1)) (l.map D.bl) = some (l.map PyData.bool)
  | [] => rfl
  | x :: r => by
    rw [List.map_cons, List.map_cons, mapO, py_bls r]
    rfl
theorem seq_ref {T : Store} {k : Nat} {ds : List D} (h : T[k]? = some (.lst ds)) : W.seq T (.val (.ref k)) = some (false, ds) := by
  show (match T[k]? with | some (.lst ds) => some (false, ds) | _ => none) = _
  rw [h]
theorem in_bls {T : Store} {k : Nat} {l : List Bool} {b : Bool} (h : T[k]? = some (.lst (l.map D.bl))) : isIn (.val (.bl b)) (.val (.ref k)) T = some (l.any fun x => x == b) := by
  unfold isIn
  show (match W.seq T (.val (.ref k)) with | some (_, ds) => (W.py T (.val (.bl b))).bind fun p => (mapO (toPy T deepest) ds).map fun (ys : List PyData) => ys.any fun y => PyData.eqv y p | none => _) = _
  rw [seq_ref h]
  show (some (PyData.bool b)).bind (fun p => (mapO (toPy T (39 + 1)) (l.map D.bl)).map fun (ys : List PyData) => ys.any fun y => PyData.eqv y p) = _
  rw [py_bls]
  simp only [Option.bind_some, Option.map_some, List.any_map]
  rfl
theorem nin_f {T : Store} {k : Nat} {l : List Bool} (h : T[k]? = some (.lst (l.map D.bl))) : p2 .nin (.val (.bl false)) (.val (.ref k)) T = .ok (.val (.bl (l.all id))) T := by
  show ob ((isIn (.val (.bl false)) (.val (.ref k)) T).map (!·)) T = _
  rw [in_bls h]
  have : (!l.any fun x => x == false) = l.all id := by
    clear h
    induction l with
    | nil => rfl
    | cons x r ih => rw [List.any_cons, List.all_cons, ← ih]; cases x <;> simp
  show vv (.bl (!l.any fun x => x == false)) T = _
  rw [this]; rfl
theorem inn_t {T : Store} {k : Nat} {l : List Bool} (h : T[k]? = some (.lst (l.map D.bl))) : p2 .inn (.val (.bl true)) (.val (.ref k)) T = .ok (.val (.bl (l.any id))) T := by
  show ob (isIn (.val (.bl true)) (.val (.ref k)) T) T = _
  rw [in_bls h]
  have : (l.any fun x => x == true) = l.any id := by
    clear h
    induction l with
    | nil => rfl
    | cons x r ih => rw [List.any_cons, List.any_cons, ← ih]; cases x <;> simp
  show vv (.bl (l.any fun x => x == true)) T = _
  rw [this]; rfl
theorem all_map (L : Cl → Vl) : ∀ xs : List Cd, (xs.map (lets L)).all id = letsAll L xs
  | [] => rfl
  | x :: r => by rw [List.map_cons, List.all_cons, all_map L r, letsAll]; rfl
theorem any_map (L : Cl → Vl) : ∀ xs : List Cd, (xs.map (lets L)).any id = letsAny L xs
  | [] => rfl
  | x :: r => by rw [List.map_cons, List.any_cons, any_map L r, letsAny]; rfl
section
variable {S : Store} {m : Nat} {L : Cl → Vl} {cols : List Cl}
theorem kl {v : Vl} (h : (kls v).length ≤ 1000) : (kls v).length ≤ sizeLine := Nat.le_trans h (by decide)
mutual
theorem r_lets (hL : ∀ c ∈ cols, ∀ T : Store, p2 .ix (.val (.ref m)) (.val (dc c)) (S ++ T) = .ok (.val (dv (L c))) (S ++ T)) (hs : ∀ c ∈ cols, (kls (L c)).length ≤ 1000) : ∀ (c : Cd), wf c → inC cols c → ∀ n, run tab (n + dep c + 4) 11 [enc c, .ref m] S = .ok (.bl (lets L c)) S
  | .tst c s v, _, hi, n => by
    show run tab ((n + 3) + 1) 11 _ S = _
    unfold inC at hi
    have hc := hL c hi.1 []
    rw [List.append_nil] at hc
    have h := r_test (n := n + 1) (S := S) (L c) v s (kl (hs c hi.1)) (kl hi.2)
    rw [run_fin (F := ⟨2, 5, b11⟩) rfl rfl]
    have e : enc (.tst c s v) = .tup [.str "test", dc c, .str s.str, .tup [.str "value", dv v]] := by rw [enc]
    rw [e, lets]
    simp [b11, exSs, exS, evD, evB, evK, evDs, vv, R.bd, R.st, RS.sq, toD, toB, bindTg, fin, t0, t1, t2, t3, eq_ss, sx0, sx1, sx2, sx3, sx4, sx5, sx6, sx7, sx8, sx9, sx10, sx11, sx12, sx13, sx14, sx15, sx16, sx17, sx18, sx19, sx20, sx21, sx22, sx23, sx24, sx25, sx26, sx27, sx28, sx29, sx30, sx31, sx32, sx33, sx34, sx35, sx36, sx37, sx38, sx39, sx40, sx41, sx42, sx43, isN_tup, h, hc, pack_same]
  | .tcol c s c2, _, hi, n => by
    show run tab ((n + 3) + 1) 11 _ S = _
    unfold inC at hi
    have hc := hL c hi.1 []
    rw [List.append_nil] at hc
    have hc2 := hL c2 hi.2 []
    rw [List.append_nil] at hc2
    have h := r_test (n := n + 1) (S := S) (L c) (L c2) s (kl (hs c hi.1)) (kl (hs c2 hi.2))
    rw [run_fin (F := ⟨2, 5, b11⟩) rfl rfl]
    have e : enc (.tcol c s c2) = .tup [.str "test", dc c, .str s.str, .tup [.str "column", dc c2]] := by rw [enc]
    rw [e, lets]
    simp [b11, exSs, exS, evD, evB, evK, evDs, vv, R.bd, R.st, RS.sq, toD, toB, bindTg, fin, t0, t1, t2, t3, eq_ss, sx0, sx1, sx2, sx3, sx4, sx5, sx6, sx7, sx8, sx9, sx10, sx11, sx12, sx13, sx14, sx15, sx16, sx17, sx18, sx19, sx20, sx21, sx22, sx23, sx24, sx25, sx26, sx27, sx28, sx29, sx30, sx31, sx32, sx33, sx34, sx35, sx36, sx37, sx38, sx39, sx40, sx41, sx42, sx43, isN_tup, h, hc, hc2, pack_same]
  | .neg x, hw, hi, n => by
    have e1 : n + dep (.neg x) + 4 = (n + dep x + 4) + 1 := by rw [dep]; omega
    unfold wf at hw
    unfold inC at hi
    have h := r_lets hL hs x hw hi n
    rw [e1, run_fin (F := ⟨2, 5, b11⟩) rfl rfl]
    have e : enc (.neg x) = .tup [.str "not", enc x] := by rw [enc]
    rw [e, lets]
    simp [b11, exSs, exS, evD, evB, evK, evDs, vv, R.bd, R.st, RS.sq, toD, toB, bindTg, fin, t0, t1, eq_ss, sx0, sx1, sx2, sx3, sx4, sx5, sx6, sx7, sx8, sx9, sx10, sx11, sx12, sx13, sx14, sx15, sx16, sx17, sx18, sx19, sx20, sx21, sx22, sx23, sx24, sx25, sx26, sx27, sx28, sx29, sx30, sx31, sx32, sx33, sx34, sx35, sx36, sx37, sx38, sx39, sx40, sx41, sx42, sx43, isN_tup, h, pack_same]
  | .many a xs, hw, hi, n => by
    have e1 : n + dep (.many a xs) + 4 = (n + deps xs + 4) + 1 := by rw [dep]; omega
    unfold wf at hw
    unfold inC at hi
    obtain ⟨h0, h1, h2⟩ := hw
    have all := r_letss hL hs xs h2 hi n
    have cp : ∀ d0 : D, evK (run tab (n + deps xs + 4)) (.comp (.nm 4) .it [(.p2 .ix (.v 0) (.c (.int 1)))] [] (.call 11 [(.v 4), (.v 1)]) [4]) [some (.tup [d0, .tup (encs xs)]), some (.ref m), none, none, none] S = .ok (.lis ((xs.map (lets L)).map D.bl)) S := by
      intro d0
      rw [evK]
      simp only [evWs, evK, vv, R.bd, List.getElem?_cons_zero, its, W.seq, t1, live1]
      rw [compL_encs (g := fun x => .bl (lets L x)) xs [] (fun x hx => ?_) (by rw [List.length_nil, Nat.zero_add]; exact Nat.le_trans h1 (by decide))]
      · simp [Function.comp_def]
      · simp [bindTg, wipeD, evCs, evK, evDs, vv, R.bd, toD, R.nox, all x hx]
    have g : (S ++ [.lst ((xs.map (lets L)).map D.bl)])[S.length]? = some (.lst ((xs.map (lets L)).map D.bl)) := by simp
    have q1 := nin_f g
    have q2 := inn_t g
    rw [all_map] at q1
    rw [any_map] at q2
    have pk : ∀ b : Bool, pack S (.bl b) (S ++ [.lst ((xs.map (lets L)).map D.bl)]) = .ok (.bl b) S := fun b => pack_app und_bl
    generalize (xs.map (lets L)).map D.bl = bl at *
    rw [e1, run_fin (F := ⟨2, 5, b11⟩) rfl rfl]
    have e : enc (.many a xs) = .tup [.str (if a = true then "and" else "or"), .tup (encs xs)] := by rw [enc]
    rw [e, lets]
    cases a with
    | true => simp [↓cp, b11, exSs, exS, evD, evB, evK, evDs, vv, R.bd, R.st, RS.sq, toD, toB, bindTg, fin, t0, t1, eq_ss, sx0, sx1, sx2, sx3, sx4, sx5, sx6, sx7, sx8, sx9, sx10, sx11, sx12, sx13, sx14, sx15, sx16, sx17, sx18, sx19, sx20, sx21, sx22, sx23, sx24, sx25, sx26, sx27, sx28, sx29, sx30, sx31, sx32, sx33, sx34, sx35, sx36, sx37, sx38, sx39, sx40, sx41, sx42, sx43, isN_tup, pk, q1, q2]
    | false => simp [↓cp, b11, exSs, exS, evD, evB, evK, evDs, vv, R.bd, R.st, RS.sq, toD, toB, bindTg, fin, t0, t1, eq_ss, sx0, sx1, sx2, sx3, sx4, sx5, sx6, sx7, sx8, sx9, sx10, sx11, sx12, sx13, sx14, sx15, sx16, sx17, sx18, sx19, sx20, sx21, sx22, sx23, sx24, sx25, sx26, sx27, sx28, sx29, sx30, sx31, sx32, sx33, sx34, sx35, sx36, sx37, sx38, sx39, sx40, sx41, sx42, sx43, isN_tup, pk, q1, q2]
theorem r_letss (hL : ∀ c ∈ cols, ∀ T : Store, p2 .ix (.val (.ref m)) (.val (dc c)) (S ++ T) = .ok (.val (dv (L c))) (S ++ T)) (hs : ∀ c ∈ cols, (kls (L c)).length ≤ 1000) : ∀ (xs : List Cd), wfs xs → inCs cols xs → ∀ n, ∀ x ∈ xs, run tab (n + deps xs + 4) 11 [enc x, .ref m] S = .ok (.bl (lets L x)) S
  | [], _, _, _, _, h => absurd h List.not_mem_nil
  | y :: r, hw, hi, n, x, hx => by
    unfold wfs at hw
    unfold inCs at hi
    rcases List.mem_cons.mp hx with e | hx
    · have e1 : n + deps (y :: r) + 4 = (n + deps (y :: r) - dep y) + dep y + 4 := by rw [deps]; omega
      rw [e, e1]
      exact r_lets hL hs y hw.1 hi.1 _
    · have e1 : n + deps (y :: r) + 4 = (n + deps (y :: r) - deps r) + deps r + 4 := by rw [deps]; omega
      rw [e1]
      exact r_letss hL hs r hw.2 hi.2 _ x hx
end
end
end Mi.L

namespace Mi.L
open PySem Mi
/-! ### the least, the greatest -/
def Best (g : Bool) (vs : List Vl) (v : Vl) : Prop := v ∈ vs ∧ ∀ u ∈ vs, (if g = true then vlt v u else vlt u v) = false
theorem best_unique {g : Bool} {vs : List Vl} {a b : Vl} (ha : Best g vs a) (hb : Best g vs b) : a = b := by
  have h1 := ha.2 b hb.1
  have h2 := hb.2 a ha.1
  cases g with
  | true => exact vlt_tot (by simpa using h1) (by simpa using h2)
  | false => exact vlt_tot (by simpa using h2) (by simpa using h1)
noncomputable def ms (vs : List Vl) : List Vl := vs.mergeSort fun a b => !vlt b a
theorem le_tot (a b : Vl) : (!vlt b a || !vlt a b) = true := by
  cases h : vlt b a with
  | false => rfl
  | true =>
    cases h2 : vlt a b with
    | false => rfl
    | true =>
      have := vlt_tr h h2
      rw [vlt_irr] at this; cases this
theorem le_tr (a b c : Vl) (h1 : (!vlt b a) = true) (h2 : (!vlt c b) = true) : (!vlt c a) = true := by
  simp only [Bool.not_eq_true'] at *
  cases h : vlt c a with
  | false => rfl
  | true =>
    -- c < a, not b < a, not c < b
    by_cases e : vlt a b = true
    · have := vlt_tr h e
      rw [h2] at this; cases this
    · have := vlt_tot (by simpa using e) h1
      subst this
      rw [h] at h2; cases h2
theorem ms_perm (vs : List Vl) : (ms vs).Perm vs := List.mergeSort_perm _ _
theorem ms_sorted (vs : List Vl) : (ms vs).Pairwise fun a b => (!vlt b a) = true := List.pairwise_mergeSort le_tr le_tot vs
theorem ms_len (vs : List Vl) : (ms vs).length = vs.length := (ms_perm vs).length_eq
theorem ms_head {vs : List Vl} {v : Vl} {r : List Vl} (h : ms vs = v :: r) : Best false vs v := by
  have hs := ms_sorted vs
  rw [h] at hs
  refine ⟨(ms_perm vs).mem_iff.mp (by rw [h]; exact List.mem_cons_self), fun u hu => ?_⟩
  have hu := (ms_perm vs).mem_iff.mpr hu
  rw [h] at hu
  rcases List.mem_cons.mp hu with rfl | hu
  · simpa using vlt_irr u
  · have := (List.pairwise_cons.mp hs).1 u hu
    simpa using this
theorem ms_last {vs : List Vl} {v : Vl} (h : (ms vs).getLast? = some v) : Best true vs v := by
  obtain ⟨r, hr⟩ := List.getLast?_eq_some_iff.mp h
  have hs := ms_sorted vs
  rw [hr] at hs
  refine ⟨(ms_perm vs).mem_iff.mp (by rw [hr]; simp), fun u hu => ?_⟩
  have hu := (ms_perm vs).mem_iff.mpr hu
  rw [hr] at hu
  rcases List.mem_append.mp hu with hu | hu
  · have := (List.pairwise_append.mp hs).2.2 u hu v (by simp)
    simpa using this
  · have : u = v := by simpa using hu
    subst this
    simpa using vlt_irr u
theorem le_key (a b : Vl) : W.dataLe false vkey a b = !vlt b a := by
  have h := key_lt b a
  have e : W.dataLe false vkey a b = !W.dataLt (vkey b) (vkey a) := rfl
  rw [e, h]
theorem byKeys_eq (vs : List Vl) : byKeys false (vs.map dv) (vs.map vkey) = (ms vs).map dv := by
  unfold byKeys ms
  have hz : (vs.map dv).zip (vs.map vkey) = vs.map fun v => (dv v, vkey v) := by
    induction vs with
    | nil => rfl
    | cons v r ih => rw [List.map_cons, List.map_cons, List.zip_cons_cons, ih]; rfl
  rw [hz, ← List.map_mergeSort (f := fun v => (dv v, vkey v)) (r := fun a b => W.dataLe false vkey a b) (fun _ _ _ _ => rfl), List.map_map]
  have : (fun a b => W.dataLe false vkey a b) = fun a b => !vlt b a := by
    funext a b
    exact le_key a b
  rw [this]
  rfl

def kos (vs : List Vl) : Store := vs.map ko
theorem keys_run {n : Nat} : ∀ (vs : List Vl) (S : Store), (∀ v ∈ vs, (kls v).length ≤ 1000) → ∃ ks, keysL (fun d S => run tab (n + 1) 9 [d] S) (vs.map dv) S = .ok ks (S ++ kos vs) ∧ ∀ T, mapO (toPy (S ++ kos vs ++ T) deepest) ks = some (vs.map vkey)
  | [], S, _ => ⟨[], by simp [keysL, kos], fun T => rfl⟩
  | v :: r, S, h => by
    obtain ⟨ks, h1, h2⟩ := keys_run r (S ++ [ko v]) (fun u hu => h u (List.mem_cons_of_mem _ hu))
    have hk := r_key (n := n) (S := S) v (kl (h v List.mem_cons_self))
    have e : S ++ [ko v] ++ kos r = S ++ kos (v :: r) := by simp [kos]
    refine ⟨dk v S.length :: ks, ?_, fun T => ?_⟩
    · rw [List.map_cons, keysL, hk]
      show ((keysL (fun d S => run tab (n + 1) 9 [d] S) (r.map dv) (S ++ [ko v])).bd fun ks S' => .ok (dk v S.length :: ks) S') = _
      rw [h1, e]
      rfl
    · have h2 := h2 T
      rw [e] at h2
      have g : (S ++ kos (v :: r) ++ T)[S.length]? = some (ko v) := by
        rw [List.append_assoc, List.getElem?_append_right (Nat.le_refl _), Nat.sub_self]
        rfl
      have hp : toPy (S ++ kos (v :: r) ++ T) deepest (dk v S.length) = some (vkey v) := py_dk g
      rw [mapO, hp, h2]
      rfl
theorem vk_alike (vs : List Vl) : W.AllAlike (vs.map vkey) := by
  intro a ha b hb
  obtain ⟨v, _, rfl⟩ := List.mem_map.mp ha
  obtain ⟨w, _, rfl⟩ := List.mem_map.mp hb
  exact key_alike v w
theorem vk_sortable (vs : List Vl) : W.Sortable (vs.map vkey) := by
  refine .inl fun d hd => ?_
  obtain ⟨v, _, rfl⟩ := List.mem_map.mp hd
  exact ⟨_, _, rfl⟩
theorem srt_run {n : Nat} {S : Store} {k : Nat} {vs : List Vl} (hk : S[k]? = some (.lst (vs.map dv))) (h : ∀ v ∈ vs, (kls v).length ≤ 1000) : srtW (fun d S => run tab (n + 1) 9 [d] S) (.val (.ref k)) S = .ok (.lis ((ms vs).map dv)) (S ++ kos vs) := by
  obtain ⟨ks, h1, h2⟩ := keys_run (n := n) vs S h
  unfold srtW
  rw [seq_ref hk]
  show ((keysL (fun d S => run tab (n + 1) 9 [d] S) (vs.map dv) S).bd fun ks S => srtEnd (vs.map dv) ks S) = _
  rw [h1]
  show srtEnd (vs.map dv) ks (S ++ kos vs) = _
  unfold srtEnd
  have h3 := h2 []
  rw [List.append_nil] at h3
  rw [h3]
  dsimp only
  rw [if_pos ⟨vk_alike vs, vk_sortable vs⟩, byKeys_eq]
theorem dv_py {T : Store} {n : Nat} : ∀ vs : List Vl, ∃ ys, mapO (toPy T (n + 1)) (vs.map dv) = some ys ∧ ys.length = vs.length
  | [] => ⟨[], rfl, rfl⟩
  | v :: r => by
    obtain ⟨ys, h1, h2⟩ := dv_py (T := T) (n := n) r
    have : ∃ y, toPy T (n + 1) (dv v) = some y := by cases v <;> exact ⟨_, rfl⟩
    obtain ⟨y, hy⟩ := this
    refine ⟨y :: ys, ?_, by rw [List.length_cons, List.length_cons, h2]⟩
    rw [List.map_cons, mapO, hy, h1]
theorem eq_nil {S : Store} {k : Nat} {vs : List Vl} (hk : S[k]? = some (.lst (vs.map dv))) : p2 .eq (.val (.ref k)) (.lis []) S = .ok (.val (.bl vs.isEmpty)) S := by
  obtain ⟨ys, h1, h2⟩ := dv_py (T := S) (n := 38) vs
  have e : W.py S (.val (.ref k)) = some (.list ys) := by
    show (match S[k]? with | some (.lst ds) => (mapO (toPy S 39) ds).map PyData.list | _ => none) = _
    rw [hk]
    show (mapO (toPy S (38 + 1)) (vs.map dv)).map PyData.list = _
    rw [h1]; rfl
  show (match W.py S (.val (.ref k)), W.py S (.lis []) with | some a, some b => vv (.bl (PyData.eqv a b)) S | _, _ => .bad) = _
  rw [e]
  show vv (.bl (PyData.eqvAll ys [])) S = _
  cases vs with
  | nil =>
    have : ys = [] := List.length_eq_zero_iff.mp h2
    subst this
    simp [PyData.eqvAll, vv]
  | cons v r =>
    cases ys with
    | nil => cases h2
    | cons y ys => simp [PyData.eqvAll, vv]
theorem ix_lis {S : Store} {ds : List D} {i : Int} {d : D} (h : L2.atI ds i = some d) : p2 .ix (.lis ds) (.val (.int i)) S = .ok (.val d) S := by
  show (match L2.atI ds i with | some d => vv d S | none => .bad) = _
  rw [h]; rfl
theorem int_bl {S : Store} {b : Bool} : p1 .int_ (.val (.bl b)) S = .ok (.val (.int (if b = true then 1 else 0))) S := rfl
theorem neg_int {S : Store} {i : Int} : p1 .neg (.val (.int i)) S = .ok (.val (.int (-i))) S := rfl
theorem atI_last {α : Type} {xs : List α} {x : α} (h : xs.getLast? = some x) : L2.atI xs (-1) = some x := by
  have hne : xs ≠ [] := fun e => by rw [e] at h; cases h
  have hl : 0 < xs.length := List.length_pos_iff.mpr hne
  unfold L2.atI L2.ixN
  rw [if_neg (by decide), if_pos (by omega)]
  show xs[((-1 : Int) + xs.length).toNat]? = some x
  have : ((-1 : Int) + xs.length).toNat = xs.length - 1 := by omega
  rw [this, ← List.getLast?_eq_getElem?]
  exact h
theorem r_least {n : Nat} {S : Store} {k : Nat} {vs : List Vl} (g : Bool) (hk : S[k]? = some (.lst (vs.map dv))) (h : ∀ v ∈ vs, (kls v).length ≤ 1000) :
    (vs = [] ∧ run tab (n + 2) 14 [.ref k, .bl g] S = .ok .non S) ∨ ∃ v, Best g vs v ∧ run tab (n + 2) 14 [.ref k, .bl g] S = .ok (dv v) S := by
  have he := eq_nil hk
  rw [run_fin (F := ⟨2, 3, b14⟩) rfl rfl]
  cases hm : ms vs with
  | nil =>
    have : vs = [] := by
      have := ms_len vs
      rw [hm] at this
      exact List.length_eq_zero_iff.mp this.symm
    subst this
    exact .inl ⟨rfl, by simp [b14, exSs, exS, evD, evB, evK, evDs, vv, R.bd, R.st, RS.sq, toD, toB, bindTg, fin, he, pack_same]⟩
  | cons v r =>
    have hne : vs.isEmpty = false := by
      have := ms_len vs
      rw [hm] at this
      cases vs with
      | nil => cases this
      | cons _ _ => rfl
    rw [hne] at he
    have hs := srt_run (n := n) hk h
    obtain ⟨u, hu⟩ : ∃ u, (ms vs).getLast? = some u := by
      rw [hm]
      exact ⟨_, List.getLast?_eq_some_getLast (by simp)⟩
    have gl : ((ms vs).map dv).getLast? = some (dv u) := by rw [List.getLast?_map, hu]; rfl
    have g0 : L2.atI ((ms vs).map dv) 0 = some (dv v) := by rw [hm, List.map_cons]; exact atI0
    have hT : ∀ T : Store, (T ++ [O.lst ((ms vs).map dv)])[T.length]? = some (.lst ((ms vs).map dv)) := fun T => by simp
    have i0 := ix_ref (hT (S ++ kos vs)) g0
    have i1 := ix_ref (hT (S ++ kos vs)) (atI_last gl)
    have pk : ∀ w : Vl, pack S (dv w) (S ++ kos vs ++ [O.lst ((ms vs).map dv)]) = .ok (dv w) S := fun w => by rw [List.append_assoc]; exact pack_app und_dv
    have l0 : ∀ T : Store, p2 .ix (.lis [dv v, dv u]) (.val (.int 0)) T = .ok (.val (dv v)) T := fun T => ix_lis atI0
    have l1 : ∀ T : Store, p2 .ix (.lis [dv v, dv u]) (.val (.int 1)) T = .ok (.val (dv u)) T := fun T => ix_lis atI1
    clear hT gl g0
    generalize hgl : (ms vs).map dv = ml at *
    generalize hTT : S ++ kos vs = T at *
    generalize hp : T.length = p at *
    have td : toD (.lis ml) T = .ok (.ref p) (T ++ [.lst ml]) := by rw [← hp]; rfl
    generalize hU : T ++ [O.lst ml] = U at *
    cases g with
    | true =>
      refine .inr ⟨u, ms_last hu, ?_⟩
      simp [b14, exSs, exS, evD, evB, evK, evDs, vv, R.bd, R.st, RS.sq, ↓td, toD, toB, bindTg, fin, he, hs, i0, i1, neg_int, int_bl, l0, l1, pk, sz2]
    | false =>
      refine .inr ⟨v, ms_head hm, ?_⟩
      simp [b14, exSs, exS, evD, evB, evK, evDs, vv, R.bd, R.st, RS.sq, ↓td, toD, toB, bindTg, fin, he, hs, i0, i1, neg_int, int_bl, l0, l1, pk, sz2]
end Mi.L

namespace Mi.L
open PySem Mi
/-! ### folds of bounds -/
def opO (lo : Bool) (a b : Option Vl) : Option Vl := if (a = none ∨ b = none) then none else fur a b lo
theorem worse {g : Bool} {v w z : Vl} (h1 : (if g = true then vlt v w else vlt w v) = false) (h2 : (if g = true then vlt w z else vlt z w) = false) : (if g = true then vlt v z else vlt z v) = false := by
  cases g with
  | true =>
    simp only [if_true] at *
    have := le_tr z w v (by rw [h2]; rfl) (by rw [h1]; rfl)
    simpa using this
  | false =>
    simp only [Bool.false_eq_true, if_false] at *
    have := le_tr v w z (by rw [h1]; rfl) (by rw [h2]; rfl)
    simpa using this
theorem best_two {lo : Bool} {x y v : Vl} {l : List Vl} (h : Best (!lo) ((if vlt x y = lo then x else y) :: l) v) : Best (!lo) (x :: y :: l) v := by
  have key : ∀ w z : Vl, (if (!lo) = true then vlt w z else vlt z w) = false → Best (!lo) (w :: l) v → v ∈ w :: z :: l ∧ ∀ u ∈ w :: z :: l, (if (!lo) = true then vlt v u else vlt u v) = false := fun w z hwz hb => by
    refine ⟨?_, fun u hu => ?_⟩
    · rcases List.mem_cons.mp hb.1 with e | e
      · exact List.mem_cons.mpr (.inl e)
      · exact List.mem_cons_of_mem _ (List.mem_cons_of_mem _ e)
    · rcases List.mem_cons.mp hu with e | hu
      · exact hb.2 u (List.mem_cons.mpr (.inl e))
      · rcases List.mem_cons.mp hu with e | hu
        · subst e
          exact worse (hb.2 w List.mem_cons_self) hwz
        · exact hb.2 u (List.mem_cons_of_mem _ hu)
  by_cases hc : vlt x y = lo
  · rw [if_pos hc] at h
    refine key x y ?_ h
    cases lo with
    | true =>
      -- x < y wanted least: y < x is false
      show vlt y x = false
      cases e : vlt y x with
      | false => rfl
      | true =>
        have := vlt_tr hc e
        rw [vlt_irr] at this; cases this
    | false => exact hc
  · rw [if_neg hc] at h
    have k := key y x ?_ h
    · refine ⟨?_, fun u hu => k.2 u ?_⟩
      · have := k.1
        simp only [List.mem_cons] at this ⊢
        rcases this with e | e | e
        · exact .inr (.inl e)
        · exact .inl e
        · exact .inr (.inr e)
      · simp only [List.mem_cons] at hu ⊢
        rcases hu with e | e | e
        · exact .inr (.inl e)
        · exact .inl e
        · exact .inr (.inr e)
    · cases lo with
      | true =>
        show vlt x y = false
        simpa using hc
      | false =>
        show vlt y x = false
        have hc : vlt x y = true := by simpa using hc
        cases e : vlt y x with
        | false => rfl
        | true =>
          have := vlt_tr hc e
          rw [vlt_irr] at this; cases this
/-- what a fold of the first kind gives -/
def IsA (g : Bool) (l : List (Option Vl)) (o : Option Vl) : Prop := match o with
  | none => l.filterMap id = []
  | some v => Best g (l.filterMap id) v
theorem foldA (lo : Bool) : ∀ (l : List (Option Vl)) (a : Option Vl), IsA (!lo) (a :: l) (l.foldl (fun a b => fur a b lo) a)
  | [], a => by
    cases a with
    | none => rfl
    | some v => exact ⟨by simp, fun u hu => by
        have : u = v := by simpa using hu
        subst this
        cases lo <;> simpa using vlt_irr u⟩
  | b :: l, a => by
    have ih := foldA lo l (fur a b lo)
    rw [List.foldl_cons]
    generalize l.foldl (fun a b => fur a b lo) (fur a b lo) = q at ih
    cases a with
    | none => exact ih
    | some x =>
      cases b with
      | none => exact ih
      | some y =>
        have e : fur (some x) (some y) lo = some (if vlt x y = lo then x else y) := by unfold fur; dsimp only; split <;> rfl
        rw [e] at ih
        cases q with
        | none => simp [IsA] at ih
        | some v => exact best_two (by simpa [IsA] using ih)
/-- .. of the second kind -/
def IsO (g : Bool) (l : List (Option Vl)) (o : Option Vl) : Prop := match o with
  | none => (l.filterMap id).length ≠ l.length
  | some v => (l.filterMap id).length = l.length ∧ Best g (l.filterMap id) v
theorem fm_le (l : List (Option Vl)) : (l.filterMap id).length ≤ l.length := List.length_filterMap_le _ _
theorem foldO (lo : Bool) : ∀ (l : List (Option Vl)) (a : Option Vl), IsO (!lo) (a :: l) (l.foldl (opO lo) a)
  | [], a => by
    cases a with
    | none => simp [IsO]
    | some v => exact ⟨rfl, by simp, fun u hu => by
        have : u = v := by simpa using hu
        subst this
        cases lo <;> simpa using vlt_irr u⟩
  | b :: l, a => by
    have ih := foldO lo l (opO lo a b)
    rw [List.foldl_cons]
    generalize l.foldl (opO lo) (opO lo a b) = q at ih
    have le := fm_le l
    cases a with
    | none =>
      have e : opO lo none b = none := by simp [opO]
      rw [e] at ih
      cases q with
      | none =>
        show ((none :: b :: l).filterMap id).length ≠ _
        have := fm_le (b :: l)
        simp only [List.filterMap_cons, id, List.length_cons] at this ⊢
        omega
      | some v =>
        have := ih.1
        simp only [List.filterMap_cons, id, List.length_cons] at this
        omega
    | some x =>
      cases b with
      | none =>
        have e : opO lo (some x) none = none := by simp [opO]
        rw [e] at ih
        cases q with
        | none =>
          show ((some x :: none :: l).filterMap id).length ≠ _
          simp only [List.filterMap_cons, id, List.length_cons]
          omega
        | some v =>
          have := ih.1
          simp only [List.filterMap_cons, id, List.length_cons] at this
          omega
      | some y =>
        have e : opO lo (some x) (some y) = some (if vlt x y = lo then x else y) := by unfold opO fur; simp only [reduceCtorEq, or_self, if_false]; split <;> rfl
        rw [e] at ih
        cases q with
        | none =>
          have ih : ((some (if vlt x y = lo then x else y) :: l).filterMap id).length ≠ _ := ih
          show ((some x :: some y :: l).filterMap id).length ≠ _
          simp only [List.filterMap_cons, id, List.length_cons] at ih ⊢
          omega
        | some v =>
          obtain ⟨h1, h2⟩ := ih
          refine ⟨?_, best_two (by simpa using h2)⟩
          simp only [List.filterMap_cons, id, List.length_cons] at h1 ⊢
          omega
theorem step_fst (a : Bool) : ∀ (l : List (Option Vl × Option Vl)) (p : Option Vl × Option Vl), (l.foldl (stepB a) p).1 = if a = true then (l.map (·.1)).foldl (fun a b => fur a b false) p.1 else (l.map (·.1)).foldl (opO true) p.1
  | [], p => by cases a <;> rfl
  | q :: l, p => by
    rw [List.foldl_cons, step_fst a l, List.map_cons, List.foldl_cons, List.foldl_cons]
    cases a <;> simp [stepB, opO]
theorem step_snd (a : Bool) : ∀ (l : List (Option Vl × Option Vl)) (p : Option Vl × Option Vl), (l.foldl (stepB a) p).2 = if a = true then (l.map (·.2)).foldl (fun a b => fur a b true) p.2 else (l.map (·.2)).foldl (opO false) p.2
  | [], p => by cases a <;> rfl
  | q :: l, p => by
    rw [List.foldl_cons, step_snd a l, List.map_cons, List.foldl_cons, List.foldl_cons]
    cases a <;> simp [stepB, opO]
end Mi.L

namespace Mi.L
open PySem Mi
theorem compL_opt {α : Type} {live : List (Nat × List D)} {turn : D → Store → R (Option D)} {en : α → D} {f : α → Option D} {S : Store} (hl : isLive live S) : ∀ (xs : List α) (acc : List D), (∀ x ∈ xs, turn (en x) S = .ok (f x) S) → acc.length + xs.length ≤ sizeLine → compL live turn (xs.map en) S acc = .ok (acc ++ xs.filterMap f) S
  | [], acc, _, _ => by rw [List.map_nil, compL, if_pos hl, List.filterMap_nil, List.append_nil]
  | x :: r, acc, h, hz => by
    rw [List.length_cons] at hz
    rw [List.map_cons, compL, if_pos hl, h x List.mem_cons_self]
    cases hx : f x with
    | none =>
      show compL live turn (r.map en) S acc = _
      rw [compL_opt hl r acc (fun y hy => h y (List.mem_cons_of_mem _ hy)) (by omega), List.filterMap_cons_none hx]
    | some d =>
      show (if acc.length < sizeLine then compL live turn (r.map en) S (acc ++ [d]) else .bad) = _
      rw [if_pos (by omega), compL_opt hl r (acc ++ [d]) (fun y hy => h y (List.mem_cons_of_mem _ hy)) (by rw [List.length_append]; simp; omega), List.filterMap_cons_some hx]
      simp
theorem xc0 {T : Store} : p2 .ix (.val (.str "=")) (.val (.int 0)) T = .ok (.val (.str "=")) T := by kernel_rfl
theorem xc1 {T : Store} : p2 .ix (.val (.str "<")) (.val (.int 0)) T = .ok (.val (.str "<")) T := by kernel_rfl
theorem xc2 {T : Store} : p2 .ix (.val (.str ">")) (.val (.int 0)) T = .ok (.val (.str ">")) T := by kernel_rfl
theorem xc3 {T : Store} : p2 .ix (.val (.str "<=")) (.val (.int 0)) T = .ok (.val (.str "<")) T := by kernel_rfl
theorem xc4 {T : Store} : p2 .ix (.val (.str ">=")) (.val (.int 0)) T = .ok (.val (.str ">")) T := by kernel_rfl
theorem lbt {n : Nat} {S : Store} (c : Cl) (s : Sg) (v : Vl) (col : Cl) : run tab (n + 1) 15 [enc (.tst c s v), dc col] S = .ok (dpair (if c = col then tb s v else (none, none))) S := by
  rw [run_fin (F := ⟨2, 10, b15⟩) rfl rfl]
  have l0 : ∀ T : Store, p2 .ix (.lis [dv v, D.non]) (.val (.int 0)) T = .ok (.val (dv v)) T := fun T => ix_lis atI0
  have l1 : ∀ T : Store, p2 .ix (.lis [dv v, D.non]) (.val (.int 1)) T = .ok (.val .non) T := fun T => ix_lis atI1
  have e : enc (.tst c s v) = .tup [.str "test", dc c, .str s.str, .tup [.str "value", dv v]] := by rw [enc]
  rw [e]
  by_cases h : c = col
  · cases s <;> simp [b15, exSs, exS, evD, evB, evK, evDs, vv, R.bd, R.st, RS.sq, toD, toB, fin, isN_tup, t0, t1, t2, t3, ne_cc, ne_ss, eq_ss, h, Sg.str, sx0, sx1, sx2, sx3, sx4, sx5, sx6, sx7, sx8, sx9, sx10, sx11, sx12, sx13, sx14, sx15, sx16, sx17, sx18, sx19, sx20, sx21, sx22, sx23, sx24, sx25, sx26, sx27, sx28, sx29, sx30, sx31, sx32, sx33, sx34, sx35, sx36, sx37, sx38, sx39, sx40, sx41, sx42, sx43, pack_same, dpair, dop, tb, sz2, und_dv, bindTg, bindTs, int_bl, l0, l1, xc0, xc1, xc2, xc3, xc4]
  · simp [b15, exSs, exS, evD, evB, evK, evDs, vv, R.bd, R.st, RS.sq, toD, toB, fin, isN_tup, t0, t1, t2, t3, ne_cc, ne_ss, eq_ss, h, sx0, sx1, sx2, sx3, sx4, sx5, sx6, sx7, sx8, sx9, sx10, sx11, sx12, sx13, sx14, sx15, sx16, sx17, sx18, sx19, sx20, sx21, sx22, sx23, sx24, sx25, sx26, sx27, sx28, sx29, sx30, sx31, sx32, sx33, sx34, sx35, sx36, sx37, sx38, sx39, sx40, sx41, sx42, sx43, pack_same, dpair, dop, sz2, bindTg, bindTs]

theorem lbt2 {n : Nat} {S : Store} (c : Cl) (s : Sg) (c2 col : Cl) : run tab (n + 1) 15 [enc (.tcol c s c2), dc col] S = .ok (dpair (none, none)) S := by
  rw [run_fin (F := ⟨2, 10, b15⟩) rfl rfl]
  have e : enc (.tcol c s c2) = .tup [.str "test", dc c, .str s.str, .tup [.str "column", dc c2]] := by rw [enc]
  rw [e]
  by_cases h : c = col
  · simp [b15, exSs, exS, evD, evB, evK, evDs, vv, R.bd, R.st, RS.sq, toD, toB, fin, isN_tup, t0, t1, t2, t3, ne_cc, ne_ss, eq_ss, h, sx0, sx1, sx2, sx3, sx4, sx5, sx6, sx7, sx8, sx9, sx10, sx11, sx12, sx13, sx14, sx15, sx16, sx17, sx18, sx19, sx20, sx21, sx22, sx23, sx24, sx25, sx26, sx27, sx28, sx29, sx30, sx31, sx32, sx33, sx34, sx35, sx36, sx37, sx38, sx39, sx40, sx41, sx42, sx43, pack_same, dpair, dop, sz2, bindTg, bindTs]
  · simp [b15, exSs, exS, evD, evB, evK, evDs, vv, R.bd, R.st, RS.sq, toD, toB, fin, isN_tup, t0, t1, t2, t3, ne_cc, ne_ss, eq_ss, h, sx0, sx1, sx2, sx3, sx4, sx5, sx6, sx7, sx8, sx9, sx10, sx11, sx12, sx13, sx14, sx15, sx16, sx17, sx18, sx19, sx20, sx21, sx22, sx23, sx24, sx25, sx26, sx27, sx28, sx29, sx30, sx31, sx32, sx33, sx34, sx35, sx36, sx37, sx38, sx39, sx40, sx41, sx42, sx43, pack_same, dpair, dop, sz2, bindTg, bindTs]
def lows (ps : List (Option Vl × Option Vl)) : List Vl := ps.filterMap (·.1)
def highs (ps : List (Option Vl × Option Vl)) : List Vl := ps.filterMap (·.2)
theorem lows_d (ps : List (Option Vl × Option Vl)) : ps.filterMap (fun p => p.1.map dv) = (lows ps).map dv := by
  unfold lows
  rw [List.map_filterMap]
theorem highs_d (ps : List (Option Vl × Option Vl)) : ps.filterMap (fun p => p.2.map dv) = (highs ps).map dv := by
  unfold highs
  rw [List.map_filterMap]
theorem notN_dop {S : Store} {v : Option Vl} : p1 .notN (.val (dop v)) S = .ok (.val (.bl v.isSome)) S := by
  cases v with
  | none => rfl
  | some v => exact notN_dv
/-- the two walks over what was told -/
theorem cp_low {C : CF} {T : Store} {m : Nat} {ps : List (Option Vl × Option Vl)} {ρ : Env} (hm : T[m]? = some (.lst (ps.map dpair))) (hz : ps.length ≤ 1000) (h4 : ρ[4]? = some (some (.ref m))) (h7 : 8 < ρ.length) :
    evK C (.comp (.tp [7, 8]) .it [.v 4] [.p1 .notN (.v 7)] (.v 7) [7, 8]) ρ T = .ok (.lis ((lows ps).map dv)) T := by
  rw [evK]
  have e4 : evK C (.v 4) ρ T = .ok (.val (.ref m)) T := by rw [evK]; simp [h4, vv]
  simp only [evWs, e4, R.bd, its, seq_ref hm, live1]
  have hl : isLive [(m, ps.map dpair)] T := fun p hp => by
    have : p = (m, ps.map dpair) := by simpa using hp
    subst this
    exact hm
  rw [compL_opt hl (f := fun p => p.1.map dv) ps [] (fun p _ => ?_) (by rw [List.length_nil, Nat.zero_add]; exact Nat.le_trans hz (by decide)), lows_d]
  · rfl
  · obtain ⟨a, b⟩ := p
    have e7 : (((wipeD ρ [7, 8]).set 7 (some (dop a))).set 8 (some (dop b)))[7]? = some (some (dop a)) := by
      rw [List.getElem?_set_ne (by decide), List.getElem?_set_self]
      simp [wipeD]; omega
    cases a with
    | none => simp [dpair, bindTg, bindTs, evCs, evK, evDs, vv, R.bd, toD, toB, R.nox, e7, dop, notN_non] at e7 ⊢; simp [e7, R.bd, notN_non, toB, R.nox, toD]
    | some v => simp [dpair, bindTg, bindTs, evCs, evK, evDs, vv, R.bd, toD, toB, R.nox, e7, dop, notN_dv] at e7 ⊢; simp [e7, R.bd, notN_dv, toB, R.nox, toD]
theorem cp_high {C : CF} {T : Store} {m : Nat} {ps : List (Option Vl × Option Vl)} {ρ : Env} (hm : T[m]? = some (.lst (ps.map dpair))) (hz : ps.length ≤ 1000) (h4 : ρ[4]? = some (some (.ref m))) (h7 : 8 < ρ.length) :
    evK C (.comp (.tp [7, 8]) .it [.v 4] [.p1 .notN (.v 8)] (.v 8) [7, 8]) ρ T = .ok (.lis ((highs ps).map dv)) T := by
  rw [evK]
  have e4 : evK C (.v 4) ρ T = .ok (.val (.ref m)) T := by rw [evK]; simp [h4, vv]
  simp only [evWs, e4, R.bd, its, seq_ref hm, live1]
  have hl : isLive [(m, ps.map dpair)] T := fun p hp => by
    have : p = (m, ps.map dpair) := by simpa using hp
    subst this
    exact hm
  rw [compL_opt hl (f := fun p => p.2.map dv) ps [] (fun p _ => ?_) (by rw [List.length_nil, Nat.zero_add]; exact Nat.le_trans hz (by decide)), highs_d]
  · rfl
  · obtain ⟨a, b⟩ := p
    have e8 : (((wipeD ρ [7, 8]).set 7 (some (dop a))).set 8 (some (dop b)))[8]? = some (some (dop b)) := by
      rw [List.getElem?_set_self]
      simp [wipeD]; omega
    cases b with
    | none => simp [dpair, bindTg, bindTs, evCs, evK, evDs, vv, R.bd, toD, toB, R.nox, e8, dop, notN_non] at e8 ⊢
    | some v => simp [dpair, bindTg, bindTs, evCs, evK, evDs, vv, R.bd, toD, toB, R.nox, e8, dop, notN_dv] at e8 ⊢

theorem len_ref {T : Store} {m : Nat} {ds : List D} (h : T[m]? = some (.lst ds)) : p1 .len (.val (.ref m)) T = .ok (.val (.int ds.length)) T := by
  show (match W.seq T (.val (.ref m)) with | some (_, ds) => vv (.int ds.length) T | none => .bad) = _
  rw [seq_ref h]
  rfl
/-- the least or greatest of a list that stands: as an option -/
theorem r_leastO {n : Nat} {T : Store} {k : Nat} {vs : List Vl} (g : Bool) (hk : T[k]? = some (.lst (vs.map dv))) (h : ∀ v ∈ vs, (kls v).length ≤ 1000) : ∃ o : Option Vl, run tab (n + 2) 14 [.ref k, .bl g] T = .ok (dop o) T ∧ ((o = none ∧ vs = []) ∨ ∃ v, o = some v ∧ Best g vs v) := by
  rcases r_least (n := n) g hk h with ⟨h1, h2⟩ | ⟨v, h1, h2⟩
  · exact ⟨none, h2, .inl ⟨rfl, h1⟩⟩
  · exact ⟨some v, h2, .inr ⟨v, rfl, h1⟩⟩
theorem fm_id {α β : Type} (f : α → Option β) (l : List α) : (l.map f).filterMap id = l.filterMap f := by
  rw [List.filterMap_map]; rfl
theorem best_nil {g : Bool} {v : Vl} (h : Best g [] v) : False := nomatch h.1
theorem optA {g : Bool} {l : List (Option Vl)} {o q : Option Vl} (h : (o = none ∧ l.filterMap id = []) ∨ ∃ v, o = some v ∧ Best g (l.filterMap id) v) (hq : IsA g l q) : o = q := by
  cases q with
  | none =>
    have hq : l.filterMap id = [] := hq
    rcases h with ⟨h, _⟩ | ⟨v, _, h⟩
    · exact h
    · rw [hq] at h; exact (best_nil h).elim
  | some w =>
    have hq : Best g (l.filterMap id) w := hq
    rcases h with ⟨_, h⟩ | ⟨v, rfl, h⟩
    · rw [h] at hq; exact (best_nil hq).elim
    · rw [best_unique h hq]
/-- of a list joined by or -/
theorem optO {g : Bool} {l : List (Option Vl)} {o q : Option Vl} (hne : l ≠ []) (h : (o = none ∧ l.filterMap id = []) ∨ ∃ v, o = some v ∧ Best g (l.filterMap id) v) (hq : IsO g l q) : (if (l.filterMap id).length = l.length then o else none) = q := by
  cases q with
  | none =>
    have hq : (l.filterMap id).length ≠ l.length := hq
    rw [if_neg hq]
  | some w =>
    obtain ⟨h1, h2⟩ := hq
    rw [if_pos h1]
    rcases h with ⟨_, h⟩ | ⟨v, rfl, h⟩
    · rw [h] at h2; exact (best_nil h2).elim
    · rw [best_unique h h2]
mutual
/-- every value written is short -/
def shrt : Cd → Prop
  | .tst _ _ v => (kls v).length ≤ 1000
  | .tcol _ _ _ => True
  | .neg x => shrt x
  | .many _ xs => shrts xs
def shrts : List Cd → Prop
  | [] => True
  | x :: r => shrt x ∧ shrts r
end
def ok2 (p : Option Vl × Option Vl) : Prop := (∀ v, p.1 = some v → (kls v).length ≤ 1000) ∧ ∀ v, p.2 = some v → (kls v).length ≤ 1000
theorem ok2_none : ok2 (none, none) := ⟨fun v h => (by cases h), fun v h => (by cases h)⟩
theorem fur_ok {a b : Option Vl} {lo : Bool} (ha : ∀ v, a = some v → (kls v).length ≤ 1000) (hb : ∀ v, b = some v → (kls v).length ≤ 1000) : ∀ v, fur a b lo = some v → (kls v).length ≤ 1000 := fun v h => by
  unfold fur at h
  cases a with
  | none => exact hb v h
  | some x =>
    cases b with
    | none => exact ha v h
    | some y =>
      dsimp only at h
      split at h
      · exact ha v h
      · exact hb v h
theorem step_ok {a : Bool} {p q : Option Vl × Option Vl} (hp : ok2 p) (hq : ok2 q) : ok2 (stepB a p q) := by
  unfold stepB
  cases a with
  | true => exact ⟨fur_ok hp.1 hq.1, fur_ok hp.2 hq.2⟩
  | false =>
    refine ⟨fun v h => ?_, fun v h => ?_⟩
    · have h : (if (p.1 = none ∨ q.1 = none) then none else fur p.1 q.1 true) = some v := h
      split at h
      · cases h
      · exact fur_ok hp.1 hq.1 v h
    · have h : (if (p.2 = none ∨ q.2 = none) then none else fur p.2 q.2 false) = some v := h
      split at h
      · cases h
      · exact fur_ok hp.2 hq.2 v h
mutual
theorem bnd_ok {col : Cl} : ∀ c : Cd, shrt c → ok2 (bnd col c)
  | .tst c s v, h => by
    unfold shrt at h
    unfold bnd
    split
    · cases s <;> refine ⟨fun w e => ?_, fun w e => ?_⟩ <;> cases e <;> exact h
    · exact ok2_none
  | .tcol c s c2, _ => by unfold bnd; exact ok2_none
  | .neg x, _ => by unfold bnd; exact ok2_none
  | .many a xs, h => by
    unfold shrt at h
    have all := bnds_ok (col := col) xs h
    unfold bnd
    cases hb : bnds col xs with
    | nil => exact ok2_none
    | cons p r =>
      rw [hb] at all
      show ok2 (r.foldl (stepB a) p)
      have hp := all p List.mem_cons_self
      have hr : ∀ q ∈ r, ok2 q := fun q hq => all q (List.mem_cons_of_mem _ hq)
      clear hb all
      induction r generalizing p with
      | nil => exact hp
      | cons q r ih => exact ih (stepB a p q) (step_ok hp (hr q List.mem_cons_self)) fun z hz => hr z (List.mem_cons_of_mem _ hz)
theorem bnds_ok {col : Cl} : ∀ xs : List Cd, shrts xs → ∀ p ∈ bnds col xs, ok2 p
  | [], _, p, hp => by unfold bnds at hp; cases hp
  | x :: r, h, p, hp => by
    unfold shrts at h
    unfold bnds at hp
    rcases List.mem_cons.mp hp with rfl | hp
    · exact bnd_ok x h.1
    · exact bnds_ok r h.2 p hp
end
theorem bnds_len {col : Cl} : ∀ xs : List Cd, (bnds col xs).length = xs.length
  | [] => by rw [bnds]; rfl
  | x :: r => by rw [bnds, List.length_cons, List.length_cons, bnds_len r]
theorem bnds_map {col : Cl} : ∀ xs : List Cd, xs.map (bnd col) = bnds col xs
  | [] => by rw [bnds]; rfl
  | x :: r => by rw [bnds, List.map_cons, bnds_map r]

theorem fold_low {a : Bool} {ps : List (Option Vl × Option Vl)} {p : Option Vl × Option Vl} {o : Option Vl} (h : (o = none ∧ lows (p :: ps) = []) ∨ ∃ v, o = some v ∧ Best a (lows (p :: ps)) v) :
    (if a = true then o else if (lows (p :: ps)).length = (p :: ps).length then o else none) = (ps.foldl (stepB a) p).1 := by
  have el : lows (p :: ps) = ((p :: ps).map (·.1)).filterMap id := by unfold lows; rw [fm_id]
  rw [step_fst]
  cases a with
  | true =>
    have hq := foldA false (ps.map (·.1)) p.1
    simp only [if_true]
    rw [el, List.map_cons] at h
    exact optA h hq
  | false =>
    have hq := foldO true (ps.map (·.1)) p.1
    simp only [Bool.false_eq_true, if_false]
    rw [el, List.map_cons] at h
    have := optO (by simp) h hq
    rw [el, List.map_cons, ← this]
    simp
theorem fold_high {a : Bool} {ps : List (Option Vl × Option Vl)} {p : Option Vl × Option Vl} {o : Option Vl} (h : (o = none ∧ highs (p :: ps) = []) ∨ ∃ v, o = some v ∧ Best (!a) (highs (p :: ps)) v) :
    (if a = true then o else if (highs (p :: ps)).length = (p :: ps).length then o else none) = (ps.foldl (stepB a) p).2 := by
  have el : highs (p :: ps) = ((p :: ps).map (·.2)).filterMap id := by unfold highs; rw [fm_id]
  rw [step_snd]
  cases a with
  | true =>
    have hq := foldA true (ps.map (·.2)) p.2
    simp only [if_true]
    rw [el, List.map_cons] at h
    exact optA h hq
  | false =>
    have hq := foldO false (ps.map (·.2)) p.2
    simp only [Bool.false_eq_true, if_false]
    rw [el, List.map_cons] at h
    have := optO (by simp) h hq
    rw [el, List.map_cons, ← this]
    simp
theorem short_low {ps : List (Option Vl × Option Vl)} (h : ∀ p ∈ ps, ok2 p) : ∀ v ∈ lows ps, (kls v).length ≤ 1000 := fun v hv => by
  obtain ⟨p, hp, e⟩ := List.mem_filterMap.mp hv
  exact (h p hp).1 v e
theorem short_high {ps : List (Option Vl × Option Vl)} (h : ∀ p ∈ ps, ok2 p) : ∀ v ∈ highs ps, (kls v).length ≤ 1000 := fun v hv => by
  obtain ⟨p, hp, e⟩ := List.mem_filterMap.mp hv
  exact (h p hp).2 v e
/-- the joined case -/
theorem lb_many {S : Store} {col : Cl} {m : Nat} {a : Bool} {x : Cd} {r : List Cd} (hz : (x :: r).length ≤ 10) (hs : shrts (x :: r)) (all : ∀ y ∈ x :: r, run tab (m + 2) 15 [enc y, dc col] S = .ok (dpair (bnd col y)) S) :
    run tab (m + 3) 15 [enc (.many a (x :: r)), dc col] S = .ok (dpair (bnd col (.many a (x :: r)))) S := by
  have eb : bnd col (.many a (x :: r)) = (bnds col r).foldl (stepB a) (bnd col x) := by rw [bnd, bnds]
  rw [eb]
  have hok : ∀ p ∈ bnd col x :: bnds col r, ok2 p := by
    have := bnds_ok (col := col) (x :: r) hs
    rwa [bnds] at this
  have hlen : (bnd col x :: bnds col r).length ≤ 1000 := by
    rw [List.length_cons, bnds_len]
    rw [List.length_cons] at hz
    omega
  have cp : ∀ d0 : D, evK (run tab (m + 2)) (.comp (.nm 5) .it [(.p2 .ix (.v 0) (.c (.int 1)))] [] (.call 15 [(.v 5), (.v 1)]) [5]) [some (.tup [d0, .tup (encs (x :: r))]), some (dc col), none, none, none, none, none, none, none, none] S = .ok (.lis ((bnd col x :: bnds col r).map dpair)) S := by
    intro d0
    rw [evK]
    simp only [evWs, evK, vv, R.bd, List.getElem?_cons_zero, its, W.seq, t1, live1]
    rw [compL_encs (g := fun y => dpair (bnd col y)) (x :: r) [] (fun y hy => ?_) (by rw [List.length_nil, Nat.zero_add]; exact Nat.le_trans hz (by decide))]
    · have : (x :: r).map (fun y => dpair (bnd col y)) = (bnd col x :: bnds col r).map dpair := by
        rw [← bnds_map, ← List.map_cons, List.map_map]; rfl
      rw [this]; rfl
    · simp [bindTg, wipeD, evCs, evK, evDs, vv, R.bd, toD, R.nox, all y hy]
  have hfl := fun (o : Option Vl) h => fold_low (a := a) (ps := bnds col r) (p := bnd col x) (o := o) h
  have hfh := fun (o : Option Vl) h => fold_high (a := a) (ps := bnds col r) (p := bnd col x) (o := o) h
  generalize (bnds col r).foldl (stepB a) (bnd col x) = q at *
  generalize hps : bnd col x :: bnds col r = ps at *
  have e : enc (.many a (x :: r)) = .tup [.str (if a = true then "and" else "or"), .tup (encs (x :: r))] := by rw [enc]
  rw [e]
  generalize encs (x :: r) = es at *
  clear e
  -- what stands, step by step
  have td1 : toD (.lis (ps.map dpair)) S = .ok (.ref S.length) (S ++ [.lst (ps.map dpair)]) := rfl
  have g1 : (S ++ [O.lst (ps.map dpair)])[S.length]? = some (.lst (ps.map dpair)) := by simp
  obtain ⟨T1, hT1⟩ : ∃ T, T = S ++ [O.lst (ps.map dpair)] := ⟨_, rfl⟩
  rw [← hT1] at td1 g1
  have td2 : toD (.lis ((lows ps).map dv)) T1 = .ok (.ref T1.length) (T1 ++ [.lst ((lows ps).map dv)]) := rfl
  have g2 : (T1 ++ [O.lst ((lows ps).map dv)])[T1.length]? = some (.lst ((lows ps).map dv)) := by simp
  have g1' : (T1 ++ [O.lst ((lows ps).map dv)])[S.length]? = some (.lst (ps.map dpair)) := by
    rw [List.getElem?_append_left (List.getElem?_eq_some_iff.mp g1).1]; exact g1
  obtain ⟨T2, hT2⟩ : ∃ T, T = T1 ++ [O.lst ((lows ps).map dv)] := ⟨_, rfl⟩
  rw [← hT2] at td2 g2 g1'
  have td3 : toD (.lis ((highs ps).map dv)) T2 = .ok (.ref T2.length) (T2 ++ [.lst ((highs ps).map dv)]) := rfl
  have g3 : (T2 ++ [O.lst ((highs ps).map dv)])[T2.length]? = some (.lst ((highs ps).map dv)) := by simp
  have g2' : (T2 ++ [O.lst ((highs ps).map dv)])[T1.length]? = some (.lst ((lows ps).map dv)) := by
    rw [List.getElem?_append_left (List.getElem?_eq_some_iff.mp g2).1]; exact g2
  have g1'' : (T2 ++ [O.lst ((highs ps).map dv)])[S.length]? = some (.lst (ps.map dpair)) := by
    rw [List.getElem?_append_left (List.getElem?_eq_some_iff.mp g1').1]; exact g1'
  obtain ⟨T3, hT3⟩ : ∃ T, T = T2 ++ [O.lst ((highs ps).map dv)] := ⟨_, rfl⟩
  rw [← hT3] at td3 g3 g2' g1''
  have pk : ∀ d : D, D.und S.length d = true → pack S d T3 = .ok d S := fun d hd => by
    rw [hT3, hT2, hT1, List.append_assoc, List.append_assoc]
    exact pack_app hd
  have lenL := len_ref g2'
  have lenH := len_ref g3
  have lenT := len_ref g1''
  rw [List.length_map] at lenL lenH lenT
  have sl := short_low hok
  have sh := short_high hok
  generalize S.length = m1 at *
  generalize T1.length = m2 at *
  generalize T2.length = m3 at *
  cases a with
  | true =>
    obtain ⟨o1, ho1, ho1'⟩ := r_leastO (n := m) true g2' sl
    obtain ⟨o2, ho2, ho2'⟩ := r_leastO (n := m) false g3 sh
    have q1 : o1 = q.1 := hfl o1 ho1'
    have q2 : o2 = q.2 := hfh o2 ho2'
    rw [q1] at ho1
    rw [q2] at ho2
    have cp := cp (.str "and")
    have cl := cp_low (C := run tab (m + 2)) (ρ := [some (.tup [.str "and", .tup es]), some (dc col), none, none, some (.ref m1), none, none, none, none, none]) g1 hlen rfl (by simp)
    have ch := cp_high (C := run tab (m + 2)) (ρ := [some (.tup [.str "and", .tup es]), some (dc col), none, none, some (.ref m1), none, some (.ref m2), none, none, none]) g1' hlen rfl (by simp)
    have pk := pk (dpair q) und_pair
    rw [run_fin (F := ⟨2, 10, b15⟩) rfl rfl]
    unfold dpair at pk ⊢
    generalize dop q.1 = d1 at *
    generalize dop q.2 = d2 at *
    simp [↓cp, ↓cl, ↓ch, ↓td1, ↓td2, ↓td3, b15, exSs, exS, evD, evB, evK, evDs, vv, R.bd, R.st, RS.sq, toD, toB, fin, isN_tup, t0, eq_ss, sx0, sx1, sx2, sx3, sx4, sx5, sx6, sx7, sx8, sx9, sx10, sx11, sx12, sx13, sx14, sx15, sx16, sx17, sx18, sx19, sx20, sx21, sx22, sx23, sx24, sx25, sx26, sx27, sx28, sx29, sx30, sx31, sx32, sx33, sx34, sx35, sx36, sx37, sx38, sx39, sx40, sx41, sx42, sx43, bindTg, sz2, ho1, ho2, pk]
  | false =>
    obtain ⟨o1, ho1, ho1'⟩ := r_leastO (n := m) false g2' sl
    obtain ⟨o2, ho2, ho2'⟩ := r_leastO (n := m) true g3 sh
    have q1 := hfl o1 ho1'
    have q2 := hfh o2 ho2'
    have cp := cp (.str "or")
    have cl := cp_low (C := run tab (m + 2)) (ρ := [some (.tup [.str "or", .tup es]), some (dc col), none, none, some (.ref m1), none, none, none, none, none]) g1 hlen rfl (by simp)
    have ch := cp_high (C := run tab (m + 2)) (ρ := [some (.tup [.str "or", .tup es]), some (dc col), none, none, some (.ref m1), none, some (.ref m2), none, none, none]) g1' hlen rfl (by simp)
    have pk := pk (dpair q) und_pair
    have l1 : p2 .ix (.lis [.non, dop o1]) (.val (.int (if decide (((lows ps).length : Int) = ps.length) = true then 1 else 0))) T3 = .ok (.val (dop q.1)) T3 := by
      rw [← q1]
      by_cases h : (lows ps).length = ps.length
      · have h' : (((lows ps).length : Int) = ps.length) := by omega
        simp only [h, decide_true, if_true, Bool.false_eq_true, if_false]
        exact ix_lis atI1
      · have h' : ¬ (((lows ps).length : Int) = ps.length) := by omega
        simp only [h, h', decide_false, Bool.false_eq_true, if_false]
        exact ix_lis atI0
    have l2 : p2 .ix (.lis [.non, dop o2]) (.val (.int (if decide (((highs ps).length : Int) = ps.length) = true then 1 else 0))) T3 = .ok (.val (dop q.2)) T3 := by
      rw [← q2]
      by_cases h : (highs ps).length = ps.length
      · have h' : (((highs ps).length : Int) = ps.length) := by omega
        simp only [h, decide_true, if_true, Bool.false_eq_true, if_false]
        exact ix_lis atI1
      · have h' : ¬ (((highs ps).length : Int) = ps.length) := by omega
        simp only [h, h', decide_false, Bool.false_eq_true, if_false]
        exact ix_lis atI0
    have e1 := eq_ii (S := T3) (i := ((lows ps).length : Int)) (j := (ps.length : Int))
    have e2 := eq_ii (S := T3) (i := ((highs ps).length : Int)) (j := (ps.length : Int))
    generalize decide (((lows ps).length : Int) = ps.length) = k1 at *
    generalize decide (((highs ps).length : Int) = ps.length) = k2 at *
    have i1 := int_bl (S := T3) (b := k1)
    have i2 := int_bl (S := T3) (b := k2)
    generalize (if k1 = true then (1 : Int) else 0) = j1 at *
    generalize (if k2 = true then (1 : Int) else 0) = j2 at *
    rw [run_fin (F := ⟨2, 10, b15⟩) rfl rfl]
    unfold dpair at pk ⊢
    generalize dop q.1 = d1 at *
    generalize dop q.2 = d2 at *
    generalize dop o1 = d3 at *
    generalize dop o2 = d4 at *
    simp [↓cp, ↓cl, ↓ch, ↓td1, ↓td2, ↓td3, b15, exSs, exS, evD, evB, evK, evDs, vv, R.bd, R.st, RS.sq, toD, toB, fin, isN_tup, t0, eq_ss, sx0, sx1, sx2, sx3, sx4, sx5, sx6, sx7, sx8, sx9, sx10, sx11, sx12, sx13, sx14, sx15, sx16, sx17, sx18, sx19, sx20, sx21, sx22, sx23, sx24, sx25, sx26, sx27, sx28, sx29, sx30, sx31, sx32, sx33, sx34, sx35, sx36, sx37, sx38, sx39, sx40, sx41, sx42, sx43, bindTg, sz2, ho1, ho2, pk, lenL, lenH, lenT, e1, e2, i1, i2, l1, l2]

mutual
theorem r_lb {S : Store} {col : Cl} : ∀ (c : Cd), wf c → shrt c → ∀ n, run tab (n + dep c + 3) 15 [enc c, dc col] S = .ok (dpair (bnd col c)) S
  | .tst c s v, _, _, n => by
    have h := lbt (n := n + 2) (S := S) c s v col
    rw [bnd]
    exact h
  | .tcol c s c2, _, _, n => by
    have h := lbt2 (n := n + 2) (S := S) c s c2 col
    rw [bnd]
    exact h
  | .neg x, _, _, n => by
    show run tab ((n + dep (.neg x) + 2) + 1) 15 _ S = _
    rw [run_fin (F := ⟨2, 10, b15⟩) rfl rfl]
    have e : enc (.neg x) = .tup [.str "not", enc x] := by rw [enc]
    rw [e, bnd]
    simp [b15, exSs, exS, evD, evB, evK, evDs, vv, R.bd, R.st, RS.sq, toD, toB, fin, isN_tup, t0, eq_ss, pack_same, dpair, dop, sz2]
  | .many a xs, hw, hs, n => by
    unfold wf at hw
    unfold shrt at hs
    obtain ⟨h0, h1, h2⟩ := hw
    have all := r_lbs (S := S) (col := col) xs h2 hs n
    cases xs with
    | nil => exact absurd rfl h0
    | cons x r =>
      have e1 : n + dep (.many a (x :: r)) + 3 = (n + deps (x :: r) + 1) + 3 := by rw [dep]; omega
      rw [e1]
      exact lb_many (m := n + deps (x :: r) + 1) h1 hs all
theorem r_lbs {S : Store} {col : Cl} : ∀ (xs : List Cd), wfs xs → shrts xs → ∀ n, ∀ x ∈ xs, run tab (n + deps xs + 3) 15 [enc x, dc col] S = .ok (dpair (bnd col x)) S
  | [], _, _, _, _, h => absurd h List.not_mem_nil
  | y :: r, hw, hs, n, x, hx => by
    unfold wfs at hw
    unfold shrts at hs
    rcases List.mem_cons.mp hx with e | hx
    · have e1 : n + deps (y :: r) + 3 = (n + deps (y :: r) - dep y) + dep y + 3 := by rw [deps]; omega
      rw [e, e1]
      exact r_lb y hw.1 hs.1 _
    · have e1 : n + deps (y :: r) + 3 = (n + deps (y :: r) - deps r) + deps r + 3 := by rw [deps]; omega
      rw [e1]
      exact r_lbs r hw.2 hs.2 _ x hx
end
end Mi.L

namespace Mi.L
open PySem Mi
/-! ### the exact comparison -/
theorem whileF_go {c : Env → Store → R Bool} {b : Env → Store → RS} {n : Nat} {ρ ρ' : Env} {S S1 S2 : Store} {r : RS} (hc : c ρ S = .ok true S1) (hb : b ρ S1 = .ok .nx ρ' S2) (h : whileF c b n ρ' S2 = some r) : whileF c b (n + 1) ρ S = some r := by
  rw [whileF, hc]
  dsimp only
  rw [hb]
  exact h
theorem whileF_end {c : Env → Store → R Bool} {b : Env → Store → RS} {n : Nat} {ρ : Env} {S S1 : Store} (hc : c ρ S = .ok false S1) : whileF c b (n + 1) ρ S = some (.ok .nx ρ S1) := by
  rw [whileF, hc]
/-- a pile of pairs -/
abbrev Pl := List (D × D)
def dpl (p : Pl) : List D := p.map fun q => .tup [q.1, q.2]
theorem ne_nil {S : Store} {k : Nat} {ds : List D} {ys : List PyData} (hk : S[k]? = some (.lst ds)) (h : mapO (toPy S 39) ds = some ys) : p2 .ne (.val (.ref k)) (.lis []) S = .ok (.val (.bl (!ds.isEmpty))) S := by
  have e : W.py S (.val (.ref k)) = some (.list ys) := by
    show (match S[k]? with | some (.lst ds) => (mapO (toPy S 39) ds).map PyData.list | _ => none) = _
    rw [hk]
    show (mapO (toPy S 39) ds).map PyData.list = _
    rw [h]; rfl
  show (match W.py S (.val (.ref k)), W.py S (.lis []) with | some a, some b => vv (.bl (!PyData.eqv a b)) S | _, _ => .bad) = _
  rw [e]
  show vv (.bl (!PyData.eqvAll ys [])) S = _
  cases ds with
  | nil =>
    cases h
    simp [PyData.eqvAll, vv]
  | cons v r =>
    obtain ⟨b, bs, _, _, rfl⟩ := mapO_cons h
    simp [PyData.eqvAll, vv]
theorem pop_app {S : Store} {l : List D} {d : D} : p1 .pop (.val (.ref S.length)) (S ++ [.lst (l ++ [d])]) = .ok (.val d) (S ++ [.lst l]) := by
  simp [p1]
theorem ext_app {S : Store} {l es : List D} (h : l.length + es.length ≤ sizeLine) : p2 .extend (.val (.ref S.length)) (.lis es) (S ++ [.lst l]) = .ok (.val .non) (S ++ [.lst (l ++ es)]) := by
  have g : (S ++ [O.lst l])[S.length]? = some (.lst l) := by simp
  show (match (S ++ [O.lst l])[S.length]? with
      | some (.lst ds) => match W.seq (S ++ [O.lst l]) (.lis es) with
        | some (_, es') => if (isLst (S ++ [O.lst l]) (.lis es) && decide (ds.length + es'.length ≤ sizeLine)) = true then vv .non ((S ++ [O.lst l]).set S.length (.lst (ds ++ es'))) else .bad
        | _ => .bad
      | _ => .bad) = _
  rw [g]
  show (if (true && decide (l.length + es.length ≤ sizeLine)) = true then vv .non ((S ++ [O.lst l]).set S.length (.lst (l ++ es))) else .bad) = _
  rw [if_pos (by simpa using h)]
  simp [vv]
theorem is_tl {T : Store} {o : Option Vl} : isiW [.tuple, .list] (.val (dop o)) T = .ok (.val (.bl false)) T := by
  cases o with
  | none => rfl
  | some v => cases v <;> rfl
theorem is_bo {T : Store} {o : Option Vl} : isiW [.bool] (.val (dop o)) T = .ok (.val (.bl false)) T := by
  cases o with
  | none => rfl
  | some v => cases v <;> rfl
theorem is_tl_t {T : Store} {ds : List D} : isiW [.tuple, .list] (.val (.tup ds)) T = .ok (.val (.bl true)) T := rfl
theorem is_l_t {T : Store} {ds : List D} : isiW [.list] (.val (.tup ds)) T = .ok (.val (.bl false)) T := rfl
theorem ne_dop {T : Store} {o : Option Vl} : p2 .ne (.val (dop o)) (.val (dop o)) T = .ok (.val (.bl false)) T := by
  cases o with
  | none => rfl
  | some v =>
    cases v with
    | inl i => show p2 .ne (.val (.int i)) (.val (.int i)) T = _; rw [ne_ii]; simp
    | inr i => show p2 .ne (.val (.str i)) (.val (.str i)) T = _; rw [ne_ss]; simp
theorem ne_bb {S : Store} {i j : Bool} : p2 .ne (.val (.bl i)) (.val (.bl j)) S = .ok (.val (.bl (!decide (i = j)))) S := by
  cases i <;> cases j <;> rfl
theorem len_tup {T : Store} {ds : List D} : p1 .len (.val (.tup ds)) T = .ok (.val (.int ds.length)) T := rfl
theorem lzip_tt {T : Store} {ds es : List D} : p2 .lzip (.val (.tup ds)) (.val (.tup es)) T = .ok (.lis ((ds.zip es).map fun p => .tup [p.1, p.2])) T := rfl
theorem is_ref {S : Store} {l : List D} : MK.is (S ++ [O.lst l]) .list (.val (.ref S.length)) = true := by
  show (match (S ++ [O.lst l])[S.length]? with | some (.lst _) => true | _ => false) = true
  simp
theorem turnO {C : CF} {S : Store} {l : List D} {a b : D} {o : Option Vl} {o3 o4 : Option D} : exSs C b16_0 [some a, some b, some (.ref S.length), o3, o4] (S ++ [.lst (l ++ [.tup [dop o, dop o]])]) = .ok .nx [some a, some b, some (.ref S.length), some (dop o), some (dop o)] (S ++ [.lst l]) := by
  simp [b16_0, exSs, exS, evD, evB, evK, evDs, vv, R.bd, R.st, RS.sq, toD, toB, bindTg, bindTs, is_ref, pop_app, is_tl, is_bo, ne_dop]
theorem turnP {C : CF} {S : Store} {a b : D} {p : Option Vl × Option Vl} {o3 o4 : Option D} : exSs C b16_0 [some a, some b, some (.ref S.length), o3, o4] (S ++ [.lst [.tup [dpair p, dpair p]]]) =
    .ok .nx [some a, some b, some (.ref S.length), some (dpair p), some (dpair p)] (S ++ [.lst [.tup [dop p.1, dop p.1], .tup [dop p.2, dop p.2]]]) := by
  have h1 := pop_app (S := S) (l := []) (d := .tup [dpair p, dpair p])
  have h2 := ext_app (S := S) (l := []) (es := [.tup [dop p.1, dop p.1], .tup [dop p.2, dop p.2]]) (show 2 ≤ sizeLine by decide)
  rw [List.nil_append] at h1 h2
  unfold dpair at h1 ⊢
  simp [b16_0, exSs, exS, evD, evB, evK, evDs, vv, R.bd, R.st, RS.sq, toD, toB, bindTg, bindTs, is_ref, h1, h2, is_tl_t, is_l_t, ne_bb, len_tup, ne_ii, lzip_tt]
theorem py_opt {T : Store} {o : Option Vl} {j : Nat} : ∃ y, toPy T (j + 1) (dop o) = some y := by
  cases o with
  | none => exact ⟨_, rfl⟩
  | some v => cases v <;> exact ⟨_, rfl⟩
theorem py_two {T : Store} {a b : D} {j : Nat} {x y : PyData} (ha : toPy T j a = some x) (hb : toPy T j b = some y) : toPy T (j + 1) (.tup [a, b]) = some (.tuple [x, y]) := by
  show (mapO (toPy T j) [a, b]).map PyData.tuple = _
  simp only [mapO, ha, hb]
  rfl
theorem sz1 : (1 : Nat) ≤ sizeLine := by decide
/-- two alike answers: three turns -/
theorem r_exact {n : Nat} {S : Store} (p : Option Vl × Option Vl) : run tab (n + 1) 16 [dpair p, dpair p] S = .ok (.bl true) S := by
  obtain ⟨a, b⟩ := p
  have cond : ∀ (o3 o4 : Option D) (l : List D), (∃ ys, mapO (toPy (S ++ [.lst l]) 39) l = some ys) → evB (run tab n) (.p2 .ne (.v 2) (.disp [])) [some (dpair (a, b)), some (dpair (a, b)), some (.ref S.length), o3, o4] (S ++ [.lst l]) = .ok (!l.isEmpty) (S ++ [.lst l]) := fun o3 o4 l ⟨ys, h⟩ => by
    have q := ne_nil (S := S ++ [.lst l]) (k := S.length) (ds := l) (by simp) h
    simp [evB, evK, evDs, vv, R.bd, toB, q]
  have one : ∀ (T : Store) (x y : D) (j : Nat), (∃ z, toPy T j x = some z) → (∃ z, toPy T j y = some z) → ∃ z, toPy T (j + 1) (.tup [x, y]) = some z := fun T x y j ⟨z, hz⟩ ⟨w, hw⟩ => ⟨_, py_two hz hw⟩
  have wh : whileR (evB (run tab n) (.p2 .ne (.v 2) (.disp []))) (exSs (run tab n) b16_0) [some (dpair (a, b)), some (dpair (a, b)), some (.ref S.length), none, none] (S ++ [.lst [.tup [dpair (a, b), dpair (a, b)]]]) =
      .ok .nx [some (dpair (a, b)), some (dpair (a, b)), some (.ref S.length), some (dop a), some (dop a)] (S ++ [.lst []]) := by
    have m1 : ∀ (T : Store) (x : D) (j : Nat), (∃ z, toPy T j x = some z) → ∃ ys, mapO (toPy T j) [x] = some ys := fun T x j ⟨z, hz⟩ => ⟨[z], by simp only [mapO, hz]⟩
    have m2 : ∀ (T : Store) (x y : D) (j : Nat), (∃ z, toPy T j x = some z) → (∃ z, toPy T j y = some z) → ∃ ys, mapO (toPy T j) [x, y] = some ys := fun T x y j ⟨z, hz⟩ ⟨w, hw⟩ => ⟨[z, w], by simp only [mapO, hz, hw]⟩
    refine whileR_of (n := 4) (whileF_go (cond _ _ _ ?_) turnP (whileF_go (cond _ _ _ ?_) (turnO (l := [.tup [dop a, dop a]]) (o := b)) (whileF_go (cond _ _ _ ?_) (turnO (l := []) (o := a)) (whileF_end (cond _ _ [] ⟨[], rfl⟩)))))
    · exact m1 _ _ 39 (one _ _ _ 38 (one _ _ _ 37 py_opt py_opt) (one _ _ _ 37 py_opt py_opt))
    · exact m2 _ _ _ 39 (one _ _ _ 38 py_opt py_opt) (one _ _ _ 38 py_opt py_opt)
    · exact m1 _ _ 39 (one _ _ _ 38 py_opt py_opt)
  have pk : pack S (.bl true) (S ++ [.lst []]) = .ok (.bl true) S := pack_app und_bl
  rw [run_fin (F := ⟨2, 5, b16⟩) rfl rfl]
  generalize dpair (a, b) = P at *
  simp [b16, exSs, exS, evD, evK, evDs, vv, R.bd, R.st, RS.sq, toD, bindTg, sz1, sz2, fin, wh, pk]
end Mi.L

namespace Mi.L
open PySem Mi
def wi (v : Vl) (p : Option Vl × Option Vl) : Bool := (match p.1 with | none => true | some lo => !vlt v lo) && (match p.2 with | none => true | some hi => !vlt hi v)
theorem r_within {n : Nat} {S : Store} {m : Nat} {col : Cl} {v : Vl} {p : Option Vl × Option Vl} (hL : p2 .ix (.val (.ref m)) (.val (dc col)) S = .ok (.val (dv v)) S) (hv : (kls v).length ≤ 1000) (hp : ok2 p) :
    run tab (n + 2) 18 [.ref m, dc col, dpair p] S = .ok (.bl (wi v p)) S := by
  obtain ⟨a, b⟩ := p
  have h1 := r_key (n := n) (S := S) v (kl hv)
  rw [run_fin (F := ⟨3, 4, b18⟩) rfl rfl]
  have pk : ∀ (x : Bool) (T : Store), pack S (.bl x) (S ++ T) = .ok (.bl x) S := fun x T => pack_app und_bl
  have e : dpair (a, b) = .tup [dop a, dop b] := rfl
  rw [e]
  have g0 : (S ++ [ko v])[S.length]? = some (ko v) := by simp
  cases a with
  | none =>
    cases b with
    | none =>
      have pk := pk true [ko v]
      simp [b18, exSs, exS, evD, evB, evK, evDs, vv, R.bd, R.st, RS.sq, toD, toB, bindTg, fin, hL, h1, t0, t1, notN_non, isN_non, dop, wi, pk]
    | some hi =>
      have h3 := r_key (n := n) (S := S ++ [ko v]) hi (kl (hp.2 hi rfl))
      have g1 : (S ++ [ko v] ++ [ko hi])[S.length]? = some (ko v) := by rw [List.append_assoc]; simp
      have g2 : (S ++ [ko v] ++ [ko hi])[(S ++ [ko v]).length]? = some (ko hi) := by rw [List.getElem?_append_right (Nat.le_refl _), Nat.sub_self]; rfl
      have q := k_le g1 g2
      have pk := pk (!vlt hi v) ([ko v] ++ [ko hi])
      rw [← List.append_assoc] at pk
      generalize S ++ [ko v] ++ [ko hi] = T2 at *
      generalize (S ++ [ko v]).length = k2 at *
      simp [b18, exSs, exS, evD, evB, evK, evDs, vv, R.bd, R.st, RS.sq, toD, toB, bindTg, fin, hL, h1, h3, q, t0, t1, notN_non, isN_non, isN_dv, dop, wi, pk]
  | some lo =>
    have h3 := r_key (n := n) (S := S ++ [ko v]) lo (kl (hp.1 lo rfl))
    have g1 : (S ++ [ko v] ++ [ko lo])[S.length]? = some (ko v) := by rw [List.append_assoc]; simp
    have g2 : (S ++ [ko v] ++ [ko lo])[(S ++ [ko v]).length]? = some (ko lo) := by rw [List.getElem?_append_right (Nat.le_refl _), Nat.sub_self]; rfl
    have q := k_lt g1 g2
    by_cases hlt : vlt v lo = true
    · have pk := pk false ([ko v] ++ [ko lo])
      rw [← List.append_assoc] at pk
      rw [hlt] at q
      generalize S ++ [ko v] ++ [ko lo] = T2 at *
      generalize (S ++ [ko v]).length = k2 at *
      simp [b18, exSs, exS, evD, evB, evK, evDs, vv, R.bd, R.st, RS.sq, toD, toB, bindTg, fin, hL, h1, h3, q, t0, t1, notN_dv, dop, wi, pk, hlt]
    · have hlt : vlt v lo = false := by simpa using hlt
      rw [hlt] at q
      cases b with
      | none =>
        have pk := pk true ([ko v] ++ [ko lo])
        rw [← List.append_assoc] at pk
        generalize S ++ [ko v] ++ [ko lo] = T2 at *
        generalize (S ++ [ko v]).length = k2 at *
        simp [b18, exSs, exS, evD, evB, evK, evDs, vv, R.bd, R.st, RS.sq, toD, toB, bindTg, fin, hL, h1, h3, q, t0, t1, notN_dv, isN_non, dop, wi, pk, hlt]
      | some hi =>
        have h4 := r_key (n := n) (S := S ++ [ko v] ++ [ko lo]) hi (kl (hp.2 hi rfl))
        have g3 : (S ++ [ko v] ++ [ko lo] ++ [ko hi])[S.length]? = some (ko v) := by rw [List.append_assoc, List.append_assoc]; simp
        have g4 : (S ++ [ko v] ++ [ko lo] ++ [ko hi])[(S ++ [ko v] ++ [ko lo]).length]? = some (ko hi) := by rw [List.getElem?_append_right (Nat.le_refl _), Nat.sub_self]; rfl
        have q2 := k_le g3 g4
        have pk := pk (!vlt hi v) ([ko v] ++ ([ko lo] ++ [ko hi]))
        rw [← List.append_assoc, ← List.append_assoc] at pk
        generalize S ++ [ko v] ++ [ko lo] ++ [ko hi] = T3 at *
        generalize (S ++ [ko v] ++ [ko lo]).length = k3 at *
        generalize S ++ [ko v] ++ [ko lo] = T2 at *
        generalize (S ++ [ko v]).length = k2 at *
        simp [b18, exSs, exS, evD, evB, evK, evDs, vv, R.bd, R.st, RS.sq, toD, toB, bindTg, fin, hL, h1, h3, h4, q, q2, t0, t1, notN_dv, isN_dv, dop, wi, pk, hlt]
/-! ### the condition of the line's own values -/
mutual
def ownC (L : Cl → Vl) : Cd → Cd
  | .tst c s _ => .tst c s (L c)
  | .tcol c s _ => .tst c s (L c)
  | .neg x => .neg (ownC L x)
  | .many a xs => .many a (ownCs L xs)
def ownCs (L : Cl → Vl) : List Cd → List Cd
  | [] => []
  | x :: r => ownC L x :: ownCs L r
end
theorem encs_map : ∀ xs : List Cd, encs xs = xs.map enc
  | [] => by rw [encs]; rfl
  | x :: r => by rw [encs, List.map_cons, encs_map r]
theorem own_map (L : Cl → Vl) : ∀ xs : List Cd, ownCs L xs = xs.map (ownC L)
  | [] => by rw [ownCs]; rfl
  | x :: r => by rw [ownCs, List.map_cons, own_map L r]
theorem tuple_lis {T : Store} {ds : List D} : p1 .tuple_ (.lis ds) T = .ok (.val (.tup ds)) T := rfl
theorem sz4 : (4 : Nat) ≤ sizeLine := by decide
section
variable {S : Store} {m : Nat} {L : Cl → Vl} {cols : List Cl}
mutual
theorem r_own (hL : ∀ c ∈ cols, p2 .ix (.val (.ref m)) (.val (dc c)) S = .ok (.val (dv (L c))) S) : ∀ (c : Cd), wf c → inC cols c → ∀ n, run tab (n + dep c + 1) 19 [enc c, .ref m] S = .ok (enc (ownC L c)) S
  | .tst c s v, _, hi, n => by
    unfold inC at hi
    have hc := hL c hi.1
    rw [run_fin (F := ⟨2, 3, b19⟩) rfl rfl]
    have e : enc (.tst c s v) = .tup [.str "test", dc c, .str s.str, .tup [.str "value", dv v]] := by rw [enc]
    have e2 : enc (ownC L (.tst c s v)) = .tup [.str "test", dc c, .str s.str, .tup [.str "value", dv (L c)]] := by rw [ownC, enc]
    rw [e, e2]
    simp [b19, exSs, exS, evD, evB, evK, evDs, vv, R.bd, R.st, RS.sq, toD, toB, fin, t0, t1, t2, eq_ss, sx0, sx1, sx2, sx3, sx4, sx5, sx6, sx7, sx8, sx9, sx10, sx11, sx12, sx13, sx14, sx15, sx16, sx17, sx18, sx19, sx20, sx21, sx22, sx23, sx24, sx25, sx26, sx27, sx28, sx29, sx30, sx31, sx32, sx33, sx34, sx35, sx36, sx37, sx38, sx39, sx40, sx41, sx42, sx43, hc, sz2, sz4, pack_same, und_dc, und_dv]
  | .tcol c s c2, _, hi, n => by
    unfold inC at hi
    have hc := hL c hi.1
    rw [run_fin (F := ⟨2, 3, b19⟩) rfl rfl]
    have e : enc (.tcol c s c2) = .tup [.str "test", dc c, .str s.str, .tup [.str "column", dc c2]] := by rw [enc]
    have e2 : enc (ownC L (.tcol c s c2)) = .tup [.str "test", dc c, .str s.str, .tup [.str "value", dv (L c)]] := by rw [ownC, enc]
    rw [e, e2]
    simp [b19, exSs, exS, evD, evB, evK, evDs, vv, R.bd, R.st, RS.sq, toD, toB, fin, t0, t1, t2, eq_ss, sx0, sx1, sx2, sx3, sx4, sx5, sx6, sx7, sx8, sx9, sx10, sx11, sx12, sx13, sx14, sx15, sx16, sx17, sx18, sx19, sx20, sx21, sx22, sx23, sx24, sx25, sx26, sx27, sx28, sx29, sx30, sx31, sx32, sx33, sx34, sx35, sx36, sx37, sx38, sx39, sx40, sx41, sx42, sx43, hc, sz2, sz4, pack_same, und_dc, und_dv]
  | .neg x, hw, hi, n => by
    have e1 : n + dep (.neg x) + 1 = (n + dep x + 1) + 1 := by rw [dep]; omega
    unfold wf at hw
    unfold inC at hi
    have h := r_own hL x hw hi n
    rw [e1, run_fin (F := ⟨2, 3, b19⟩) rfl rfl]
    have e : enc (.neg x) = .tup [.str "not", enc x] := by rw [enc]
    have e2 : enc (ownC L (.neg x)) = .tup [.str "not", enc (ownC L x)] := by rw [ownC, enc]
    rw [e, e2]
    simp [b19, exSs, exS, evD, evB, evK, evDs, vv, R.bd, R.st, RS.sq, toD, toB, fin, t0, t1, eq_ss, sx0, sx1, sx2, sx3, sx4, sx5, sx6, sx7, sx8, sx9, sx10, sx11, sx12, sx13, sx14, sx15, sx16, sx17, sx18, sx19, sx20, sx21, sx22, sx23, sx24, sx25, sx26, sx27, sx28, sx29, sx30, sx31, sx32, sx33, sx34, sx35, sx36, sx37, sx38, sx39, sx40, sx41, sx42, sx43, h, sz2, pack_same, und_enc]
  | .many a xs, hw, hi, n => by
    have e1 : n + dep (.many a xs) + 1 = (n + deps xs + 1) + 1 := by rw [dep]; omega
    unfold wf at hw
    unfold inC at hi
    obtain ⟨h0, h1, h2⟩ := hw
    have all := r_owns hL xs h2 hi n
    have cp : ∀ d0 : D, evK (run tab (n + deps xs + 1)) (.comp (.nm 2) .it [(.p2 .ix (.v 0) (.c (.int 1)))] [] (.call 19 [(.v 2), (.v 1)]) [2]) [some (.tup [d0, .tup (encs xs)]), some (.ref m), none] S = .ok (.lis (encs (ownCs L xs))) S := by
      intro d0
      rw [evK]
      simp only [evWs, evK, vv, R.bd, List.getElem?_cons_zero, its, W.seq, t1, live1]
      rw [compL_encs (g := fun x => enc (ownC L x)) xs [] (fun x hx => ?_) (by rw [List.length_nil, Nat.zero_add]; exact Nat.le_trans h1 (by decide))]
      · rw [encs_map (ownCs L xs), own_map, List.map_map]
        rfl
      · simp [bindTg, wipeD, evCs, evK, evDs, vv, R.bd, toD, R.nox, all x hx]
    rw [e1, run_fin (F := ⟨2, 3, b19⟩) rfl rfl]
    have e : enc (.many a xs) = .tup [.str (if a = true then "and" else "or"), .tup (encs xs)] := by rw [enc]
    have e2 : enc (ownC L (.many a xs)) = .tup [.str (if a = true then "and" else "or"), .tup (encs (ownCs L xs))] := by rw [ownC, enc]
    rw [e, e2]
    have und := und_encs (k := S.length) (ownCs L xs)
    cases a with
    | true => simp [↓cp, b19, exSs, exS, evD, evB, evK, evDs, vv, R.bd, R.st, RS.sq, toD, toB, fin, t0, t1, eq_ss, sx0, sx1, sx2, sx3, sx4, sx5, sx6, sx7, sx8, sx9, sx10, sx11, sx12, sx13, sx14, sx15, sx16, sx17, sx18, sx19, sx20, sx21, sx22, sx23, sx24, sx25, sx26, sx27, sx28, sx29, sx30, sx31, sx32, sx33, sx34, sx35, sx36, sx37, sx38, sx39, sx40, sx41, sx42, sx43, sz2, pack_same, und, tuple_lis]
    | false => simp [↓cp, b19, exSs, exS, evD, evB, evK, evDs, vv, R.bd, R.st, RS.sq, toD, toB, fin, t0, t1, eq_ss, sx0, sx1, sx2, sx3, sx4, sx5, sx6, sx7, sx8, sx9, sx10, sx11, sx12, sx13, sx14, sx15, sx16, sx17, sx18, sx19, sx20, sx21, sx22, sx23, sx24, sx25, sx26, sx27, sx28, sx29, sx30, sx31, sx32, sx33, sx34, sx35, sx36, sx37, sx38, sx39, sx40, sx41, sx42, sx43, sz2, pack_same, und, tuple_lis]
theorem r_owns (hL : ∀ c ∈ cols, p2 .ix (.val (.ref m)) (.val (dc c)) S = .ok (.val (dv (L c))) S) : ∀ (xs : List Cd), wfs xs → inCs cols xs → ∀ n, ∀ x ∈ xs, run tab (n + deps xs + 1) 19 [enc x, .ref m] S = .ok (enc (ownC L x)) S
  | [], _, _, _, _, h => absurd h List.not_mem_nil
  | y :: r, hw, hi, n, x, hx => by
    unfold wfs at hw
    unfold inCs at hi
    rcases List.mem_cons.mp hx with e | hx
    · have e1 : n + deps (y :: r) + 1 = (n + deps (y :: r) - dep y) + dep y + 1 := by rw [deps]; omega
      rw [e, e1]
      exact r_own hL y hw.1 hi.1 _
    · have e1 : n + deps (y :: r) + 1 = (n + deps (y :: r) - deps r) + deps r + 1 := by rw [deps]; omega
      rw [e1]
      exact r_owns hL r hw.2 hi.2 _ x hx
end
end
end Mi.L

namespace Mi.L
open PySem Mi
/-! ### a line that a condition lets stand lies within its bounds -/
def wA (v : Vl) (o : Option Vl) : Bool := match o with | none => true | some lo => !vlt v lo
def wB (v : Vl) (o : Option Vl) : Bool := match o with | none => true | some hi => !vlt hi v
theorem wi_eq (v : Vl) (p : Option Vl × Option Vl) : wi v p = (wA v p.1 && wB v p.2) := rfl
theorem asym {a b : Vl} (h : vlt a b = true) : vlt b a = false := by
  cases e : vlt b a with
  | false => rfl
  | true =>
    have := vlt_tr h e
    rw [vlt_irr] at this; cases this
theorem wA_fur {v : Vl} {a b : Option Vl} {lo : Bool} (ha : wA v a = true) (hb : wA v b = true) : wA v (fur a b lo) = true := by
  unfold fur
  cases a with
  | none => exact hb
  | some x =>
    cases b with
    | none => exact ha
    | some y =>
      dsimp only
      split
      · exact ha
      · exact hb
theorem wB_fur {v : Vl} {a b : Option Vl} {lo : Bool} (ha : wB v a = true) (hb : wB v b = true) : wB v (fur a b lo) = true := by
  unfold fur
  cases a with
  | none => exact hb
  | some x =>
    cases b with
    | none => exact ha
    | some y =>
      dsimp only
      split
      · exact ha
      · exact hb
theorem wA_or {v : Vl} {a b : Option Vl} (h : wA v a = true ∨ wA v b = true) : wA v (opO true a b) = true := by
  unfold opO
  by_cases hn : a = none ∨ b = none
  · rw [if_pos hn]; rfl
  · rw [if_neg hn]
    cases a with
    | none => exact absurd (.inl rfl) hn
    | some x =>
      cases b with
      | none => exact absurd (.inr rfl) hn
      | some y =>
        unfold fur
        dsimp only
        simp only [wA, Bool.not_eq_true'] at h
        by_cases hc : vlt x y = true
        · rw [if_pos hc]
          show (!vlt v x) = true
          rcases h with h | h
          · rw [h]; rfl
          · cases e : vlt v x with
            | false => rfl
            | true =>
              have := vlt_tr e hc
              rw [h] at this; cases this
        · rw [if_neg hc]
          show (!vlt v y) = true
          rcases h with h | h
          · cases e : vlt v y with
            | false => rfl
            | true =>
              -- not x < y, v < y: so v < x or v = x ..
              by_cases e2 : vlt y x = true
              · have := vlt_tr e e2
                rw [h] at this; cases this
              · have := vlt_tot (by simpa using hc) (by simpa using e2)
                subst this
                rw [h] at e; cases e
          · rw [h]; rfl
theorem wB_or {v : Vl} {a b : Option Vl} (h : wB v a = true ∨ wB v b = true) : wB v (opO false a b) = true := by
  unfold opO
  by_cases hn : a = none ∨ b = none
  · rw [if_pos hn]; rfl
  · rw [if_neg hn]
    cases a with
    | none => exact absurd (.inl rfl) hn
    | some x =>
      cases b with
      | none => exact absurd (.inr rfl) hn
      | some y =>
        unfold fur
        dsimp only
        simp only [wB, Bool.not_eq_true'] at h
        by_cases hc : vlt x y = false
        · rw [if_pos hc]
          show (!vlt x v) = true
          rcases h with h | h
          · rw [h]; rfl
          · cases e : vlt x v with
            | false => rfl
            | true =>
              by_cases e2 : vlt y x = true
              · have := vlt_tr e2 e
                rw [h] at this; cases this
              · have := vlt_tot hc (by simpa using e2)
                subst this
                rw [h] at e; cases e
        · rw [if_neg hc]
          have hc : vlt x y = true := by simpa using hc
          show (!vlt y v) = true
          rcases h with h | h
          · cases e : vlt y v with
            | false => rfl
            | true =>
              have := vlt_tr hc e
              rw [h] at this; cases this
          · rw [h]; rfl
theorem and2 {a b : Bool} (h : (a && b) = true) : a = true ∧ b = true := by simpa using h
theorem wi_and {v : Vl} {p q : Option Vl × Option Vl} (hp : wi v p = true) (hq : wi v q = true) : wi v (stepB true p q) = true := by
  rw [wi_eq] at *
  obtain ⟨p1, p2⟩ := and2 hp
  obtain ⟨q1, q2⟩ := and2 hq
  show (wA v (fur p.1 q.1 false) && wB v (fur p.2 q.2 true)) = true
  rw [wA_fur p1 q1, wB_fur p2 q2]
  rfl
theorem wi_or {v : Vl} {p q : Option Vl × Option Vl} (h : wi v p = true ∨ wi v q = true) : wi v (stepB false p q) = true := by
  rw [wi_eq, wi_eq] at h
  rw [wi_eq]
  show (wA v (opO true p.1 q.1) && wB v (opO false p.2 q.2)) = true
  rw [wA_or (h.imp (fun z => (and2 z).1) fun z => (and2 z).1), wB_or (h.imp (fun z => (and2 z).2) fun z => (and2 z).2)]
  rfl
theorem wi_all {v : Vl} : ∀ (l : List (Option Vl × Option Vl)) (p : Option Vl × Option Vl), wi v p = true → (∀ q ∈ l, wi v q = true) → wi v (l.foldl (stepB true) p) = true
  | [], _, hp, _ => hp
  | q :: l, p, hp, h => wi_all l _ (wi_and hp (h q List.mem_cons_self)) fun z hz => h z (List.mem_cons_of_mem _ hz)
theorem wi_keep {v : Vl} : ∀ (l : List (Option Vl × Option Vl)) (p : Option Vl × Option Vl), wi v p = true → wi v (l.foldl (stepB false) p) = true
  | [], _, hp => hp
  | q :: l, p, hp => wi_keep l _ (wi_or (.inl hp))
theorem wi_any {v : Vl} : ∀ (l : List (Option Vl × Option Vl)) (p : Option Vl × Option Vl), (∃ q ∈ l, wi v q = true) → wi v (l.foldl (stepB false) p) = true
  | [], _, h => by obtain ⟨q, hq, _⟩ := h; cases hq
  | q :: l, p, h => by
    obtain ⟨z, hz, e⟩ := h
    rcases List.mem_cons.mp hz with rfl | hz
    · exact wi_keep l _ (wi_or (.inr e))
    · exact wi_any l _ ⟨z, hz, e⟩
mutual
theorem within_ok {L : Cl → Vl} {col : Cl} : ∀ c : Cd, lets L c = true → wi (L col) (bnd col c) = true
  | .tst c s v, h => by
    unfold lets at h
    unfold bnd
    by_cases hc : c = col
    · subst hc
      rw [if_pos rfl]
      cases s with
      | eq =>
        have h : L c = v := by simpa [lets1] using h
        simp [wi, tb, h, vlt_irr]
      | ne => rfl
      | lt =>
        have h : vlt (L c) v = true := h
        simp [wi, tb, asym h]
      | gt =>
        have h : vlt v (L c) = true := h
        simp [wi, tb, asym h]
      | le =>
        have h : vlt v (L c) = false := by simpa [lets1] using h
        simp [wi, tb, h]
      | ge =>
        have h : vlt (L c) v = false := by simpa [lets1] using h
        simp [wi, tb, h]
    · rw [if_neg hc]; rfl
  | .tcol c s c2, h => by unfold bnd; rfl
  | .neg x, h => by unfold bnd; rfl
  | .many a xs, h => by
    unfold bnd
    cases a with
    | true =>
      have h : letsAll L xs = true := by unfold lets at h; simpa using h
      have all := within_all (col := col) xs h
      cases hb : bnds col xs with
      | nil => rfl
      | cons p r =>
        rw [hb] at all
        exact wi_all r p (all p List.mem_cons_self) fun q hq => all q (List.mem_cons_of_mem _ hq)
    | false =>
      have h : letsAny L xs = true := by unfold lets at h; simpa using h
      obtain ⟨q, hq, e⟩ := within_any (col := col) xs h
      cases hb : bnds col xs with
      | nil => rfl
      | cons p r =>
        rw [hb] at hq
        rcases List.mem_cons.mp hq with rfl | hq
        · exact wi_keep r q e
        · exact wi_any r p ⟨q, hq, e⟩
theorem within_all {L : Cl → Vl} {col : Cl} : ∀ xs : List Cd, letsAll L xs = true → ∀ p ∈ bnds col xs, wi (L col) p = true
  | [], _, p, hp => by unfold bnds at hp; cases hp
  | x :: r, h, p, hp => by
    unfold letsAll at h
    obtain ⟨h1, h2⟩ := and2 h
    unfold bnds at hp
    rcases List.mem_cons.mp hp with rfl | hp
    · exact within_ok x h1
    · exact within_all r h2 p hp
theorem within_any {L : Cl → Vl} {col : Cl} : ∀ xs : List Cd, letsAny L xs = true → ∃ p ∈ bnds col xs, wi (L col) p = true
  | [], h => by unfold letsAny at h; cases h
  | x :: r, h => by
    unfold letsAny at h
    unfold bnds
    rcases Bool.or_eq_true_iff.mp h with h | h
    · exact ⟨_, List.mem_cons_self, within_ok x h⟩
    · obtain ⟨p, hp, e⟩ := within_any r h
      exact ⟨p, List.mem_cons_of_mem _ hp, e⟩
end
end Mi.L

namespace Mi.L
open PySem Mi
/-! ### the deck -/
abbrev dko (a w c : Int) : O := .lst [.int a, .int w, .int c]
theorem dko_und {k : Nat} {a w c : Int} : O.und k (dko a w c) = true := by
  show D.unds k [.int a, .int w, .int c] = true
  simp
section
variable {B T : Store} {k : Nat} {a w c : Int} (hk : k < B.length)
include hk
theorem take_at {n : Nat} {m : Int} (hm : 0 < m) (hm2 : m < 2 ^ 60) (hc : 0 ≤ c) (hc2 : c < 2 ^ 40) :
    ∃ r a' c', run tab (n + 1) 7 [.ref k, .int m] (B.set k (dko a w c) ++ T) = .ok (.int r) (B.set k (dko a' w c') ++ T) ∧ 0 ≤ r ∧ r < m ∧ c ≤ c' ∧ c' ≤ c + 1 := by
  have hS : (B.set k (dko a w c) ++ T)[k]? = some (dko a w c) := by
    rw [List.getElem?_append_left (by rw [List.length_set]; exact hk), List.getElem?_set_self hk]
  obtain ⟨r, a', c', h, h1, h2, h3, h4⟩ := r_take (n := n) hS hm hm2 hc hc2
  refine ⟨r, a', c', ?_, h1, h2, h3, h4⟩
  rw [h, List.set_append_left _ _ (by rw [List.length_set]; exact hk), List.set_set]
theorem pack_dk {d : D} {a' c' : Int} (hd : D.und B.length d = true) : pack (B.set k (dko a w c)) d (B.set k (dko a' w c') ++ T) = .ok d (B.set k (dko a' w c')) := by
  have h := pack_set (S := B.set k (dko a w c)) (T := T) (d := d) (k := k) (o := dko a' w c') (by rw [List.length_set]; exact hk) dko_und (by rw [List.length_set]; exact hd)
  rwa [List.set_set] at h
end
def l20 : List Vl := [.inl 0, .inl 1, .inl 2, .inl 3, .inl (-1), .inr "", .inr "a", .inr "b", .inr "ab", .inr " ", .inr "a ", .inr "aa", .inr "A", .inr "0", .inr "~", .inl (10 ^ 12), .inl (-10 ^ 12), .inr "-1", .inr "zz", .inl 12]
theorem l20_short : ∀ v ∈ l20, (kls v).length ≤ 1000 := by
  decide +kernel
theorem at20 {r : Int} (h : 0 ≤ r) (h2 : r < 20) : ∃ v, L2.atI (l20.map dv) r = some (dv v) ∧ (kls v).length ≤ 1000 := by
  have hl : (l20.map dv).length = 20 := rfl
  have hi : r.toNat < l20.length := by show r.toNat < 20; omega
  refine ⟨l20[r.toNat], ?_, l20_short _ (List.getElem_mem hi)⟩
  unfold L2.atI L2.ixN
  rw [if_pos h, if_pos (by rw [hl]; omega)]
  show (l20.map dv)[r.toNat]? = _
  rw [List.getElem?_map, List.getElem?_eq_getElem hi]
  rfl
theorem pow_ok {S : Store} {i j : Int} (h : 0 ≤ j ∧ j ≤ 1000000 ∧ i.natAbs < 2 ^ 64) : p2 .pow (.val (.int i)) (.val (.int j)) S = .ok (.val (.int (i ^ j.toNat))) S := by
  show (if 0 ≤ j ∧ j ≤ 1000000 ∧ i.natAbs < 2 ^ 64 then _ else _) = _
  rw [if_pos h]; rfl
theorem pow12 {S : Store} : p2 .pow (.val (.int 10)) (.val (.int 12)) S = .ok (.val (.int (10 ^ 12))) S := pow_ok (by decide)
theorem sz20 : (20 : Nat) ≤ sizeLine := by decide

theorem compL_deck {B T : Store} {k : Nat} {w : Int} {turn : D → Store → R (Option D)}
    (ht : ∀ (d : D) (a c : Int), 0 ≤ c → c < 2 ^ 39 → ∃ (z : Str) (a' c' : Int), turn d (B.set k (dko a w c) ++ T) = .ok (some (.str z)) (B.set k (dko a' w c') ++ T) ∧ z.length = 1 ∧ c ≤ c' ∧ c' ≤ c + 1) :
    ∀ (items acc : List D) (a c : Int), 0 ≤ c → c + items.length < 2 ^ 39 → acc.length + items.length ≤ 1000 → ∃ (zs : List Str) (a' c' : Int), compL [] turn items (B.set k (dko a w c) ++ T) acc = .ok (acc ++ zs.map D.str) (B.set k (dko a' w c') ++ T) ∧ zs.length = items.length ∧ (∀ z ∈ zs, z.length = 1) ∧ c ≤ c' ∧ c' ≤ c + items.length
  | [], acc, a, c, hc, _, _ => ⟨[], a, c, by rw [compL, if_pos isLive_nil, List.map_nil, List.append_nil], rfl, fun z hz => absurd hz List.not_mem_nil, by omega, by simp⟩
  | d :: r, acc, a, c, hc, hz, hl => by
    rw [List.length_cons] at hz hl
    obtain ⟨z, a1, c1, h1, h2, h3, h4⟩ := ht d a c hc (by omega)
    obtain ⟨zs, a2, c2, g1, g2, g3, g4, g5⟩ := compL_deck ht r (acc ++ [.str z]) a1 c1 (by omega) (by omega) (by rw [List.length_append]; simp; omega)
    refine ⟨z :: zs, a2, c2, ?_, by rw [List.length_cons, List.length_cons, g2], fun y hy => ?_, by omega, by rw [List.length_cons]; omega⟩
    · rw [compL, if_pos isLive_nil, h1]
      show (if acc.length < sizeLine then compL [] turn r (B.set k (dko a1 w c1) ++ T) (acc ++ [.str z]) else .bad) = _
      rw [if_pos (Nat.lt_of_lt_of_le (by omega : acc.length < 1000) (by decide)), g1]
      simp
    · rcases List.mem_cons.mp hy with rfl | hy
      · exact h2
      · exact g3 y hy
theorem ix_str {S : Store} {z : Str} {i : Int} (h : 0 ≤ i) (h2 : i < z.length) (hz : z.length ≤ sizeLine) : ∃ ch : Nat, p2 .ix (.val (.str z)) (.val (.int i)) S = .ok (.val (.str ⟨#[ch]⟩)) S := by
  have hl : i.toNat < z.cps.toList.length := by
    show i.toNat < z.cps.toList.length
    have : z.cps.toList.length = z.length := by simp [Str.length]
    omega
  refine ⟨z.cps.toList[i.toNat], ?_⟩
  have e : L2.atI z.cps.toList i = some z.cps.toList[i.toNat] := by
    unfold L2.atI L2.ixN
    rw [if_pos h, if_pos (by omega)]
    exact List.getElem?_eq_getElem hl
  show (match L2.atI z.cps.toList i with | some c => if z.length ≤ sizeLine then vv (.str ⟨#[c]⟩) S else .bad | none => .bad) = _
  rw [e]
  show (if z.length ≤ sizeLine then _ else _) = _
  rw [if_pos hz]; rfl
theorem len_str {S : Store} {z : Str} (hz : z.length ≤ sizeLine) : p1 .len (.val (.str z)) S = .ok (.val (.int z.length)) S := by
  show (if z.length ≤ sizeLine then vv (.int z.length) S else .bad) = _
  rw [if_pos hz]; rfl
theorem strsOf_map : ∀ zs : List Str, strsOf (zs.map D.str) = some zs
  | [] => rfl
  | z :: r => by rw [List.map_cons, strsOf, strsOf_map r]; rfl
theorem sum_one : ∀ {zs : List Str}, (∀ z ∈ zs, z.length = 1) → (zs.map (·.length)).sum = zs.length
  | [], _ => rfl
  | z :: r, h => by rw [List.map_cons, List.sum_cons, h z List.mem_cons_self, sum_one fun y hy => h y (List.mem_cons_of_mem _ hy), List.length_cons]; omega
theorem join_ok {S : Store} {zs : List Str} (h : ∀ z ∈ zs, z.length = 1) (hl : zs.length ≤ 100) : ∃ z : Str, p2 .join (.val (.str "")) (.lis (zs.map D.str)) S = .ok (.val (.str z)) S ∧ (kls (.inr z)).length ≤ 1000 := by
  have e0 : (Str.ofString "").length = 0 := by decide +kernel
  refine ⟨Txt.join "" zs, ?_, ?_⟩
  · show (match strsOf (zs.map D.str) with | some ys => if joinFits "" ys = true then vv (.str (Txt.join "" ys)) S else .bad | none => .bad) = _
    rw [strsOf_map]
    show (if joinFits "" zs = true then _ else _) = _
    rw [if_pos]
    · rfl
    · unfold joinFits
      rw [sum_one h, e0]
      exact decide_eq_true (by omega)
  · have hlen : (Txt.join "" zs).length = (zs.map (·.length)).sum + (zs.length - 1) * (Str.ofString "").length := PySem.size_glued "" zs
    rw [sum_one h, e0] at hlen
    have : (kls (.inr (Txt.join "" zs))).length = (Txt.join "" zs).length := by simp [kls, Str.length]
    rw [this, hlen]
    omega

def lt0 : Str := " !\"#$&()*+,-./0123456789:<=>?@ABCXYZ[]^_abcxyz{|}~"
theorem lt0_len : 0 < lt0.length ∧ lt0.length ≤ 100 := by decide +kernel
def e20 : List Ex := [(.c (.int 0)), (.c (.int 1)), (.c (.int 2)), (.c (.int 3)), (.p1 .neg (.c (.int 1))), (.c (.str "")), (.c (.str "a")), (.c (.str "b")), (.c (.str "ab")), (.c (.str " ")), (.c (.str "a ")), (.c (.str "aa")), (.c (.str "A")), (.c (.str "0")), (.c (.str "~")), (.p2 .pow (.c (.int 10)) (.c (.int 12))), (.p1 .neg (.p2 .pow (.c (.int 10)) (.c (.int 12)))), (.c (.str "-1")), (.c (.str "zz")), (.c (.int 12))]
theorem ev20 {C : CF} {ρ : Env} {S : Store} : evDs C e20 ρ S = .ok (l20.map dv) S := by
  simp [e20, evDs, evK, vv, R.bd, toD, neg_int, pow12, l20, dv]
def eStr : Ex := .comp (.nm 4) .rng1 [(.call 7 [(.v 0), (.c (.int 21))])] [] (.p2 .ix (.v 3) (.call 7 [(.v 0), (.p1 .len (.v 3))])) [4]
theorem ev_str {n : Nat} {B T : Store} {k : Nat} {a w c : Int} {x1 x2 : Option D} (hk : k < B.length) (hc : 0 ≤ c) (hc2 : c < 2 ^ 38) :
    ∃ (zs : List Str) (a' c' : Int), evK (run tab (n + 1)) eStr [some (.ref k), x1, x2, some (.str lt0), none] (B.set k (dko a w c) ++ T) = .ok (.lis (zs.map D.str)) (B.set k (dko a' w c') ++ T) ∧ zs.length ≤ 21 ∧ (∀ z ∈ zs, z.length = 1) ∧ c ≤ c' ∧ c' ≤ c + 22 := by
  obtain ⟨r, a1, c1, h1, h2, h3, h4, h5⟩ := take_at (B := B) (T := T) (k := k) (a := a) (w := w) (c := c) hk (n := n) (m := 21) (by decide) (by decide) hc (by omega)
  have hlt : (lt0.length : Int) < 2 ^ 60 := by have := lt0_len.2; omega
  obtain ⟨trn, htrn⟩ : ∃ t : D → Store → R (Option D), t = fun d S => (match bindTg (.nm 4) d (wipeD [some (.ref k), x1, x2, some (.str lt0), none] [4]) with
        | some ρ' => ((evCs (run tab (n + 1)) [] ρ' S).bd fun b S => if b = true then ((evK (run tab (n + 1)) (.p2 .ix (.v 3) (.call 7 [(.v 0), (.p1 .len (.v 3))])) ρ' S).bd toD).bd fun d S => .ok (some d) S else .ok none S).nox
        | none => .bad) := ⟨_, rfl⟩
  have turn : ∀ (d : D) (a c : Int), 0 ≤ c → c < 2 ^ 39 → ∃ (z : Str) (a' c' : Int), trn d (B.set k (dko a w c) ++ T) = .ok (some (.str z)) (B.set k (dko a' w c') ++ T) ∧ z.length = 1 ∧ c ≤ c' ∧ c' ≤ c + 1 := by
    rw [htrn]
    intro d a c g1 g2
    obtain ⟨r2, a2, c2, q1, q2, q3, q4, q5⟩ := take_at (B := B) (T := T) (k := k) (a := a) (w := w) (c := c) hk (n := n) (m := (lt0.length : Int)) (by have := lt0_len.1; omega) hlt g1 (by omega)
    obtain ⟨ch, hch⟩ := ix_str (S := B.set k (dko a2 w c2) ++ T) (z := lt0) q2 q3 (Nat.le_trans lt0_len.2 (by decide))
    have hl := len_str (S := B.set k (dko a w c) ++ T) (z := lt0) (Nat.le_trans lt0_len.2 (by decide))
    refine ⟨⟨#[ch]⟩, a2, c2, ?_, rfl, q4, q5⟩
    generalize (lt0.length : Int) = ll at *
    generalize B.set k (dko a2 w c2) ++ T = U2 at *
    generalize B.set k (dko a w c) ++ T = U1 at *
    simp [bindTg, wipeD, evCs, evK, evDs, vv, R.bd, toD, R.nox, hl, q1, hch]
  have hn : ((intsD r.toNat fun i => (i : Int)).length : Int) ≤ 21 := by
    unfold intsD
    rw [List.length_map, List.length_range]
    omega
  obtain ⟨zs, a2, c2, g1, g2, g3, g4, g5⟩ := compL_deck turn (intsD r.toNat fun i => (i : Int)) [] a1 c1 (by omega) (by omega) (by rw [List.length_nil]; omega)
  refine ⟨zs, a2, c2, ?_, by rw [g2]; omega, g3, by omega, by omega⟩
  rw [eStr, evK]
  have e1 : evWs (run tab (n + 1)) [.call 7 [.v 0, .c (.int 21)]] [some (.ref k), x1, x2, some (.str lt0), none] (B.set k (dko a w c) ++ T) = .ok [.val (.int r)] (B.set k (dko a1 w c1) ++ T) := by
    generalize B.set k (dko a1 w c1) ++ T = U2 at *
    generalize B.set k (dko a w c) ++ T = U1 at *
    simp [evWs, evK, evDs, vv, R.bd, toD, h1]
  rw [e1]
  have e2 : its .rng1 [.val (.int r)] (B.set k (dko a1 w c1) ++ T) = some ⟨intsD r.toNat fun i => (i : Int), []⟩ := by
    show (if fits62 r = true then _ else _) = _
    rw [if_pos (by unfold fits62; exact decide_eq_true ⟨by omega, by omega⟩)]
  show (match its .rng1 [.val (.int r)] (B.set k (dko a1 w c1) ++ T) with | some I => _ | none => _) = _
  rw [e2]
  rw [List.nil_append] at g1
  subst htrn
  exact congrArg (fun r : R (List D) => r.bd fun ds S => R.ok (W.lis ds) S) g1
end Mi.L

namespace Mi.L
open PySem Mi
theorem ix_new {T : Store} {ds : List D} {i : Int} {d : D} {m : Nat} (hm : m = T.length) (h : L2.atI ds i = some d) : p2 .ix (.val (.ref m)) (.val (.int i)) (T ++ [.lst ds]) = .ok (.val d) (T ++ [.lst ds]) := ix_ref (by subst hm; simp) h
theorem b8_eq : b8 = [.set (.nm 1) (.disp e20), .set (.nm 2) (.call 7 [(.v 0), (.c (.int 6))]), .iff (.p2 .lt (.v 2) (.c (.int 3))) [.ret (.p2 .ix (.v 1) (.call 7 [(.v 0), (.c (.int 4))]))] [], .iff (.p2 .lt (.v 2) (.c (.int 5))) [.ret (.p2 .ix (.v 1) (.call 7 [(.v 0), (.c (.int 20))]))] [], .iff (.p2 .eq (.call 7 [(.v 0), (.c (.int 2))]) (.c (.int 0))) [.ret (.p2 .sub (.call 7 [(.v 0), (.p2 .add (.p2 .mul (.c (.int 2)) (.p2 .pow (.c (.int 10)) (.c (.int 12)))) (.c (.int 1)))]) (.p2 .pow (.c (.int 10)) (.c (.int 12))))] [], .set (.nm 3) (.c (.str lt0)), .ret (.m1 .str .join (.c (.str "")) eStr)] := rfl
theorem mk_str {S : Store} {z : Str} : MK.is S .str (.val (.str z)) = true := rfl
theorem r_value {n : Nat} {B : Store} {k : Nat} {a w c : Int} (hk : k < B.length) (hc : 0 ≤ c) (hc2 : c < 2 ^ 37) :
    ∃ (v : Vl) (a' c' : Int), run tab (n + 2) 8 [.ref k] (B.set k (dko a w c)) = .ok (dv v) (B.set k (dko a' w c')) ∧ (kls v).length ≤ 1000 ∧ c ≤ c' ∧ c' ≤ c + 30 := by
  have td0 : toD (.lis (l20.map dv)) (B.set k (dko a w c)) = .ok (.ref (B.set k (dko a w c)).length) (B.set k (dko a w c) ++ [.lst (l20.map dv)]) := rfl
  rw [List.length_set] at td0
  obtain ⟨r, a1, c1, h1, h2, h3, h4, h5⟩ := take_at (B := B) (T := [.lst (l20.map dv)]) (k := k) (a := a) (w := w) (c := c) hk (n := n) (m := 6) (by decide) (by decide) hc (by omega)
  have pk : ∀ (v : Vl) (a' c' : Int), pack (B.set k (dko a w c)) (dv v) (B.set k (dko a' w c') ++ [.lst (l20.map dv)]) = .ok (dv v) (B.set k (dko a' w c')) := fun v a' c' => pack_dk hk und_dv
  rw [run_fin (F := ⟨1, 5, b8⟩) rfl rfl]
  dsimp only
  rw [b8_eq]
  have sz : (l20.map dv).length ≤ sizeLine := by decide
  have hd : ∀ (C : CF) (ρ : Env) (S : Store), evDs C e20 ρ S = .ok (l20.map dv) S := fun C ρ S => ev20
  have pw : ∀ T : Store, Mi.p2 .pow (.val (.int 10)) (.val (.int 12)) T = .ok (.val (.int (10 ^ 12))) T := fun T => pow12
  have mm : ∀ T : Store, Mi.p2 .mul (.val (.int 2)) (.val (.int (10 ^ 12))) T = .ok (.val (.int (2 * 10 ^ 12))) T := fun T => mul_ok (by decide) (by decide)
  have aa : ∀ T : Store, Mi.p2 .add (.val (.int (2 * 10 ^ 12))) (.val (.int 1)) T = .ok (.val (.int (2 * 10 ^ 12 + 1))) T := fun T => add_ok
  by_cases k3 : r < 3
  · obtain ⟨r2, a2, c2, q1, q2, q3, q4, q5⟩ := take_at (B := B) (T := [.lst (l20.map dv)]) (k := k) (a := a1) (w := w) (c := c1) hk (n := n) (m := 4) (by decide) (by decide) (by omega) (by omega)
    obtain ⟨v, hv, hs⟩ := at20 (r := r2) q2 (by omega)
    have ix := ix_new (T := B.set k (dko a2 w c2)) (m := B.length) (by rw [List.length_set]) hv
    have pq := pk v a2 c2
    refine ⟨v, a2, c2, ?_, hs, by omega, by omega⟩
    generalize B.set k (dko a2 w c2) ++ [O.lst (l20.map dv)] = U2 at *
    generalize B.set k (dko a1 w c1) ++ [O.lst (l20.map dv)] = U1 at *
    generalize B.set k (dko a w c) ++ [O.lst (l20.map dv)] = U0 at *
    generalize l20.map dv = L at *
    generalize B.set k (dko a w c) = Z at *
    simp [↓td0, ↓hd, sz, exSs, exS, evD, evB, evK, evDs, vv, R.bd, R.st, RS.sq, toD, toB, bindTg, fin, h1, q1, lt_ii, k3, ix, pq]
  · by_cases k5 : r < 5
    · obtain ⟨r2, a2, c2, q1, q2, q3, q4, q5⟩ := take_at (B := B) (T := [.lst (l20.map dv)]) (k := k) (a := a1) (w := w) (c := c1) hk (n := n) (m := 20) (by decide) (by decide) (by omega) (by omega)
      obtain ⟨v, hv, hs⟩ := at20 (r := r2) q2 (by omega)
      have ix := ix_new (T := B.set k (dko a2 w c2)) (m := B.length) (by rw [List.length_set]) hv
      have pq := pk v a2 c2
      refine ⟨v, a2, c2, ?_, hs, by omega, by omega⟩
      generalize B.set k (dko a2 w c2) ++ [O.lst (l20.map dv)] = U2 at *
      generalize B.set k (dko a1 w c1) ++ [O.lst (l20.map dv)] = U1 at *
      generalize B.set k (dko a w c) ++ [O.lst (l20.map dv)] = U0 at *
      generalize l20.map dv = L at *
      generalize B.set k (dko a w c) = Z at *
      simp [↓td0, ↓hd, sz, exSs, exS, evD, evB, evK, evDs, vv, R.bd, R.st, RS.sq, toD, toB, bindTg, fin, h1, q1, lt_ii, k3, k5, ix, pq]
    · obtain ⟨r2, a2, c2, q1, q2, q3, q4, q5⟩ := take_at (B := B) (T := [.lst (l20.map dv)]) (k := k) (a := a1) (w := w) (c := c1) hk (n := n) (m := 2) (by decide) (by decide) (by omega) (by omega)
      by_cases k0 : r2 = 0
      · obtain ⟨r3, a3, c3, u1, u2, u3, u4, u5⟩ := take_at (B := B) (T := [.lst (l20.map dv)]) (k := k) (a := a2) (w := w) (c := c2) hk (n := n) (m := 2 * 10 ^ 12 + 1) (by decide) (by decide) (by omega) (by omega)
        have pq := pk (.inl (r3 - 10 ^ 12)) a3 c3
        refine ⟨.inl (r3 - 10 ^ 12), a3, c3, ?_, by show (0 : Nat) ≤ 1000; decide, by omega, by omega⟩
        have ss : ∀ T : Store, Mi.p2 .sub (.val (.int r3)) (.val (.int (10 ^ 12))) T = .ok (.val (.int (r3 - 10 ^ 12))) T := fun T => sub_ok
        have e0 : dv (.inl (r3 - 10 ^ 12)) = .int (r3 - 10 ^ 12) := rfl
        rw [e0] at *
        generalize B.set k (dko a3 w c3) ++ [O.lst (l20.map dv)] = U3 at *
        generalize B.set k (dko a2 w c2) ++ [O.lst (l20.map dv)] = U2 at *
        generalize B.set k (dko a1 w c1) ++ [O.lst (l20.map dv)] = U1 at *
        generalize B.set k (dko a w c) ++ [O.lst (l20.map dv)] = U0 at *
        generalize l20.map dv = L at *
        generalize B.set k (dko a w c) = Z at *
        generalize (2 * 10 ^ 12 + 1 : Int) = m1 at *
        generalize (2 * 10 ^ 12 : Int) = m2 at *
        generalize (r3 - 10 ^ 12 : Int) = m3 at *
        generalize (10 ^ 12 : Int) = m4 at *
        simp [↓td0, ↓hd, sz, exSs, exS, evD, evB, evK, evDs, vv, R.bd, R.st, RS.sq, toD, toB, bindTg, fin, h1, q1, u1, lt_ii, eq_ii, k3, k5, k0, pw, mm, aa, ss]
        exact pq
      · obtain ⟨zs, a3, c3, u1, u2, u3, u4, u5⟩ := ev_str (n := n) (B := B) (T := [.lst (l20.map dv)]) (k := k) (a := a2) (w := w) (c := c2) (x1 := some (.ref B.length)) (x2 := some (.int r)) hk (by omega) (by omega)
        obtain ⟨z, hz, hzs⟩ := join_ok (S := B.set k (dko a3 w c3) ++ [.lst (l20.map dv)]) u3 (by omega)
        have pq := pk (.inr z) a3 c3
        refine ⟨.inr z, a3, c3, ?_, hzs, by omega, by omega⟩
        have e0 : dv (.inr z) = .str z := rfl
        rw [e0] at *
        generalize B.set k (dko a3 w c3) ++ [O.lst (l20.map dv)] = U3 at *
        generalize B.set k (dko a2 w c2) ++ [O.lst (l20.map dv)] = U2 at *
        generalize B.set k (dko a1 w c1) ++ [O.lst (l20.map dv)] = U1 at *
        generalize B.set k (dko a w c) ++ [O.lst (l20.map dv)] = U0 at *
        generalize l20.map dv = L at *
        generalize B.set k (dko a w c) = Z at *
        generalize zs.map D.str = ZS at *
        generalize lt0 = l0 at *
        generalize eStr = es at *
        simp [↓td0, ↓hd, sz, exSs, exS, evD, evB, evK, evDs, vv, R.bd, R.st, RS.sq, toD, toB, bindTg, fin, h1, q1, ↓u1, lt_ii, eq_ii, k3, k5, k0, mk_str, hz]
        exact pq
end Mi.L

namespace Mi.L
open PySem Mi
theorem at_map {α : Type} {f : α → D} {l : List α} {r : Int} (h : 0 ≤ r) (h2 : r < (l.length : Int)) : ∃ x ∈ l, L2.atI (l.map f) r = some (f x) := by
  have hi : r.toNat < l.length := by omega
  refine ⟨l[r.toNat], List.getElem_mem hi, ?_⟩
  unfold L2.atI L2.ixN
  rw [if_pos h, if_pos (by rw [List.length_map]; omega)]
  show (l.map f)[r.toNat]? = _
  rw [List.getElem?_map, List.getElem?_eq_getElem hi]
  rfl
theorem take_set {B : Store} {k : Nat} {a w c : Int} (hk : k < B.length) {n : Nat} {m : Int} (hm : 0 < m) (hm2 : m < 2 ^ 60) (hc : 0 ≤ c) (hc2 : c < 2 ^ 40) :
    ∃ r a' c', run tab (n + 1) 7 [.ref k, .int m] (B.set k (dko a w c)) = .ok (.int r) (B.set k (dko a' w c')) ∧ 0 ≤ r ∧ r < m ∧ c ≤ c' ∧ c' ≤ c + 1 := by
  have h := take_at (B := B) (T := []) (k := k) (a := a) (w := w) (c := c) hk (n := n) hm hm2 hc hc2
  simpa only [List.append_nil] using h
theorem pack_set0 {B : Store} {k : Nat} {a w c a' c' : Int} {d : D} (hk : k < B.length) (hd : D.und B.length d = true) : pack (B.set k (dko a w c)) d (B.set k (dko a' w c')) = .ok d (B.set k (dko a' w c')) := by
  have h := pack_dk (B := B) (T := []) (k := k) (a := a) (w := w) (c := c) (a' := a') (c' := c') hk hd
  rwa [List.append_nil] at h
def l6 : List Sg := [.eq, .ne, .lt, .gt, .le, .ge]
def sgd (s : Sg) : D := .str s.str
def e6 : List Ex := [(.c (.str "=")), (.c (.str "#")), (.c (.str "<")), (.c (.str ">")), (.c (.str "<=")), (.c (.str ">="))]
theorem ev6 {C : CF} {ρ : Env} {S : Store} : evDs C e6 ρ S = .ok (l6.map sgd) S := by
  simp [e6, evDs, evK, vv, R.bd, toD, l6, sgd, Sg.str]
theorem b12_eq : b12 = [.set (.nm 2) (.p2 .ix (.v 1) (.call 7 [(.v 0), (.p1 .len (.v 1))])), .set (.nm 3) (.p2 .ix (.disp e6) (.call 7 [(.v 0), (.c (.int 6))])), .iff (.p2 .eq (.call 7 [(.v 0), (.c (.int 4))]) (.c (.int 3))) [.ret (.tup [(.c (.str "test")), (.v 2), (.v 3), (.tup [(.c (.str "column")), (.p2 .ix (.v 1) (.call 7 [(.v 0), (.p1 .len (.v 1))]))])])] [], .ret (.tup [(.c (.str "test")), (.v 2), (.v 3), (.tup [(.c (.str "value")), (.call 8 [(.v 0)])])])] := rfl
section
variable {B : Store} {k j : Nat} {cols : List Cl} (hk : k < B.length) (hj : B[j]? = some (.lst (cols.map dc))) (hjk : k ≠ j) (hn : cols ≠ []) (hn2 : cols.length ≤ 10)
include hk hj hjk
theorem col_at {a w c : Int} : (B.set k (dko a w c))[j]? = some (.lst (cols.map dc)) := by
  rw [List.getElem?_set_ne hjk, hj]
include hn hn2
theorem r_one {n : Nat} {a w c : Int} (hc : 0 ≤ c) (hc2 : c < 2 ^ 36) :
    ∃ (x : Cd) (a' c' : Int), run tab (n + 3) 12 [.ref k, .ref j] (B.set k (dko a w c)) = .ok (enc x) (B.set k (dko a' w c')) ∧ inC cols x ∧ wf x ∧ shrt x ∧ dep x = 0 ∧ c ≤ c' ∧ c' ≤ c + 40 := by
  have hpos : 0 < (cols.length : Int) := by
    cases cols with
    | nil => exact absurd rfl hn
    | cons x r => rw [List.length_cons]; omega
  have hbig : (cols.length : Int) < 2 ^ 60 := by omega
  obtain ⟨r1, a1, c1, h1, h2, h3, h4, h5⟩ := take_set (a := a) (w := w) (c := c) hk (n := n + 1) hpos hbig hc (by omega)
  obtain ⟨col, hcol, ix1⟩ := at_map (f := dc) (l := cols) h2 h3
  obtain ⟨r2, a2, c2, i1, i2, i3, i4, i5⟩ := take_set (a := a1) (w := w) (c := c1) hk (n := n + 1) (m := 6) (by decide) (by decide) (by omega) (by omega)
  obtain ⟨sg, _, ix2⟩ := at_map (f := sgd) (l := l6) i2 i3
  obtain ⟨r3, a3, c3, o1, o2, o3, o4, o5⟩ := take_set (a := a2) (w := w) (c := c2) hk (n := n + 1) (m := 4) (by decide) (by decide) (by omega) (by omega)
  have len : ∀ (a c : Int), p1 .len (.val (.ref j)) (B.set k (dko a w c)) = .ok (.val (.int cols.length)) (B.set k (dko a w c)) := fun a c => by
    rw [len_ref (col_at hk hj hjk), List.length_map]
  have len0 := len a c
  have len3 := len a3 c3
  have q1 := ix_ref (S := B.set k (dko a1 w c1)) (col_at hk hj hjk) ix1
  have q2 : ∀ T : Store, p2 .ix (.lis (l6.map sgd)) (.val (.int r2)) T = .ok (.val (sgd sg)) T := fun T => ix_lis ix2
  have hd : ∀ (C : CF) (ρ : Env) (S : Store), evDs C e6 ρ S = .ok (l6.map sgd) S := fun C ρ S => ev6
  have sz : (l6.map sgd).length ≤ sizeLine := by decide
  rw [run_fin (F := ⟨2, 4, b12⟩) rfl rfl]
  dsimp only
  rw [b12_eq]
  by_cases h33 : r3 = 3
  · obtain ⟨r4, a4, c4, u1, u2, u3, u4, u5⟩ := take_set (a := a3) (w := w) (c := c3) hk (n := n + 1) hpos hbig (by omega) (by omega)
    obtain ⟨col2, hcol2, ix3⟩ := at_map (f := dc) (l := cols) u2 u3
    have q3 := ix_ref (S := B.set k (dko a4 w c4)) (col_at hk hj hjk) ix3
    have pq := pack_set0 (a := a) (w := w) (c := c) (a' := a4) (c' := c4) (d := enc (.tcol col sg col2)) hk (und_enc _)
    have e : enc (.tcol col sg col2) = .tup [.str "test", dc col, sgd sg, .tup [.str "column", dc col2]] := by rw [enc]; rfl
    refine ⟨.tcol col sg col2, a4, c4, ?_, by unfold inC; exact ⟨hcol, hcol2⟩, by unfold wf; trivial, by unfold shrt; trivial, by rw [dep], by omega, by omega⟩
    rw [e] at pq ⊢
    generalize (cols.length : Int) = ll at *
    generalize B.set k (dko a4 w c4) = U4 at *
    generalize B.set k (dko a3 w c3) = U3 at *
    generalize B.set k (dko a2 w c2) = U2 at *
    generalize B.set k (dko a1 w c1) = U1 at *
    generalize B.set k (dko a w c) = U0 at *
    generalize l6.map sgd = L at *
    generalize sgd sg = sd at *
    generalize dc col = d1 at *
    generalize dc col2 = d2 at *
    simp [↓hd, sz, exSs, exS, evD, evB, evK, evDs, vv, R.bd, R.st, RS.sq, toD, toB, bindTg, fin, len0, len3, h1, q1, i1, q2, o1, eq_ii, h33, u1, q3, sz2, sz4]
    exact pq
  · obtain ⟨v, a4, c4, u1, u2, u4, u5⟩ := r_value (B := B) (k := k) (a := a3) (w := w) (c := c3) (n := n) hk (by omega) (by omega)
    have pq := pack_set0 (a := a) (w := w) (c := c) (a' := a4) (c' := c4) (d := enc (.tst col sg v)) hk (und_enc _)
    have e : enc (.tst col sg v) = .tup [.str "test", dc col, sgd sg, .tup [.str "value", dv v]] := by rw [enc]; rfl
    refine ⟨.tst col sg v, a4, c4, ?_, by unfold inC; exact ⟨hcol, u2⟩, by unfold wf; trivial, by unfold shrt; exact u2, by rw [dep], by omega, by omega⟩
    rw [e] at pq ⊢
    generalize (cols.length : Int) = ll at *
    generalize B.set k (dko a4 w c4) = U4 at *
    generalize B.set k (dko a3 w c3) = U3 at *
    generalize B.set k (dko a2 w c2) = U2 at *
    generalize B.set k (dko a1 w c1) = U1 at *
    generalize B.set k (dko a w c) = U0 at *
    generalize l6.map sgd = L at *
    generalize sgd sg = sd at *
    generalize dc col = d1 at *
    generalize dv v = d2 at *
    simp [↓hd, sz, exSs, exS, evD, evB, evK, evDs, vv, R.bd, R.st, RS.sq, toD, toB, bindTg, fin, len0, len3, h1, q1, i1, q2, o1, eq_ii, h33, u1, sz2, sz4]
    exact pq
end
end Mi.L

namespace Mi.L
open PySem Mi
theorem encs_app : ∀ xs ys : List Cd, encs (xs ++ ys) = encs xs ++ encs ys
  | [], ys => by simp [encs]
  | x :: r, ys => by simp [encs, encs_app r ys]
theorem wfs_app {y : Cd} (hy : wf y) : ∀ {xs : List Cd}, wfs xs → wfs (xs ++ [y])
  | [], _ => by show wfs [y]; unfold wfs; exact ⟨hy, by unfold wfs; trivial⟩
  | x :: r, h => by
    unfold wfs at h
    show wfs (x :: (r ++ [y]))
    unfold wfs
    exact ⟨h.1, wfs_app hy h.2⟩
theorem shrts_app {y : Cd} (hy : shrt y) : ∀ {xs : List Cd}, shrts xs → shrts (xs ++ [y])
  | [], _ => by show shrts [y]; unfold shrts; exact ⟨hy, by unfold shrts; trivial⟩
  | x :: r, h => by
    unfold shrts at h
    show shrts (x :: (r ++ [y]))
    unfold shrts
    exact ⟨h.1, shrts_app hy h.2⟩
theorem inCs_app {cols : List Cl} {y : Cd} (hy : inC cols y) : ∀ {xs : List Cd}, inCs cols xs → inCs cols (xs ++ [y])
  | [], _ => by show inCs cols [y]; unfold inCs; exact ⟨hy, by unfold inCs; trivial⟩
  | x :: r, h => by
    unfold inCs at h
    show inCs cols (x :: (r ++ [y]))
    unfold inCs
    exact ⟨h.1, inCs_app hy h.2⟩
theorem deps_app {d : Nat} {y : Cd} (hy : dep y ≤ d) : ∀ {xs : List Cd}, deps xs ≤ d → deps (xs ++ [y]) ≤ d
  | [], _ => by show deps [y] ≤ d; unfold deps; unfold deps; omega
  | x :: r, h => by
    unfold deps at h
    show deps (x :: (r ++ [y])) ≤ d
    unfold deps
    have := deps_app (y := y) (d := d) hy (xs := r) (by omega)
    omega
/-- what a condition is, once drawn -/
def good (cols : List Cl) (d : Nat) (x : Cd) : Prop := inC cols x ∧ wf x ∧ shrt x ∧ dep x ≤ d
def goods (cols : List Cl) (d : Nat) (xs : List Cd) : Prop := inCs cols xs ∧ wfs xs ∧ shrts xs ∧ deps xs ≤ d
theorem goods_app {cols : List Cl} {d : Nat} {xs : List Cd} {y : Cd} (h : goods cols d xs) (hy : good cols d y) : goods cols d (xs ++ [y]) :=
  ⟨inCs_app hy.1 h.1, wfs_app hy.2.1 h.2.1, shrts_app hy.2.2.1 h.2.2.1, deps_app hy.2.2.2 h.2.2.2⟩
theorem goods_nil {cols : List Cl} {d : Nat} : goods cols d [] := ⟨by unfold inCs; trivial, by unfold wfs; trivial, by unfold shrts; trivial, by unfold deps; omega⟩
theorem good_le {cols : List Cl} {d e : Nat} {x : Cd} (h : good cols d x) (he : d ≤ e) : good cols e x := ⟨h.1, h.2.1, h.2.2.1, by have := h.2.2.2; omega⟩
theorem good_neg {cols : List Cl} {d : Nat} {x : Cd} (h : good cols d x) : good cols (d + 1) (.neg x) := ⟨by unfold inC; exact h.1, by unfold wf; exact h.2.1, by unfold shrt; exact h.2.2.1, by unfold dep; have := h.2.2.2; omega⟩
theorem good_many {cols : List Cl} {d : Nat} {a : Bool} {xs : List Cd} (h : goods cols d xs) (hl : xs ≠ []) (hl2 : xs.length ≤ 10) : good cols (d + 1) (.many a xs) := ⟨by unfold inC; exact h.1, by unfold wf; exact ⟨hl, hl2, h.2.1⟩, by unfold shrt; exact h.2.2.1, by unfold dep; have := h.2.2.2; omega⟩
theorem sz10 : (10 : Nat) ≤ sizeLine := by decide
theorem app_ref {S : Store} {m : Nat} {ds : List D} {d : D} (h : ds.length < sizeLine) : p2 .append (.val (.ref S.length)) (.val d) (S ++ [.lst ds]) = vv .non (S ++ [.lst (ds ++ [d])]) := by
  show (match (S ++ [O.lst ds])[S.length]? with
      | some (.lst ds') => if ds'.length < sizeLine then vv .non ((S ++ [O.lst ds]).set S.length (.lst (ds' ++ [d]))) else .bad
      | _ => .bad) = _
  have e : (S ++ [O.lst ds])[S.length]? = some (.lst ds) := by simp
  rw [e]
  show (if ds.length < sizeLine then _ else _) = _
  rw [if_pos h, List.set_append_right _ _ (Nat.le_refl _), Nat.sub_self]
  rfl
theorem mk_list {S : Store} {m : Nat} {ds : List D} (h : S[m]? = some (.lst ds)) : MK.is S .list (.val (.ref m)) = true := by
  show (match S[m]? with | some (.lst _) => true | _ => false) = true
  rw [h]
theorem tup_ref {S : Store} {m : Nat} {ds : List D} (h : S[m]? = some (.lst ds)) : p1 .tuple_ (.val (.ref m)) S = .ok (.val (.tup ds)) S := by
  show (match W.seq S (.val (.ref m)) with | some (_, ds) => vv (.tup ds) S | none => R.bad) = _
  rw [seq_ref h]
  rfl
/-- a drawn condition's call: what the rest needs of it -/
def Drawn (C : CF) (k j : Nat) (cols : List Cl) (d : Nat) (deep : Int) (g : Int) (k0 : Nat) : Prop :=
  ∀ (B : Store) (a w c : Int), k < B.length → B[j]? = some (.lst (cols.map dc)) → 0 ≤ c → c + 2 * g < 2 ^ 36 →
    ∃ (x : Cd) (a' c' : Int), C 13 [.ref k, .ref j, .int deep] (B.set k (dko a w c)) = .ok (enc x) (B.set k (dko a' w c')) ∧ good cols d x ∧ c ≤ c' ∧ c' ≤ c + g
theorem cond_loop {C : CF} {k j : Nat} {cols : List Cl} {d : Nat} {deep g : Int} (hg : 0 ≤ g) (hC : Drawn C k j cols d (deep - 1) g 0) {B : Store} {w : Int} {kd : D}
    (hk : k < B.length) (hj : B[j]? = some (.lst (cols.map dc))) : ∀ (ds : List D) (xs : List Cd) (a c : Int) (o5 : Option D), goods cols d xs → xs.length + ds.length ≤ 10 → 0 ≤ c → c + 2 * (ds.length * g) + 2 * g < 2 ^ 36 →
    ∃ (ys : List Cd) (a' c' : Int) (o5' : Option D), forL [] (fun e ρ S => exSs C b13_0 (ρ.set 5 (some e)) S) ds [some (.ref k), some (.ref j), some (.int deep), some kd, some (.ref B.length), o5] (B.set k (dko a w c) ++ [.lst (encs xs)]) =
      .ok .nx [some (.ref k), some (.ref j), some (.int deep), some kd, some (.ref B.length), o5'] (B.set k (dko a' w c') ++ [.lst (encs ys)]) ∧ goods cols d ys ∧ ys.length = xs.length + ds.length ∧ c ≤ c' ∧ c' ≤ c + ds.length * g
  | [], xs, a, c, o5, hx, hl, hc, hc2 => ⟨xs, a, c, o5, by rw [forL_end isLive_nil], hx, by simp, Int.le_refl _, by simp⟩
  | e :: r, xs, a, c, o5, hx, hl, hc, hc2 => by
    rw [List.length_cons] at hl hc2
    have hexp : ((r.length + 1 : Nat) : Int) * g = r.length * g + g := by rw [Int.natCast_add, Int.add_mul]; simp
    rw [hexp] at hc2
    have hrg : 0 ≤ (r.length : Int) * g := Int.mul_nonneg (by omega) hg
    obtain ⟨x, a1, c1, h1, h2, h3, h4⟩ := hC (B ++ [.lst (encs xs)]) a w c (by rw [List.length_append]; omega) (by rw [List.getElem?_append_left (List.getElem?_eq_some_iff.mp hj).1]; exact hj) hc (by omega)
    rw [List.set_append_left _ _ hk, List.set_append_left _ _ hk] at h1
    have ap := app_ref (S := B.set k (dko a1 w c1)) (m := 0) (ds := encs xs) (d := enc x) (by rw [encs_len]; exact Nat.lt_of_lt_of_le (by omega) sz10)
    rw [List.length_set] at ap
    have el : encs xs ++ [enc x] = encs (xs ++ [x]) := by rw [encs_app]; simp [encs]
    rw [el] at ap
    obtain ⟨ys, a2, c2, o5', q1, q2, q3, q4, q5⟩ := cond_loop hg hC hk hj r (xs ++ [x]) a1 c1 (some e) (goods_app hx h2) (by rw [List.length_append]; simp; omega) (by omega) (by omega)
    refine ⟨ys, a2, c2, o5', ?_, q2, by rw [q3, List.length_append, List.length_cons]; simp; omega, by omega, by rw [List.length_cons, hexp]; omega⟩
    rw [forL_nx isLive_nil]
    · exact q1
    · have ml := mk_list (S := B.set k (dko a w c) ++ [.lst (encs xs)]) (m := B.length) (ds := encs xs) (by simp)
      generalize B.set k (dko a1 w c1) ++ [O.lst (encs (xs ++ [x]))] = U2 at *
      generalize B.set k (dko a1 w c1) ++ [O.lst (encs xs)] = U1 at *
      generalize B.set k (dko a w c) ++ [O.lst (encs xs)] = U0 at *
      generalize enc x = ex at *
      simp [b13_0, exSs, exS, evD, evB, evK, evDs, vv, R.bd, R.st, RS.sq, toD, toB, bindTg, fin, ml, sub_ok, h1, ap]
end Mi.L

namespace Mi.L
open PySem Mi
def GG : Nat → Int
  | 0 => 100
  | d + 1 => 5 * GG d
theorem GG_pos : ∀ d, 100 ≤ GG d
  | 0 => by show (100 : Int) ≤ 100; decide
  | d + 1 => by have := GG_pos d; show 100 ≤ 5 * GG d; omega
def b13r : List Stm := [.set (.nm 4) (.disp []), .for_ (.nm 5) .rng1 [(.p2 .add (.c (.int 2)) (.call 7 [(.v 0), (.c (.int 2))]))] b13_0, .ret (.tup [(.p2 .ix (.disp [(.c (.str "and")), (.c (.str "or"))]) (.call 7 [(.v 0), (.c (.int 2))])), (.p1 .tuple_ (.v 4))])]
theorem b13_eq : b13 = .set (.nm 3) (.call 7 [(.v 0), (.c (.int 6))]) :: .iff (.or_ (.p2 .lt (.v 2) (.c (.int 2))) (.p2 .lt (.v 3) (.c (.int 2)))) [.ret (.call 12 [(.v 0), (.v 1)])] [] :: .iff (.p2 .eq (.v 3) (.c (.int 2))) [.ret (.tup [(.c (.str "not")), (.call 13 [(.v 0), (.v 1), (.p2 .sub (.v 2) (.c (.int 1)))])])] [] :: b13r := rfl
section
variable {k j : Nat} {cols : List Cl} (hjk : k ≠ j) (hn : cols ≠ []) (hn2 : cols.length ≤ 10)
include hjk hn hn2
theorem many_step {n d : Nat} {deep : Int} (hC : Drawn (run tab (n + d + 4)) k j cols d (deep - 1) (GG d) 0) {B : Store} {a w c r : Int} (hk : k < B.length) (hj : B[j]? = some (.lst (cols.map dc))) (hc : 0 ≤ c) (hc2 : c + 9 * GG d < 2 ^ 36) :
    ∃ (x : Cd) (a' c' : Int) (ρ' : Env) (T : Store), exSs (run tab (n + d + 4)) b13r [some (.ref k), some (.ref j), some (.int deep), some (.int r), none, none] (B.set k (dko a w c)) = .ok (.rt (enc x)) ρ' (B.set k (dko a' w c') ++ T) ∧ good cols (d + 1) x ∧ c ≤ c' ∧ c' ≤ c + 2 + 3 * GG d := by
  have hG := GG_pos d
  obtain ⟨r1, a1, c1, h1, h2, h3, h4, h5⟩ := take_at (B := B) (T := [.lst []]) (a := a) (w := w) (c := c) hk (n := n + d + 3) (m := 2) (by decide) (by decide) hc (by omega)
  have hlen : (intsD (2 + r1).toNat fun i => (i : Int)).length = (2 + r1).toNat := by
    unfold intsD
    rw [List.length_map, List.length_range]
  have hmul : ((intsD (2 + r1).toNat fun i => (i : Int)).length : Int) * GG d ≤ 3 * GG d := by
    rw [hlen]
    exact Int.mul_le_mul_of_nonneg_right (by omega) (by omega)
  obtain ⟨ys, a2, c2, o5, q1, q2, q3, q4, q5⟩ := cond_loop (w := w) (kd := .int r) (by omega) hC hk hj (intsD (2 + r1).toNat fun i => (i : Int)) [] a1 c1 none goods_nil (by rw [hlen]; show 0 + _ ≤ _; omega) (by omega) (by omega)
  rw [hlen, List.length_nil] at q3
  obtain ⟨r3, a3, c3, o1, o2, o3, o4, o6⟩ := take_at (B := B) (T := [.lst (encs ys)]) (a := a2) (w := w) (c := c2) hk (n := n + d + 3) (m := 2) (by decide) (by decide) (by omega) (by omega)
  have e2 : its .rng1 [.val (.int (2 + r1))] (B.set k (dko a1 w c1) ++ [.lst []]) = some ⟨intsD (2 + r1).toNat fun i => (i : Int), []⟩ := by
    show (if fits62 (2 + r1) = true then _ else _) = _
    rw [if_pos (by unfold fits62; exact decide_eq_true ⟨by omega, by omega⟩)]
  have tp := tup_ref (S := B.set k (dko a3 w c3) ++ [.lst (encs ys)]) (m := B.length) (ds := encs ys) (by simp)
  have td : toD (.lis []) (B.set k (dko a w c)) = .ok (.ref B.length) (B.set k (dko a w c) ++ [.lst []]) := by
    show R.ok (D.ref (B.set k (dko a w c)).length) _ = _
    rw [List.length_set]
  have yn : ys ≠ [] := fun h => by rw [h, List.length_nil] at q3; omega
  have en : encs ([] : List Cd) = [] := by unfold encs; rfl
  rw [en] at q1
  have ixa : ∀ T : Store, p2 .ix (.lis [D.str "and", D.str "or"]) (.val (.int r3)) T = .ok (.val (.str (if decide (r3 = 0) = true then "and" else "or"))) T := fun T => by
    have : r3 = 0 ∨ r3 = 1 := by omega
    rcases this with h | h
    · subst h; exact ix_lis atI0
    · subst h; exact ix_lis atI1
  have ee : enc (.many (decide (r3 = 0)) ys) = .tup [.str (if decide (r3 = 0) = true then "and" else "or"), .tup (encs ys)] := by rw [enc]
  refine ⟨.many (decide (r3 = 0)) ys, a3, c3, [some (.ref k), some (.ref j), some (.int deep), some (.int r), some (.ref B.length), o5], [.lst (encs ys)], ?_, good_many q2 yn (by omega), by omega, by omega⟩
  rw [ee]
  generalize (if decide (r3 = 0) = true then ("and" : Str) else "or") = wd at *
  generalize (intsD (2 + r1).toNat fun i => (i : Int)) = its0 at *
  generalize hU3 : B.set k (dko a3 w c3) ++ [O.lst (encs ys)] = U3 at *
  generalize hU2 : B.set k (dko a2 w c2) ++ [O.lst (encs ys)] = U2 at *
  generalize hU1 : B.set k (dko a1 w c1) ++ [O.lst []] = U1 at *
  generalize hU0 : B.set k (dko a w c) ++ [O.lst []] = U0 at *
  generalize hZ : B.set k (dko a w c) = Z at *
  generalize encs ys = EY at *

  have z0 : (0 : Nat) ≤ sizeLine := Nat.zero_le _
  have sz2 := sz2
  simp [b13r, ↓td, exSs, exS, evD, evB, evK, evDs, evWs, vv, R.bd, R.st, RS.sq, toD, toB, bindTg, fin, h1, add_ok, e2, ↓q1, q1, o1, ixa, tp, sz2]
end
end Mi.L

namespace Mi.L
open PySem Mi
theorem und_encx {k : Nat} {c : Cd} : D.und k (enc c) = true := und_enc c
section
variable {k j : Nat} {cols : List Cl} (hjk : k ≠ j) (hn : cols ≠ []) (hn2 : cols.length ≤ 10)
include hjk hn hn2
theorem leaf_step {n : Nat} {deep : Int} {d : Nat} {B : Store} {a w c : Int} (hk : k < B.length) (hj : B[j]? = some (.lst (cols.map dc))) (hc : 0 ≤ c) (hc2 : c + 1000 < 2 ^ 36) {r a1 c1 : Int}
    (h1 : run tab (n + 3) 7 [.ref k, .int 6] (B.set k (dko a w c)) = .ok (.int r) (B.set k (dko a1 w c1))) (g1 : c ≤ c1) (g2 : c1 ≤ c + 1) (hb : deep < 2 ∨ r < 2) :
    ∃ (x : Cd) (a' c' : Int), run tab (n + 4) 13 [.ref k, .ref j, .int deep] (B.set k (dko a w c)) = .ok (enc x) (B.set k (dko a' w c')) ∧ good cols d x ∧ c ≤ c' ∧ c' ≤ c + 100 := by
  obtain ⟨x, a2, c2, q1, q2, q3, q4, q5, q6, q7⟩ := r_one hk hj hjk hn hn2 (n := n) (a := a1) (w := w) (c := c1) (by omega) (by omega)
  have pq := pack_set0 (a := a) (w := w) (c := c) (a' := a2) (c' := c2) (d := enc x) hk und_encx
  refine ⟨x, a2, c2, ?_, ⟨q2, q3, q4, by omega⟩, by omega, by omega⟩
  rw [run_fin (F := ⟨3, 6, b13⟩) rfl rfl]
  dsimp only
  rw [b13_eq]
  generalize B.set k (dko a2 w c2) = U2 at *
  generalize B.set k (dko a1 w c1) = U1 at *
  generalize B.set k (dko a w c) = U0 at *
  generalize enc x = ex at *
  generalize b13r = br at *
  by_cases h : deep < 2
  · simp [exSs, exS, evD, evB, evK, evDs, vv, R.bd, R.st, RS.sq, toD, toB, bindTg, fin, h1, lt_ii, h, q1, pq]
  · have h2 : r < 2 := hb.resolve_left h
    simp [exSs, exS, evD, evB, evK, evDs, vv, R.bd, R.st, RS.sq, toD, toB, bindTg, fin, h1, lt_ii, h, h2, q1, pq]
theorem r_cond : ∀ (d n : Nat) (deep : Int), deep ≤ d → Drawn (run tab (n + d + 4)) k j cols d deep (GG d) 0
  | 0, n, deep, hd => by
    intro B a w c hk hj hc hc2
    have e0 : GG 0 = 100 := rfl
    rw [e0] at hc2 ⊢
    obtain ⟨r, a1, c1, h1, h2, h3, h4, h5⟩ := take_set (a := a) (w := w) (c := c) hk (n := n + 2) (m := 6) (by decide) (by decide) hc (by omega)
    have hd : deep ≤ ((0 : Nat) : Int) := hd
    have hc3 : c + 1000 < 2 ^ 36 ∨ ¬ c + 1000 < 2 ^ 36 := Decidable.em _
    obtain ⟨x, a2, c2, q1, q2, q3, q4, q5, q6, q7⟩ := r_one hk hj hjk hn hn2 (n := n) (a := a1) (w := w) (c := c1) (by omega) (by omega)
    have pq := pack_set0 (a := a) (w := w) (c := c) (a' := a2) (c' := c2) (d := enc x) hk und_encx
    refine ⟨x, a2, c2, ?_, ⟨q2, q3, q4, by omega⟩, by omega, by omega⟩
    show run tab ((n + 3) + 1) 13 _ _ = _
    rw [run_fin (F := ⟨3, 6, b13⟩) rfl rfl]
    dsimp only
    rw [b13_eq]
    have h : deep < 2 := by omega
    generalize B.set k (dko a2 w c2) = U2 at *
    generalize B.set k (dko a1 w c1) = U1 at *
    generalize B.set k (dko a w c) = U0 at *
    generalize enc x = ex at *
    generalize b13r = br at *
    simp [exSs, exS, evD, evB, evK, evDs, vv, R.bd, R.st, RS.sq, toD, toB, bindTg, fin, h1, lt_ii, h, q1, pq]
  | d + 1, n, deep, hd => by
    intro B a w c hk hj hc hc2
    have hG := GG_pos d
    have e0 : GG (d + 1) = 5 * GG d := rfl
    rw [e0] at hc2 ⊢
    obtain ⟨r, a1, c1, h1, h2, h3, h4, h5⟩ := take_set (a := a) (w := w) (c := c) hk (n := n + d + 3) (m := 6) (by decide) (by decide) hc (by omega)
    have hC := r_cond d n (deep - 1) (by omega)
    by_cases hb : deep < 2 ∨ r < 2
    · obtain ⟨x, a2, c2, q1, q2, q3, q4⟩ := leaf_step hjk hn hn2 (n := n + d + 1) (d := d + 1) (deep := deep) hk hj hc (by omega) h1 h4 h5 hb
      exact ⟨x, a2, c2, q1, q2, q3, by omega⟩
    · have hb1 : ¬ deep < 2 := fun h => hb (.inl h)
      have hb2 : ¬ r < 2 := fun h => hb (.inr h)
      by_cases hr : r = 2
      · obtain ⟨x, a2, c2, q1, q2, q3, q4⟩ := hC B a1 w c1 hk hj (by omega) (by omega)
        have pq := pack_set0 (a := a) (w := w) (c := c) (a' := a2) (c' := c2) (d := enc (.neg x)) hk und_encx
        have ee : enc (.neg x) = .tup [.str "not", enc x] := by rw [enc]
        refine ⟨.neg x, a2, c2, ?_, good_neg q2, by omega, by omega⟩
        show run tab ((n + d + 4) + 1) 13 _ _ = _
        rw [run_fin (F := ⟨3, 6, b13⟩) rfl rfl]
        dsimp only
        rw [b13_eq]
        rw [ee] at pq ⊢
        have sz2 := sz2
        generalize B.set k (dko a2 w c2) = U2 at *
        generalize B.set k (dko a1 w c1) = U1 at *
        generalize B.set k (dko a w c) = U0 at *
        generalize enc x = ex at *
        generalize b13r = br at *
        simp [exSs, exS, evD, evB, evK, evDs, vv, R.bd, R.st, RS.sq, toD, toB, bindTg, fin, h1, lt_ii, eq_ii, sub_ok, hb1, hb2, hr, q1, sz2]
        exact pq
      · obtain ⟨x, a2, c2, ρ', T, q1, q2, q3, q4⟩ := many_step hjk hn hn2 (r := r) hC hk hj (a := a1) (w := w) (c := c1) (by omega) (by omega)
        have pq := pack_dk (B := B) (T := T) (a := a) (w := w) (c := c) (a' := a2) (c' := c2) (d := enc x) hk und_encx
        refine ⟨x, a2, c2, ?_, q2, by omega, by omega⟩
        show run tab ((n + d + 4) + 1) 13 _ _ = _
        rw [run_fin (F := ⟨3, 6, b13⟩) rfl rfl]
        dsimp only
        rw [b13_eq]
        generalize B.set k (dko a2 w c2) ++ T = U3 at *
        generalize B.set k (dko a2 w c2) = U2 at *
        generalize B.set k (dko a1 w c1) = U1 at *
        generalize B.set k (dko a w c) = U0 at *
        generalize enc x = ex at *
        generalize b13r = br at *
        simp [exSs, exS, evD, evB, evK, evDs, vv, R.bd, R.st, RS.sq, toD, toB, bindTg, fin, h1, lt_ii, eq_ii, hb1, hb2, hr, ↓q1, q1, pq]
end
end Mi.L

namespace Mi.L
open PySem Mi
theorem compL_gen {α : Type} {B T : Store} {k : Nat} {w : Int} {turn : D → Store → R (Option D)} {f key : α → D} {Q : α → Prop} {g : Int} (hg : 0 ≤ g) :
    ∀ (ds acc : List D) (a c : Int), (∀ d ∈ ds, ∀ a c : Int, 0 ≤ c → c < 2 ^ 37 → ∃ (z : α) (a' c' : Int), turn d (B.set k (dko a w c) ++ T) = .ok (some (f z)) (B.set k (dko a' w c') ++ T) ∧ key z = d ∧ Q z ∧ c ≤ c' ∧ c' ≤ c + g) →
      0 ≤ c → c + ds.length * g < 2 ^ 37 → acc.length + ds.length ≤ sizeLine →
      ∃ (zs : List α) (a' c' : Int), compL [] turn ds (B.set k (dko a w c) ++ T) acc = .ok (acc ++ zs.map f) (B.set k (dko a' w c') ++ T) ∧ zs.map key = ds ∧ (∀ z ∈ zs, Q z) ∧ c ≤ c' ∧ c' ≤ c + ds.length * g
  | [], acc, a, c, _, _, _, _ => ⟨[], a, c, by rw [compL, if_pos isLive_nil, List.map_nil, List.append_nil], rfl, fun z h => absurd h List.not_mem_nil, Int.le_refl _, by simp⟩
  | d :: r, acc, a, c, h, hc, hc2, hz => by
    rw [List.length_cons] at hc2 hz
    have hexp : ((r.length + 1 : Nat) : Int) * g = r.length * g + g := by rw [Int.natCast_add, Int.add_mul]; simp
    rw [hexp] at hc2
    have hrg : 0 ≤ (r.length : Int) * g := Int.mul_nonneg (by omega) hg
    obtain ⟨z, a1, c1, h1, h2, h3, h4, h5⟩ := h d List.mem_cons_self a c hc (by omega)
    obtain ⟨zs, a2, c2, q1, q2, q3, q4, q5⟩ := compL_gen (f := f) (key := key) (Q := Q) hg r (acc ++ [f z]) a1 c1 (fun e he => h e (List.mem_cons_of_mem _ he)) (by omega) (by omega) (by rw [List.length_append]; simp; omega)
    refine ⟨z :: zs, a2, c2, ?_, by rw [List.map_cons, h2, q2], ?_, by omega, by rw [List.length_cons, hexp]; omega⟩
    · rw [compL, if_pos isLive_nil, h1]
      show (if acc.length < sizeLine then compL [] turn r _ (acc ++ [f z]) else .bad) = _
      rw [if_pos (by omega), q1]
      simp
    · intro y hy
      rcases List.mem_cons.mp hy with e | hy
      · rw [e]; exact h3
      · exact q3 y hy
theorem pack_dkr {B T : Store} {k m : Nat} {a w c a' c' : Int} {o : O} (hk : k < B.length) (hm : B.length ≤ m) (ho : o.und B.length = true) (hT : (B.set k (dko a' w c') ++ T)[m]? = some o) :
    pack (B.set k (dko a w c)) (.ref m) (B.set k (dko a' w c') ++ T) = .ok (.ref B.length) (B.set k (dko a' w c') ++ [o]) := by
  unfold pack
  have hkp : keeps (B.set k (dko a w c)) (B.set k (dko a' w c') ++ T) := fun i u hi e => by
    rw [List.length_set] at hi
    rw [List.getElem?_append_left (by rw [List.length_set]; exact hi)] at e
    by_cases z : k = i
    · subst z
      rw [List.getElem?_set_self hk] at e
      cases e
      exact .inr dko_und
    · rw [List.getElem?_set_ne z] at e
      rw [List.getElem?_set_ne z]
      exact .inl e
  rw [if_pos hkp, List.length_set, if_neg (by unfold D.und; simp; exact hm)]
  dsimp only
  rw [hT]
  show (if o.und B.length = true then _ else _) = _
  have ht : (B.set k (dko a' w c') ++ T).take B.length = B.set k (dko a' w c') := by
    rw [List.take_append_of_le_length (by rw [List.length_set]; exact Nat.le_refl _), List.take_of_length_le (by rw [List.length_set]; exact Nat.le_refl _)]
  rw [if_pos ho, ht]
theorem unds_dcs {k : Nat} : ∀ cols : List Cl, D.unds k (cols.map dc) = true
  | [] => by simp
  | x :: r => by rw [List.map_cons, unds_cons, und_dc, unds_dcs r]; rfl
theorem r_cell {n : Nat} {S : Store} {ns : List Int} {i : Int} (h0 : 0 ≤ i) (hl : ns.length ≤ 100) : ∃ z : Int, run tab (n + 1) 6 [.ls (ns.map D.int), .int i] S = .ok (.int z) S := by
  rw [run_fin (F := ⟨2, 2, b6⟩) rfl rfl]
  have len : p1 .len (.val (.ls (ns.map D.int))) S = .ok (.val (.int ns.length)) S := by
    show vv (.int ((ns.map D.int).length : Int)) S = _
    rw [List.length_map]; rfl
  by_cases h : i < ns.length
  · obtain ⟨z, _, hz⟩ := at_map (f := D.int) (l := ns) h0 h
    have ix : p2 .ix (.val (.ls (ns.map D.int))) (.val (.int i)) S = .ok (.val (.int z)) S := by
      show (match L2.atI (ns.map D.int) i with | some d => vv d S | none => .bad) = _
      rw [hz]; rfl
    refine ⟨z, ?_⟩
    generalize ns.map D.int = ml at *
    simp [b6, exSs, exS, evD, evB, evK, evDs, vv, R.bd, R.st, RS.sq, toD, toB, bindTg, fin, len, lt_ii, h, ix, pack_same]
  · refine ⟨0, ?_⟩
    generalize ns.map D.int = ml at *
    simp [b6, exSs, exS, evD, evB, evK, evDs, vv, R.bd, R.st, RS.sq, toD, toB, bindTg, fin, len, lt_ii, h, pack_same]
end Mi.L

namespace Mi.L
open PySem Mi
def w8 : List Str := ["a", "b", "ab", "of", "show", "zzzzzzzz", "x", "count"]
def e8 : List Ex := [(.c (.str "a")), (.c (.str "b")), (.c (.str "ab")), (.c (.str "of")), (.c (.str "show")), (.c (.str "zzzzzzzz")), (.c (.str "x")), (.c (.str "count"))]
theorem ev8 {C : CF} {ρ : Env} {S : Store} : evDs C e8 ρ S = .ok (w8.map D.str) S := by
  simp [e8, evDs, evK, vv, R.bd, toD, w8]
def eCol : Ex := .tup [(.p2 .ix (.v 2) (.p2 .mod (.p2 .mul (.v 3) (.call 7 [(.v 0), (.c (.int 2))])) (.c (.int 2)))), (.p2 .ix (.v 1) (.v 3))]
def eCols : Ex := .comp (.nm 3) .rng1 [(.p2 .add (.c (.int 1)) (.call 7 [(.v 0), (.c (.int 6))]))] [] eCol [3]
theorem b17_eq : b17 = [.set (.nm 1) (.disp e8), .set (.nm 2) (.disp [(.p2 .ix (.v 1) (.call 7 [(.v 0), (.c (.int 4))])), (.p2 .ix (.v 1) (.p2 .add (.c (.int 4)) (.call 7 [(.v 0), (.c (.int 4))])))]), .ret eCols] := rfl
theorem ev_cols {n : Nat} {B : Store} {k : Nat} {a w c : Int} {s1 s2 : Str} {x3 : Option D} (hk : k < B.length) (hc : 0 ≤ c) (hc2 : c < 2 ^ 36) :
    ∃ (zs : List Cl) (a' c' : Int), evK (run tab (n + 1)) eCols [some (.ref k), some (.ref B.length), some (.ref (B.length + 1)), x3] (B.set k (dko a w c) ++ [.lst (w8.map D.str), .lst [.str s1, .str s2]]) = .ok (.lis (zs.map dc)) (B.set k (dko a' w c') ++ [.lst (w8.map D.str), .lst [.str s1, .str s2]]) ∧ zs ≠ [] ∧ zs.length ≤ 6 ∧ c ≤ c' ∧ c' ≤ c + 10 := by
  obtain ⟨r, a1, c1, h1, h2, h3, h4, h5⟩ := take_at (B := B) (T := [.lst (w8.map D.str), .lst [.str s1, .str s2]]) (k := k) (a := a) (w := w) (c := c) hk (n := n) (m := 6) (by decide) (by decide) hc (by omega)
  obtain ⟨trn, htrn⟩ : ∃ t : D → Store → R (Option D), t = fun d S => (match bindTg (.nm 3) d (wipeD [some (.ref k), some (.ref B.length), some (.ref (B.length + 1)), x3] [3]) with
        | some ρ' => ((evCs (run tab (n + 1)) [] ρ' S).bd fun b S => if b = true then ((evK (run tab (n + 1)) eCol ρ' S).bd toD).bd fun d S => .ok (some d) S else .ok none S).nox
        | none => .bad) := ⟨_, rfl⟩
  have at0 : ∀ a c : Int, (B.set k (dko a w c) ++ [O.lst (w8.map D.str), .lst [.str s1, .str s2]])[B.length]? = some (.lst (w8.map D.str)) := fun a c => by
    rw [List.getElem?_append_right (by rw [List.length_set]; exact Nat.le_refl _), List.length_set, Nat.sub_self]; rfl
  have at1 : ∀ a c : Int, (B.set k (dko a w c) ++ [O.lst (w8.map D.str), .lst [.str s1, .str s2]])[B.length + 1]? = some (.lst [.str s1, .str s2]) := fun a c => by
    rw [List.getElem?_append_right (by rw [List.length_set]; omega), List.length_set, Nat.add_sub_cancel_left]; rfl
  have turn : ∀ d ∈ (intsD (1 + r).toNat fun i => (i : Int)), ∀ (a c : Int), 0 ≤ c → c < 2 ^ 37 → ∃ (z : Cl × D) (a' c' : Int), trn d (B.set k (dko a w c) ++ [.lst (w8.map D.str), .lst [.str s1, .str s2]]) = .ok (some (dc z.1)) (B.set k (dko a' w c') ++ [.lst (w8.map D.str), .lst [.str s1, .str s2]]) ∧ z.2 = d ∧ True ∧ c ≤ c' ∧ c' ≤ c + 1 := by
    rw [htrn]
    intro d hd a c g1 g2
    unfold intsD at hd
    obtain ⟨i, hi, rfl⟩ := List.mem_map.mp hd
    rw [List.mem_range] at hi
    obtain ⟨r2, a2, c2, q1, q2, q3, q4, q5⟩ := take_at (B := B) (T := [.lst (w8.map D.str), .lst [.str s1, .str s2]]) (k := k) (a := a) (w := w) (c := c) hk (n := n) (m := 2) (by decide) (by decide) g1 (by omega)
    have mm : ∀ T : Store, p2 .mul (.val (.int i)) (.val (.int r2)) T = .ok (.val (.int (i * r2))) T := fun T => mul_ok (by omega) (by omega)
    have md : ∀ T : Store, p2 .mod (.val (.int (i * r2))) (.val (.int 2)) T = .ok (.val (.int (i * r2 % 2))) T := fun T => mod_ok (by decide)
    obtain ⟨sa, hsa⟩ : ∃ sa : Str, p2 .ix (.val (.ref (B.length + 1))) (.val (.int (i * r2 % 2))) (B.set k (dko a2 w c2) ++ [.lst (w8.map D.str), .lst [.str s1, .str s2]]) = .ok (.val (.str sa)) (B.set k (dko a2 w c2) ++ [.lst (w8.map D.str), .lst [.str s1, .str s2]]) := by
      have : (i * r2 : Int) % 2 = 0 ∨ (i * r2 : Int) % 2 = 1 := by omega
      rcases this with h | h
      · rw [h]; exact ⟨s1, ix_ref (at1 a2 c2) atI0⟩
      · rw [h]; exact ⟨s2, ix_ref (at1 a2 c2) atI1⟩
    obtain ⟨sb, _, hb⟩ := at_map (f := D.str) (l := w8) (r := (i : Int)) (by omega) (by have : w8.length = 8 := rfl
                                                                                        omega)
    have hsb := ix_ref (at0 a2 c2) hb
    refine ⟨((sa, sb), .int i), a2, c2, ?_, rfl, trivial, q4, q5⟩
    have e : dc (sa, sb) = .tup [.str sa, .str sb] := rfl
    dsimp only
    rw [e]
    have sz2 := sz2
    generalize (i * r2 % 2 : Int) = i2 at *
    generalize (i * r2 : Int) = i3 at *
    generalize (i : Int) = i4 at *
    generalize B.set k (dko a2 w c2) ++ [O.lst (w8.map D.str), .lst [.str s1, .str s2]] = U2 at *
    generalize B.set k (dko a w c) ++ [O.lst (w8.map D.str), .lst [.str s1, .str s2]] = U1 at *
    simp [bindTg, wipeD, evCs, eCol, evK, evDs, vv, R.bd, toD, R.nox, q1, mm, md, hsa, hsb, sz2]
  have hn : (intsD (1 + r).toNat fun i => (i : Int)).length = (1 + r).toNat := by
    unfold intsD
    rw [List.length_map, List.length_range]
  obtain ⟨zs, a2, c2, g1, g2, g3, g4, g5⟩ := compL_gen (w := w) (f := fun z : Cl × D => dc z.1) (key := fun z => z.2) (Q := fun _ => True) (g := 1) (by decide) (intsD (1 + r).toNat fun i => (i : Int)) [] a1 c1 turn (by omega) (by rw [hn]; omega) (by rw [hn, List.length_nil]; exact Nat.le_trans (by omega) sz10)
  have gl : zs.length = (1 + r).toNat := by
    have := congrArg List.length g2
    rw [List.length_map, hn] at this
    exact this
  rw [hn] at g5
  refine ⟨zs.map (·.1), a2, c2, ?_, ?_, by rw [List.length_map]; omega, by omega, by omega⟩
  · rw [eCols, evK]
    have ad : ∀ T : Store, p2 .add (.val (.int 1)) (.val (.int r)) T = .ok (.val (.int (1 + r))) T := fun T => add_ok
    have e1 : evWs (run tab (n + 1)) [.p2 .add (.c (.int 1)) (.call 7 [.v 0, .c (.int 6)])] [some (.ref k), some (.ref B.length), some (.ref (B.length + 1)), x3] (B.set k (dko a w c) ++ [.lst (w8.map D.str), .lst [.str s1, .str s2]]) = .ok [.val (.int (1 + r))] (B.set k (dko a1 w c1) ++ [.lst (w8.map D.str), .lst [.str s1, .str s2]]) := by
      generalize (1 + r : Int) = r5 at *
      generalize B.set k (dko a1 w c1) ++ [O.lst (w8.map D.str), .lst [.str s1, .str s2]] = U2 at *
      generalize B.set k (dko a w c) ++ [O.lst (w8.map D.str), .lst [.str s1, .str s2]] = U1 at *
      simp [evWs, evK, evDs, vv, R.bd, toD, h1, ad]
    rw [e1]
    have e2 : its .rng1 [.val (.int (1 + r))] (B.set k (dko a1 w c1) ++ [.lst (w8.map D.str), .lst [.str s1, .str s2]]) = some ⟨intsD (1 + r).toNat fun i => (i : Int), []⟩ := by
      show (if fits62 (1 + r) = true then _ else _) = _
      rw [if_pos (by unfold fits62; exact decide_eq_true ⟨by omega, by omega⟩)]
    show (match its .rng1 [.val (.int (1 + r))] (B.set k (dko a1 w c1) ++ [.lst (w8.map D.str), .lst [.str s1, .str s2]]) with | some I => _ | none => _) = _
    rw [e2]
    rw [List.nil_append] at g1
    subst htrn
    have em : zs.map (fun z : Cl × D => dc z.1) = (zs.map (·.1)).map dc := by rw [List.map_map]; rfl
    rw [em] at g1
    exact congrArg (fun r : R (List D) => r.bd fun ds S => R.ok (W.lis ds) S) g1
  · intro h
    have := congrArg List.length h
    rw [List.length_map, gl, List.length_nil] at this
    omega
end Mi.L

namespace Mi.L
open PySem Mi
theorem r_cols {n : Nat} {B : Store} {k : Nat} {a w c : Int} (hk : k < B.length) (hc : 0 ≤ c) (hc2 : c < 2 ^ 35) :
    ∃ (cols : List Cl) (a' c' : Int), run tab (n + 2) 17 [.ref k] (B.set k (dko a w c)) = .ok (.ref B.length) (B.set k (dko a' w c') ++ [.lst (cols.map dc)]) ∧ cols ≠ [] ∧ cols.length ≤ 6 ∧ c ≤ c' ∧ c' ≤ c + 20 := by
  obtain ⟨r1, a1, c1, h1, h2, h3, h4, h5⟩ := take_at (B := B) (T := [.lst (w8.map D.str)]) (k := k) (a := a) (w := w) (c := c) hk (n := n) (m := 4) (by decide) (by decide) hc (by omega)
  obtain ⟨r2, a2, c2, i1, i2, i3, i4, i5⟩ := take_at (B := B) (T := [.lst (w8.map D.str)]) (k := k) (a := a1) (w := w) (c := c1) hk (n := n) (m := 4) (by decide) (by decide) (by omega) (by omega)
  have wl : w8.length = 8 := rfl
  obtain ⟨s1, _, hs1⟩ := at_map (f := D.str) (l := w8) (r := r1) h2 (by rw [wl]; omega)
  obtain ⟨s2, _, hs2⟩ := at_map (f := D.str) (l := w8) (r := 4 + r2) (by omega) (by rw [wl]; omega)
  obtain ⟨zs, a3, c3, o1, o2, o3, o4, o5⟩ := ev_cols (n := n) (B := B) (k := k) (a := a2) (w := w) (c := c2) (s1 := s1) (s2 := s2) (x3 := none) hk (by omega) (by omega)
  have at0 : ∀ a c : Int, (B.set k (dko a w c) ++ [O.lst (w8.map D.str)])[B.length]? = some (.lst (w8.map D.str)) := fun a c => by
    rw [List.getElem?_append_right (by rw [List.length_set]; exact Nat.le_refl _), List.length_set, Nat.sub_self]; rfl
  have ix1 := ix_ref (at0 a1 c1) hs1
  have ix2 := ix_ref (at0 a2 c2) hs2
  have ad : ∀ T : Store, p2 .add (.val (.int 4)) (.val (.int r2)) T = .ok (.val (.int (4 + r2))) T := fun T => add_ok
  have td0 : toD (.lis (w8.map D.str)) (B.set k (dko a w c)) = .ok (.ref B.length) (B.set k (dko a w c) ++ [.lst (w8.map D.str)]) := by
    show R.ok (D.ref (B.set k (dko a w c)).length) _ = _
    rw [List.length_set]
  have td1 : toD (.lis [.str s1, .str s2]) (B.set k (dko a2 w c2) ++ [.lst (w8.map D.str)]) = .ok (.ref (B.length + 1)) (B.set k (dko a2 w c2) ++ [.lst (w8.map D.str), .lst [.str s1, .str s2]]) := by
    show R.ok (D.ref (B.set k (dko a2 w c2) ++ [O.lst (w8.map D.str)]).length) ((B.set k (dko a2 w c2) ++ [O.lst (w8.map D.str)]) ++ [.lst [.str s1, .str s2]]) = _
    rw [List.length_append, List.length_set, List.append_assoc]
    rfl
  have td2 : toD (.lis (zs.map dc)) (B.set k (dko a3 w c3) ++ [.lst (w8.map D.str), .lst [.str s1, .str s2]]) = .ok (.ref (B.length + 2)) (B.set k (dko a3 w c3) ++ [.lst (w8.map D.str), .lst [.str s1, .str s2], .lst (zs.map dc)]) := by
    show R.ok (D.ref (B.set k (dko a3 w c3) ++ [O.lst (w8.map D.str), .lst [.str s1, .str s2]]).length) ((B.set k (dko a3 w c3) ++ [O.lst (w8.map D.str), .lst [.str s1, .str s2]]) ++ [.lst (zs.map dc)]) = _
    rw [List.length_append, List.length_set, List.append_assoc]
    rfl
  have pq := pack_dkr (B := B) (T := [.lst (w8.map D.str), .lst [.str s1, .str s2], .lst (zs.map dc)]) (k := k) (m := B.length + 2) (a := a) (w := w) (c := c) (a' := a3) (c' := c3) (o := .lst (zs.map dc)) hk (by omega) (unds_dcs zs)
    (by rw [List.getElem?_append_right (by rw [List.length_set]; omega), List.length_set, Nat.add_sub_cancel_left]; rfl)
  have hd : ∀ (C : CF) (ρ : Env) (S : Store), evDs C e8 ρ S = .ok (w8.map D.str) S := fun C ρ S => ev8
  have sz : (w8.map D.str).length ≤ sizeLine := by decide
  have sz2 := sz2
  refine ⟨zs, a3, c3, ?_, o2, o3, by omega, by omega⟩
  rw [run_fin (F := ⟨1, 4, b17⟩) rfl rfl]
  dsimp only
  rw [b17_eq]
  generalize B.set k (dko a3 w c3) ++ [O.lst (zs.map dc)] = V at *
  generalize B.set k (dko a3 w c3) ++ [O.lst (w8.map D.str), .lst [.str s1, .str s2], .lst (zs.map dc)] = U5 at *
  generalize B.set k (dko a3 w c3) ++ [O.lst (w8.map D.str), .lst [.str s1, .str s2]] = U4 at *
  generalize B.set k (dko a2 w c2) ++ [O.lst (w8.map D.str), .lst [.str s1, .str s2]] = U3 at *
  generalize B.set k (dko a2 w c2) ++ [O.lst (w8.map D.str)] = U2 at *
  generalize B.set k (dko a1 w c1) ++ [O.lst (w8.map D.str)] = U1 at *
  generalize B.set k (dko a w c) ++ [O.lst (w8.map D.str)] = U0 at *
  generalize B.set k (dko a w c) = Z at *
  generalize w8.map D.str = W8 at *
  generalize zs.map dc = ZS at *
  generalize (4 + r2 : Int) = r4 at *
  generalize eCols = ec at *
  simp [↓td0, ↓td1, ↓td2, ↓hd, sz, sz2, exSs, exS, evD, evB, evK, evDs, vv, R.bd, R.st, RS.sq, bindTg, fin, h1, i1, ix1, ix2, ad, ↓o1, toD, pq]
end Mi.L

namespace Mi.L
open PySem L2 Mi
theorem lookD_putD {κ : Type} [DecidableEq κ] (kvs : List (κ × D)) (k k' : κ) (d : D) : lookD (putD kvs k d) k' = if k = k' then some d else lookD kvs k' := by
  have hf : ∀ l : List (κ × D), ((l.map fun kv => if kv.1 = k then (kv.1, d) else kv).find? fun kv => decide (kv.1 = k')).map (·.2) = if k = k' then (l.find? fun kv => decide (kv.1 = k')).map (fun _ => d) else (l.find? fun kv => decide (kv.1 = k')).map (·.2) := by
    intro l
    induction l with
    | nil => simp
    | cons x r ih =>
      obtain ⟨x1, x2⟩ := x
      rw [List.map_cons]
      by_cases h : x1 = k'
      · subst h
        by_cases h2 : x1 = k
        · subst h2; simp
        · have h3 : ¬ k = x1 := fun e => h2 e.symm
          simp [h2, h3]
      · by_cases h2 : x1 = k
        · subst h2
          rw [if_pos rfl, List.find?_cons_of_neg (by simpa using h), List.find?_cons_of_neg (by simpa using h)]
          exact ih
        · rw [if_neg h2, List.find?_cons_of_neg (by simpa using h), List.find?_cons_of_neg (by simpa using h)]
          exact ih
  unfold putD
  by_cases h : (kvs.any fun kv => decide (kv.1 = k)) = true
  · rw [if_pos h]
    unfold lookD
    rw [hf kvs]
    by_cases e : k = k'
    · subst e
      rw [if_pos rfl, if_pos rfl]
      obtain ⟨x, hx, hx2⟩ := List.any_eq_true.mp h
      cases hq : kvs.find? fun kv => decide (kv.1 = k) with
      | none => exact absurd hx2 (List.find?_eq_none.mp hq x hx)
      | some y => rfl
    · rw [if_neg e, if_neg e]
  · rw [if_neg h]
    unfold lookD
    rw [List.find?_append]
    by_cases e : k = k'
    · subst e
      have hq : kvs.find? (fun kv => decide (kv.1 = k)) = none := List.find?_eq_none.mpr fun x hx hx2 => h (List.any_eq_true.mpr ⟨x, hx, hx2⟩)
      rw [hq, if_pos rfl]
      simp
    · rw [if_neg e]
      have : [(k, d)].find? (fun kv => decide (kv.1 = k')) = none := by simp [e]
      rw [this, Option.or_none]
def kt (c : Cl) : List Key := [.inr c.1, .inr c.2]
theorem kt_inj {a b : Cl} : kt a = kt b ↔ a = b := by
  obtain ⟨a1, a2⟩ := a
  obtain ⟨b1, b2⟩ := b
  simp [kt]
theorem keyT_dc {c : Cl} : (dc c).keyT = some (kt c) := rfl
theorem key_dc {c : Cl} : (dc c).key = none := rfl
def dpv (p : Cl × Vl) : D := .tup [dc p.1, dv p.2]
def kpv (p : Cl × Vl) : List Key × D := (kt p.1, dv p.2)
theorem mapT : ∀ ps : List (Cl × Vl), mapO pairT (ps.map dpv) = some (ps.map kpv)
  | [] => rfl
  | p :: r => by
    rw [List.map_cons, List.map_cons, mapO, mapT r]
    rfl
theorem dictOf_dpv {p : Cl × Vl} {r : List (Cl × Vl)} : dictOf ((p :: r).map dpv) = some (.dt (((p :: r).map kpv).foldl (fun acc kv => putD acc kv.1 kv.2) [])) := by
  rw [List.map_cons]
  have e : dictOf (.tup [dc p.1, dv p.2] :: r.map dpv) = (mapO pairT (r.map dpv)).map fun (q : List (List Key × D)) => O.dt (((kt p.1, dv p.2) :: q).foldl (fun (acc : List (List Key × D)) (kv : List Key × D) => putD acc kv.1 kv.2) []) := rfl
  show dictOf (.tup [dc p.1, dv p.2] :: r.map dpv) = _
  rw [e, mapT r]
  rfl
theorem fold_look : ∀ (ps : List (Cl × Vl)) (acc : List (List Key × D)) (K : List Cl) (L : Cl → Vl), (∀ c ∈ K, lookD acc (kt c) = some (dv (L c)) ∧ (kls (L c)).length ≤ 1000) → (∀ p ∈ ps, (kls p.2).length ≤ 1000) →
    ∃ L' : Cl → Vl, ∀ c, (c ∈ K ∨ c ∈ ps.map (·.1)) → lookD ((ps.map kpv).foldl (fun acc kv => putD acc kv.1 kv.2) acc) (kt c) = some (dv (L' c)) ∧ (kls (L' c)).length ≤ 1000
  | [], acc, K, L, h, _ => ⟨L, fun c hc => by
      rcases hc with hc | hc
      · exact h c hc
      · exact absurd hc List.not_mem_nil⟩
  | p :: r, acc, K, L, h, hs => by
    obtain ⟨L', h'⟩ := fold_look r (putD acc (kt p.1) (dv p.2)) (p.1 :: K) (fun c => if p.1 = c then p.2 else L c) (fun c hc => by
      rw [lookD_putD]
      by_cases e : p.1 = c
      · rw [if_pos (by rw [e]), if_pos e]
        exact ⟨rfl, hs p List.mem_cons_self⟩
      · rw [if_neg (fun q => e (kt_inj.mp q)), if_neg e]
        rcases List.mem_cons.mp hc with q | q
        · exact absurd q.symm e
        · exact h c q) (fun q hq => hs q (List.mem_cons_of_mem _ hq))
    refine ⟨L', fun c hc => ?_⟩
    rw [List.map_cons, List.foldl_cons]
    refine h' c ?_
    rcases hc with hc | hc
    · exact .inl (List.mem_cons_of_mem _ hc)
    · rw [List.map_cons] at hc
      rcases List.mem_cons.mp hc with q | q
      · exact .inl (q ▸ List.mem_cons_self)
      · exact .inr q
end Mi.L

namespace Mi.L
open PySem L2 Mi
theorem compL_live {α : Type} {B : Store} {k : Nat} {w : Int} {live : List (Nat × List D)} {turn : D → Store → R (Option D)} {f key : α → D} {Q : α → Prop} {g : Int} (hg : 0 ≤ g) (hlv : ∀ a c : Int, isLive live (B.set k (dko a w c))) :
    ∀ (ds acc : List D) (a c : Int), (∀ d ∈ ds, ∀ a c : Int, 0 ≤ c → c < 2 ^ 37 → ∃ (z : α) (a' c' : Int), turn d (B.set k (dko a w c)) = .ok (some (f z)) (B.set k (dko a' w c')) ∧ key z = d ∧ Q z ∧ c ≤ c' ∧ c' ≤ c + g) →
      0 ≤ c → c + ds.length * g < 2 ^ 37 → acc.length + ds.length ≤ sizeLine →
      ∃ (zs : List α) (a' c' : Int), compL live turn ds (B.set k (dko a w c)) acc = .ok (acc ++ zs.map f) (B.set k (dko a' w c')) ∧ zs.map key = ds ∧ (∀ z ∈ zs, Q z) ∧ c ≤ c' ∧ c' ≤ c + ds.length * g
  | [], acc, a, c, _, _, _, _ => ⟨[], a, c, by rw [compL, if_pos (hlv a c), List.map_nil, List.append_nil], rfl, fun z h => absurd h List.not_mem_nil, Int.le_refl _, by simp⟩
  | d :: r, acc, a, c, h, hc, hc2, hz => by
    rw [List.length_cons] at hc2 hz
    have hexp : ((r.length + 1 : Nat) : Int) * g = r.length * g + g := by rw [Int.natCast_add, Int.add_mul]; simp
    rw [hexp] at hc2
    have hrg : 0 ≤ (r.length : Int) * g := Int.mul_nonneg (by omega) hg
    obtain ⟨z, a1, c1, h1, h2, h3, h4, h5⟩ := h d List.mem_cons_self a c hc (by omega)
    obtain ⟨zs, a2, c2, q1, q2, q3, q4, q5⟩ := compL_live (f := f) (key := key) (Q := Q) hg hlv r (acc ++ [f z]) a1 c1 (fun e he => h e (List.mem_cons_of_mem _ he)) (by omega) (by omega) (by rw [List.length_append]; simp; omega)
    refine ⟨z :: zs, a2, c2, ?_, by rw [List.map_cons, h2, q2], ?_, by omega, by rw [List.length_cons, hexp]; omega⟩
    · rw [compL, if_pos (hlv a c), h1]
      show (if acc.length < sizeLine then compL live turn r _ (acc ++ [f z]) else .bad) = _
      rw [if_pos (by omega), q1]
      simp
    · intro y hy
      rcases List.mem_cons.mp hy with e | hy
      · rw [e]; exact h3
      · exact q3 y hy
def eLine : Ex := .comp (.nm 6) .it [(.v 2)] [] (.tup [(.v 6), (.call 8 [(.v 4)])]) [6]
theorem dc_inj {a b : Cl} (h : dc a = dc b) : a = b := by
  have : (dc a).keyT = (dc b).keyT := by rw [h]
  rw [keyT_dc, keyT_dc] at this
  exact kt_inj.mp (Option.some.inj this)
theorem ev_line {n : Nat} {B : Store} {k j : Nat} {cols : List Cl} {a w c : Int} {x0 x1 x3 x5 x6 x7 x8 x9 x10 : Option D} (hk : k < B.length) (hj : B[j]? = some (.lst (cols.map dc))) (hjk : k ≠ j) (hn : cols ≠ []) (hn2 : cols.length ≤ 6) (hc : 0 ≤ c) (hc2 : c < 2 ^ 35) :
    ∃ (kvs : List (List Key × D)) (L : Cl → Vl) (a' c' : Int), evK (run tab (n + 2)) (.p1 .dict_ eLine) [x0, x1, some (.ref j), x3, some (.ref k), x5, x6, x7, x8, x9, x10] (B.set k (dko a w c)) = .ok (.val (.ref B.length)) (B.set k (dko a' w c') ++ [.dt kvs]) ∧ (∀ col ∈ cols, lookD kvs (kt col) = some (dv (L col)) ∧ (kls (L col)).length ≤ 1000) ∧ c ≤ c' ∧ c' ≤ c + 180 := by
  obtain ⟨trn, htrn⟩ : ∃ t : D → Store → R (Option D), t = fun d S => (match bindTg (.nm 6) d (wipeD [x0, x1, some (.ref j), x3, some (.ref k), x5, x6, x7, x8, x9, x10] [6]) with
        | some ρ' => ((evCs (run tab (n + 2)) [] ρ' S).bd fun b S => if b = true then ((evK (run tab (n + 2)) (.tup [(.v 6), (.call 8 [(.v 4)])]) ρ' S).bd toD).bd fun d S => .ok (some d) S else .ok none S).nox
        | none => .bad) := ⟨_, rfl⟩
  have turn : ∀ d ∈ cols.map dc, ∀ a c : Int, 0 ≤ c → c < 2 ^ 37 → ∃ (z : Cl × Vl) (a' c' : Int), trn d (B.set k (dko a w c)) = .ok (some (dpv z)) (B.set k (dko a' w c')) ∧ dc z.1 = d ∧ (kls z.2).length ≤ 1000 ∧ c ≤ c' ∧ c' ≤ c + 30 := by
    rw [htrn]
    intro d hd a c g1 g2
    obtain ⟨col, hcol, rfl⟩ := List.mem_map.mp hd
    obtain ⟨v, a2, c2, q1, q2, q3, q4⟩ := r_value (n := n) (B := B) (k := k) (a := a) (w := w) (c := c) hk g1 g2
    refine ⟨(col, v), a2, c2, ?_, rfl, q2, q3, q4⟩
    have sz2 := sz2
    unfold dpv
    dsimp only
    generalize B.set k (dko a2 w c2) = U2 at *
    generalize B.set k (dko a w c) = U1 at *
    generalize dc col = d1 at *
    generalize dv v = d2 at *
    simp [bindTg, wipeD, evCs, evK, evDs, vv, R.bd, toD, R.nox, q1, sz2]
  obtain ⟨zs, a2, c2, g1, g2, g3, g4, g5⟩ := compL_live (w := w) (live := [(j, cols.map dc)]) (f := dpv) (key := fun z : Cl × Vl => dc z.1) (Q := fun z => (kls z.2).length ≤ 1000) (g := 30) (by decide) (fun a c p hp => by
    rw [List.mem_singleton.mp hp]
    exact col_at hk hj hjk) (cols.map dc) [] a c turn hc (by rw [List.length_map]; omega) (by rw [List.length_map, List.length_nil]; exact Nat.le_trans (by omega) sz10)
  rw [List.length_map] at g5
  have zc : zs.map (·.1) = cols := by
    have h2 : (zs.map (·.1)).map dc = cols.map dc := by rw [List.map_map]; exact g2
    exact (List.map_inj_right (fun a b h => dc_inj h)).mp h2
  have zn : zs ≠ [] := fun h => by rw [h] at zc; exact hn zc.symm
  obtain ⟨L, hL⟩ := fold_look zs [] [] (fun _ => .inl 0) (fun c hc => absurd hc List.not_mem_nil) g3
  have hdo : dictOf (zs.map dpv) = some (.dt ((zs.map kpv).foldl (fun acc kv => putD acc kv.1 kv.2) [])) := by
    cases zs with
    | nil => exact absurd rfl zn
    | cons p r => exact dictOf_dpv
  refine ⟨(zs.map kpv).foldl (fun acc kv => putD acc kv.1 kv.2) [], L, a2, c2, ?_, fun col hcol => hL col (.inr (by rw [zc]; exact hcol)), by omega, by omega⟩
  rw [evK, eLine, evK]
  have e1 : evWs (run tab (n + 2)) [.v 2] [x0, x1, some (.ref j), x3, some (.ref k), x5, x6, x7, x8, x9, x10] (B.set k (dko a w c)) = .ok [.val (.ref j)] (B.set k (dko a w c)) := by
    generalize B.set k (dko a w c) = U1 at *
    simp [evWs, evK, vv, R.bd]
  rw [e1]
  have e2 : its .it [.val (.ref j)] (B.set k (dko a w c)) = some ⟨cols.map dc, [(j, cols.map dc)]⟩ := by
    unfold its
    dsimp only
    rw [seq_ref (col_at hk hj hjk)]
    rfl
  show R.bd (match its .it [.val (.ref j)] (B.set k (dko a w c)) with | some I => _ | none => _) _ = _
  rw [e2]
  rw [List.nil_append] at g1
  subst htrn
  refine (congrArg (fun r : R (List D) => (r.bd fun ds S => R.ok (W.lis ds) S).bd fun x S => p1 .dict_ x S) g1).trans ?_
  show (match dictOf (zs.map dpv) with | some o => R.ok (W.val (D.ref (B.set k (dko a2 w c2)).length)) (B.set k (dko a2 w c2) ++ [o]) | none => .bad) = _
  rw [hdo, List.length_set]
end Mi.L

namespace Mi.L
open PySem L2 Mi
mutual
theorem own_good {cols : List Cl} {L : Cl → Vl} (hs : ∀ c ∈ cols, (kls (L c)).length ≤ 1000) {d : Nat} : ∀ x : Cd, good cols d x → good cols d (ownC L x)
  | .tst c s v, h => by
    obtain ⟨h1, h2, h3, h4⟩ := h
    unfold inC at h1
    rw [ownC]
    exact ⟨by unfold inC; exact ⟨h1.1, hs c h1.1⟩, by unfold wf; trivial, by unfold shrt; exact hs c h1.1, by unfold dep; omega⟩
  | .tcol c s c2, h => by
    obtain ⟨h1, h2, h3, h4⟩ := h
    unfold inC at h1
    rw [ownC]
    exact ⟨by unfold inC; exact ⟨h1.1, hs c h1.1⟩, by unfold wf; trivial, by unfold shrt; exact hs c h1.1, by unfold dep; omega⟩
  | .neg x, h => by
    obtain ⟨h1, h2, h3, h4⟩ := h
    unfold inC at h1
    unfold wf at h2
    unfold shrt at h3
    unfold dep at h4
    rw [ownC]
    have := own_good hs (d := d - 1) x ⟨h1, h2, h3, by omega⟩
    have := good_neg this
    rwa [Nat.sub_add_cancel (by omega)] at this
  | .many a xs, h => by
    obtain ⟨h1, h2, h3, h4⟩ := h
    unfold inC at h1
    unfold wf at h2
    unfold shrt at h3
    unfold dep at h4
    rw [ownC]
    have := own_goods hs (d := d - 1) xs ⟨h1, h2.2.2, h3, by omega⟩
    have hl : (ownCs L xs).length = xs.length := by rw [own_map, List.length_map]
    have := good_many (a := a) this (fun e => h2.1 (by rw [e] at hl; exact List.length_eq_zero_iff.mp hl.symm)) (by rw [hl]; exact h2.2.1)
    rwa [Nat.sub_add_cancel (by omega)] at this
theorem own_goods {cols : List Cl} {L : Cl → Vl} (hs : ∀ c ∈ cols, (kls (L c)).length ≤ 1000) {d : Nat} : ∀ xs : List Cd, goods cols d xs → goods cols d (ownCs L xs)
  | [], h => by rw [ownCs]; exact goods_nil
  | x :: r, h => by
    obtain ⟨h1, h2, h3, h4⟩ := h
    unfold inCs at h1
    unfold wfs at h2
    unfold shrts at h3
    unfold deps at h4
    obtain ⟨a1, a2, a3, a4⟩ := own_good hs (d := d) x ⟨h1.1, h2.1, h3.1, by omega⟩
    obtain ⟨b1, b2, b3, b4⟩ := own_goods hs (d := d) r ⟨h1.2, h2.2, h3.2, by omega⟩
    rw [ownCs]
    exact ⟨by unfold inCs; exact ⟨a1, b1⟩, by unfold wfs; exact ⟨a2, b2⟩, by unfold shrts; exact ⟨a3, b3⟩, by unfold deps; omega⟩
end
/-- a loop whose turns leave the store and the rest of the names -/
theorem forL_inv {live : List (Nat × List D)} {S : Store} (hl : isLive live S) {turn : D → Env → Store → RS} {I : Env → Prop} : ∀ (ds : List D) (ρ : Env), (∀ d ∈ ds, ∀ ρ, I ρ → ∃ ρ', turn d ρ S = .ok .nx ρ' S ∧ I ρ') → I ρ → ∃ ρ', forL live turn ds ρ S = .ok .nx ρ' S ∧ I ρ'
  | [], ρ, _, h => ⟨ρ, forL_end hl, h⟩
  | d :: r, ρ, ht, h => by
    obtain ⟨ρ1, h1, h2⟩ := ht d List.mem_cons_self ρ h
    obtain ⟨ρ2, h3, h4⟩ := forL_inv hl r ρ1 (fun e he => ht e (List.mem_cons_of_mem _ he)) h2
    exact ⟨ρ2, by rw [forL_nx hl h1, h3], h4⟩
end Mi.L

namespace Mi.L
open PySem L2 Mi
theorem turn0 {e m : Nat} {S : Store} {L : Cl → Vl} {col : Cl} {x : Cd} {x0 x1 x2 x3 x4 x6 x7 x10 : Option D} (hw : wf x) (hsh : shrt x) (hd : dep x ≤ e)
    (hL : p2 .ix (.val (.ref m)) (.val (dc col)) S = .ok (.val (dv (L col))) S) (hs : (kls (L col)).length ≤ 1000) :
    exSs (run tab (e + 8)) b20_0 [x0, x1, x2, x3, x4, some (.ref m), some (dc col), x7, some (enc x), some (.bl (lets L x)), x10] S =
      .ok .nx [x0, x1, x2, x3, x4, some (.ref m), some (dc col), x7, some (enc x), some (.bl (lets L x)), some (dpair (bnd col x))] S := by
  have h1 := r_bounds (S := S) (col := col) x hw (e - dep x)
  rw [show e - dep x + dep x + 8 = e + 8 by omega] at h1
  have h2 := r_lb (S := S) (col := col) x hw hsh (e - dep x + 5)
  rw [show e - dep x + 5 + dep x + 3 = e + 8 by omega] at h2
  have h3 := r_exact (n := e + 7) (S := S) (bnd col x)
  have h4 := r_within (n := e + 6) hL hs (bnd_ok (col := col) x hsh)
  have h5 := within_ok (L := L) (col := col) x
  cases hb : lets L x with
  | false =>
    generalize dpair (bnd col x) = dp at *
    generalize enc x = ex at *
    generalize dc col = dcc at *
    simp [b20_0, exSs, exS, evD, evB, evK, evDs, vv, R.bd, R.st, RS.sq, toD, toB, bindTg, h1, h2, h3]
  | true =>
    rw [h5 hb] at h4
    generalize dpair (bnd col x) = dp at *
    generalize enc x = ex at *
    generalize dc col = dcc at *
    simp [b20_0, exSs, exS, evD, evB, evK, evDs, vv, R.bd, R.st, RS.sq, toD, toB, bindTg, h1, h2, h3, h4]
end Mi.L

namespace Mi.L
open PySem L2 Mi
theorem its_ref {S : Store} {j : Nat} {ds : List D} (h : S[j]? = some (.lst ds)) : its .it [.val (.ref j)] S = some ⟨ds, [(j, ds)]⟩ := by
  unfold its
  dsimp only
  rw [seq_ref h]
  rfl
theorem turn1 {e m j : Nat} {S : Store} {L : Cl → Vl} {cols : List Cl} {x : Cd} {x0 x1 x3 x4 x6 x7 x9 x10 : Option D} (hg : good cols e x) (hj : S[j]? = some (.lst (cols.map dc)))
    (hL : ∀ c ∈ cols, ∀ T : Store, p2 .ix (.val (.ref m)) (.val (dc c)) (S ++ T) = .ok (.val (dv (L c))) (S ++ T)) (hs : ∀ c ∈ cols, (kls (L c)).length ≤ 1000) :
    ∃ y6 y9 y10 : Option D, exSs (run tab (e + 8)) b20_1 [x0, x1, some (.ref j), x3, x4, some (.ref m), x6, x7, some (enc x), x9, x10] S =
      .ok .nx [x0, x1, some (.ref j), x3, x4, some (.ref m), y6, x7, some (enc x), y9, y10] S := by
  obtain ⟨g1, g2, g3, g4⟩ := hg
  have h1 := r_lets hL hs x g2 g1 (e - dep x + 4)
  rw [show e - dep x + 4 + dep x + 4 = e + 8 by omega] at h1
  have lp := forL_inv (live := [(j, cols.map dc)]) (S := S) (fun p hp => by rw [List.mem_singleton.mp hp]; exact hj)
    (turn := fun d ρ S => exSs (run tab (e + 8)) b20_0 (ρ.set 6 (some d)) S)
    (I := fun ρ => ∃ y6 y10 : Option D, ρ = [x0, x1, some (.ref j), x3, x4, some (.ref m), y6, x7, some (enc x), some (.bl (lets L x)), y10])
    (cols.map dc) [x0, x1, some (.ref j), x3, x4, some (.ref m), x6, x7, some (enc x), some (.bl (lets L x)), x10]
    (fun d hd ρ ⟨y6, y10, hρ⟩ => by
      obtain ⟨col, hcol, rfl⟩ := List.mem_map.mp hd
      have hc := hL col hcol []
      rw [List.append_nil] at hc
      have t := turn0 (e := e) (x0 := x0) (x1 := x1) (x2 := some (.ref j)) (x3 := x3) (x4 := x4) (x6 := y6) (x7 := x7) (x10 := y10) g2 g3 g4 hc (hs col hcol)
      subst hρ
      exact ⟨_, t, _, _, rfl⟩) ⟨x6, x10, rfl⟩
  obtain ⟨ρ', lp, y6, y10, rfl⟩ := lp
  refine ⟨y6, some (.bl (lets L x)), y10, ?_⟩
  have e2 := its_ref hj
  generalize enc x = ex at *
  generalize cols.map dc = ds at *
  simp [b20_1, exSs, exS, evD, evB, evK, evDs, evWs, vv, R.bd, R.st, RS.sq, toD, toB, bindTg, h1, e2, ↓lp, lp]
end Mi.L

namespace Mi.L
open PySem L2 Mi
theorem ix_kvs {T : Store} {m : Nat} {kvs : List (List Key × D)} {c : Cl} {d : D} (h : T[m]? = some (.dt kvs)) (hl : lookD kvs (kt c) = some d) : p2 .ix (.val (.ref m)) (.val (dc c)) T = .ok (.val d) T := by
  have hs : W.seq T (.val (.ref m)) = none := by
    show (match T[m]? with | some (.lst ds) => some (false, ds) | _ => none) = _
    rw [h]
  have hk : look T m (dc c) = some (some d) := by
    unfold look
    rw [h]
    dsimp only
    rw [keyT_dc, Option.map_some, hl]
  show (match W.seq T (.val (.ref m)) with
    | some (_, ds) => _
    | none => match look T m (dc c) with
      | some (some d) => vv d T
      | _ => .bad) = _
  rw [hs, hk]
  rfl
end Mi.L

namespace Mi.L
open PySem L2 Mi
theorem b20_2_eq : b20_2 = [.set (.nm 4) (.disp [(.v 3), (.v 1), (.c (.int 7))]), .set (.nm 5) (.p1 .dict_ eLine), .set (.nm 7) (.call 13 [(.v 4), (.v 2), (.p2 .add (.c (.int 1)) (.call 7 [(.v 4), (.c (.int 5))]))]), .for_ (.nm 8) .it [(.disp [(.v 7), (.call 19 [(.v 7), (.v 5)])])] b20_1] := rfl
theorem turn2 {S : Store} {j : Nat} {cols : List Cl} {z w : Int} {x0 x4 x5 x6 x7 x8 x9 x10 : Option D} (hj : S[j]? = some (.lst (cols.map dc))) (hn : cols ≠ []) (hn2 : cols.length ≤ 6) :
    ∃ (T : Store) (y4 y5 y6 y7 y8 y9 y10 : Option D), exSs (run tab 39) b20_2 [x0, some (.int w), some (.ref j), some (.int z), x4, x5, x6, x7, x8, x9, x10] S =
      .ok .nx [x0, some (.int w), some (.ref j), some (.int z), y4, y5, y6, y7, y8, y9, y10] (S ++ T) := by
  have hjl : j < S.length := (List.getElem?_eq_some_iff.mp hj).1
  obtain ⟨k, hk⟩ : ∃ k, k = S.length := ⟨_, rfl⟩
  obtain ⟨B, hB⟩ : ∃ B, B = S ++ [dko z w 7] := ⟨_, rfl⟩
  have hBl : B.length = k + 1 := by rw [hB, hk]; simp
  have hBs : ∀ a c : Int, B.set k (dko a w c) = S ++ [dko a w c] := fun a c => by
    rw [hB, hk, List.set_append_right _ _ (Nat.le_refl _), Nat.sub_self]; rfl
  have hBj : B[j]? = some (.lst (cols.map dc)) := by rw [hB, List.getElem?_append_left hjl]; exact hj
  have hkB : k < B.length := by omega
  have hjk : k ≠ j := by omega
  obtain ⟨kvs, L, a1, c1, h1, h2, h3, h4⟩ := ev_line (n := 37) (B := B) (k := k) (a := z) (w := w) (c := 7) (x0 := x0) (x1 := some (.int w)) (x3 := some (.int z)) (x5 := x5) (x6 := x6) (x7 := x7) (x8 := x8) (x9 := x9) (x10 := x10) hkB hBj hjk hn hn2 (by decide) (by decide)
  obtain ⟨r, a2, c2, i1, i2, i3, i4, i5⟩ := take_at (B := B) (T := [.dt kvs]) (k := k) (a := a1) (w := w) (c := c1) hkB (n := 38) (m := 5) (by decide) (by decide) (by omega) (by omega)
  have g5 : GG 5 = 312500 := by decide
  have hC := r_cond hjk hn (by omega) 5 30 (1 + r) (by omega)
  obtain ⟨x, a3, c3, o1, o2, o3, o4⟩ := hC (B ++ [.dt kvs]) a2 w c2 (by rw [List.length_append]; omega) (by rw [List.getElem?_append_left (by omega)]; exact hBj) (by omega) (by rw [g5]; omega)
  rw [List.set_append_left _ _ hkB, List.set_append_left _ _ hkB] at o1
  have hV : ∀ U : Store, (B.set k (dko a3 w c3) ++ [O.dt kvs] ++ U)[B.length]? = some (.dt kvs) := fun U => by
    rw [List.append_assoc, List.getElem?_append_right (by rw [List.length_set]; exact Nat.le_refl _), List.length_set, Nat.sub_self]; rfl
  have hL : ∀ c ∈ cols, ∀ U : Store, p2 .ix (.val (.ref B.length)) (.val (dc c)) (B.set k (dko a3 w c3) ++ [O.dt kvs] ++ U) = .ok (.val (dv (L c))) (B.set k (dko a3 w c3) ++ [O.dt kvs] ++ U) := fun c hc U => ix_kvs (hV U) (h2 c hc).1
  have hs : ∀ c ∈ cols, (kls (L c)).length ≤ 1000 := fun c hc => (h2 c hc).2
  have ow := r_own (S := B.set k (dko a3 w c3) ++ [O.dt kvs]) (m := B.length) (L := L) (fun c hc => by have := hL c hc []; rwa [List.append_nil] at this) x o2.2.1 o2.1 (38 - dep x)
  have hdx := o2.2.2.2
  rw [show 38 - dep x + dep x + 1 = 39 by omega] at ow
  have hVj : (B.set k (dko a3 w c3) ++ [O.dt kvs])[j]? = some (.lst (cols.map dc)) := by
    rw [List.getElem?_append_left (by rw [List.length_set]; omega), List.getElem?_set_ne hjk]; exact hBj
  have lp := forL_inv (live := []) (S := B.set k (dko a3 w c3) ++ [O.dt kvs]) isLive_nil
    (turn := fun d ρ S => exSs (run tab 39) b20_1 (ρ.set 8 (some d)) S)
    (I := fun ρ => ∃ y6 y8 y9 y10 : Option D, ρ = [x0, some (.int w), some (.ref j), some (.int z), some (.ref k), some (.ref B.length), y6, some (enc x), y8, y9, y10])
    [enc x, enc (ownC L x)] [x0, some (.int w), some (.ref j), some (.int z), some (.ref k), some (.ref B.length), x6, some (enc x), x8, x9, x10]
    (fun d hd ρ ⟨y6, y8, y9, y10, hρ⟩ => by
      obtain ⟨u, hu, rfl⟩ : ∃ u, good cols 31 u ∧ d = enc u := by
        rcases List.mem_cons.mp hd with e | hd
        · exact ⟨x, good_le o2 (by omega), e⟩
        · exact ⟨ownC L x, good_le (own_good hs x o2) (by omega), List.mem_singleton.mp hd⟩
      obtain ⟨q6, q9, q10, t⟩ := turn1 (e := 31) (m := B.length) (x0 := x0) (x1 := some (.int w)) (x3 := some (.int z)) (x4 := some (.ref k)) (x6 := y6) (x7 := some (enc x)) (x9 := y9) (x10 := y10) hu hVj hL hs
      subst hρ
      exact ⟨_, t, _, _, _, _, rfl⟩) ⟨x6, x8, x9, x10, rfl⟩
  obtain ⟨ρ', lp, y6, y8, y9, y10, rfl⟩ := lp
  have td : toD (.lis [.int z, .int w, .int 7]) S = .ok (.ref k) (B.set k (dko z w 7)) := by
    rw [hBs, hk]; rfl
  have ad : ∀ T : Store, p2 .add (.val (.int 1)) (.val (.int r)) T = .ok (.val (.int (1 + r))) T := fun T => add_ok
  have e3 : ∀ T : Store, its .it [.lis [enc x, enc (ownC L x)]] T = some ⟨[enc x, enc (ownC L x)], []⟩ := fun T => rfl
  refine ⟨[dko a3 w c3, .dt kvs], some (.ref k), some (.ref B.length), y6, some (enc x), y8, y9, y10, ?_⟩
  have eV : S ++ [dko a3 w c3, .dt kvs] = B.set k (dko a3 w c3) ++ [O.dt kvs] := by rw [hBs, List.append_assoc]; rfl
  rw [eV, b20_2_eq]
  have sz2 := sz2
  have sz3 : (3 : Nat) ≤ sizeLine := by decide
  generalize B.set k (dko a3 w c3) ++ [O.dt kvs] = V3 at *
  generalize B.set k (dko a2 w c2) ++ [O.dt kvs] = V2 at *
  generalize B.set k (dko a1 w c1) ++ [O.dt kvs] = V1 at *
  generalize B.set k (dko z w 7) = V0 at *
  generalize (1 + r : Int) = r1 at *
  generalize enc (ownC L x) = eo at *
  generalize enc x = ex at *
  generalize Ex.p1 P1.dict_ eLine = el at *
  simp [↓td, ↓h1, exSs, exS, evD, evB, evK, evDs, evWs, vv, R.bd, R.st, RS.sq, toD, toB, bindTg, h1, i1, ad, o1, ow, e3, ↓lp, lp, sz2, sz3]
end Mi.L

namespace Mi.L
open PySem L2 Mi
theorem loop2 {j : Nat} {cols : List Cl} {w : Int} {x0 : Option D} (hn : cols ≠ []) (hn2 : cols.length ≤ 6) : ∀ (zs : List Int) (S : Store) (x3 x4 x5 x6 x7 x8 x9 x10 : Option D), S[j]? = some (.lst (cols.map dc)) →
    ∃ (T : Store) (y3 y4 y5 y6 y7 y8 y9 y10 : Option D), forL [] (fun d ρ S => exSs (run tab 39) b20_2 (ρ.set 3 (some d)) S) (zs.map D.int) [x0, some (.int w), some (.ref j), x3, x4, x5, x6, x7, x8, x9, x10] S =
      .ok .nx [x0, some (.int w), some (.ref j), y3, y4, y5, y6, y7, y8, y9, y10] (S ++ T)
  | [], S, x3, x4, x5, x6, x7, x8, x9, x10, _ => ⟨[], x3, x4, x5, x6, x7, x8, x9, x10, by rw [List.map_nil, forL_end isLive_nil, List.append_nil]⟩
  | z :: r, S, x3, x4, x5, x6, x7, x8, x9, x10, hj => by
    obtain ⟨T, y4, y5, y6, y7, y8, y9, y10, h⟩ := turn2 (S := S) (j := j) (z := z) (w := w) (x0 := x0) (x4 := x4) (x5 := x5) (x6 := x6) (x7 := x7) (x8 := x8) (x9 := x9) (x10 := x10) hj hn hn2
    obtain ⟨T2, q3, q4, q5, q6, q7, q8, q9, q10, h2⟩ := loop2 hn hn2 r (S ++ T) (some (.int z)) y4 y5 y6 y7 y8 y9 y10 (by rw [List.getElem?_append_left (List.getElem?_eq_some_iff.mp hj).1]; exact hj)
    refine ⟨T ++ T2, q3, q4, q5, q6, q7, q8, q9, q10, ?_⟩
    rw [List.map_cons, ← List.append_assoc]
    rw [← h2]
    exact forL_nx isLive_nil h
end Mi.L

namespace Mi.L
open PySem L2 Mi
theorem cutD_map {α β : Type} (f : α → β) (xs : List α) (lo hi : Option Int) : cutD (xs.map f) lo hi = (cutD xs lo hi).map f := by
  unfold cutD
  rw [List.length_map, List.map_take, List.map_drop]
theorem cutD_le {α : Type} (xs : List α) (lo hi : Option Int) : (cutD xs lo hi).length ≤ xs.length := by
  unfold cutD
  rw [List.length_take, List.length_drop]
  omega
theorem isLst_lis {S : Store} {ds : List D} : isLst S (.lis ds) = true := rfl
theorem add_lis {S : Store} {xs ys : List D} (h : xs.length + ys.length ≤ sizeLine) : p2 .add (.lis xs) (.lis ys) S = .ok (.lis (xs ++ ys)) S := by
  show (if (true && true && decide (xs.length + ys.length ≤ sizeLine)) = true then _ else _) = _
  rw [if_pos (by simpa using h)]
theorem law75 (ns : List Int) (hl : ns.length ≤ 63) : ∃ S, run tab 40 20 [.ls (ns.map D.int)] [] = .ok (.bl true) S := by
  obtain ⟨z0, hz0⟩ := r_cell (n := 38) (S := []) (ns := ns) (i := 0) (by decide) (by omega)
  obtain ⟨w, hw⟩ : ∃ w, w = z0 % 2 := ⟨_, rfl⟩
  obtain ⟨cols, a', c', g1, h2, h3, h4, h5⟩ := r_cols (n := 37) (B := [dko (z0 / 2) w 0]) (k := 0) (a := z0 / 2) (w := w) (c := 0) (by simp) (by decide) (by decide)
  have h1 : run tab 39 17 [.ref 0] [dko (z0 / 2) w 0] = .ok (.ref 1) [dko a' w c', .lst (cols.map dc)] := g1
  clear g1
  obtain ⟨z1, hz1⟩ := r_cell (n := 38) (S := [dko a' w c', .lst (cols.map dc)]) (ns := ns) (i := 1) (by decide) (by omega)
  obtain ⟨T, y3, y4, y5, y6, y7, y8, y9, y10, lp⟩ := loop2 (j := 1) (cols := cols) (w := w) (x0 := some (.ls (ns.map D.int))) h2 h3 (cutD ns (some 2) (some 63) ++ [z1]) [dko a' w c', .lst (cols.map dc)] none none none none none none none none rfl
  obtain ⟨c0, hc0⟩ : ∃ c0, L2.atI (cols.map dc) 0 = some (dc c0) := by
    cases cols with
    | nil => exact absurd rfl h2
    | cons c r => exact ⟨c, by unfold L2.atI L2.ixN; simp⟩
  obtain ⟨U, hU⟩ : ∃ U, U = [dko a' w c', .lst (cols.map dc)] ++ T := ⟨_, rfl⟩
  rw [← hU] at lp
  have hU1 : U[1]? = some (.lst (cols.map dc)) := by rw [hU]; rfl
  have ix := ix_ref hU1 hc0
  have bn := r_bounds_none (n := 31) (S := U) (col := c0)
  have eqq : p2 .eq (.val (dpair (none, none))) (.val (.tup [.non, .non])) U = .ok (.val (.bl true)) U := rfl
  have sz : (cutD (ns.map D.int) (some 2) (some 63)).length + 1 ≤ sizeLine := by
    have := cutD_le (ns.map D.int) (some 2) (some 63)
    rw [List.length_map] at this
    exact Nat.le_trans (by omega : _ ≤ 64) (by decide)
  have ad : ∀ T : Store, p2 .add (.lis (cutD (ns.map D.int) (some 2) (some 63))) (.lis [.int z1]) T = .ok (.lis ((cutD ns (some 2) (some 63) ++ [z1]).map D.int)) T := fun T => by
    rw [add_lis (by simpa using sz), List.map_append, cutD_map]; rfl
  have ct : ∀ T : Store, cutW (.val (.ls (ns.map D.int))) (some 2) (some 63) T = .ok (.lis (cutD (ns.map D.int) (some 2) (some 63))) T := fun T => rfl
  have pi : ∀ (i : Int) (T : Store), partI [.val (.int i)] T = .ok (some i) T := fun i T => rfl
  have e3 : ∀ (ds : List D) (T : Store), its .it [.lis ds] T = some ⟨ds, []⟩ := fun ds T => rfl
  have pk : ∀ T : Store, pack [] (.bl true) T = .ok (.bl true) [] := fun T => by
    have := pack_app (S := []) (T := T) (d := .bl true) und_bl
    exact this
  have td : toD (.lis [.int (z0 / 2), .int w, .int 0]) [] = .ok (.ref 0) [dko (z0 / 2) w 0] := rfl
  have sz2 := sz2
  have sz3 : (3 : Nat) ≤ sizeLine := by decide
  have sz1 : (1 : Nat) ≤ sizeLine := by decide
  have md := mod_ok (i := z0) (j := 2) (S := []) (by decide)
  rw [← hw] at md
  have fd := fdiv_ok (i := z0) (j := 2) (S := []) (by decide) (by decide)
  refine ⟨[], ?_⟩
  rw [run_fin (F := ⟨1, 11, b20⟩) rfl rfl]
  dsimp only
  rw [show b20 = [.set (.nm 1) (.p2 .mod (.call 6 [(.v 0), (.c (.int 0))]) (.c (.int 2))), .set (.nm 2) (.call 17 [(.disp [(.p2 .fdiv (.call 6 [(.v 0), (.c (.int 0))]) (.c (.int 2))), (.v 1), (.c (.int 0))])]), .for_ (.nm 3) .it [(.p2 .add (.sl (.v 0) [(.c (.int 2))] [(.c (.int 63))]) (.disp [(.call 6 [(.v 0), (.c (.int 1))])]))] b20_2, .ret (.p2 .eq (.call 5 [(.c .non), (.p2 .ix (.v 2) (.c (.int 0)))]) (.tup [(.c .non), (.c .non)]))] from rfl]
  generalize cutD (ns.map D.int) (some 2) (some 63) = cu at *
  generalize (cutD ns (some 2) (some 63) ++ [z1]).map D.int = zs at *
  generalize ns.map D.int = ml at *
  generalize cols.map dc = cs at *
  generalize [dko (z0 / 2) w 0] = S1 at *
  generalize [dko a' w c', O.lst cs] = S2 at *
  generalize (z0 / 2 : Int) = zh at *
  generalize dpair (none, none) = dp at *
  generalize dc c0 = dc0 at *
  generalize b20_2 = b2 at *
  simp [↓td, exSs, exS, evD, evB, evK, evDs, evWs, vv, R.bd, R.st, RS.sq, toD, toB, bindTg, fin, hz0, hz1, md, fd, h1, ct, pi, ad, e3, ↓lp, lp, ix, bn, eqq, pk, sz1, sz2, sz3]
end Mi.L

namespace Mi.L
open PySem L2 Mi
theorem top_ok {K : PySem.W.Frag} {h : Heap} {mg : Str → Option Value} {fa f0 f1 f2 f3 f4 f5 f6 f7 f8 f9 f10 f11 f12 f13 f14 f15 f16 f17 f18 f19 f20 : Addr} {od0 an0 od1 an1 od2 an2 od3 an3 od4 an4 od5 an5 od6 an6 od7 an7 od8 an8 od9 an9 od10 an10 od11 an11 od12 an12 od13 an13 od14 an14 od15 an15 od16 an16 od17 an17 od18 an18 od19 an19 od20 an20 : Option Addr} {sl0 sl1 sl2 sl3 sl4 sl5 sl6 sl7 sl8 sl9 sl10 sl11 sl12 sl13 sl14 sl15 sl16 sl17 sl18 sl19 sl20 : Array (Option Value)} {oc0 kV0 dc0 pm0 cd0 ct0 oc1 kV1 dc1 pm1 cd1 ct1 oc2 kV2 dc2 pm2 cd2 ct2 oc3 kV3 dc3 pm3 cd3 ct3 oc4 kV4 dc4 pm4 cd4 ct4 oc5 kV5 dc5 pm5 cd5 ct5 oc6 kV6 dc6 pm6 cd6 ct6 oc7 kV7 dc7 pm7 cd7 ct7 oc8 kV8 dc8 pm8 cd8 ct8 oc9 kV9 dc9 pm9 cd9 ct9 oc10 kV10 dc10 pm10 cd10 ct10 oc11 kV11 dc11 pm11 cd11 ct11 oc12 kV12 dc12 pm12 cd12 ct12 oc13 kV13 dc13 pm13 cd13 ct13 oc14 kV14 dc14 pm14 cd14 ct14 oc15 kV15 dc15 pm15 cd15 ct15 oc16 kV16 dc16 pm16 cd16 ct16 oc17 kV17 dc17 pm17 cd17 ct17 oc18 kV18 dc18 pm18 cd18 ct18 oc19 kV19 dc19 pm19 cd19 ct19 oc20 kV20 dc20 pm20 cd20 ct20 : Value} (X : K.In h) (G : h.Ns mainGlobals mg) (hfa : mg "law" = some (.ref fa))
    (a0 : PySem.W.nsIn K mainGlobals "kind_of" = some (some (.ref f0))) (l0 : K.lookup f0 = some ⟨oc0, od0, .func (PySem.W.fnOf "kind_of" "kind_of" (defArgs s0) (defBody s0) (defScope s0) .none kV0 dc0 pm0 an0 cd0 ct0), sl0⟩) (c0 : PySem.W.codeIn K cd0 "kind_of" = true) (k0 : PySem.W.keepIn K (.ref f0) = true)
    (a1 : PySem.W.nsIn K mainGlobals "side_of" = some (some (.ref f1))) (l1 : K.lookup f1 = some ⟨oc1, od1, .func (PySem.W.fnOf "side_of" "side_of" (defArgs s1) (defBody s1) (defScope s1) .none kV1 dc1 pm1 an1 cd1 ct1), sl1⟩) (c1 : PySem.W.codeIn K cd1 "side_of" = true) (k1 : PySem.W.keepIn K (.ref f1) = true)
    (a2 : PySem.W.nsIn K mainGlobals "ahead" = some (some (.ref f2))) (l2 : K.lookup f2 = some ⟨oc2, od2, .func (PySem.W.fnOf "ahead" "ahead" (defArgs s2) (defBody s2) (defScope s2) .none kV2 dc2 pm2 an2 cd2 ct2), sl2⟩) (c2 : PySem.W.codeIn K cd2 "ahead" = true) (k2 : PySem.W.keepIn K (.ref f2) = true)
    (a3 : PySem.W.nsIn K mainGlobals "further" = some (some (.ref f3))) (l3 : K.lookup f3 = some ⟨oc3, od3, .func (PySem.W.fnOf "further" "further" (defArgs s3) (defBody s3) (defScope s3) .none kV3 dc3 pm3 an3 cd3 ct3), sl3⟩) (c3 : PySem.W.codeIn K cd3 "further" = true) (k3 : PySem.W.keepIn K (.ref f3) = true)
    (a4 : PySem.W.nsIn K mainGlobals "by_test" = some (some (.ref f4))) (l4 : K.lookup f4 = some ⟨oc4, od4, .func (PySem.W.fnOf "by_test" "by_test" (defArgs s4) (defBody s4) (defScope s4) .none kV4 dc4 pm4 an4 cd4 ct4), sl4⟩) (c4 : PySem.W.codeIn K cd4 "by_test" = true) (k4 : PySem.W.keepIn K (.ref f4) = true)
    (a5 : PySem.W.nsIn K mainGlobals "bounds" = some (some (.ref f5))) (l5 : K.lookup f5 = some ⟨oc5, od5, .func (PySem.W.fnOf "bounds" "bounds" (defArgs s5) (defBody s5) (defScope s5) .none kV5 dc5 pm5 an5 cd5 ct5), sl5⟩) (c5 : PySem.W.codeIn K cd5 "bounds" = true) (k5 : PySem.W.keepIn K (.ref f5) = true)
    (a6 : PySem.W.nsIn K mainGlobals "_law_cell_at" = some (some (.ref f6))) (l6 : K.lookup f6 = some ⟨oc6, od6, .func (PySem.W.fnOf "_law_cell_at" "_law_cell_at" (defArgs s6) (defBody s6) (defScope s6) .none kV6 dc6 pm6 an6 cd6 ct6), sl6⟩) (c6 : PySem.W.codeIn K cd6 "_law_cell_at" = true) (k6 : PySem.W.keepIn K (.ref f6) = true)
    (a7 : PySem.W.nsIn K mainGlobals "_law_take" = some (some (.ref f7))) (l7 : K.lookup f7 = some ⟨oc7, od7, .func (PySem.W.fnOf "_law_take" "_law_take" (defArgs s7) (defBody s7) (defScope s7) .none kV7 dc7 pm7 an7 cd7 ct7), sl7⟩) (c7 : PySem.W.codeIn K cd7 "_law_take" = true) (k7 : PySem.W.keepIn K (.ref f7) = true)
    (a8 : PySem.W.nsIn K mainGlobals "_law_value" = some (some (.ref f8))) (l8 : K.lookup f8 = some ⟨oc8, od8, .func (PySem.W.fnOf "_law_value" "_law_value" (defArgs s8) (defBody s8) (defScope s8) .none kV8 dc8 pm8 an8 cd8 ct8), sl8⟩) (c8 : PySem.W.codeIn K cd8 "_law_value" = true) (k8 : PySem.W.keepIn K (.ref f8) = true)
    (a9 : PySem.W.nsIn K mainGlobals "_law_key" = some (some (.ref f9))) (l9 : K.lookup f9 = some ⟨oc9, od9, .func (PySem.W.fnOf "_law_key" "_law_key" (defArgs s9) (defBody s9) (defScope s9) .none kV9 dc9 pm9 an9 cd9 ct9), sl9⟩) (c9 : PySem.W.codeIn K cd9 "_law_key" = true) (k9 : PySem.W.keepIn K (.ref f9) = true)
    (a10 : PySem.W.nsIn K mainGlobals "_law_test" = some (some (.ref f10))) (l10 : K.lookup f10 = some ⟨oc10, od10, .func (PySem.W.fnOf "_law_test" "_law_test" (defArgs s10) (defBody s10) (defScope s10) .none kV10 dc10 pm10 an10 cd10 ct10), sl10⟩) (c10 : PySem.W.codeIn K cd10 "_law_test" = true) (k10 : PySem.W.keepIn K (.ref f10) = true)
    (a11 : PySem.W.nsIn K mainGlobals "_law_lets" = some (some (.ref f11))) (l11 : K.lookup f11 = some ⟨oc11, od11, .func (PySem.W.fnOf "_law_lets" "_law_lets" (defArgs s11) (defBody s11) (defScope s11) .none kV11 dc11 pm11 an11 cd11 ct11), sl11⟩) (c11 : PySem.W.codeIn K cd11 "_law_lets" = true) (k11 : PySem.W.keepIn K (.ref f11) = true)
    (a12 : PySem.W.nsIn K mainGlobals "_law_one_test" = some (some (.ref f12))) (l12 : K.lookup f12 = some ⟨oc12, od12, .func (PySem.W.fnOf "_law_one_test" "_law_one_test" (defArgs s12) (defBody s12) (defScope s12) .none kV12 dc12 pm12 an12 cd12 ct12), sl12⟩) (c12 : PySem.W.codeIn K cd12 "_law_one_test" = true) (k12 : PySem.W.keepIn K (.ref f12) = true)
    (a13 : PySem.W.nsIn K mainGlobals "_law_condition" = some (some (.ref f13))) (l13 : K.lookup f13 = some ⟨oc13, od13, .func (PySem.W.fnOf "_law_condition" "_law_condition" (defArgs s13) (defBody s13) (defScope s13) .none kV13 dc13 pm13 an13 cd13 ct13), sl13⟩) (c13 : PySem.W.codeIn K cd13 "_law_condition" = true) (k13 : PySem.W.keepIn K (.ref f13) = true)
    (a14 : PySem.W.nsIn K mainGlobals "_law_least" = some (some (.ref f14))) (l14 : K.lookup f14 = some ⟨oc14, od14, .func (PySem.W.fnOf "_law_least" "_law_least" (defArgs s14) (defBody s14) (defScope s14) .none kV14 dc14 pm14 an14 cd14 ct14), sl14⟩) (c14 : PySem.W.codeIn K cd14 "_law_least" = true) (k14 : PySem.W.keepIn K (.ref f14) = true)
    (a15 : PySem.W.nsIn K mainGlobals "_law_bounds" = some (some (.ref f15))) (l15 : K.lookup f15 = some ⟨oc15, od15, .func (PySem.W.fnOf "_law_bounds" "_law_bounds" (defArgs s15) (defBody s15) (defScope s15) .none kV15 dc15 pm15 an15 cd15 ct15), sl15⟩) (c15 : PySem.W.codeIn K cd15 "_law_bounds" = true) (k15 : PySem.W.keepIn K (.ref f15) = true)
    (a16 : PySem.W.nsIn K mainGlobals "_law_exact" = some (some (.ref f16))) (l16 : K.lookup f16 = some ⟨oc16, od16, .func (PySem.W.fnOf "_law_exact" "_law_exact" (defArgs s16) (defBody s16) (defScope s16) .none kV16 dc16 pm16 an16 cd16 ct16), sl16⟩) (c16 : PySem.W.codeIn K cd16 "_law_exact" = true) (k16 : PySem.W.keepIn K (.ref f16) = true)
    (a17 : PySem.W.nsIn K mainGlobals "_law_columns" = some (some (.ref f17))) (l17 : K.lookup f17 = some ⟨oc17, od17, .func (PySem.W.fnOf "_law_columns" "_law_columns" (defArgs s17) (defBody s17) (defScope s17) .none kV17 dc17 pm17 an17 cd17 ct17), sl17⟩) (c17 : PySem.W.codeIn K cd17 "_law_columns" = true) (k17 : PySem.W.keepIn K (.ref f17) = true)
    (a18 : PySem.W.nsIn K mainGlobals "_law_within" = some (some (.ref f18))) (l18 : K.lookup f18 = some ⟨oc18, od18, .func (PySem.W.fnOf "_law_within" "_law_within" (defArgs s18) (defBody s18) (defScope s18) .none kV18 dc18 pm18 an18 cd18 ct18), sl18⟩) (c18 : PySem.W.codeIn K cd18 "_law_within" = true) (k18 : PySem.W.keepIn K (.ref f18) = true)
    (a19 : PySem.W.nsIn K mainGlobals "_law_own" = some (some (.ref f19))) (l19 : K.lookup f19 = some ⟨oc19, od19, .func (PySem.W.fnOf "_law_own" "_law_own" (defArgs s19) (defBody s19) (defScope s19) .none kV19 dc19 pm19 an19 cd19 ct19), sl19⟩) (c19 : PySem.W.codeIn K cd19 "_law_own" = true) (k19 : PySem.W.keepIn K (.ref f19) = true)
    (a20 : PySem.W.nsIn K mainGlobals "law" = some (some (.ref f20))) (l20 : K.lookup f20 = some ⟨oc20, od20, .func (PySem.W.fnOf "law" "law" (defArgs s20) (defBody s20) (defScope s20) .none kV20 dc20 pm20 an20 cd20 ct20), sl20⟩) (c20 : PySem.W.codeIn K cd20 "law" = true) (k20 : PySem.W.keepIn K (.ref f20) = true)
    (z0 : PySem.W.nsIn K mainGlobals "len" = some none)
    (z1 : PySem.W.nsIn K mainGlobals "int" = some none)
    (z2 : PySem.W.nsIn K mainGlobals "ord" = some none)
    (z3 : PySem.W.nsIn K mainGlobals "str" = some none)
    (z4 : PySem.W.nsIn K mainGlobals "tuple" = some none)
    (z5 : PySem.W.nsIn K mainGlobals "list" = some none)
    (z6 : PySem.W.nsIn K mainGlobals "isinstance" = some none)
    (z7 : PySem.W.nsIn K mainGlobals "bool" = some none)
    (z8 : PySem.W.nsIn K mainGlobals "range" = some none)
    (z9 : PySem.W.nsIn K mainGlobals "zip" = some none)
    (z10 : PySem.W.nsIn K mainGlobals "enumerate" = some none)
    (z11 : PySem.W.nsIn K mainGlobals "reversed" = some none)
    (z12 : PySem.W.nsIn K mainGlobals "dict" = some none)
    (z13 : PySem.W.nsIn K mainGlobals "sorted" = some none)
    (z14 : PySem.W.nsIn K mainGlobals "sum" = some none)
    (z15 : PySem.W.nsIn K mainGlobals "all" = some none)
    (z16 : PySem.W.nsIn K mainGlobals "any" = some none)
    (z17 : PySem.W.nsIn K mainGlobals "max" = some none)
    (z18 : PySem.W.nsIn K mainGlobals "min" = some none)
    (z19 : PySem.W.nsIn K mainGlobals "abs" = some none)
    (z20 : PySem.W.nsIn K mainGlobals "set" = some none)
    : ∃ fd : FuncData, (∀ (s : Shared) (u : Value), BindsTo s fd ⟨[u], []⟩ [("script", u)]) ∧ TopOk (gb0 K) tab glT mg ∧ DefOk (gb0 K) tab glT "law" 20 fa fd ["script"] := by
  have e := hfa.symm.trans (PySem.W.mg_of X G a20)
  cases e
  have F0 := fun_mk (st := s0) l0 c0 k0
  have B0 := F0.binds (ps := P0) fun _ _ _ _ _ _ us hl => match us, hl with | [_], _ => rfl
  have D0 : DefOk (gb0 K) tab glT "kind_of" 0 _ _ P0 := ⟨s0, N0, _, F0, sc0, Mi.L.c0, rfl, rfl, rfl⟩
  have F1 := fun_mk (st := s1) l1 c1 k1
  have B1 := F1.binds (ps := P1) fun _ _ _ _ _ _ us hl => match us, hl with | [_, _], _ => rfl
  have D1 : DefOk (gb0 K) tab glT "side_of" 1 _ _ P1 := ⟨s1, N1, _, F1, sc1, Mi.L.c1, rfl, rfl, rfl⟩
  have F2 := fun_mk (st := s2) l2 c2 k2
  have B2 := F2.binds (ps := P2) fun _ _ _ _ _ _ us hl => match us, hl with | [_, _], _ => rfl
  have D2 : DefOk (gb0 K) tab glT "ahead" 2 _ _ P2 := ⟨s2, N2, _, F2, sc2, Mi.L.c2, rfl, rfl, rfl⟩
  have F3 := fun_mk (st := s3) l3 c3 k3
  have B3 := F3.binds (ps := P3) fun _ _ _ _ _ _ us hl => match us, hl with | [_, _, _], _ => rfl
  have D3 : DefOk (gb0 K) tab glT "further" 3 _ _ P3 := ⟨s3, N3, _, F3, sc3, Mi.L.c3, rfl, rfl, rfl⟩
  have F4 := fun_mk (st := s4) l4 c4 k4
  have B4 := F4.binds (ps := P4) fun _ _ _ _ _ _ us hl => match us, hl with | [_, _], _ => rfl
  have D4 : DefOk (gb0 K) tab glT "by_test" 4 _ _ P4 := ⟨s4, N4, _, F4, sc4, Mi.L.c4, rfl, rfl, rfl⟩
  have F5 := fun_mk (st := s5) l5 c5 k5
  have B5 := F5.binds (ps := P5) fun _ _ _ _ _ _ us hl => match us, hl with | [_, _], _ => rfl
  have D5 : DefOk (gb0 K) tab glT "bounds" 5 _ _ P5 := ⟨s5, N5, _, F5, sc5, Mi.L.c5, rfl, rfl, rfl⟩
  have F6 := fun_mk (st := s6) l6 c6 k6
  have B6 := F6.binds (ps := P6) fun _ _ _ _ _ _ us hl => match us, hl with | [_, _], _ => rfl
  have D6 : DefOk (gb0 K) tab glT "_law_cell_at" 6 _ _ P6 := ⟨s6, N6, _, F6, sc6, Mi.L.c6, rfl, rfl, rfl⟩
  have F7 := fun_mk (st := s7) l7 c7 k7
  have B7 := F7.binds (ps := P7) fun _ _ _ _ _ _ us hl => match us, hl with | [_, _], _ => rfl
  have D7 : DefOk (gb0 K) tab glT "_law_take" 7 _ _ P7 := ⟨s7, N7, _, F7, sc7, Mi.L.c7, rfl, rfl, rfl⟩
  have F8 := fun_mk (st := s8) l8 c8 k8
  have B8 := F8.binds (ps := P8) fun _ _ _ _ _ _ us hl => match us, hl with | [_], _ => rfl
  have D8 : DefOk (gb0 K) tab glT "_law_value" 8 _ _ P8 := ⟨s8, N8, _, F8, sc8, Mi.L.c8, rfl, rfl, rfl⟩
  have F9 := fun_mk (st := s9) l9 c9 k9
  have B9 := F9.binds (ps := P9) fun _ _ _ _ _ _ us hl => match us, hl with | [_], _ => rfl
  have D9 : DefOk (gb0 K) tab glT "_law_key" 9 _ _ P9 := ⟨s9, N9, _, F9, sc9, Mi.L.c9, rfl, rfl, rfl⟩
  have F10 := fun_mk (st := s10) l10 c10 k10
  have B10 := F10.binds (ps := P10) fun _ _ _ _ _ _ us hl => match us, hl with | [_, _, _], _ => rfl
  have D10 : DefOk (gb0 K) tab glT "_law_test" 10 _ _ P10 := ⟨s10, N10, _, F10, sc10, Mi.L.c10, rfl, rfl, rfl⟩
  have F11 := fun_mk (st := s11) l11 c11 k11
  have B11 := F11.binds (ps := P11) fun _ _ _ _ _ _ us hl => match us, hl with | [_, _], _ => rfl
  have D11 : DefOk (gb0 K) tab glT "_law_lets" 11 _ _ P11 := ⟨s11, N11, _, F11, sc11, Mi.L.c11, rfl, rfl, rfl⟩
  have F12 := fun_mk (st := s12) l12 c12 k12
  have B12 := F12.binds (ps := P12) fun _ _ _ _ _ _ us hl => match us, hl with | [_, _], _ => rfl
  have D12 : DefOk (gb0 K) tab glT "_law_one_test" 12 _ _ P12 := ⟨s12, N12, _, F12, sc12, Mi.L.c12, rfl, rfl, rfl⟩
  have F13 := fun_mk (st := s13) l13 c13 k13
  have B13 := F13.binds (ps := P13) fun _ _ _ _ _ _ us hl => match us, hl with | [_, _, _], _ => rfl
  have D13 : DefOk (gb0 K) tab glT "_law_condition" 13 _ _ P13 := ⟨s13, N13, _, F13, sc13, Mi.L.c13, rfl, rfl, rfl⟩
  have F14 := fun_mk (st := s14) l14 c14 k14
  have B14 := F14.binds (ps := P14) fun _ _ _ _ _ _ us hl => match us, hl with | [_, _], _ => rfl
  have D14 : DefOk (gb0 K) tab glT "_law_least" 14 _ _ P14 := ⟨s14, N14, _, F14, sc14, Mi.L.c14, rfl, rfl, rfl⟩
  have F15 := fun_mk (st := s15) l15 c15 k15
  have B15 := F15.binds (ps := P15) fun _ _ _ _ _ _ us hl => match us, hl with | [_, _], _ => rfl
  have D15 : DefOk (gb0 K) tab glT "_law_bounds" 15 _ _ P15 := ⟨s15, N15, _, F15, sc15, Mi.L.c15, rfl, rfl, rfl⟩
  have F16 := fun_mk (st := s16) l16 c16 k16
  have B16 := F16.binds (ps := P16) fun _ _ _ _ _ _ us hl => match us, hl with | [_, _], _ => rfl
  have D16 : DefOk (gb0 K) tab glT "_law_exact" 16 _ _ P16 := ⟨s16, N16, _, F16, sc16, Mi.L.c16, rfl, rfl, rfl⟩
  have F17 := fun_mk (st := s17) l17 c17 k17
  have B17 := F17.binds (ps := P17) fun _ _ _ _ _ _ us hl => match us, hl with | [_], _ => rfl
  have D17 : DefOk (gb0 K) tab glT "_law_columns" 17 _ _ P17 := ⟨s17, N17, _, F17, sc17, Mi.L.c17, rfl, rfl, rfl⟩
  have F18 := fun_mk (st := s18) l18 c18 k18
  have B18 := F18.binds (ps := P18) fun _ _ _ _ _ _ us hl => match us, hl with | [_, _, _], _ => rfl
  have D18 : DefOk (gb0 K) tab glT "_law_within" 18 _ _ P18 := ⟨s18, N18, _, F18, sc18, Mi.L.c18, rfl, rfl, rfl⟩
  have F19 := fun_mk (st := s19) l19 c19 k19
  have B19 := F19.binds (ps := P19) fun _ _ _ _ _ _ us hl => match us, hl with | [_, _], _ => rfl
  have D19 : DefOk (gb0 K) tab glT "_law_own" 19 _ _ P19 := ⟨s19, N19, _, F19, sc19, Mi.L.c19, rfl, rfl, rfl⟩
  have F20 := fun_mk (st := s20) l20 c20 k20
  have B20 := F20.binds (ps := P20) fun _ _ _ _ _ _ us hl => match us, hl with | [_], _ => rfl
  have D20 : DefOk (gb0 K) tab glT "law" 20 _ _ P20 := ⟨s20, N20, _, F20, sc20, Mi.L.c20, rfl, rfl, rfl⟩
  refine ⟨_, fun s v => .of_eq rfl, topOk_of ?_ ?_, D20⟩
  · exact List.forall_mem_cons.mpr ⟨⟨_, _, P0, PySem.W.mg_of X G a0, k0, B0, D0⟩, List.forall_mem_cons.mpr ⟨⟨_, _, P1, PySem.W.mg_of X G a1, k1, B1, D1⟩, List.forall_mem_cons.mpr ⟨⟨_, _, P2, PySem.W.mg_of X G a2, k2, B2, D2⟩, List.forall_mem_cons.mpr ⟨⟨_, _, P3, PySem.W.mg_of X G a3, k3, B3, D3⟩, List.forall_mem_cons.mpr ⟨⟨_, _, P4, PySem.W.mg_of X G a4, k4, B4, D4⟩, List.forall_mem_cons.mpr ⟨⟨_, _, P5, PySem.W.mg_of X G a5, k5, B5, D5⟩, List.forall_mem_cons.mpr ⟨⟨_, _, P6, PySem.W.mg_of X G a6, k6, B6, D6⟩, List.forall_mem_cons.mpr ⟨⟨_, _, P7, PySem.W.mg_of X G a7, k7, B7, D7⟩, List.forall_mem_cons.mpr ⟨⟨_, _, P8, PySem.W.mg_of X G a8, k8, B8, D8⟩, List.forall_mem_cons.mpr ⟨⟨_, _, P9, PySem.W.mg_of X G a9, k9, B9, D9⟩, List.forall_mem_cons.mpr ⟨⟨_, _, P10, PySem.W.mg_of X G a10, k10, B10, D10⟩, List.forall_mem_cons.mpr ⟨⟨_, _, P11, PySem.W.mg_of X G a11, k11, B11, D11⟩, List.forall_mem_cons.mpr ⟨⟨_, _, P12, PySem.W.mg_of X G a12, k12, B12, D12⟩, List.forall_mem_cons.mpr ⟨⟨_, _, P13, PySem.W.mg_of X G a13, k13, B13, D13⟩, List.forall_mem_cons.mpr ⟨⟨_, _, P14, PySem.W.mg_of X G a14, k14, B14, D14⟩, List.forall_mem_cons.mpr ⟨⟨_, _, P15, PySem.W.mg_of X G a15, k15, B15, D15⟩, List.forall_mem_cons.mpr ⟨⟨_, _, P16, PySem.W.mg_of X G a16, k16, B16, D16⟩, List.forall_mem_cons.mpr ⟨⟨_, _, P17, PySem.W.mg_of X G a17, k17, B17, D17⟩, List.forall_mem_cons.mpr ⟨⟨_, _, P18, PySem.W.mg_of X G a18, k18, B18, D18⟩, List.forall_mem_cons.mpr ⟨⟨_, _, P19, PySem.W.mg_of X G a19, k19, B19, D19⟩, List.forall_mem_cons.mpr ⟨⟨_, _, P20, PySem.W.mg_of X G a20, k20, B20, D20⟩, fun p hp => absurd hp List.not_mem_nil⟩⟩⟩⟩⟩⟩⟩⟩⟩⟩⟩⟩⟩⟩⟩⟩⟩⟩⟩⟩⟩
  · exact List.forall_mem_cons.mpr ⟨PySem.W.mg_none_of X G z0, List.forall_mem_cons.mpr ⟨PySem.W.mg_none_of X G z1, List.forall_mem_cons.mpr ⟨PySem.W.mg_none_of X G z2, List.forall_mem_cons.mpr ⟨PySem.W.mg_none_of X G z3, List.forall_mem_cons.mpr ⟨PySem.W.mg_none_of X G z4, List.forall_mem_cons.mpr ⟨PySem.W.mg_none_of X G z5, List.forall_mem_cons.mpr ⟨PySem.W.mg_none_of X G z6, List.forall_mem_cons.mpr ⟨PySem.W.mg_none_of X G z7, List.forall_mem_cons.mpr ⟨PySem.W.mg_none_of X G z8, List.forall_mem_cons.mpr ⟨PySem.W.mg_none_of X G z9, List.forall_mem_cons.mpr ⟨PySem.W.mg_none_of X G z10, List.forall_mem_cons.mpr ⟨PySem.W.mg_none_of X G z11, List.forall_mem_cons.mpr ⟨PySem.W.mg_none_of X G z12, List.forall_mem_cons.mpr ⟨PySem.W.mg_none_of X G z13, List.forall_mem_cons.mpr ⟨PySem.W.mg_none_of X G z14, List.forall_mem_cons.mpr ⟨PySem.W.mg_none_of X G z15, List.forall_mem_cons.mpr ⟨PySem.W.mg_none_of X G z16, List.forall_mem_cons.mpr ⟨PySem.W.mg_none_of X G z17, List.forall_mem_cons.mpr ⟨PySem.W.mg_none_of X G z18, List.forall_mem_cons.mpr ⟨PySem.W.mg_none_of X G z19, List.forall_mem_cons.mpr ⟨PySem.W.mg_none_of X G z20, fun p hp => absurd hp List.not_mem_nil⟩⟩⟩⟩⟩⟩⟩⟩⟩⟩⟩⟩⟩⟩⟩⟩⟩⟩⟩⟩⟩
end Mi.L
open PySem PySem.W PyProof.Rows
set_option maxRecDepth 100000 in
set_option maxHeartbeats 0 in
theorem PySem.Challenge.cw_papervault_k75_bounds_of_conditions_holds : PySem.Challenge.rw_papervault_k75_bounds_of_conditions.Holds := by
  w_on; o_law; k_head; (case hw => w_witness2)
  k_fill
  refine Mi.walk_mi (l := PySem.Challenge.rw_papervault_k75_bounds_of_conditions) (n := 63) (k := 40) (i := 20) (tab := Mi.L.tab) (gl := Mi.L.glT) (x := "script") (y := "law") rfl (by decide) rfl ⟨rfl, by decide, by decide⟩ (fun w h Y => PySem.W.kIn_of Y) ?F ?L
  case F =>
    intro w mg fa h KX G hmg
    refine' Mi.L.top_ok KX G hmg ?a0 ?l0 ?c0 ?k0 ?a1 ?l1 ?c1 ?k1 ?a2 ?l2 ?c2 ?k2 ?a3 ?l3 ?c3 ?k3 ?a4 ?l4 ?c4 ?k4 ?a5 ?l5 ?c5 ?k5 ?a6 ?l6 ?c6 ?k6 ?a7 ?l7 ?c7 ?k7 ?a8 ?l8 ?c8 ?k8 ?a9 ?l9 ?c9 ?k9 ?a10 ?l10 ?c10 ?k10 ?a11 ?l11 ?c11 ?k11 ?a12 ?l12 ?c12 ?k12 ?a13 ?l13 ?c13 ?k13 ?a14 ?l14 ?c14 ?k14 ?a15 ?l15 ?c15 ?k15 ?a16 ?l16 ?c16 ?k16 ?a17 ?l17 ?c17 ?k17 ?a18 ?l18 ?c18 ?k18 ?a19 ?l19 ?c19 ?k19 ?a20 ?l20 ?c20 ?k20 ?z0 ?z1 ?z2 ?z3 ?z4 ?z5 ?z6 ?z7 ?z8 ?z9 ?z10 ?z11 ?z12 ?z13 ?z14 ?z15 ?z16 ?z17 ?z18 ?z19 ?z20
    (case a0 => k_is); (case l0 => k_is); (case c0 => k_is); (case k0 => k_is)
    (case a1 => k_is); (case l1 => k_is); (case c1 => k_is); (case k1 => k_is)
    (case a2 => k_is); (case l2 => k_is); (case c2 => k_is); (case k2 => k_is)
    (case a3 => k_is); (case l3 => k_is); (case c3 => k_is); (case k3 => k_is)
    (case a4 => k_is); (case l4 => k_is); (case c4 => k_is); (case k4 => k_is)
    (case a5 => k_is); (case l5 => k_is); (case c5 => k_is); (case k5 => k_is)
    (case a6 => k_is); (case l6 => k_is); (case c6 => k_is); (case k6 => k_is)
    (case a7 => k_is); (case l7 => k_is); (case c7 => k_is); (case k7 => k_is)
    (case a8 => k_is); (case l8 => k_is); (case c8 => k_is); (case k8 => k_is)
    (case a9 => k_is); (case l9 => k_is); (case c9 => k_is); (case k9 => k_is)
    (case a10 => k_is); (case l10 => k_is); (case c10 => k_is); (case k10 => k_is)
    (case a11 => k_is); (case l11 => k_is); (case c11 => k_is); (case k11 => k_is)
    (case a12 => k_is); (case l12 => k_is); (case c12 => k_is); (case k12 => k_is)
    (case a13 => k_is); (case l13 => k_is); (case c13 => k_is); (case k13 => k_is)
    (case a14 => k_is); (case l14 => k_is); (case c14 => k_is); (case k14 => k_is)
    (case a15 => k_is); (case l15 => k_is); (case c15 => k_is); (case k15 => k_is)
    (case a16 => k_is); (case l16 => k_is); (case c16 => k_is); (case k16 => k_is)
    (case a17 => k_is); (case l17 => k_is); (case c17 => k_is); (case k17 => k_is)
    (case a18 => k_is); (case l18 => k_is); (case c18 => k_is); (case k18 => k_is)
    (case a19 => k_is); (case l19 => k_is); (case c19 => k_is); (case k19 => k_is)
    (case a20 => k_is); (case l20 => k_is); (case c20 => k_is); (case k20 => k_is)
    (case z0 => k_is); (case z1 => k_is); (case z2 => k_is); (case z3 => k_is); (case z4 => k_is); (case z5 => k_is)
    (case z6 => k_is); (case z7 => k_is); (case z8 => k_is); (case z9 => k_is); (case z10 => k_is); (case z11 => k_is)
    (case z12 => k_is); (case z13 => k_is); (case z14 => k_is); (case z15 => k_is); (case z16 => k_is); (case z17 => k_is)
    (case z18 => k_is); (case z19 => k_is); (case z20 => k_is)
  case L => exact fun ns hl => Mi.L.law75 ns hl

