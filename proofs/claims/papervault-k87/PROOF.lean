import PyProof.Rows.All
import Wide.All
import OpenK.AllK
import Wide.FinOn
import PySem.Challenge.RW_papervault_k87_steps_refused
import PyProof.EqAt
import PyProof.EqKinds
import PyProof.TupleCall
import HandS.ForMost
import HandS.ForExc
import HandS.Wide
import KE.DataEq
import KE.DataCmp
import KE.SortKeyHeap
import HandS.FStr
import HandS.ReplaceLit
import HandS.Codes
import HandS.Comp
import HandS.SuiteRaise
import KE.GoesRaise
import HandS.ExcIs
import HandS.IsInst
import HandS.TryElse
import HandS.Zip
import HandS.Rev
import HandS.CallSlots
import PyProof.Rows.StrMul
import PyProof.StrBlock2
import KE.KDictZip
import HandS.ListItems
import HandS.Keys
import HandS.More
import HandS.SortKw
import HandS.Small
import HandS.ReplaceList
set_option Elab.async false
set_option linter.all false
set_option maxRecDepth 100000
/-! Mi, part A: values, stores, the small language and what it means. -/
namespace Mi
open PySem L2

/-- a value: tuples and constant lists by value, lists and dicts and instances by their place in the store -/
inductive D where
  | non | bl (b : Bool) | int (i : Int) | str (x : Str) | tup (ds : List D) | ls (ds : List D) | kt (ds : List D) | ref (n : Nat)
  deriving Inhabited

inductive O where
  | lst (ds : List D)
  | dk (kvs : List (Key × D))
  | dt (kvs : List (List Key × D))
  | ins (c : Nat) (fs : List (Str × D))

abbrev Store := List O
abbrev Env := List (Option D)

/-- a value, or a list that nobody else has -/
inductive W where
  | val (d : D) | lis (ds : List D)

inductive R (α : Type) where
  | ok (a : α) (S : Store) | ex (c : Nat) (fs : List (Str × D)) (S : Store) | bad

def R.nox {α : Type} (r : R α) : R α := match r with
  | .ex _ _ _ => .bad | r => r
/-- what is raised may go on, or not -/
def R.noxB {α : Type} (r : R α) (x : Bool) : R α := match x with
  | true => r | false => r.nox
theorem R.noxB_ok {α : Type} {a : α} {S : Store} {x : Bool} : (R.ok a S).noxB x = .ok a S := by cases x <;> rfl
def R.bd {α β : Type} (r : R α) (f : α → Store → R β) : R β := match r with
  | .ok a S => f a S | .ex c fs S => .ex c fs S | .bad => .bad
theorem R.bd_ok {α β : Type} {a : α} {S : Store} {f : α → Store → R β} : (R.ok a S).bd f = f a S := rfl
theorem R.bd_ex {α β : Type} {c : Nat} {fs : List (Str × D)} {S : Store} {f : α → Store → R β} : (R.ex c fs S : R α).bd f = .ex c fs S := rfl
theorem R.bd_bad {α β : Type} {f : α → Store → R β} : (R.bad : R α).bd f = .bad := rfl

/-- a list that is kept gets a place -/
def toD : W → Store → R D
  | .val d, S => .ok d S
  | .lis ds, S => .ok (.ref S.length) (S ++ [.lst ds])

def mapO {α β : Type} (f : α → Option β) : List α → Option (List β)
  | [] => some []
  | a :: r => match f a, mapO f r with
    | some b, some bs => some (b :: bs)
    | _, _ => none
/-! ### data as a whole -/
def toPy (S : Store) : Nat → D → Option PyData
  | 0, _ => none
  | _ + 1, .non => some .none
  | _ + 1, .bl b => some (.bool b)
  | _ + 1, .int i => some (.int i)
  | _ + 1, .str x => some (.str x)
  | n + 1, .tup ds => (mapO (toPy S n) ds).map .tuple
  | n + 1, .ls ds => (mapO (toPy S n) ds).map .list
  | n + 1, .kt ds => (mapO (toPy S n) ds).map .tuple
  | n + 1, .ref k => match S[k]? with
    | some (.lst ds) => (mapO (toPy S n) ds).map .list
    | _ => none
def deepest : Nat := 40
def W.py (S : Store) : W → Option PyData
  | .val d => toPy S deepest d
  | .lis ds => (mapO (toPy S deepest) ds).map .list
/-- the items of a list or a tuple; whether it is a tuple -/
def W.seq (S : Store) : W → Option (Bool × List D)
  | .lis ds => some (false, ds)
  | .val (.tup ds) => some (true, ds)
  | .val (.ls ds) => some (false, ds)
  | .val (.kt ds) => some (true, ds)
  | .val (.ref k) => match S[k]? with
    | some (.lst ds) => some (false, ds)
    | _ => none
  | .val _ => none

/-! ### what one does with values -/
inductive P1 where
  | neg | isN | notN | len | int_ | ord | str_ | tuple_ | list_ | sum | all_ | any_ | pop | dict_ | abs | items | keysSorted | values | fmt
  deriving DecidableEq
inductive P2 where
  | add | sub | mul | fdiv | mod | pow | eq | ne | lt | le | gt | ge | inn | nin | ix | append | extend | join | index | count | split | partition | max_ | min_ | get1 | lzip
  deriving DecidableEq
inductive P3 where
  | get2 | replace | insert
  deriving DecidableEq
/-- kinds of isinstance -/
inductive Ty where
  | int | str | bool | tuple | list
  deriving DecidableEq
def Ty.of (S : Store) : W → Ty → Bool
  | .lis _, .list => true
  | .val (.ls _), .list => true
  | .val (.tup _), .tuple => true
  | .val (.kt _), .tuple => true
  | .val (.str _), .str => true
  | .val (.int _), .int => true
  | .val (.bl _), .int => true
  | .val (.bl _), .bool => true
  | .val (.ref k), .list => match S[k]? with
    | some (.lst _) => true
    | _ => false
  | _, _ => false

def vv (d : D) (S : Store) : R W := .ok (.val d) S
def W.plain (S : Store) : W → Bool
  | .val (.ref n) => match S[n]? with
    | some (.lst _) => true
    | some (.dk _) => true
    | some (.dt _) => true
    | _ => false
  | _ => true
def isiW (ts : List Ty) (x : W) (S : Store) : R W := if x.plain S = true then vv (.bl (ts.any (Ty.of S x))) S else .bad
def lookD {κ : Type} [DecidableEq κ] (kvs : List (κ × D)) (k : κ) : Option D := (kvs.find? fun kv => decide (kv.1 = k)).map (·.2)
def putD {κ : Type} [DecidableEq κ] (kvs : List (κ × D)) (k : κ) (d : D) : List (κ × D) :=
  if (kvs.any fun kv => decide (kv.1 = k)) = true then kvs.map fun kv => if kv.1 = k then (kv.1, d) else kv else kvs ++ [(k, d)]
def D.key : D → Option Key
  | .int i => some (.inl i)
  | .str x => some (.inr x)
  | _ => none
def D.keyT : D → Option (List Key)
  | .tup ds => mapO D.key ds
  | _ => none
def D.ofKey : Key → D
  | .inl i => .int i
  | .inr x => .str x
/-- what stands at a key -/
def look (S : Store) (n : Nat) (k : D) : Option (Option D) := match S[n]? with
  | some (.dk kvs) => k.key.map (lookD kvs)
  | some (.dt kvs) => k.keyT.map (lookD kvs)
  | _ => none
/-- the dict behind a store -/
def putO (o : O) (k : D) (v : D) : Option O := match o with
  | .dk kvs => match k.key with
    | some k => if kvs.length < sizeLine then some (.dk (putD kvs k v)) else none
    | none => match k.keyT with
      | some k => if kvs.isEmpty then some (.dt [(k, v)]) else none
      | none => none
  | .dt kvs => match k.keyT with
    | some k => if kvs.length < sizeLine then some (.dt (putD kvs k v)) else none
    | none => none
  | _ => none

def fits62 (i : Int) : Bool := decide (-(2 ^ 62) ≤ i ∧ i < 2 ^ 62)
def pairK : D → Option (Key × D)
  | .tup [k, v] => k.key.map fun k => (k, v)
  | _ => none
def pairT : D → Option (List Key × D)
  | .tup [k, v] => k.keyT.map fun k => (k, v)
  | _ => none
/-- a dict of pairs -/
def dictOf : List D → Option O
  | [] => some (.dk [])
  | .tup [k, v] :: r => match k.key with
    | some k => (mapO pairK r).map fun r => .dk (((k, v) :: r).foldl (fun acc kv => putD acc kv.1 kv.2) [])
    | none => match k.keyT with
      | some k => (mapO pairT r).map fun r => .dt (((k, v) :: r).foldl (fun acc kv => putD acc kv.1 kv.2) [])
      | none => none
  | _ => none

def intsOf : List D → Option (List Int)
  | [] => some []
  | .int i :: r => (intsOf r).map (i :: ·)
  | _ => none
def strsOf : List D → Option (List Str)
  | [] => some []
  | .str i :: r => (strsOf r).map (i :: ·)
  | _ => none
def blsOf : List D → Option (List Bool)
  | [] => some []
  | .bl i :: r => (blsOf r).map (i :: ·)
  | _ => none

def p1 (o : P1) (w : W) (S : Store) : R W := match o with
  | .neg => match w with
    | .val (.int i) => vv (.int (-i)) S
    | _ => .bad
  | .isN => match w with
    | .val .non => vv (.bl true) S
    | _ => vv (.bl false) S
  | .notN => match w with
    | .val .non => vv (.bl false) S
    | _ => vv (.bl true) S
  | .len => match w with
    | .val (.str x) => if x.length ≤ sizeLine then vv (.int x.length) S else .bad
    | w => match w.seq S with
      | some (_, ds) => vv (.int ds.length) S
      | none => .bad
  | .int_ => match w with
    | .val (.int i) => vv (.int i) S
    | .val (.bl b) => vv (.int (if b then 1 else 0)) S
    | .val (.str x) => match PySem.intText? x with
      | some n => if x.length ≤ 640 then vv (.int n) S else .bad
      | none => .bad
    | _ => .bad
  | .all_ => match w.seq S with
    | some (false, ds) => match blsOf ds with
      | some bs => vv (.bl (bs.all id)) S
      | none => .bad
    | _ => .bad
  | .sum => match w.seq S with
    | some (false, ds) => match intsOf ds with
      | some ns => vv (.int ns.sum) S
      | none => .bad
    | _ => .bad
  | .abs => match w with
    | .val (.int i) => vv (.int (if i < 0 then -i else i)) S
    | _ => .bad
  | .fmt => match w with
    | .val (.str x) => if x.length ≤ sizeLine then vv (.str x) S else .bad
    | .val (.int i) => if i.natAbs.log2 < 1920 then vv (.str (toString i)) S else .bad
    | _ => .bad
  | .ord => match w with
    | .val (.str x) => if x.length = 1 then vv (.int (x.cps.getD 0 0 : Nat)) S else .bad
    | _ => .bad
  | .str_ => match w with
    | .val (.int i) => if i.natAbs.log2 < 1920 then vv (.str (toString i)) S else .bad
    | _ => .bad
  | .tuple_ => match w.seq S with
    | some (_, ds) => match w with
      | .val (.kt _) => .bad
      | _ => vv (.tup ds) S
    | none => .bad
  | .list_ => match w.seq S with
    | some (_, ds) => .ok (.lis ds) S
    | none => .bad
  | .pop => match w with
    | .val (.ref n) => match S[n]? with
      | some (.lst ds) => match ds.getLast? with
        | some d => .ok (.val d) (S.set n (.lst ds.dropLast))
        | none => .bad
      | _ => .bad
    | _ => .bad
  | .dict_ => match w.seq S with
    | some (false, ds) => match dictOf ds with
      | some o => .ok (.val (.ref S.length)) (S ++ [o])
      | none => .bad
    | _ => .bad
  | _ => .bad

def strLt (x y : Str) : Bool := decide (x.cps.toList < y.cps.toList)

def isNonePy : PyData → Bool
  | .none => true
  | _ => false
def cmpD (o : P2) (x y : PyData) : Option Bool :=
  if (W.alike x y && !isNonePy x) = true then
    match o with
    | .lt => some (W.dataLt x y)
    | .gt => some (W.dataLt y x)
    | .le => some (!W.dataLt y x)
    | .ge => some (!W.dataLt x y)
    | _ => none
  else none
def mulFits (i j : Int) : Bool := decide (i.natAbs.log2 + j.natAbs.log2 < 900000)
def divFits (j : Int) : Bool := decide (0 < j ∧ j.natAbs.log2 < 9000)
/-- texts, sign by sign -/
def sameN : List Nat → List Nat → Bool
  | [], [] => true
  | a :: r, b :: t => Nat.beq a b && sameN r t
  | _, _ => false
theorem sameN_eq : ∀ {a b : List Nat}, sameN a b = (a == b)
  | [], [] => rfl
  | [], _ :: _ => rfl
  | _ :: _, [] => rfl
  | a :: r, b :: t => by
    unfold sameN
    rw [sameN_eq, List.cons_beq_cons]
    congr 1
    by_cases h : a = b
    · subst h
      rw [show Nat.beq a a = true from Nat.beq_refl a]; simp
    · have : Nat.beq a b = false := by
        cases q : Nat.beq a b
        · rfl
        · exact absurd (Nat.eq_of_beq_eq_true q) h
      rw [this]; simp [h]
def strEq (a b : Str) : Bool := sameN a.cps.toList b.cps.toList
theorem strEq_eq {a b : Str} : strEq a b = (a == b) := by
  unfold strEq
  rw [sameN_eq]
  exact PyProof.Rows.toList_beq a b
def hasN (c : Nat) : List Nat → Bool
  | [] => false
  | a :: r => Nat.beq a c || hasN c r
theorem hasN_eq {c : Nat} : ∀ {l : List Nat}, hasN c l = decide (c ∈ l)
  | [] => by simp [hasN]
  | a :: r => by
    unfold hasN
    rw [hasN_eq]
    by_cases h : c = a
    · subst h
      have : Nat.beq c c = true := Nat.beq_refl c
      simp [this]
    · have : Nat.beq a c = false := by
        cases q : Nat.beq a c
        · rfl
        · exact absurd (Nat.eq_of_beq_eq_true q).symm h
      simp [this, h]
def strIn (z t : Str) : Bool := match z.cps.toList with
  | [c] => hasN c t.cps.toList
  | _ => !(Builtin.Str.occurrences t z 0 t.length 1).isEmpty
theorem strIn_eq {z t : Str} : strIn z t = !(Builtin.Str.occurrences t z 0 t.length 1).isEmpty := by
  unfold strIn
  split
  · rename_i c h
    have hz : z = SX.S [c] := by rw [← h]
    rw [hz, hasN_eq]
    exact (SX.in_one t.cps.toList c).symm
  · rfl
/-- two values by their data -/
def eqW (x y : W) (S : Store) : Option Bool := match x, y with
  | .val (.str a), .val (.str b) => some (strEq a b)
  | x, y => match x.py S, y.py S with
    | some a, some b => some (PyData.eqv a b)
    | _, _ => none
theorem eqW_eq {x y : W} {S : Store} : eqW x y S = (match x.py S, y.py S with
    | some a, some b => some (PyData.eqv a b)
    | _, _ => none) := by
  unfold eqW
  split
  · show some (strEq _ _) = some (_ == _)
    rw [strEq_eq]
  · rfl
def isIn (x y : W) (S : Store) : Option Bool := match y with
  | .val (.str t) => match x with
    | .val (.str z) => some (strIn z t)
    | _ => none
  | y => match y.seq S with
    | some (_, ds) => (x.py S).bind fun p => (mapO (toPy S deepest) ds).map fun ys => ys.any fun y => PyData.eqv y p
    | none => match x, y with
      | .val d, .val (.ref n) => (look S n d).map (·.isSome)
      | _, _ => none
def ob (o : Option Bool) (S : Store) : R W := match o with
  | some b => vv (.bl b) S
  | none => .bad
def joinFits (a : Str) (ys : List Str) : Bool := decide ((ys.map (·.length)).sum + ys.length * a.length ≤ 16777216)

/-- a list that stands in the heap by itself -/
def isLst (S : Store) (w : W) : Bool := match w with
  | .lis _ => true
  | .val (.ref n) => match S[n]? with
    | some (.lst _) => true
    | _ => false
  | _ => false
/-- list(zip(x, y)) -/
def lzipW (x y : W) (S : Store) : R W := match x.seq S, y.seq S with
  | some p, some q => if p.1 = q.1 then .ok (.lis ((p.2.zip q.2).map fun p => .tup [p.1, p.2])) S else .bad
  | _, _ => .bad
def p2 (o : P2) (x y : W) (S : Store) : R W := match o with
  | .lzip => lzipW x y S
  | .add => match x, y with
    | .val (.int i), .val (.int j) => vv (.int (i + j)) S
    | .val (.str a), .val (.str b) => if a.length + b.length ≤ sizeLine then vv (.str (a ++ b)) S else .bad
    | x, y => match x.seq S, y.seq S with
      | some (false, xs), some (false, ys) => if (isLst S x && isLst S y && decide (xs.length + ys.length ≤ sizeLine)) = true then .ok (.lis (xs ++ ys)) S else .bad
      | some (true, xs), some (true, ys) => if (!xs.isEmpty && !ys.isEmpty && decide (xs.length + ys.length ≤ sizeLine)) = true then vv (.tup (xs ++ ys)) S else .bad
      | _, _ => .bad
  | .sub => match x, y with
    | .val (.int i), .val (.int j) => vv (.int (i - j)) S
    | _, _ => .bad
  | .mul => match x, y with
    | .val (.int i), .val (.int j) => if mulFits i j = true then vv (.int (i * j)) S else .bad
    | .val (.str a), .val (.int j) => if 0 ≤ j ∧ j ≤ 1000 ∧ a.length ≤ 1000 then vv (.str (Txt.mul a j)) S else .bad
    | x, .val (.int j) => match x.seq S with
      | some (false, ds) => if (isLst S x && fits62 j && decide (ds.length * j.toNat ≤ sizeLine)) = true then .ok (.lis (List.replicate j.toNat ds).flatten) S else .bad
      | _ => .bad
    | _, _ => .bad
  | .fdiv => match x, y with
    | .val (.int i), .val (.int j) => if divFits j = true then vv (.int (i / j)) S else .bad
    | _, _ => .bad
  | .mod => match x, y with
    | .val (.int i), .val (.int j) => if 0 < j then vv (.int (i % j)) S else .bad
    | _, _ => .bad
  | .pow => match x, y with
    | .val (.int i), .val (.int j) => if 0 ≤ j ∧ j ≤ 1000000 ∧ i.natAbs < 2 ^ 64 then vv (.int (i ^ j.toNat)) S else .bad
    | _, _ => .bad
  | .eq => ob (eqW x y S) S
  | .ne => ob ((eqW x y S).map (!·)) S
  | .lt => match x.py S, y.py S with
    | some a, some b => ob (cmpD .lt a b) S
    | _, _ => .bad
  | .le => match x.py S, y.py S with
    | some a, some b => ob (cmpD .le a b) S
    | _, _ => .bad
  | .gt => match x.py S, y.py S with
    | some a, some b => ob (cmpD .gt a b) S
    | _, _ => .bad
  | .ge => match x.py S, y.py S with
    | some a, some b => ob (cmpD .ge a b) S
    | _, _ => .bad
  | .inn => ob (isIn x y S) S
  | .nin => ob ((isIn x y S).map (!·)) S
  | .ix => match x with
    | .val (.str z) => match y with
      | .val (.int i) => match atI z.cps.toList i with
        | some c => if z.length ≤ sizeLine then vv (.str ⟨#[c]⟩) S else .bad
        | none => .bad
      | _ => .bad
    | x => match x.seq S with
      | some (_, ds) => match y with
        | .val (.int i) => match atI ds i with
          | some d => vv d S
          | none => .bad
        | _ => .bad
      | none => match x, y with
        | .val (.ref n), .val k => match look S n k with
          | some (some d) => vv d S
          | _ => .bad
        | _, _ => .bad
  | .append => (toD y S).bd fun d S => match x with
    | .val (.ref n) => match S[n]? with
      | some (.lst ds) => if ds.length < sizeLine then vv .non (S.set n (.lst (ds ++ [d]))) else .bad
      | _ => .bad
    | _ => .bad
  | .extend => match x with
    | .val (.ref n) => match S[n]? with
      | some (.lst ds) => match y.seq S with
        | some (b, es) => if ((b || isLst S y) && decide (ds.length + es.length ≤ sizeLine)) = true then vv .non (S.set n (.lst (ds ++ es))) else .bad
        | _ => .bad
      | _ => .bad
    | _ => .bad
  | .join => match x with
    | .val (.str a) => match y.seq S with
      | some (_, ds) => match strsOf ds with
        | some ys => if joinFits a ys = true then vv (.str (Txt.join a ys)) S else .bad
        | none => .bad
      | none => .bad
    | _ => .bad
  | .max_ => match x, y with
    | .val (.int i), .val (.int j) => vv (.int (if j > i then j else i)) S
    | _, _ => .bad
  | .min_ => match x, y with
    | .val (.int i), .val (.int j) => vv (.int (if j < i then j else i)) S
    | _, _ => .bad
  | .split => match x, y with
    | .val (.str a), .val (.str b) => if (b.length == 0) = false ∧ a.length + 2 ≤ sizeLine then .ok (.lis ((Txt.split a b).map .str)) S else .bad
    | _, _ => .bad
  | _ => .bad

/-- x.replace(y, z), y and z written and unlike -/
def replW (y z : Str) (x : W) (S : Store) : R W := match x with
  | .val (.str a) => if a.length + (a.length + 1) * z.length ≤ 16777216 then vv (.str (Txt.replace a y z)) S else .bad
  | _ => .bad
def p3 (o : P3) (x y z : W) (S : Store) : R W := match o with
  | .get2 => match x, y, z with
    | .val (.ref n), .val k, .val d => match look S n k with
      | some r => vv (r.getD d) S
      | none => .bad
    | _, _, _ => .bad
  | _ => .bad

def optI : Option W → Option (Option Int)
  | none => some none
  | some (.val (.int i)) => some (some i)
  | _ => none
def partI (ws : List W) (S : Store) : R (Option Int) := match optI ws.head? with
  | some i => .ok i S
  | none => .bad
def cutD {α : Type} (xs : List α) (lo hi : Option Int) : List α := (xs.drop (HT.sIx xs.length 0 lo)).take (HT.sIx xs.length xs.length hi - HT.sIx xs.length 0 lo)
/-- x[lo:hi] -/
def cutW (x : W) (lo hi : Option Int) (S : Store) : R W := match x with
  | .val (.str z) => if z.length ≤ sizeLine then vv (.str (cutS z lo hi)) S else .bad
  | x => match x.seq S with
    | some (true, ds) => if (cutD ds lo hi).length = ds.length then .bad else vv (.tup (cutD ds lo hi)) S
    | some (false, ds) => .ok (.lis (cutD ds lo hi)) S
    | none => .bad

/-- x[l:p + q].replace(y, z), y and z written and unlike -/
def replC (x : W) (l : Option Int) (p q : W) (y z : Str) (S : Store) : R W := match p, q with
  | .val (.int i), .val (.int j) => (cutW x l (some (i + j)) S).bd fun x S => replW y z x S
  | _, _ => .bad
/-- the receiver of a built-in type's method -/
inductive MK where
  | list | str | dict
  deriving DecidableEq
def MK.is (S : Store) : MK → W → Bool
  | .list, .lis _ => true
  | .list, .val (.ls _) => true
  | .list, .val (.ref k) => match S[k]? with
    | some (.lst _) => true
    | _ => false
  | .str, .val (.str _) => true
  | .dict, .val (.ref k) => match S[k]? with
    | some (.dk _) => true
    | some (.dt _) => true
    | _ => false
  | _, _ => false

/-! ### the language -/
inductive Tg where
  | nm (i : Nat) | tp (is : List Nat)
/-- what is walked -/
inductive IK where
  | it | rng1 | rng2 | rng3 | zip | enm | rev
  deriving DecidableEq

inductive Ex where
  | c (d : D)
  | v (i : Nat)
  | p1 (o : P1) (a : Ex)
  | p2 (o : P2) (a b : Ex)
  | sl (a : Ex) (lo hi : List Ex)
  | isi (ts : List Ty) (a : Ex)
  | and_ (a b : Ex) | or_ (a b : Ex) | not_ (a : Ex) | ite (c a b : Ex)
  | ch (o o' : P2) (a b c : Ex)
  | tup (es : List Ex)
  | disp (es : List Ex)
  | dict (kvs : List Ex)
  | comp (x : Bool) (t : Tg) (k : IK) (its cs : List Ex) (e : Ex) (own : List Nat)
  | call (f : Nat) (es : List Ex)
  | m0 (k : MK) (o : P1) (a : Ex)
  | m1 (k : MK) (o : P2) (a b : Ex)
  | m2 (k : MK) (o : P3) (a b c : Ex)
  | srt (key : Nat) (rev : Bool) (a : Ex)
  | repl (a : Ex) (lo : List Ex) (v w : Ex) (y z : Str)
  | fst (es : List Ex)

def bindTs : List Nat → List D → Env → Option Env
  | [], [], ρ => some ρ
  | i :: is, d :: ds, ρ => bindTs is ds (ρ.set i (some d))
  | _, _, _ => none
def bindTg : Tg → D → Env → Option Env
  | .nm i, d, ρ => some (ρ.set i (some d))
  | .tp is, .tup ds, ρ => bindTs is ds ρ
  | _, _, _ => none
def wipeD (ρ : Env) : List Nat → Env
  | [] => ρ
  | v :: vs => (wipeD ρ vs).set v none

/-- items, and the lists that must stay as they are -/
structure Its where
  items : List D
  live : List (Nat × List D)
def live1 : W → List D → List (Nat × List D)
  | .val (.ref n), ds => [(n, ds)]
  | _, _ => []
def intsD (n : Nat) (f : Nat → Int) : List D := (List.range n).map fun i => .int (f i)
/-- how many numbers from i by c below j -/
def steps (i j c : Int) : Nat := if i < j then ((j - i - 1) / c + 1).toNat else 0
def its (k : IK) (ws : List W) (S : Store) : Option Its := match k with
  | .it => match ws with
    | [w] => match w.seq S with
      | some p => some ⟨p.2, live1 w p.2⟩
      | none => match w with
        | .val (.str z) => some ⟨z.cps.toList.map fun c => .str ⟨#[c]⟩, []⟩
        | _ => none
    | _ => none
  | .rng1 => match ws with
    | [.val (.int n)] => if fits62 n = true then some ⟨intsD n.toNat fun i => (i : Int), []⟩ else none
    | _ => none
  | .rng2 => match ws with
    | [.val (.int a), .val (.int b)] => if (fits62 a && fits62 b) = true then some ⟨intsD (b - a).toNat fun i => a + i, []⟩ else none
    | _ => none
  | .rng3 => match ws with
    | [.val (.int a), .val (.int b), .val (.int c)] => if (fits62 a && fits62 b && decide (0 < c ∧ c < 1073741824)) = true then some ⟨intsD (steps a b c) fun i => a + i * c, []⟩ else none
    | _ => none
  | .zip => match ws with
    | [w, w'] => match w.seq S, w'.seq S with
      | some p, some q => if p.1 = q.1 then some ⟨(p.2.zip q.2).map fun p => .tup [p.1, p.2], live1 w p.2 ++ live1 w' q.2⟩ else none
      | _, _ => none
    | _ => none
  | .enm => match ws with
    | [w] => match w.seq S with
      | some (false, ds) => some ⟨ds.zipIdx.map fun q => .tup [.int q.2, q.1], live1 w ds⟩
      | _ => none
    | _ => none
  | .rev => match ws with
    | [w] => match w.seq S with
      | some p => some ⟨p.2.reverse, live1 w p.2⟩
      | none => none
    | _ => none
def isLive (live : List (Nat × List D)) (S : Store) : Prop := ∀ p ∈ live, S[p.1]? = some (.lst p.2)
mutual
/-- a test by reckoning whether two values are one -/
def D.same : D → D → Bool
  | .non, .non => true
  | .bl a, .bl b => a == b
  | .int a, .int b => a == b
  | .str a, .str b => decide (a = b)
  | .tup a, .tup b => D.sames a b
  | .ls a, .ls b => D.sames a b
  | .kt a, .kt b => D.sames a b
  | .ref a, .ref b => a == b
  | _, _ => false
def D.sames : List D → List D → Bool
  | [], [] => true
  | a :: r, b :: t => D.same a b && D.sames r t
  | _, _ => false
end
mutual
theorem D.same_ok : ∀ {a b : D}, D.same a b = true → a = b
  | .non, b, h => by cases b <;> unfold D.same at h <;> first | rfl | cases h
  | .bl a, b, h => by cases b <;> unfold D.same at h <;> first | (rw [eq_of_beq h]) | cases h
  | .int a, b, h => by cases b <;> unfold D.same at h <;> first | (rw [eq_of_beq h]) | cases h
  | .str a, b, h => by cases b <;> unfold D.same at h <;> first | (rw [of_decide_eq_true h]) | cases h
  | .tup a, b, h => by cases b <;> unfold D.same at h <;> first | (rw [D.sames_ok h]) | cases h
  | .ls a, b, h => by cases b <;> unfold D.same at h <;> first | (rw [D.sames_ok h]) | cases h
  | .kt a, b, h => by cases b <;> unfold D.same at h <;> first | (rw [D.sames_ok h]) | cases h
  | .ref a, b, h => by cases b <;> unfold D.same at h <;> first | (rw [eq_of_beq h]) | cases h
theorem D.sames_ok : ∀ {a b : List D}, D.sames a b = true → a = b
  | [], [], _ => rfl
  | [], _ :: _, h => by unfold D.sames at h; cases h
  | _ :: _, [], h => by unfold D.sames at h; cases h
  | a :: r, b :: t, h => by
    unfold D.sames at h
    rw [Bool.and_eq_true] at h
    rw [D.same_ok h.1, D.sames_ok h.2]
end
def liveB (S : Store) : List (Nat × List D) → Bool
  | [] => true
  | p :: r => (match S[p.1]? with
    | some (.lst ds) => D.sames ds p.2
    | _ => false) && liveB S r
theorem liveB_ok {S : Store} : ∀ {l : List (Nat × List D)}, liveB S l = true → isLive l S
  | [], _ => fun p hp => by cases hp
  | q :: r, h => by
    unfold liveB at h
    rw [Bool.and_eq_true] at h
    intro p hp
    rcases List.mem_cons.mp hp with z | z
    · subst z
      have h := h.1
      split at h
      · rename_i ds e
        rw [e, D.sames_ok h]
      · cases h
    · exact liveB_ok h.2 p z
open Classical in
noncomputable instance decLive (live : List (Nat × List D)) (S : Store) : Decidable (isLive live S) :=
  if h : liveB S live = true then .isTrue (liveB_ok h) else inferInstance

/-- a comprehension's turns -/
noncomputable def compL (live : List (Nat × List D)) (turn : D → Store → R (Option D)) : List D → Store → List D → R (List D)
  | [], S, acc => if isLive live S then .ok acc S else .bad
  | d :: r, S, acc => if isLive live S then (turn d S).bd fun o S => match o with
      | none => compL live turn r S acc
      | some e => if acc.length < sizeLine then compL live turn r S (acc ++ [e]) else .bad
    else .bad

def toB (w : W) (S : Store) : R Bool := match w with
  | .val (.bl b) => .ok b S
  | _ => .bad
def toDs : List W → Store → R (List D)
  | [], S => .ok [] S
  | w :: r, S => (toD w S).bd fun d S => (toDs r S).bd fun ds S => .ok (d :: ds) S
/-- what stands in turn: key, value, key, .. -/
def unpair : List D → Option (List (Key × D))
  | [] => some []
  | k :: v :: r => match k.key with
    | some k => (unpair r).map ((k, v) :: ·)
    | none => none
  | _ => none
/-- a display's new dict -/
def dispO (ds : List D) : Option O := match unpair ds with
  | some kvs => if kvs.length ≤ 15 then some (.dk (kvs.foldl (fun acc kv => putD acc kv.1 kv.2) [])) else none
  | none => none
/-- the keys, in turn -/
def keysL (f : D → Store → R D) : List D → Store → R (List D)
  | [], S => .ok [] S
  | d :: r, S => ((f d S).nox).bd fun k S => (keysL f r S).bd fun ks S => .ok (k :: ks) S
/-- the items in the keys' order, equal keys in their old turn -/
noncomputable def byKeys {α : Type} (b : Bool) (xs : List α) (kz : List PyData) : List α := ((xs.zip kz).mergeSort (W.dataLe b (·.2))).map (·.1)
open Classical in
noncomputable def srtEnd (ds ks : List D) (S : Store) : R W := match mapO (toPy S deepest) ks with
  | some kz => if W.AllAlike kz ∧ W.Sortable kz then .ok (.lis (byKeys false ds kz)) S else .bad
  | none => .bad
/-- a dict's keys -/
def keysD (S : Store) : W → Option (List D)
  | .val (.ref n) => match S[n]? with
    | some (.dk kvs) => some (kvs.map fun kv => D.ofKey kv.1)
    | _ => none
  | _ => none
noncomputable def srtW (f : D → Store → R D) (w : W) (S : Store) : R W := match w.seq S with
  | some (false, ds) => (keysL f ds S).bd fun ks S => srtEnd ds ks S
  | some (true, _) => .bad
  | none => match keysD S w with
    | some ds => (keysL f ds S).bd fun ks S => srtEnd ds ks S
    | none => .bad

section
variable (C : Nat → List D → Store → R D)
mutual
noncomputable def evK : Ex → Env → Store → R W
  | .c d, _, S => vv d S
  | .v i, ρ, S => match ρ[i]? with
    | some (some d) => vv d S
    | _ => .bad
  | .p1 o a, ρ, S => (evK a ρ S).bd fun x S => p1 o x S
  | .p2 o a b, ρ, S => (evK a ρ S).bd fun x S => (evK b ρ S).bd fun y S => p2 o x y S
  | .sl a lo hi, ρ, S => (evK a ρ S).bd fun x S => ((evWs lo ρ S).bd partI).bd fun l S => ((evWs hi ρ S).bd partI).bd fun h S => cutW x l h S
  | .isi ts a, ρ, S => (evK a ρ S).bd fun x S => isiW ts x S
  | .and_ a b, ρ, S => ((evK a ρ S).bd toB).bd fun c S => if c = true then evK b ρ S else vv (.bl false) S
  | .or_ a b, ρ, S => ((evK a ρ S).bd toB).bd fun c S => if c = true then vv (.bl true) S else evK b ρ S
  | .not_ a, ρ, S => ((evK a ρ S).bd toB).bd fun c S => vv (.bl (!c)) S
  | .ite c a b, ρ, S => ((evK c ρ S).bd toB).bd fun k S => if k = true then evK a ρ S else evK b ρ S
  | .ch o o' a b c, ρ, S => (evK a ρ S).bd fun x S => (evK b ρ S).bd fun y S => ((p2 o x y S).bd toB).bd fun k S =>
      if k = true then (evK c ρ S).bd fun z S => p2 o' y z S else vv (.bl false) S
  | .tup es, ρ, S => (evDs es ρ S).bd fun ds S => if ds.length ≤ sizeLine then vv (.tup ds) S else .bad
  | .disp es, ρ, S => (evDs es ρ S).bd fun ds S => if ds.length ≤ sizeLine then .ok (.lis ds) S else .bad
  | .dict kvs, ρ, S => (evDs kvs ρ S).bd fun ds S => match dispO ds with
    | some o => .ok (.val (.ref S.length)) (S ++ [o])
    | none => .bad
  | .comp x t k is cs e own, ρ, S => (evWs is ρ S).bd fun ws S => match its k ws S with
    | some I => (compL I.live (fun d S => match bindTg t d (wipeD ρ own) with
        | some ρ' => ((evCs cs ρ' S).noxB x).bd fun b S => if b = true then (((evK e ρ' S).bd toD).noxB x).bd fun d S => .ok (some d) S else .ok none S
        | none => .bad) I.items S []).bd fun ds S => .ok (.lis ds) S
    | none => .bad
  | .call f es, ρ, S => (evDs es ρ S).bd fun ds S => (C f ds S).bd fun d S => vv d S
  | .m0 k o a, ρ, S => (evK a ρ S).bd fun x S => if k.is S x = true then p1 o x S else .bad
  | .m1 k o a b, ρ, S => (evK a ρ S).bd fun x S => if k.is S x = true then (evK b ρ S).bd fun y S => p2 o x y S else .bad
  | .m2 k o a b c, ρ, S => (evK a ρ S).bd fun x S => if k.is S x = true then (evK b ρ S).bd fun y S => (evK c ρ S).bd fun z S => p3 o x y z S else .bad
  | .srt f rev a, ρ, S => (evK a ρ S).bd fun w S => if rev = true then .bad else srtW (fun d S => C f [d] S) w S
  | .repl a lo v w y z, ρ, S => (evK a ρ S).bd fun x S => ((evWs lo ρ S).bd partI).bd fun l S => (evK v ρ S).bd fun p S => (evK w ρ S).bd fun q S => replC x l p q y z S
  | .fst es, ρ, S => evJ es ρ S Str.empty
/-- texts one behind the other -/
noncomputable def evJ : List Ex → Env → Store → Str → R W
  | [], _, S, acc => vv (.str acc) S
  | e :: r, ρ, S, acc => (evK e ρ S).bd fun w S => match w with
    | .val (.str y) => if (acc ++ y).length ≤ sizeLine then evJ r ρ S (acc ++ y) else .bad
    | _ => .bad
/-- arguments: each gets a place at once -/
noncomputable def evDs : List Ex → Env → Store → R (List D)
  | [], _, S => .ok [] S
  | e :: r, ρ, S => ((evK e ρ S).bd toD).bd fun d S => (evDs r ρ S).bd fun ds S => .ok (d :: ds) S
noncomputable def evWs : List Ex → Env → Store → R (List W)
  | [], _, S => .ok [] S
  | e :: r, ρ, S => (evK e ρ S).bd fun d S => (evWs r ρ S).bd fun ds S => .ok (d :: ds) S
noncomputable def evCs : List Ex → Env → Store → R Bool
  | [], _, S => .ok true S
  | e :: r, ρ, S => ((evK e ρ S).bd toB).bd fun b S => if b = true then evCs r ρ S else .ok false S
end
noncomputable def evD (e : Ex) (ρ : Env) (S : Store) : R D := (evK C e ρ S).bd toD
noncomputable def evB (e : Ex) (ρ : Env) (S : Store) : R Bool := (evK C e ρ S).bd toB
end

/-! ### statements -/
inductive Fl where
  | nx | brk | cnt | rt (d : D)
inductive RS where
  | ok (f : Fl) (ρ : Env) (S : Store) | ex (c : Nat) (fs : List (Str × D)) (ρ : Env) (S : Store) | bad

/-- what is known of a class: which exceptions' classes are below it -/
abbrev KS := List (Nat × Bool)
/-- within an except suite: j = [isinstance(e, ..), ..]; j.append(isinstance(e, ..)) -/
inductive Sx where
  | lis (j : Nat) (xs : List (List KS)) | app (j : Nat) (x : List KS)
/-- isinstance(e, ..) of an exception of the class c -/
def isX (c : Nat) : List KS → Option Bool
  | [] => some false
  | ks :: r => match ks.lookup c, isX c r with
    | some a, some b => some (a || b)
    | _, _ => none
inductive Stm where
  | set (t : Tg) (e : Ex)
  | setIx (o i e : Ex)
  | exp (e : Ex)
  | ret (e : Ex)
  | iff (c : Ex) (a b : List Stm)
  | for_ (t : Tg) (k : IK) (is : List Ex) (b : List Stm)
  | whl (c : Ex) (b : List Stm)
  | brk | cnt | pass
  | aug (i : Nat) (o : P2) (e : Ex)
  | par (i j : Nat) (a b : Ex)
  | rse (c : Nat)
  | thru (b e : List Stm)
  | tryR (b : List Stm) (ks : KS) (c : Nat) (e : List Stm)
  | tryA (b : List Stm) (ks : KS) (i : Nat) (su : List Sx)

def exSx (c : Nat) (ρ : Env) (S : Store) : Sx → RS
  | .lis j xs => match mapO (isX c) xs with
    | some bs => if bs.length ≤ sizeLine then .ok .nx (ρ.set j (some (.ref S.length))) (S ++ [.lst (bs.map .bl)]) else .bad
    | none => .bad
  | .app j x => match isX c x, ρ[j]? with
    | some b, some (some (.ref n)) => match S[n]? with
      | some (.lst ds) => if ds.length < sizeLine then .ok .nx ρ (S.set n (.lst (ds ++ [.bl b]))) else .bad
      | _ => .bad
    | _, _ => .bad
def R.st {α : Type} (r : R α) (ρ : Env) (f : α → Store → RS) : RS := match r with
  | .ok a S => f a S | .ex c fs S => .ex c fs ρ S | .bad => .bad
def RS.nox (r : RS) : RS := match r with
  | .ex _ _ _ _ => .bad | r => r
/-- a, b = .. -/
def parS (i j : Nat) (ds : List D) (ρ : Env) (S : Store) : RS := match ds with
  | [d, e] => .ok .nx ((ρ.set i (some d)).set j (some e)) S
  | _ => .bad
/-- behind a statement -/
def RS.sq (r : RS) (f : Env → Store → RS) : RS := match r with
  | .ok .nx ρ S => f ρ S | r => r

def exSxs (c : Nat) : List Sx → Env → Store → RS
  | [], ρ, S => .ok .nx ρ S
  | x :: r, ρ, S => (exSx c ρ S x).sq fun ρ S => exSxs c r ρ S
/-- the end of an except suite: the exception's name goes -/
def RS.gone (r : RS) (i : Nat) : RS := match r with
  | .ok .nx ρ S => .ok .nx (ρ.set i none) S
  | r => r
/-- a clause that raises in its turn -/
def RS.catR (r : RS) (ks : KS) (k : Nat) : RS := match r with
  | .ex c fs ρ S => match ks.lookup c with
    | some true => .ex k [] ρ S
    | some false => .ex c fs ρ S
    | none => .bad
  | r => r
/-- a clause with a name -/
def RS.catA (r : RS) (ks : KS) (i : Nat) (su : List Sx) : RS := match r with
  | .ex c fs ρ S => match ks.lookup c with
    | some true => if fs.isEmpty = true then (exSxs c su (ρ.set i none) S).gone i else .bad
    | some false => .ex c fs ρ S
    | none => .bad
  | r => r
/-- behind a body: the else, where it ran through -/
def RS.els (r : RS) (f : Env → Store → RS) (g : RS → RS) : RS := match r with
  | .ok .nx ρ S => f ρ S
  | r => g r
/-- x op= y -/
def augV (o : P2) (x : D) (y : W) : Option D := match o, x, y with
  | .add, .int a, .val (.int b) => some (.int (a + b))
  | .sub, .int a, .val (.int b) => some (.int (a - b))
  | _, _, _ => none
/-- o[i] = d -/
def setItem (o i : W) (d : D) (S : Store) : Option Store := match o with
  | .val (.ref n) => match S[n]? with
    | some (.lst ds) => match i with
      | .val (.int k) => (ixN ds.length k).map fun j => S.set n (.lst (ds.set j d))
      | _ => none
    | some o => match i with
      | .val k => (putO o k d).map fun o => S.set n o
      | _ => none
    | none => none
  | _ => none

noncomputable def forL (live : List (Nat × List D)) (turn : D → Env → Store → RS) : List D → Env → Store → RS
  | [], ρ, S => if isLive live S then .ok .nx ρ S else .bad
  | d :: r, ρ, S => if isLive live S then match turn d ρ S with
      | .ok .nx ρ S => forL live turn r ρ S
      | .ok .cnt ρ S => forL live turn r ρ S
      | .ok .brk ρ S => .ok .nx ρ S
      | .ok (.rt d) ρ S => .ok (.rt d) ρ S
      | .ex c fs ρ S => .ex c fs ρ S
      | .bad => .bad
    else .bad

def whileF (c : Env → Store → R Bool) (b : Env → Store → RS) : Nat → Env → Store → Option RS
  | 0, _, _ => none
  | n + 1, ρ, S => match c ρ S with
    | .ok true S => match b ρ S with
      | .ok .nx ρ S => whileF c b n ρ S
      | .ok .cnt ρ S => whileF c b n ρ S
      | .ok .brk ρ S => some (.ok .nx ρ S)
      | .ok (.rt d) ρ S => some (.ok (.rt d) ρ S)
      | .ex c fs ρ S => some (.ex c fs ρ S)
      | .bad => some .bad
    | .ok false S => some (.ok .nx ρ S)
    | .ex c fs S => some (.ex c fs ρ S)
    | .bad => some .bad
open Classical in
noncomputable def whileR (c : Env → Store → R Bool) (b : Env → Store → RS) (ρ : Env) (S : Store) : RS :=
  if h : ∃ r n, whileF c b n ρ S = some r then Classical.choose h else .bad

section
variable (C : Nat → List D → Store → R D)
mutual
noncomputable def exS : Stm → Env → Store → RS
  | .set t e, ρ, S => (evD C e ρ S).st ρ fun d S => match bindTg t d ρ with
    | some ρ => .ok .nx ρ S
    | none => .bad
  | .setIx o i e, ρ, S => (evD C e ρ S).st ρ fun d S => (evK C o ρ S).st ρ fun x S => (evK C i ρ S).st ρ fun y S => match setItem x y d S with
    | some S => .ok .nx ρ S
    | none => .bad
  | .exp e, ρ, S => (evK C e ρ S).st ρ fun _ S => .ok .nx ρ S
  | .ret e, ρ, S => (evD C e ρ S).st ρ fun d S => .ok (.rt d) ρ S
  | .iff c a b, ρ, S => (evB C c ρ S).st ρ fun k S => if k = true then exSs a ρ S else exSs b ρ S
  | .for_ t k is b, ρ, S => (evWs C is ρ S).st ρ fun ws S => match its k ws S with
    | some I => forL I.live (fun d ρ S => match bindTg t d ρ with
      | some ρ => exSs b ρ S
      | none => .bad) I.items ρ S
    | none => .bad
  | .whl c b, ρ, S => whileR (evB C c) (exSs b) ρ S
  | .brk, ρ, S => .ok .brk ρ S
  | .cnt, ρ, S => .ok .cnt ρ S
  | .pass, ρ, S => .ok .nx ρ S
  | .aug i o e, ρ, S => match ρ[i]? with
    | some (some x) => (evK C e ρ S).st ρ fun y S => match augV o x y with
      | some d => .ok .nx (ρ.set i (some d)) S
      | none => .bad
    | _ => .bad
  | .par i j a b, ρ, S => (evDs C [a, b] ρ S).st ρ fun ds S => parS i j ds ρ S
  | .rse c, ρ, S => .ex c [] ρ S
  | .thru b e, ρ, S => (exSs b ρ S).nox.sq fun ρ S => exSs e ρ S
  | .tryR b ks k e, ρ, S => (exSs b ρ S).els (fun ρ S => exSs e ρ S) fun r => r.catR ks k
  | .tryA b ks i su, ρ, S => (exSs b ρ S).catA ks i su
noncomputable def exSs : List Stm → Env → Store → RS
  | [], ρ, S => .ok .nx ρ S
  | s :: r, ρ, S => (exS s ρ S).sq fun ρ S => exSs r ρ S
end
end

/-! ### defs -/
structure Fn where
  np : Nat
  nl : Nat
  body : List Stm
  fr : Bool
mutual
def D.und (k : Nat) : D → Bool
  | .ref n => decide (n < k)
  | .tup ds => D.unds k ds
  | .ls ds => D.unds k ds
  | .kt ds => D.unds k ds
  | _ => true
def D.unds (k : Nat) : List D → Bool
  | [] => true
  | d :: r => D.und k d && D.unds k r
end
def O.und (k : Nat) : O → Bool
  | .lst ds => D.unds k ds
  | .dk kvs => D.unds k (kvs.map (·.2))
  | .dt kvs => D.unds k (kvs.map (·.2))
  | .ins _ fs => D.unds k (fs.map (·.2))
/-- what stood is as it was, or knows nothing new -/
def keeps (S S' : Store) : Prop := ∀ i o, i < S.length → S'[i]? = some o → S[i]? = some o ∨ o.und S.length = true
def keepsB (k : Nat) : Nat → Store → Bool
  | n + 1, o :: r => o.und k && keepsB k n r
  | _, _ => true
theorem keepsB_ok {k : Nat} : ∀ {n : Nat} {S : Store}, keepsB k n S = true → ∀ i o, i < n → S[i]? = some o → o.und k = true
  | 0, _, _, i, _, hi, _ => absurd hi (Nat.not_lt_zero i)
  | n + 1, [], _, i, o, _, e => by simp at e
  | n + 1, p :: r, h, i, o, hi, e => by
    unfold keepsB at h
    rw [Bool.and_eq_true] at h
    cases i with
    | zero => cases e; exact h.1
    | succ i => exact keepsB_ok h.2 i o (by omega) e
open Classical in
noncomputable instance decKeeps (S S' : Store) : Decidable (keeps S S') :=
  if h : keepsB S.length S.length S' = true then .isTrue (fun i o hi e => .inr (keepsB_ok h i o hi e)) else inferInstance
/-- a call's end: what nobody knows goes -/
noncomputable def pack (S : Store) (d : D) (S' : Store) : R D :=
  if keeps S S' then
    if d.und S.length = true then .ok d (S'.take S.length)
    else match d with
      | .ref m => match S'[m]? with
        | some o => if o.und S.length = true then .ok (.ref S.length) (S'.take S.length ++ [o]) else .ok d S'
        | none => .ok d S'
      | _ => .ok d S'
  else .ok d S'

/-- a call, its text gone through -/
noncomputable def core (C : Nat → List D → Store → R D) (F : Fn) (ds : List D) (S : Store) : R D :=
  match exSs C F.body (ds.map some ++ List.replicate (F.nl - F.np) none) S with
  | .ok (.rt d) _ S' => pack S d S'
  | .ok .nx _ S' => pack S .non S'
  | .ok _ _ _ => .bad
  | .ex c fs _ S' => .ex c fs S'
  | .bad => .bad
mutual
/-- with so many places ahead -/
def D.sh (k : Nat) : D → D
  | .ref n => .ref (k + n)
  | .tup ds => .tup (D.shs k ds)
  | .ls ds => .ls (D.shs k ds)
  | .kt ds => .kt (D.shs k ds)
  | d => d
def D.shs (k : Nat) : List D → List D
  | [] => []
  | d :: r => D.sh k d :: D.shs k r
end
def O.sh (k : Nat) : O → O
  | .lst ds => .lst (D.shs k ds)
  | .dk kvs => .dk (kvs.map fun p => (p.1, p.2.sh k))
  | .dt kvs => .dt (kvs.map fun p => (p.1, p.2.sh k))
  | .ins c fs => .ins c (fs.map fun p => (p.1, p.2.sh k))
/-- what was told over no places, over these -/
def R.up (r : R D) (S : Store) : R D := match r with
  | .ok d S' => .ok (d.sh S.length) (S ++ S'.map (O.sh S.length))
  | .ex c fs S' => if fs.isEmpty = true then .ex c [] S else .ex c (fs.map fun p => (p.1, p.2.sh S.length)) (S ++ S'.map (O.sh S.length))
  | .bad => .bad
noncomputable def run (tab : Nat → Option Fn) : Nat → Nat → List D → Store → R D
  | 0, _, _, _ => .bad
  | n + 1, f, ds, S => match tab f with
    | none => .bad
    | some F => if ds.length = F.np then
        if (F.fr && D.unds 0 ds) = true then (core (run tab n) F ds []).up S else core (run tab n) F ds S
      else .bad
end Mi

set_option autoImplicit false
/-! Mi, part X1: comprehensions whose elements may raise. -/
namespace Mi
open PySem PySem.Spec PyProof.Rows L2
/-- a block's context whose raises come to xe -/
abbrev blkX (X : Cx) (s : Shared) (H : Hp) (scope : Scope) (ce : PySem.Env) (fp : List Addr) (xe : Value → Shared → Prop) : Cx := { X.blk s H scope ce fp with xe := xe }
theorem zc_steady1 {cls : Value} {d : Option Addr} : PXN.Steady1 (L2.Zc cls d) := fun o v h => L2.Zc.steady o _ h
section
variable {X : Cx} {pins pins' : List (Addr × Obj)} {fp : List Addr} {scope : Scope} {ce : PySem.Env} {xe0 : Value → Shared → Prop} {s3 s s' : Shared} {σ σ' : L2.St} {H3 H H' : Hp} {a : Addr} {B : Heap}
theorem block_flies {Z : Obj → Prop} (hZ : PXN.Steady1 Z) (hs : X.stack = X.env :: X.outer) (hf : X.env.frame = some X.env.locals) (hcf : ce.frame = X.env.frame) (hcl : ce.locals = s3.heap.objs.size)
    (I3 : L2.Inv X pins σ H3 s3) (f3 : ∀ b ∈ fp, FpOk X pins H3 b) (I : L2.Inv (blkX X s3 H3 scope ce fp xe0) pins' σ' H s)
    (fl : HandSPX.FlyingZ B X.stack a Z s'.heap) (hok : HOk X.prog X.w H' B) (ub : UB (frs X.stack) H H' s.heap B s'.heap) (na : H' a = none) (os : s'.os = s.os) (ag : AllBare s'.gens)
    (hend : ∀ (B' : Heap) (sI s2 : Shared), L2.Inv X pins σ H' sI → (∀ b o, sI.heap.get? b = some o → b ∉ frs X.stack → B'.get? b = some o) → sI.heap.UpToSlots s2.heap → HandSPX.HeldZ B' X.stack a Z X.env.locals s2.heap → s2.os = sI.os → AllBare s2.gens → X.xe (.ref a) s2) :
    notedBy (model X.prog X.w) X.A ce (CompFails (model X.prog X.w) X.A X.xe ce) (.ref a) s' := by
  have J : L2.Inv X pins σ H s := I3.call' (ch := fp) I.os I.base I.hok I.bare fun b hb => ⟨(f3 b hb).2.2.2.1, (f3 b hb).2.1, (f3 b hb).2.2.2.2.1, (f3 b hb).2.2.2.2.2⟩
  obtain ⟨m, hn, _⟩ := I.loc
  have hn : s.heap.Ns ce.locals m := hn
  have hC : H ce.locals = none := I.free
  have hCp : FpOk X pins H ce.locals := by
    rw [hcl] at hC ⊢
    exact I3.fpOk (Nat.le_refl _) hC
  have hCs : ce.locals ∉ frs X.stack := fun hm => by
    rcases List.mem_cons.mp (J.stkSub _ hm) with e | e
    · exact hCp.2.1 e
    · exact hCp.2.2.1 e
  obtain ⟨oC, es, ep, hoC, rC⟩ := id hn
  have hBC : B.get? ce.locals = some oC := ub.keep _ _ hoC hC hCs
  have hC' : H' ce.locals = none := ub.free _ _ hoC hC
  obtain ⟨B', hB'⟩ : ∃ B', B' = PySem.W.hideAll B [ce.locals] := ⟨_, rfl⟩
  have b1 : ∀ b o, B'.get? b = some o → B.get? b = some o := fun b o e => by
    rw [hB'] at e
    exact PySem.W.of_hideAll _ e
  have b2 : ∀ b o, B.get? b = some o → b ≠ ce.locals → B'.get? b = some o := fun b o e hne => by
    rw [hB']
    exact PySem.W.hideAll_get _ e (by simpa using hne)
  have b3 : B'.get? ce.locals = none := by
    rw [hB']
    exact PySem.W.hideAll_none _ (by simp)
  have b4 : ∀ b, B.get? b = none → B'.get? b = none := fun b e => by
    cases q : B'.get? b with
    | none => rfl
    | some o => rw [b1 b o q] at e; cases e
  obtain ⟨g1, g2, g3, g4⟩ := fl
  have fl' : HandSPX.FlyingZ B' (X.env :: X.outer) a Z s'.heap := by
    rw [← hs]
    obtain ⟨oe, vs, T, oT, ts, he, hz, hd, h1, hnT, r⟩ := g4
    exact ⟨fun b o e => g1 b o (b1 b o e), b4 _ g2, funFrames_none g3 fun L hL => b4 _ (g3.mem hL).1, oe, vs, T, oT, ts, he, hz, hd, h1, b4 _ hnT, r⟩
  have hfr : X.A.frames = some (X.env :: X.outer) := by rw [J.ok.frames, hs]
  have hn' : s'.heap.Ns ce.locals m := ⟨oC, es, ep, g1 _ _ hBC, rC⟩
  show wpAny _ X.A (noteFrame (.ref a) ce) _ _ s'
  rw [noteFrame_env _ hcf]
  refine PXN.looks_onZ hZ hfr hf fl' fun h1 hh up => ?_
  have hn1 : h1.Ns ce.locals m := Heap.UpToSlots.ns up hn'
  refine ⟨m, hn1, fun h2 m2 hn2 sb => ?_⟩
  obtain ⟨k1, k2, k3, oe, vs, T, oT, ts, he, hz, hd, hv1, hnT, hTe, hT, hdT, ht3⟩ := hh
  have ne : ∀ {b : Addr} {o : Obj} {us : Array Value}, h1.get? b = some o → o.data = .fields us → b ≠ ce.locals := fun {b o us} e d q => by
    rw [q] at e
    obtain ⟨o', _, _, e', d', _⟩ := hn1
    rw [e] at e'
    cases e'
    rw [d] at d'
    cases d'
  have he2 := (sb.2 a (ne he hd)).trans he
  have hT2 := (sb.2 T (ne hT hdT)).trans hT
  have held2 : HandSPX.HeldZ B' (X.env :: X.outer) a Z X.env.locals h2 :=
    ⟨fun b o e => (sb.2 b (fun q => by rw [q, b3] at e; cases e)).trans (k1 b o e), k2, Heap.FunFrames.sameBut sb hn2 k3, oe, vs, T, oT, ts, he2, hz, hd, hv1, hnT, hTe, hT2, hdT, ht3⟩
  unfold PySem.passOn
  refine wpAny_bind (wpAny_field he2 hd hv1 ?_)
  rw [if_neg (show ¬ ((Value.ref T == Value.none) = true) by simp)]
  have last : wpAny (model X.prog X.w) X.A (setFlight (.ref a) ce.frame) (fun _ s4 => wpAny (model X.prog X.w) X.A (throw (.ref a) : Sem Value) (fun _ _ => False) X.xe s4) X.xe { s' with heap := h2 } := by
    rw [hcf, hf]
    refine HandSPX.setFlight_onZ held2 fun h3 hh3 up3 => wpAny_throw ?_
    obtain ⟨G, w1, w2⟩ := restrict h3 fun b => (B'.get? b).isSome || decide (b ∈ frs X.stack)
    have wB : ∀ b o, B'.get? b = some o → G.get? b = some o := fun b o e => by
      rw [w1 b (by simp [e])]
      exact hh3.1 b o e
    have wF : ∀ b o, s.heap.get? b = some o → b ∈ frs X.stack → ∃ sl, G.get? b = some { o with slots := sl } := fun b o e hb => by
      obtain ⟨sl, q⟩ := ub.slot b o e hb
      obtain ⟨_, o₀, e₀, hnf⟩ := J.stack.mem hb
      rw [e] at e₀
      cases e₀
      obtain ⟨sl1, q1⟩ := up b _ q hnf
      have q2 := (sb.2 b (fun z => hCs (z ▸ hb))).trans q1
      obtain ⟨sl3, q3⟩ := up3 b _ q2 hnf
      exact ⟨sl3, by rw [w1 b (by simp [hb])]; exact q3⟩
    have wG : ∀ b o, G.get? b = some o → h3.get? b = some o ∧ ((B'.get? b).isSome = true ∨ b ∈ frs X.stack) := fun b o e => by
      cases q : ((B'.get? b).isSome || decide (b ∈ frs X.stack)) with
      | false =>
        rw [w2 b q] at e
        cases e
      | true =>
        rw [w1 b q] at e
        exact ⟨e, by simpa [Bool.or_eq_true] using q⟩
    refine hend B' { s with heap := G, gens := s'.gens, drawn := s'.drawn, toks := s'.toks } { s' with heap := h3 } ?_ (fun b o e hb => ?_) (Heap.UpToSlots.of_keeps fun b o e => (wG b o e).1) (by rw [hs]; exact hh3) os ag
    · refine J.call (ch := [ce.locals]) ⟨fun b o e n hb hc => wB b o (b2 b o (ub.keep b o e n hb) (by simpa using hc)), fun b o e n hb _ => wF b o e hb, fun b o e n _ => ub.free b o e n, fun b o e hc => ?_, ub.tups, ub.frzs, ub.tbls⟩ (fun b o e => ?_) ag (fun b hb => ?_)
      · by_cases hb : b ∈ frs X.stack
        · obtain ⟨sl, q⟩ := wF b o e hb
          exact ⟨_, q⟩
        · obtain ⟨o', q⟩ := ub.there b o e hb
          exact ⟨o', wB b o' (b2 b o' q (by simpa using hc))⟩
      · refine (hok b o e).stay (fun c u hc r => wB c u (b2 c u r fun z => ?_)) (fun _ q => q) fun _ _ q => q
        rcases hc with hc | hc
        · rw [← hc, z, hC'] at e; cases e
        · rw [z, hC'] at hc; cases hc
      · rw [List.mem_singleton.mp hb]
        exact ⟨hCp.2.2.2.1, hCp.2.1, hCp.2.2.2.2.1, hCp.2.2.2.2.2⟩
    · obtain ⟨q, h⟩ := wG b o e
      rcases h with h | h
      · obtain ⟨o', q'⟩ := Option.isSome_iff_exists.mp h
        have z := hh3.1 b o' q'
        rw [q] at z
        cases z
        exact q'
      · exact absurd h hb
  first
    | exact wpAny_bind (wpAny_pure (wpAny_bind last))
    | exact wpAny_bind last
variable {W : WX} {E : XK}
theorem comp_passC (tk : L2.Takes X W) (hW : ∀ cls d H, E cls d H → W cls d σ H) (hs : X.stack = X.env :: X.outer) (hf : X.env.frame = some X.env.locals) (hcf : ce.frame = X.env.frame) (hcl : ce.locals = s3.heap.objs.size)
    (I3 : L2.Inv X pins σ H3 s3) (f3 : ∀ b ∈ fp, FpOk X pins H3 b) : PassesAt (L2.CX X.prog X.w) (blkX X s3 H3 scope ce fp (notedBy (model X.prog X.w) X.A ce (CompFails (model X.prog X.w) X.A X.xe ce))) σ' E := by
  intro pins' H s e s' I c
  obtain ⟨a, B, H', cls, d, rfl, fl, hok, ub, na, os, ag, hE⟩ := c
  exact block_flies zc_steady1 hs hf hcf hcl I3 f3 I fl hok ub na os ag fun B' sI s2 I2 nb up held os2 ag2 => tk _ _ ⟨a, B', sI, pins, σ, H', cls, d, rfl, I2, nb, up, .inr (.inr held), na, os2, ag2, hW _ _ _ hE⟩
theorem comp_passN (tk : L2N.Takes X W) (hW : ∀ cls d H, E cls d H → W cls d σ H) (hs : X.stack = X.env :: X.outer) (hf : X.env.frame = some X.env.locals) (hcf : ce.frame = X.env.frame) (hcl : ce.locals = s3.heap.objs.size)
    (I3 : L2.Inv X pins σ H3 s3) (f3 : ∀ b ∈ fp, FpOk X pins H3 b) : PassesAt (L2N.CX X.prog X.w) (blkX X s3 H3 scope ce fp (notedBy (model X.prog X.w) X.A ce (CompFails (model X.prog X.w) X.A X.xe ce))) σ' E := by
  intro pins' H s e s' I c
  obtain ⟨a, B, H', cls, d, rfl, fl, hok, ub, na, os, ag, hE⟩ := c
  exact block_flies L2N.Zn.steady hs hf hcf hcl I3 f3 I fl hok ub na os ag fun B' sI s2 I2 nb up held os2 ag2 => tk _ _ ⟨a, B', sI, pins, σ, H', cls, d, rfl, I2, nb, up, .inr (.inr held), na, os2, ag2, hW _ _ _ hE⟩
end
/-! ### modes: exceptions whose context is None, or any -/
def CXm : Bool → Program → World → CXT
  | true, P, w => L2N.CX P w
  | false, P, w => L2.CX P w
def TakesM : Bool → Cx → WX → Prop
  | true, X, W => L2N.Takes X W
  | false, X, W => L2.Takes X W
theorem cx_up {P : Program} {w : World} {outer : List PySem.Env} {H : Hp} {s : Shared} {E : XK} {u : Value} {s' : Shared} (c : L2N.CX P w outer H s E u s') : L2.CX P w outer H s E u s' := by
  obtain ⟨a, B, H', cls, d, rfl, fl, hok, ub, na, os, ag, hE⟩ := c
  exact ⟨a, B, H', cls, d, rfl, L2H.flyingZ_imp (fun o z => z.zc) fl, hok, ub, na, os, ag, hE⟩
theorem fn_up {P : Program} {w : World} {K : PySem.W.Frag} {mg : Str → Option Value} {base : Heap} {k : Nat} {f : Addr} {fd : FuncData} {ps : List Str} {sp : Sp} (F : FnOk P w K mg base (L2N.CX P w) k f fd ps sp) : FnOk P w K mg base (L2.CX P w) k f fd ps sp :=
  ⟨F.len, fun A outer s H args us vs Q E hr he hb hv hsp => codeAny_mono (F.run A outer s H args us vs Q E hr he hb hv hsp) fun r s' h => by
    cases r with
    | ok f => cases f <;> exact h
    | error e => exact cx_up h⟩
theorem fn_upM {m m' : Bool} (hm : m = true → m' = true) {P : Program} {w : World} {K : PySem.W.Frag} {mg : Str → Option Value} {base : Heap} {k : Nat} {f : Addr} {fd : FuncData} {ps : List Str} {sp : Sp} (F : FnOk P w K mg base (CXm m' P w) k f fd ps sp) : FnOk P w K mg base (CXm m P w) k f fd ps sp := by
  cases m with
  | true => rw [hm rfl] at F; exact F
  | false =>
    cases m' with
    | true => exact fn_up F
    | false => exact F
theorem comp_passM {m : Bool} {X : Cx} {pins : List (Addr × Obj)} {fp : List Addr} {scope : Scope} {ce : PySem.Env} {s3 : Shared} {σ σ' : L2.St} {H3 : Hp} {W : WX} {E : XK} (tk : TakesM m X W) (hW : ∀ cls d H, E cls d H → W cls d σ H) (hs : X.stack = X.env :: X.outer) (hf : X.env.frame = some X.env.locals) (hcf : ce.frame = X.env.frame) (hcl : ce.locals = s3.heap.objs.size)
    (I3 : L2.Inv X pins σ H3 s3) (f3 : ∀ b ∈ fp, FpOk X pins H3 b) : PassesAt (CXm m X.prog X.w) (blkX X s3 H3 scope ce fp (notedBy (model X.prog X.w) X.A ce (CompFails (model X.prog X.w) X.A X.xe ce))) σ' E := by
  cases m with
  | true => exact comp_passN tk hW hs hf hcf hcl I3 f3
  | false => exact comp_passC tk hW hs hf hcf hcl I3 f3
/-! ### the comprehension -/
/-- [elt for target in iter if ..]: as tLc, what is raised within wishes E -/
def tLcX (wi : TI) (g : TG) (tt : XK → TT) (te : XK → TE) (vs : List Nat) (E : L2.St → XK) : TE := fun σ H Q => L2.tLc wi g (tt (E σ)) (te (E σ)) vs σ H Q
section
variable {X : Cx}
/-- what the block's parts must be -/
structure BlkP (CXk : CXT) (X : Cx) (scope : Scope) (tg elt : Expr) (ifs : List Expr) (g : TG) (tt : TT) (te : TE) (E : XK) : Prop where
  g : ∀ (s : Shared) (H : Hp) (C : Addr) (cl : List (Str × Addr)) (fp : List Addr) (xe : Value → Shared → Prop), (∀ σ', PassesAt CXk (blkX X s H scope (compEnvC scope cl C X.env) fp xe) σ' E) → PG (blkX X s H scope (compEnvC scope cl C X.env) fp xe) tg g
  t : ∀ (s : Shared) (H : Hp) (C : Addr) (cl : List (Str × Addr)) (fp : List Addr) (xe : Value → Shared → Prop), (∀ σ', PassesAt CXk (blkX X s H scope (compEnvC scope cl C X.env) fp xe) σ' E) → PTs (blkX X s H scope (compEnvC scope cl C X.env) fp xe) ifs tt
  e : ∀ (s : Shared) (H : Hp) (C : Addr) (cl : List (Str × Addr)) (fp : List Addr) (xe : Value → Shared → Prop), (∀ σ', PassesAt CXk (blkX X s H scope (compEnvC scope cl C X.env) fp xe) σ' E) → PE (blkX X s H scope (compEnvC scope cl C X.env) fp xe) elt te
theorem lcX {pins : List (Addr × Obj)} {s : Shared} {σ : L2.St} {H : Hp} {Q : VK} {elt tg iter : Expr} {ifs : List Expr} {scope : Scope} {own : List (Str × Nat)} {pos pos' : Pos} {wi : TI} {g : TG} {tt : TT} {te : TE} {use : Option (Value → Sem Unit)} {Qf : Value → Shared → Prop} {CXk : CXT} {E : XK}
    (hc : X.calm = true) (hN : X.N.Nodup) (I : L2.Inv X pins σ H s) (hi : PI X tg iter wi) (ok : BlkOk X.N X.env.scope scope own) (P : BlkP CXk X scope tg elt ifs g tt te E) (hs : ∀ x, foldedSetIterable iter X.env x = pure x)
    (hpas : ∀ (fp : List Addr) (ce : PySem.Env) (s3 : Shared) (H3 : Hp) (σ' : L2.St), ce.frame = X.env.frame → ce.locals = s3.heap.objs.size → L2.Inv X pins σ H3 s3 → (∀ b ∈ fp, FpOk X pins H3 b) → PassesAt CXk (blkX X s3 H3 scope ce fp (notedBy (model X.prog X.w) X.A ce (CompFails (model X.prog X.w) X.A X.xe ce))) σ' E)
    (h : L2.tLc wi g tt te (own.map (·.2)) σ H Q)
    (hRR : ∀ (D : Addr) (ce : PySem.Env) (s' : Shared) (m : Str → Option Value) (H' : Hp), L2.Inv X pins σ H' s' → Q (.ref D) H' → s'.heap.Ns ce.locals m → FpOk X pins H' ce.locals → compEnds (model X.prog X.w) X.A X.xe use Qf (.ref D) ce (.ok .next) s') :
    wpAny (model X.prog X.w) X.A (comprehension (.ListComp elt [⟨tg, iter, ifs, 0⟩] scope pos) scope X.env pos' (newList []) false (eval iter X.env) use) Qf X.xe s := by
  have hfr : ∀ y ∈ scope.names, y.2 = .free → ∃ c, X.env.cells.lookup y.1 = some c := fun y hy e => (ok.free y hy e).elim (fun k => I.ok.has _ (.inl k)) fun k => I.ok.has _ (.inr k)
  refine comprehension_at (use := use) rfl hs (closure_ok hfr) ok.kind (fun y hy e => by rw [ok.uniq y hy, e]) (thn (hi.run pins s σ H _ I h) fun xv s1 hx => thn hx fun itv s2 h2 => ?_)
  obtain ⟨it, fp, tn, J, H2, rfl, I2, T, st2, f2, q⟩ := h2
  refine wpAny_newObj_type (newEnv_comp ?_) (Nat.zero_le _)
  obtain ⟨D, hD⟩ : ∃ D, D = s2.heap.objs.size := ⟨_, rfl⟩
  have hDn : H2 D = none := I2.hok.fresh (Nat.le_of_eq hD.symm)
  obtain ⟨W, ⟨m0, w0⟩, turn⟩ := q D hDn
  obtain ⟨s3, hs3⟩ : ∃ s3 : Shared, s3 = { s2 with heap := s2.heap.push { cls := .type "list", data := .seq ([] : List Value).toArray } } := ⟨_, rfl⟩
  have hh3 : s3.heap = s2.heap.push { cls := .type "list", data := .seq ([] : List Value).toArray } := by rw [hs3]
  have I3 : L2.Inv X pins σ (upd H2 D (.lst [])) s3 := by
    rw [hs3]
    refine I2.laid (t' := s2.toks) (fun b o e => Heap.get?_push_of_some _ e) (Nat.le_of_eq hD.symm) ⟨Nat.zero_le _, [], 0, .nil, ?_⟩
    rw [hD]
    exact Heap.get?_push_size _ rfl
  have f3 : ∀ b ∈ fp, FpOk X pins (upd H2 D (.lst [])) b ∧ b < s3.heap.objs.size := fun b hb => by
    obtain ⟨o, e, _⟩ := T.obj _ _ st2 b hb
    have hlt := Heap.lt_size e
    refine ⟨⟨?_, (f2 b hb).2⟩, by rw [hh3, Heap.size_push]; exact Nat.lt_succ_of_lt hlt⟩
    rw [upd_ne (by rw [hD]; exact Nat.ne_of_lt hlt)]
    exact (f2 b hb).1
  have st3 : tn 0 s3.heap := T.keep _ _ _ st2 fun b _ o e => by
    rw [hh3]
    exact Heap.get?_push_of_some _ e
  have I4 := block_start I3 ok hN f3
  obtain ⟨cl, hcl⟩ : ∃ cl, cl = cellsFrom (s3.heap.objs.size + 1) scope.names (cloFrom X.env.cells scope.names []) := ⟨_, rfl⟩
  rw [← hcl] at I4
  obtain ⟨xe, hxe⟩ : ∃ xe, xe = notedBy (model X.prog X.w) X.A (compEnvC scope cl s3.heap.objs.size X.env) (CompFails (model X.prog X.w) X.A X.xe (compEnvC scope cl s3.heap.objs.size X.env)) := ⟨_, rfl⟩
  have I4 := I4.wish xe
  have pas : ∀ σ', PassesAt CXk (blkX X s3 (upd H2 D (.lst [])) scope (compEnvC scope cl s3.heap.objs.size X.env) fp xe) σ' E := fun σ' => by
    rw [hxe]
    exact hpas fp _ s3 _ σ' rfl rfl I3 fun b hb => (f3 b hb).1
  have pg := P.g s3 (upd H2 D (.lst [])) s3.heap.objs.size cl fp xe pas
  have pt := P.t s3 (upd H2 D (.lst [])) s3.heap.objs.size cl fp xe pas
  have pe := P.e s3 (upd H2 D (.lst [])) s3.heap.objs.size cl fp xe pas
  show codeAny _ _ (.compStart (.ListComp elt [⟨tg, iter, ifs, 0⟩] scope pos) 0 (.ref it) (.ref s2.heap.objs.size) (compEnvC scope (cellsFrom (({ s2 with heap := s2.heap.push { cls := .type "list", data := .seq ([] : List Value).toArray } } : Shared).heap.objs.size + 1) scope.names (cloFrom X.env.cells scope.names [])) ({ s2 with heap := s2.heap.push { cls := .type "list", data := .seq ([] : List Value).toArray } } : Shared).heap.objs.size X.env)) (compEnds (model X.prog X.w) X.A X.xe use Qf (.ref s2.heap.objs.size) (compEnvC scope (cellsFrom (({ s2 with heap := s2.heap.push { cls := .type "list", data := .seq ([] : List Value).toArray } } : Shared).heap.objs.size + 1) scope.names (cloFrom X.env.cells scope.names [])) ({ s2 with heap := s2.heap.push { cls := .type "list", data := .seq ([] : List Value).toArray } } : Shared).heap.objs.size X.env)) { ({ s2 with heap := s2.heap.push { cls := .type "list", data := .seq ([] : List Value).toArray } } : Shared) with heap := _ }
  rw [← hs3, ← hcl, ← hD]
  obtain ⟨H3, hH3⟩ : ∃ H3, H3 = upd H2 D (.lst []) := ⟨_, rfl⟩
  obtain ⟨ce, hce⟩ : ∃ ce, ce = compEnvC scope cl s3.heap.objs.size X.env := ⟨_, rfl⟩
  rw [← hH3] at I3 f3 I4 w0
  simp only [← hH3, ← hce] at pg pt pe I4
  rw [← hce] at hxe ⊢
  have cL : ce.locals = s3.heap.objs.size := by rw [hce]; try rfl
  have nfp : ∀ b ∈ fp, H3 b = none := fun b hb => (f3 b hb).1.1
  have eX : (notedBy (model X.prog X.w) X.A ce fun e s' => compEnds (model X.prog X.w) X.A X.xe use Qf (.ref D) ce (.error e) s') = xe := by
    have eR : (fun e s' => compEnds (model X.prog X.w) X.A X.xe use Qf (.ref D) ce (.error e) s') = CompFails (model X.prog X.w) X.A X.xe ce := by
      funext e s'
      cases use <;> rfl
    rw [eR, hxe]
  obtain ⟨s4, hs4⟩ : ∃ s4 : Shared, s4 = { s3 with heap := pushCells (s3.heap.push { cls := .type "dict", data := .dict #[] }) scope.names } := ⟨_, rfl⟩
  rw [← hs4] at I4
  show codeAny _ _ _ _ { s3 with heap := pushCells (s3.heap.push { cls := .type "dict", data := .dict #[] }) scope.names }
  rw [← hs4]
  have st4 : tn 0 s4.heap := T.keep _ _ _ st3 fun b _ o e => by
    rw [hs4]
    exact pushCells_keeps _ _ _ _ (Heap.get?_push_of_some _ e)
  have stat : ∀ {σ' : L2.St} {H' : Hp} {s' : Shared}, L2.Inv (blkX X s3 H3 scope ce fp xe) [] σ' H' s' → (∀ b ∈ fp, H' b = none) → ∀ b ∈ fp, FpOk (blkX X s3 H3 scope ce fp xe) [] H' b := fun {σ' H' s'} I' hn b hb =>
    ⟨hn b hb, (I'.ok.exf b hb).1, I'.ok.exfs b hb, .inl hb, fun x c e => (I'.ok.exf b hb).2 x c e, fun p hp => absurd hp (by simp)⟩
  have loop : codeAny (model X.prog X.w) X.A (.compLoop (.ListComp elt [⟨tg, iter, ifs, 0⟩] scope pos) 0 (.ref it) (.ref D) ce) (compEnds (model X.prog X.w) X.A X.xe use Qf (.ref D) ce) s4 := by
    refine compLoop_any (fun n s' => ∃ i H', L2.Inv (blkX X s3 H3 scope ce fp xe) [] (L2.wipe σ (own.map (·.2))) H' s' ∧ tn i s'.heap ∧ (∀ b ∈ fp, H' b = none) ∧ W i n H') ?_ m0 ⟨0, H3, I4, st4, nfp, w0⟩
    rintro n s5 ⟨i, H5, I5, st5, n5, w5⟩
    rw [eX]
    rcases turn i n H5 w5 with ⟨stop, qq⟩ | ⟨go, Nx, hNx, step⟩
    · refine thn (T.done (blkX X s3 H3 scope ce fp xe) rfl rfl rfl hc i [] s5 _ H5 xe I5 (stat I5 n5) st5 stop) fun r s6 ⟨hr, I6⟩ => ?_
      subst hr
      have I7 : L2.Inv X pins σ H5 s6 := I3.call' (ch := fp) I6.os I6.base I6.hok I6.bare fun b hb => ⟨(f3 b hb).1.2.2.2.1, (f3 b hb).1.2.1, (f3 b hb).1.2.2.2.2.1, (f3 b hb).1.2.2.2.2.2⟩
      obtain ⟨m, hn, _⟩ := I6.loc
      refine hRR D ce s6 m H5 I7 qq hn ?_
      have nC : H5 ce.locals = none := I6.free
      rw [cL] at nC ⊢
      exact I3.fpOk (Nat.le_refl _) nC
    · refine thn (T.item (blkX X s3 H3 scope ce fp xe) rfl rfl rfl hc i [] s5 _ H5 xe I5 (stat I5 n5) st5 go) fun r s6 ⟨u, hr, h6⟩ => ?_
      subst hr
      refine thn h6 fun _ s7 ⟨x, H7, I7, r7, y7, st7, n7⟩ => ?_
      refine thn (pg.run _ s7 _ H7 x u _ (I7.pinned (stat I7 n7) (T.obj _ _ st7)) r7 (step x H7 y7)) fun _ s8 ⟨σ8, H8, I8, hw8, q8⟩ => ?_
      refine thn (pt.run _ s8 σ8 H8 _ I8 q8) fun b s9 ⟨H9, I9, q9⟩ => ?_
      have again : ∀ {s' : Shared} {H' : Hp}, L2.Inv (blkX X s3 H3 scope ce fp xe) ([] ++ pinsAt fp s7.heap) σ8 H' s' → Nx H' → ∃ m, m < n ∧ ∃ i H', L2.Inv (blkX X s3 H3 scope ce fp xe) [] (L2.wipe σ (own.map (·.2))) H' s' ∧ tn i s'.heap ∧ (∀ b ∈ fp, H' b = none) ∧ W i m H' := by
        intro s' H' I' nx
        obtain ⟨m', hm, w'⟩ := hNx H' nx
        have stay : ∀ b ∈ fp, ∀ o, s7.heap.get? b = some o → s'.heap.get? b = some o ∧ H' b = none := fun b hb o e => by
          have z := I'.pin (b, o) (List.mem_append_right _ (List.mem_append_right _ (mem_pinsAt hb e)))
          exact ⟨z.1, z.2.1⟩
        refine ⟨m', hm, i + 1, H', (I'.unpinned (pins := [])).weak (by rw [← hw8, wipe_length]) (fun j v e => ?_), T.keep _ _ _ st7 fun b hb o e => (stay b hb o e).1, fun b hb => ?_, w'⟩
        · rw [← hw8] at e
          exact (wipe_some e).1
        · obtain ⟨o, e, _⟩ := T.obj _ _ st7 b hb
          exact (stay b hb o e).2
      cases b with
      | false => exact again I9 q9
      | true => exact thn (pe.run _ s9 σ8 H9 _ I9 q9) fun z s10 ⟨yv, H10, I10, r10, acc, hD10, hz10, nx⟩ => app_ok (X := blkX X s3 H3 scope ce fp xe) I10 hD10 hz10 r10 fun s11 I11 => again I11 nx
  exact codeAny_compStart_list loop (T.self X.A 0 _ _ _ st4 loop)
theorem pe_lcX {elt tg iter : Expr} {ifs : List Expr} {scope : Scope} {own : List (Str × Nat)} {pos : Pos} {wi : TI} {g : TG} {tt : XK → TT} {te : XK → TE} {CXk : CXT} {E : L2.St → XK} (hc : X.calm = true) (hN : X.N.Nodup) (hi : PI X tg iter wi) (ok : BlkOk X.N X.env.scope scope own) (P : ∀ σ, BlkP CXk X scope tg elt ifs g (tt (E σ)) (te (E σ)) (E σ))
    (hpas : ∀ (pins : List (Addr × Obj)) (σ : L2.St) (fp : List Addr) (ce : PySem.Env) (s3 : Shared) (H3 : Hp) (σ' : L2.St), ce.frame = X.env.frame → ce.locals = s3.heap.objs.size → L2.Inv X pins σ H3 s3 → (∀ b ∈ fp, FpOk X pins H3 b) → PassesAt CXk (blkX X s3 H3 scope ce fp (notedBy (model X.prog X.w) X.A ce (CompFails (model X.prog X.w) X.A X.xe ce))) σ' (E σ))
    (hs : ∀ x, foldedSetIterable iter X.env x = pure x) : PE X (.ListComp elt [⟨tg, iter, ifs, 0⟩] scope pos) (tLcX wi g tt te (own.map (·.2)) E) := by
  refine ⟨fun pins s σ H Q I h => ?_⟩
  rw [eval_ListComp]
  refine lcX hc hN I hi ok (P σ) hs (hpas pins σ) h fun D ce s' m H' I' q hn f => ⟨m, hn, fun h'' sb => ?_⟩
  obtain ⟨f0, f1, f2, f3, f4, f5⟩ := f
  exact ⟨.ref D, H', I'.turned (t' := s'.toks) (fun b o hb e => (sb.2 b hb).trans e) f0 f1 f3 f4 f5, rfl, q⟩
theorem ps_setLcX {i : Nat} {y : Str} {py : Pos} {elt tg iter : Expr} {ifs : List Expr} {scope : Scope} {own : List (Str × Nat)} {pos spos : Pos} {wi : TI} {g : TG} {tt : XK → TT} {te : XK → TE} {CXk : CXT} {E : L2.St → XK} (hc : X.calm = true) (hN : X.N.Nodup) (hy : X.N[i]? = some y) (hyl : X.env.scope.names.lookup y = some .local)
    (hsw : swapsWith (.ListComp elt [⟨tg, iter, ifs, 0⟩] scope pos) (some (.Name y py)) spos.line X.env = pure true) (hi : PI X tg iter wi) (ok : BlkOk X.N X.env.scope scope own) (P : ∀ σ, BlkP CXk X scope tg elt ifs g (tt (E σ)) (te (E σ)) (E σ))
    (hpas : ∀ (pins : List (Addr × Obj)) (σ : L2.St) (fp : List Addr) (ce : PySem.Env) (s3 : Shared) (H3 : Hp) (σ' : L2.St), ce.frame = X.env.frame → ce.locals = s3.heap.objs.size → L2.Inv X pins σ H3 s3 → (∀ b ∈ fp, FpOk X pins H3 b) → PassesAt CXk (blkX X s3 H3 scope ce fp (notedBy (model X.prog X.w) X.A ce (CompFails (model X.prog X.w) X.A X.xe ce))) σ' (E σ))
    (hs : ∀ x, foldedSetIterable iter X.env x = pure x) : PS X (.Assign [.Name y py] (.ListComp elt [⟨tg, iter, ifs, 0⟩] scope pos) spos) (tAsg (tLcX wi g tt te (own.map (·.2)) E) (gName i)) := by
  refine ⟨fun pins s σ H D I h => ?_⟩
  rw [exec_Assign_Name_used _ _ _ _ hsw]
  have h : L2.tLc wi g (tt (E σ)) (te (E σ)) (own.map (·.2)) σ H (fun x H1 => gName i x σ H1 D.nx) := h
  refine wpAny_bind (wpAny_standAt (wpAny_bind (wpAny_bind (thn (lcX (use := some (assign (.Name y py) X.env)) (Qf := fun _ s' => SP X pins D .next s') hc hN I hi ok (P σ) hs (hpas pins σ) h fun L ce s' m H' I' q hn f => ?_) fun _ s' hq => wpAny_pure (wpAny_pure hq)))))
  obtain ⟨f0, f1, f2, f3, f4, f5⟩ := f
  show wpAny _ _ (assign (.Name y py) X.env (.ref L)) _ _ _
  refine wpAny_assign_Name (store_ok2 (v := V.ref L) I' hN hy (.inl hyl) rfl (fun s2 I2 ⟨a, sb, ha⟩ => ?_) (.inr hyl))
  refine ⟨m, hn.sameBut sb ?_, fun h3 sb3 => ⟨_, H', I2.turned (t' := s2.toks) (fun b o hb e => (sb3.2 b hb).trans e) f0 f1 f3 f4 f5, q⟩⟩
  rcases ha with z | z
  · rw [z]; exact f1
  · exact fun e => f4 y a z e.symm
end
end Mi

/-! Mi, part X2: try whose except suite raises, with else; isinstance of a caught exception. -/
namespace Mi
open PySem PySem.Spec PyProof.Rows L2 L2H
section
variable {X : Cx} {x : Str} {c : Value} {body suite els : List Stmt} {b₀ : Stmt} {np pos pos' : Pos} {tb : WX → TS} {ts : Addr → Value → Option Addr → TS} {Wout : WX} {u : TS}
/-- what stands apart from the frames -/
theorem no_frame {B h : Heap} {l : List PySem.Env} {a : Addr} {o : Obj} {vs : Array Value} (ff : h.FunFrames B l) (e : h.get? a = some o) (d : o.data = .fields vs) : a ∉ frs l := fun hm => by
  obtain ⟨_, o', e', hnf⟩ := ff.mem hm
  rw [e] at e'
  cases e'
  exact hnf _ d
/-- a clause that doesn't name it: it flies on -/
theorem on_it_flies {pins : List (Addr × Obj)} {D : Ends} (hs : X.stack = X.env :: X.outer) (hf : X.env.frame = some X.env.locals) (tk : L2.Takes X Wout) {a : Addr} {B : Heap} {sI s' : Shared} {σ' : L2.St} {H' : Hp} {cls : Value} {d : Option Addr} {h3 : Heap} (J : L2.Inv X pins σ' H' sI)
    (nb : ∀ b o, sI.heap.get? b = some o → b ∉ frs X.stack → B.get? b = some o) (up : sI.heap.UpToSlots h3) (fl : HandSPX.FlyingZ B (X.env :: X.outer) a (L2.Zc cls d) h3) (na : H' a = none) (os : s'.os = sI.os) (ag : AllBare s'.gens) (w : Wout cls d σ' H') :
    wpAny (model X.prog X.w) X.A (handleBy (.ref a) X.env []) (SP X pins D) X.xe { s' with heap := h3 } := by
  refine wpAny_handleBy_nil ?_
  obtain ⟨_, _, _, oe, vs, T, oT, tv, he, hz, hd, h1, hr⟩ := id fl
  unfold PySem.passOn
  refine wpAny_bind (wpAny_field he hd h1 ?_)
  rw [if_neg (show ¬ ((Value.ref T == Value.none) = true) by simp)]
  have last : wpAny (model X.prog X.w) X.A (setFlight (.ref a) X.env.frame) (fun _ s4 => wpAny (model X.prog X.w) X.A (throw (.ref a) : Sem Flow) (SP X pins D) X.xe s4) X.xe { s' with heap := h3 } := by
    rw [hf]
    exact HandSPX.setFlight_upZ fl fun h4 hh4 up4 => wpAny_throw (tk _ _ ⟨a, B, sI, pins, σ', H', cls, d, rfl, J, nb, up.trans up4, .inr (.inr (by rw [hs]; exact hh4)), na, os, ag, w⟩)
  first
    | exact wpAny_bind (wpAny_pure (wpAny_bind last))
    | exact wpAny_bind last
/-- an exception that came out of the body meets the one clause -/
theorem meets {pins : List (Addr × Obj)} {D : Ends} {Z : Obj → Prop} {a : Addr} {B : Heap} {sI s' : Shared} {σ' : L2.St} {H' : Hp} {cls : Value} {b : Bool} (hf : X.env.frame = some X.env.locals) (hc : Names X x c) (hZ : ∀ o, Z o → o.cls = cls)
    (J : L2.Inv X pins σ' H' sI) (nb : ∀ b o, sI.heap.get? b = some o → b ∉ frs X.stack → B.get? b = some o) (up : sI.heap.UpToSlots s'.heap) (na : H' a = none) (os : s'.os = sI.os) (ag : AllBare s'.gens)
    (land : ∀ Q : Unit → Shared → Prop, (∀ h', HandSPX.FlyingZ B (X.env :: X.outer) a Z h' → s'.heap.UpToSlots h' → Q () { s' with heap := h' }) → wpAny (model X.prog X.w) X.A (noteFrame (.ref a) X.env) (fun _ s2 => wpAny (model X.prog X.w) X.A (setFlight (.ref a) none) Q X.xe s2) X.xe s')
    (hb : PySem.W.exmOne X.K cls c = some b)
    (yes : b = true → ∀ (h4 : Heap) (oe : Obj), Z oe → (∃ vs, oe.data = .fields vs) → L2.Inv (X.suite a ((a, oe) :: (X.pn ++ pins))) [] σ' H' { s' with heap := h4 } →
      wpAny (model X.prog X.w) (X.A.mark (some (.ref a))) (execs (b₀ :: suite) X.env) (SP X pins D) (notedBy (model X.prog X.w) (X.A.mark (some (.ref a))) X.env (cameBackBy (model X.prog X.w) X.A X.env X.xe)) { s' with heap := h4 })
    (no : b = false → ∀ h3, HandSPX.FlyingZ B (X.env :: X.outer) a Z h3 → sI.heap.UpToSlots h3 → wpAny (model X.prog X.w) X.A (handleBy (.ref a) X.env []) (SP X pins D) X.xe { s' with heap := h3 }) :
    wpAny (model X.prog X.w) X.A (noteFrame (.ref a) X.env) (fun _ s2 => wpAny (model X.prog X.w) X.A (setFlight (.ref a) none) (fun _ s3 => wpAny (model X.prog X.w) X.A (handleBy (.ref a) X.env [.ExceptHandler (some (.Name x np)) none (b₀ :: suite) pos']) (SP X pins D) X.xe s3) X.xe s2) X.xe s' := by
  have inn : ∀ h5, HandSPX.FlyingZ B (X.env :: X.outer) a Z h5 → s'.heap.UpToSlots h5 → ∃ oe, h5.get? a = some oe ∧ Z oe ∧ (∃ vs, oe.data = .fields vs) ∧ L2.Inv (X.suite a ((a, oe) :: (X.pn ++ pins))) [] σ' H' { s' with heap := h5 } := fun h5 fl5 up5 => by
    obtain ⟨oe, vs, e1, e2, e3⟩ := fl5.there
    have out := no_frame fl5.2.2.1 e1 e3
    have J5 : L2.Inv X pins σ' H' { s' with heap := h5 } := J.landed nb fl5.1 (up.trans up5) os ag
    refine ⟨oe, e1, e2, ⟨vs, e3⟩, J5.suite e1 e3 na (fun z => out ?_) fun hm => out ?_⟩
    · exact List.mem_filterMap.mpr ⟨X.env, List.mem_cons_self, by rw [hf, z]⟩
    · obtain ⟨en, hen, qen⟩ := List.mem_filterMap.mp hm
      exact List.mem_filterMap.mpr ⟨en, List.mem_cons_of_mem _ hen, qen⟩
  refine land _ fun h3 fl3 up3 => ?_
  obtain ⟨oe, e1, e2, _, S3⟩ := inn h3 fl3 up3
  refine wpAny_handleBy_cons (codeAny_handlers_test ?_) (fun z => by cases z)
  have lk : PySem.W.Looks (model X.prog X.w) h3 (typeOf (.ref a)) cls := fun A' Q' E' sq kq q => wpAny_typeOf_ref (kq _ _ e1) (by rw [hZ _ e2]; exact q)
  have lm := PySem.W.exm_one (M := model X.prog X.w) S3.kIn lk hb
  have named : ∀ {Q' E' : Value → Shared → Prop}, Q' c { s' with heap := h3 } → wpAny (model X.prog X.w) (X.A.mark (some (.ref a))) (eval (.Name x np) X.env) Q' E' { s' with heap := h3 } := fun {Q' E'} q => by
    obtain ⟨n1, n2, n3 | ⟨n3, n4, n5⟩⟩ := hc
    · exact ld_glob (X := X.suite a ((a, oe) :: (X.pn ++ pins))) S3 n1 n3 q n2
    · exact ld_blt (X := X.suite a ((a, oe) :: (X.pn ++ pins))) S3 n1 n3 n4 q n5 n2
  refine named (lm.here ?_)
  cases b with
  | false => exact no rfl h3 fl3 (up.trans up3)
  | true =>
    refine codeAny_handlers_suite (HandSPX.lands_againZ fl3 fun h4 fl4 up4 => ?_)
    obtain ⟨oe4, _, e5, e6, S4⟩ := inn h4 fl4 (up3.trans up4)
    exact yes rfl h4 oe4 e5 e6 S4
theorem ps_try_hotE (ho : PSs X els u) (hs : X.stack = X.env :: X.outer) (hf : X.env.frame = some X.env.locals) (hc : Names X x c) (hpa : ∀ hd : Option Value, PassesOwnAt (model X.prog X.w) (X.A.mark hd) X.A X.env X.xe) (tk : L2.Takes X Wout)
    (hb : ∀ (W : WX) (pn : List (Addr × Obj)) (xe : Value → Shared → Prop), L2N.Takes (X.tr pn xe) W → PassesOwn (model X.prog X.w) X.A X.env xe → PSs (X.tr pn xe) body (tb W))
    (hsu : ∀ (a : Addr) (oe : Obj) (cls : Value) (d : Option Addr) (pn : List (Addr × Obj)), L2N.Zn cls d oe → (∃ vs, oe.data = .fields vs) → L2.Takes (suiteX X a ((a, oe) :: pn)) Wout → HotC (suiteX X a ((a, oe) :: pn)) → PSs (suiteX X a ((a, oe) :: pn)) (b₀ :: suite) (ts a cls d)) :
    PS X (.Try body [.ExceptHandler (some (.Name x np)) none (b₀ :: suite) pos'] els [] pos) (fun D σ H => tb (wOnly X.K c ts Wout D) { D with nx := u D } σ H) := by
  refine ⟨fun pins s σ H D I h => wpAny_Try_except ?_⟩
  have ok := I.ok
  have frm : X.A.frames = some (X.env :: X.outer) := by rw [ok.frames, hs]
  refine wpAny_mono ((hb _ (X.pn ++ pins) (fun e s1 => wpAny (model X.prog X.w) X.A (noteFrame e X.env) (fun _ s2 => wpAny (model X.prog X.w) X.A (setFlight e none) (fun _ s3 => wpAny (model X.prog X.w) X.A (handleBy e X.env [.ExceptHandler (some (.Name x np)) none (b₀ :: suite) pos']) (SP X pins D) X.xe s3) X.xe s2) X.xe s1)
    (fun v s' xx => ?_) PassesOwn.looking).run [] s σ H { D with nx := u D } (I.toTry _) h) (fun f s1 q => ?_) fun e s1 he => he
  · obtain ⟨a, B, sI, pins', σ', H', cls, d, rfl, J', nb, up, sky, na, os, ag, b, hb1, hyes, hno⟩ := xx
    have J : L2.Inv X pins σ' H' sI := J'.ofTry ok
    have sky1 : L2.Sky B X.stack a (L2N.Zn cls d) X.env.locals s'.heap := sky
    rw [hs] at sky1
    refine meets hf hc (fun o z => z.1) J nb up na os ag (fun Q hQ => L2N.Sky.land L2N.Zn.steady frm hf sky1 hQ) hb1 (fun hbt h4 oe zo fo S4 => ?_) fun hbf h3 fl3 up3 => on_it_flies hs hf tk J nb up3 (flyingZ_imp (fun o z => z.zc) fl3) na os ag (hno hbf)
    obtain ⟨vo, hvo⟩ := fo
    have tkS : L2.Takes (suiteX X a ((a, oe) :: (X.pn ++ pins))) Wout := fun v2 s2 x2 => by
      obtain ⟨y1, y2, y3, y4, y5, y6, y7, y8, y9, Iy, z1, z2, z3, z4, z5, z6, z7⟩ := x2
      exact tk v2 s2 ⟨y1, y2, y3, pins, y5, y6, y7, y8, y9, unsuiteX Iy ok, z1, z2, z3, z4, z5, z6, z7⟩
    refine wpAny_mono ((hsu a oe cls d _ zo ⟨vo, hvo⟩ tkS ⟨(a, oe), ⟨rfl, vo, hvo, zo.2.2 vo hvo⟩, List.mem_cons_self⟩).run [] _ σ' H' D (suiteX_of S4) (hyes hbt a na)) (fun f s6 w => ?_) fun e6 s6 w => hpa (some (.ref a)) e6 s6 w
    cases f with
    | next => exact let ⟨_, _, S6, q6⟩ := w; ⟨_, _, unsuiteX S6 ok, q6⟩
    | brk => exact let ⟨_, _, S6, q6⟩ := w; ⟨_, _, unsuiteX S6 ok, q6⟩
    | cont => exact let ⟨_, _, S6, q6⟩ := w; ⟨_, _, unsuiteX S6 ok, q6⟩
    | ret v6 => exact let ⟨_, _, _, S6, r6, q6⟩ := w; ⟨_, _, _, unsuiteX S6 ok, r6, q6⟩
  · cases f with
    | next => exact let ⟨_, _, J', w⟩ := q; ho.run pins s1 _ _ D (J'.ofTry ok) w
    | brk => exact let ⟨_, _, J', w⟩ := q; ⟨_, _, J'.ofTry ok, w⟩
    | cont => exact let ⟨_, _, J', w⟩ := q; ⟨_, _, J'.ofTry ok, w⟩
    | ret v => exact let ⟨_, _, _, J', r, w⟩ := q; ⟨_, _, _, J'.ofTry ok, r, w⟩
end
/-! ### isinstance of a caught exception, with a tuple of classes -/
/-- isinstance(e, (c, ..)), e the exception that the suite holds -/
def rIsET (K : PySem.W.Frag) (Dc a : Addr) : List V → Hp → VK → Prop := fun xs H Q => ∃ (tp : Addr) (cs : List V) (us : List Value) (b : Bool), xs = [.ref a, .ref tp] ∧ H tp = some (.tup cs) ∧ Paired ClsV cs us ∧ PySem.W.kitAny K (.ref Dc) us = some b ∧ Q (.bl b) H
theorem call_isET {X : Cx} {a Dc : Addr} {oe : Obj} {pn : List (Addr × Obj)} (C : ExcC X.K Dc) (hz : L2.Zc (.ref Dc) none oe) (hf : ∃ vs, oe.data = .fields vs) : CallR (X.suite a ((a, oe) :: pn)) (.builtin "isinstance") (rIsET X.K Dc a) := by
  intro pins s σ H xs us Q I r h
  obtain ⟨tp, cs, ws, b, rfl, hT, k, e, q⟩ := h
  obtain ⟨u1, u2, rfl, r1, r2⟩ := vals2 r
  cases (show u1 = Value.ref a from r1)
  cases (show u2 = Value.ref tp from r2)
  obtain ⟨hget, _⟩ := I.pin (a, oe) (List.mem_append_left _ List.mem_cons_self)
  obtain ⟨vs, hv⟩ := hf
  have at_ : PySem.W.InstAt s.heap a oe Dc none := by
    obtain ⟨oc, od, oda, osl⟩ := oe
    obtain ⟨z1, z2⟩ := hz
    dsimp only at z1 z2 hv
    subst z1 z2 hv
    exact ⟨hget, rfl, rfl, trivial⟩
  obtain ⟨_, its, rv, o, t1, t2, n, t3⟩ := (show ObjOk X.prog X.w H s.heap tp (.tup cs) from I.hok tp _ hT)
  have e3 := ClsV.all k rv
  subst e3
  obtain ⟨oc, od, dt, sl⟩ := o
  simp only at t2 t3
  subst t2 t3
  exact PySem.W.kia_tup (PySem.W.handS_kitx_exc C.hg C.hk C.hs C.hd C.ha C.hn C.ht C.hm) I.kIn at_ t1 e (fun z => nomatch z) fun tk => ⟨.bl b, H, I.tok tk, rfl, q⟩
end Mi

/-! Mi, part B: how values and stores lie in the layer's heap. -/
namespace Mi
open PySem L2

/-- what is fixed through a law: the written part, the own classes' addresses, the own exceptions' classes -/
structure Gb where
  K : PySem.W.Frag
  cls : Nat → Option Addr
  exc : Nat → Option Value

def KT (K : PySem.W.Frag) (a : Addr) (xs : List V) : Prop := ∃ (o : Obj) (its : Array Value) (n : Nat), K.lookup a = some o ∧ o.cls = .type "tuple" ∧ o.data = .seq its n ∧ its.size ≤ sizeLine ∧ Vals xs its.toList
def KL (K : PySem.W.Frag) (a : Addr) (xs : List V) : Prop := ∃ (o : Obj) (its : Array Value) (n : Nat), K.lookup a = some o ∧ o.cls = .type "list" ∧ o.dict = none ∧ o.data = .seq its n ∧ its.size ≤ sizeLine ∧ Vals xs its.toList
def TupA (K : PySem.W.Frag) (H : Hp) (a : Addr) (xs : List V) : Prop := H a = some (.tup xs)
def LisA (K : PySem.W.Frag) (H : Hp) (a : Addr) (xs : List V) : Prop := (∃ o, H a = some (.frz o (.lst xs))) ∨ KL K a xs
theorem TupA.sq {K : PySem.W.Frag} {H : Hp} {a : Addr} {xs : List V} (h : TupA K H a xs) : SqT K H a xs := .inl (.inl h)
theorem KT.sq {K : PySem.W.Frag} {H : Hp} {a : Addr} {xs : List V} (h : KT K a xs) : SqT K H a xs := .inr h
theorem LisA.sq {K : PySem.W.Frag} {H : Hp} {a : Addr} {xs : List V} (h : LisA K H a xs) : SqL K H a xs := by
  rcases h with ⟨o, h⟩ | h
  · exact .inl (.inr ⟨o, h⟩)
  · exact .inr h

section
variable (G : Gb) (φ : List Addr) (H : Hp)
mutual
def Rp : D → V → Prop
  | .non, v => v = .non
  | .bl b, v => v = .bl b
  | .int i, v => v = .int i
  | .str x, v => v = .str x
  | .tup ds, v => ∃ a vs, v = .ref a ∧ TupA G.K H a vs ∧ Rps ds vs
  | .ls ds, v => ∃ a vs, v = .ref a ∧ LisA G.K H a vs ∧ Rps ds vs
  | .kt ds, v => ∃ a vs, v = .ref a ∧ KT G.K a vs ∧ Rps ds vs
  | .ref n, v => ∃ a, v = .ref a ∧ φ[n]? = some a
def Rps : List D → List V → Prop
  | [], vs => vs = []
  | d :: ds, vs => ∃ v r, vs = v :: r ∧ Rp d v ∧ Rps ds r
end
def RpW : W → V → Prop
  | .val d, v => Rp G φ H d v
  | .lis ds, v => ∃ a vs, v = .ref a ∧ H a = some (.lst vs) ∧ a ∉ φ ∧ Rps G φ H ds vs
def RpWs : List W → List V → Prop
  | [], vs => vs = []
  | w :: ws, vs => ∃ v r, vs = v :: r ∧ RpW G φ H w v ∧ RpWs ws r
def RpKV {κ : Type} : List (κ × D) → List (κ × V) → Prop
  | [], vs => vs = []
  | p :: ds, vs => ∃ v r, vs = (p.1, v) :: r ∧ Rp G φ H p.2 v ∧ RpKV ds r
def RpO : O → Addr → Prop
  | .lst ds, a => ∃ vs, H a = some (.lst vs) ∧ Rps G φ H ds vs
  | .dk kvs, a => ∃ vs, H a = some (.dK vs) ∧ RpKV G φ H kvs vs
  | .dt kvs, a => ∃ vs, H a = some (.dT vs) ∧ RpKV G φ H kvs vs
  | .ins c fs, a => ∃ C dx vs, G.cls c = some C ∧ H a = some (.ins C dx vs) ∧ RpKV G φ H fs vs
structure Rel (S : Store) : Prop where
  len : φ.length = S.length
  nd : φ.Nodup
  obj : ∀ (n : Nat) (a : Addr) (o : O), φ[n]? = some a → S[n]? = some o → RpO G φ H o a
def Sl (ρ : Env) (σ : St) : Prop := ρ.length = σ.length ∧ ∀ (i : Nat) (d : D), ρ[i]? = some (some d) → ∃ v, σ[i]? = some (some v) ∧ Rp G φ H d v
/-- an exception: its class, its own dict -/
def RpX (c : Nat) (fs : List (Str × D)) (cls : Value) (dx : Option Addr) : Prop :=
  G.exc c = some cls ∧ ((fs = [] ∧ dx = none) ∨ (fs ≠ [] ∧ ∃ d vs, dx = some d ∧ H d = some (.xd vs) ∧ d ∉ φ ∧ RpKV G φ H fs vs))
end
structure Ext (φ : List Addr) (H : Hp) (φ' : List Addr) (H' : Hp) : Prop where
  pre : φ <+: φ'
  keep : ∀ a o, H a = some o → a ∉ φ → H' a = some o
  new : ∀ a, a ∈ φ' → a ∈ φ ∨ H a = none
theorem Ext.refl (φ : List Addr) (H : Hp) : Ext φ H φ H := ⟨List.prefix_refl _, fun _ _ h _ => h, fun _ h => .inl h⟩
theorem Ext.out {φ φ' : List Addr} {H H' : Hp} (e : Ext φ H φ' H') {a : Addr} {o : HO} (h : H a = some o) (n : a ∉ φ) : a ∉ φ' := fun m => by
  rcases e.new a m with q | q
  · exact n q
  · rw [h] at q; cases q
theorem Ext.trans {φ φ1 φ2 : List Addr} {H H1 H2 : Hp} (e : Ext φ H φ1 H1) (f : Ext φ1 H1 φ2 H2) : Ext φ H φ2 H2 := by
  refine ⟨e.pre.trans f.pre, fun a o h n => f.keep a o (e.keep a o h n) (e.out h n), fun a m => ?_⟩
  rcases f.new a m with q | q
  · exact e.new a q
  · by_cases hm : a ∈ φ
    · exact .inl hm
    · cases h : H a with
      | none => exact .inr rfl
      | some o => rw [e.keep a o h hm] at q; cases q
theorem Ext.get {φ φ' : List Addr} {H H' : Hp} (e : Ext φ H φ' H') {n : Nat} {a : Addr} (h : φ[n]? = some a) : φ'[n]? = some a := by
  obtain ⟨t, rfl⟩ := e.pre
  rw [List.getElem?_append_left (List.getElem?_eq_some_iff.mp h).1]
  exact h

section
variable {G : Gb} {φ φ' : List Addr} {H H' : Hp} {S : Store}
/-- what a place of the store is: a list, a dict, an instance -/
def isO : HO → Bool
  | .lst _ => true | .dK _ => true | .dT _ => true | .ins _ _ _ => true
  | _ => false
theorem Rel.at (R : Rel G φ H S) {a : Addr} (h : a ∈ φ) : ∃ o, H a = some o ∧ isO o = true := by
  obtain ⟨n, hn, e⟩ := List.getElem_of_mem h
  have hs : n < S.length := by rw [← R.len]; exact hn
  have q := R.obj n a S[n] (by rw [List.getElem?_eq_getElem hn, e]) (List.getElem?_eq_getElem hs)
  cases hO : S[n] with
  | lst ds => rw [hO] at q; obtain ⟨vs, q, _⟩ := q; exact ⟨_, q, rfl⟩
  | dk ds => rw [hO] at q; obtain ⟨vs, q, _⟩ := q; exact ⟨_, q, rfl⟩
  | dt ds => rw [hO] at q; obtain ⟨vs, q, _⟩ := q; exact ⟨_, q, rfl⟩
  | ins c ds => rw [hO] at q; obtain ⟨C, dx, vs, _, q, _⟩ := q; exact ⟨_, q, rfl⟩
theorem Rel.out (R : Rel G φ H S) {a : Addr} {o : HO} (h : H a = some o) (n : isO o = false) : a ∉ φ := fun m => by
  obtain ⟨u, h', i⟩ := R.at m
  rw [h] at h'; cases h'
  rw [n] at i; cases i
theorem Rel.unk (R : Rel G φ H S) {a : Addr} (h : H a = none) : a ∉ φ := fun m => by
  obtain ⟨u, h', _⟩ := R.at m
  rw [h] at h'; cases h'
/-- tuples and constant lists stay, places stay -/
structure Keep (φ : List Addr) (H : Hp) (φ' : List Addr) (H' : Hp) : Prop where
  get : ∀ (n : Nat) (a : Addr), φ[n]? = some a → φ'[n]? = some a
  tup : ∀ a xs, H a = some (.tup xs) → H' a = some (.tup xs)
  frz : ∀ a o u, H a = some (.frz o u) → H' a = some (.frz o u)
theorem Ext.toKeep (e : Ext φ H φ' H') (R : Rel G φ H S) : Keep φ H φ' H' :=
  ⟨fun _ _ h => e.get h, fun a xs h => e.keep a _ h (R.out h rfl), fun a o u h => e.keep a _ h (R.out h rfl)⟩
theorem Keep.refl : Keep φ H φ H := ⟨fun _ _ h => h, fun _ _ h => h, fun _ _ _ h => h⟩
theorem TupA.mono (k : Keep φ H φ' H') {a : Addr} {xs : List V} (h : TupA G.K H a xs) : TupA G.K H' a xs := k.tup _ _ h
theorem LisA.mono (k : Keep φ H φ' H') {a : Addr} {xs : List V} (h : LisA G.K H a xs) : LisA G.K H' a xs := by
  rcases h with ⟨o, h⟩ | h
  · exact .inl ⟨o, k.frz _ _ _ h⟩
  · exact .inr h
mutual
theorem Rp.mono (k : Keep φ H φ' H') : ∀ (d : D) (v : V), Rp G φ H d v → Rp G φ' H' d v
  | .non, _, h => by unfold Rp at h ⊢; exact h
  | .bl _, _, h => by unfold Rp at h ⊢; exact h
  | .int _, _, h => by unfold Rp at h ⊢; exact h
  | .str _, _, h => by unfold Rp at h ⊢; exact h
  | .tup ds, v, h => by
    unfold Rp at h ⊢
    obtain ⟨a, vs, e, t, r⟩ := h
    exact ⟨a, vs, e, t.mono k, Rps.mono k ds vs r⟩
  | .ls ds, v, h => by
    unfold Rp at h ⊢
    obtain ⟨a, vs, e, t, r⟩ := h
    exact ⟨a, vs, e, t.mono k, Rps.mono k ds vs r⟩
  | .kt ds, v, h => by
    unfold Rp at h ⊢
    obtain ⟨a, vs, e, t, r⟩ := h
    exact ⟨a, vs, e, t, Rps.mono k ds vs r⟩
  | .ref n, v, h => by
    unfold Rp at h ⊢
    obtain ⟨a, e, r⟩ := h
    exact ⟨a, e, k.get _ _ r⟩
theorem Rps.mono (k : Keep φ H φ' H') : ∀ (ds : List D) (vs : List V), Rps G φ H ds vs → Rps G φ' H' ds vs
  | [], _, h => by unfold Rps at h ⊢; exact h
  | d :: ds, _, h => by
    unfold Rps at h ⊢
    obtain ⟨v, r, e, h1, h2⟩ := h
    exact ⟨v, r, e, Rp.mono k d v h1, Rps.mono k ds r h2⟩
end
theorem RpKV.mono {κ : Type} (k : Keep φ H φ' H') : ∀ (ds : List (κ × D)) (vs : List (κ × V)), RpKV G φ H ds vs → RpKV G φ' H' ds vs
  | [], _, h => h
  | d :: ds, _, h => by
    obtain ⟨v, r, e, h1, h2⟩ := h
    exact ⟨v, r, e, Rp.mono k _ v h1, RpKV.mono k ds r h2⟩
theorem RpW.mono (e : Ext φ H φ' H') (R : Rel G φ H S) : ∀ {w : W} {v : V}, RpW G φ H w v → RpW G φ' H' w v
  | .val d, _, h => Rp.mono (e.toKeep R) _ _ h
  | .lis ds, _, h => by
    obtain ⟨a, vs, q, h1, h2, h3⟩ := h
    exact ⟨a, vs, q, e.keep _ _ h1 h2, e.out h1 h2, Rps.mono (e.toKeep R) _ _ h3⟩
theorem RpWs.mono (e : Ext φ H φ' H') (R : Rel G φ H S) : ∀ {w : List W} {v : List V}, RpWs G φ H w v → RpWs G φ' H' w v
  | [], _, h => h
  | w :: ws, _, h => by
    obtain ⟨v, r, q, h1, h2⟩ := h
    exact ⟨v, r, q, RpW.mono e R h1, RpWs.mono e R h2⟩
theorem Sl.mono {ρ : Env} {σ : St} (k : Keep φ H φ' H') (h : Sl G φ H ρ σ) : Sl G φ' H' ρ σ :=
  ⟨h.1, fun i d e => let ⟨v, h1, h2⟩ := h.2 i d e; ⟨v, h1, Rp.mono k _ _ h2⟩⟩
theorem Sl.set {ρ : Env} {σ : St} {d : D} {v : V} (h : Sl G φ H ρ σ) (i : Nat) (r : Rp G φ H d v) : Sl G φ H (ρ.set i (some d)) (σ.set i (some v)) := by
  refine ⟨by simpa using h.1, fun j e he => ?_⟩
  by_cases hj : i = j
  · subst hj
    by_cases hl : i < ρ.length
    · rw [List.getElem?_set_self hl] at he
      cases he
      exact ⟨v, List.getElem?_set_self (by rw [← h.1]; exact hl), r⟩
    · rw [List.getElem?_eq_none (by simpa using hl)] at he
      cases he
  · rw [List.getElem?_set_ne hj] at he ⊢
    exact h.2 j e he
theorem Sl.unset {ρ : Env} {σ : St} (h : Sl G φ H ρ σ) (i : Nat) : Sl G φ H (ρ.set i none) (σ.set i none) := by
  refine ⟨by simpa using h.1, fun j e he => ?_⟩
  by_cases hj : i = j
  · subst hj
    by_cases hl : i < ρ.length
    · rw [List.getElem?_set_self hl] at he
      cases he
    · rw [List.getElem?_eq_none (by simpa using hl)] at he
      cases he
  · rw [List.getElem?_set_ne hj] at he ⊢
    exact h.2 j e he

/-! ### the store changes -/
theorem RpO.mono (k : Keep φ H φ' H') {o : O} {a : Addr} (h : RpO G φ H o a) (ha : H' a = H a) : RpO G φ' H' o a := by
  cases o with
  | lst ds => obtain ⟨vs, h1, h2⟩ := h; exact ⟨vs, ha.trans h1, Rps.mono k _ _ h2⟩
  | dk ds => obtain ⟨vs, h1, h2⟩ := h; exact ⟨vs, ha.trans h1, RpKV.mono k _ _ h2⟩
  | dt ds => obtain ⟨vs, h1, h2⟩ := h; exact ⟨vs, ha.trans h1, RpKV.mono k _ _ h2⟩
  | ins c ds => obtain ⟨C, dx, vs, h0, h1, h2⟩ := h; exact ⟨C, dx, vs, h0, ha.trans h1, RpKV.mono k _ _ h2⟩
/-- a new object that no place knows -/
theorem Ext.fresh (R : Rel G φ H S) {p : Addr} (hp : H p = none) (o : HO) : Ext φ H φ (upd H p o) :=
  ⟨List.prefix_refl _, fun a u h _ => by rw [upd_ne (ne_of_none h hp)]; exact h, fun _ h => .inl h⟩
theorem Rel.fresh (R : Rel G φ H S) {p : Addr} (hp : H p = none) (o : HO) : Rel G φ (upd H p o) S := by
  refine ⟨R.len, R.nd, fun n a u h1 h2 => ?_⟩
  refine RpO.mono ((Ext.fresh R hp o).toKeep R) (R.obj n a u h1 h2) ?_
  obtain ⟨x, hx, _⟩ := R.at (List.mem_of_getElem? h1)
  exact upd_ne (ne_of_none hx hp)
/-- a place more -/
theorem Rel.more (R : Rel G φ H S) {p : Addr} {o : O} (n : p ∉ φ) (h : RpO G φ H o p) : Rel G (φ ++ [p]) H (S ++ [o]) := by
  have k : Keep φ H (φ ++ [p]) H := ⟨fun n a h => by rw [List.getElem?_append_left (List.getElem?_eq_some_iff.mp h).1]; exact h, fun _ _ h => h, fun _ _ _ h => h⟩
  refine ⟨by simp [R.len], ?_, fun m a u h1 h2 => ?_⟩
  · rw [List.nodup_append]
    refine ⟨R.nd, by simp, fun a ha b hb => ?_⟩
    simp at hb
    subst hb
    exact fun z => n (z ▸ ha)
  · by_cases hm : m < φ.length
    · rw [List.getElem?_append_left hm] at h1
      rw [List.getElem?_append_left (by rw [← R.len]; exact hm)] at h2
      exact RpO.mono k (R.obj m a u h1 h2) rfl
    · rw [List.getElem?_append_right (by omega)] at h1
      rw [List.getElem?_append_right (by rw [← R.len]; omega)] at h2
      rw [R.len] at h1
      cases e : m - S.length with
      | zero =>
        rw [e] at h1 h2
        simp at h1 h2
        subst h1; subst h2
        exact RpO.mono k h rfl
      | succ j =>
        rw [e] at h1
        simp at h1
/-- the object at a place is changed -/
theorem keep_write (R : Rel G φ H S) {n : Nat} {p : Addr} {u : HO} (hp : φ[n]? = some p) : Keep φ H φ (upd H p u) := by
  have hm : p ∈ φ := List.mem_of_getElem? hp
  refine ⟨fun _ _ h => h, fun a xs h => ?_, fun a o x h => ?_⟩
  · rw [upd_ne]
    · exact h
    · rintro rfl; exact R.out h rfl hm
  · rw [upd_ne]
    · exact h
    · rintro rfl; exact R.out h rfl hm
theorem Ext.write (R : Rel G φ H S) {n : Nat} {p : Addr} {u : HO} (hp : φ[n]? = some p) : Ext φ H φ (upd H p u) :=
  ⟨List.prefix_refl _, fun a o h hn => by
    rw [upd_ne]
    · exact h
    · rintro rfl; exact hn (List.mem_of_getElem? hp), fun _ h => .inl h⟩
theorem Rel.write (R : Rel G φ H S) {n : Nat} {p : Addr} {u : HO} {o : O} (hp : φ[n]? = some p) (h : RpO G φ (upd H p u) o p) : Rel G φ (upd H p u) (S.set n o) := by
  refine ⟨by rw [List.length_set]; exact R.len, R.nd, fun m a x h1 h2 => ?_⟩
  by_cases hm : n = m
  · subst hm
    rw [hp] at h1; cases h1
    by_cases hl : n < S.length
    · rw [List.getElem?_set_self hl] at h2
      cases h2
      exact h
    · rw [List.getElem?_eq_none (by simpa using hl)] at h2
      cases h2
  · rw [List.getElem?_set_ne hm] at h2
    have ne : a ≠ p := by
      rintro rfl
      have h1' := (List.getElem?_eq_some_iff.mp h1)
      have hp' := (List.getElem?_eq_some_iff.mp hp)
      obtain ⟨l1, e1⟩ := h1'
      obtain ⟨l2, e2⟩ := hp'
      exact hm ((List.getElem_inj R.nd).mp (e2.trans e1.symm))
    exact RpO.mono (keep_write R hp) (R.obj m a x h1 h2) (upd_ne ne)
end
end Mi

/-! Mi, part C: the bridge: what an end must be, and the rules for expressions. -/
namespace Mi
open PySem L2 PyProof.Rows

section
variable (G : Gb)
abbrev Rl (α β : Type) := Hp → List Addr → Hp → α → β → Prop
def RlW : Rl W V := fun H0 φ H w v => RpW G φ H w v ∧ ∀ (ds : List D) (a : Addr), w = W.lis ds → v = V.ref a → H0 a = none
def RlD : Rl D V := fun _ φ H d v => Rp G φ H d v
def RlDs : Rl (List D) (List V) := fun _ φ H d v => Rps G φ H d v
def RlB : Rl Bool Bool := fun _ _ _ a b => a = b
def RlWs : Rl (List W) (List V) := fun H0 φ H ws vs => RpWs G φ H ws vs ∧ ∀ (i : Nat) (ds : List D) (a : Addr), ws[i]? = some (W.lis ds) → vs[i]? = some (V.ref a) → H0 a = none
/-- what holds at every end that the small language tells -/
def Post {α β : Type} (L : Rl α β) (φ : List Addr) (H : Hp) (r : R α) (Wx : XK) (Q : β → Hp → Prop) : Prop := match r with
  | .ok a S' => ∀ b H' φ', Ext φ H φ' H' → Rel G φ' H' S' → L H φ' H' a b → Q b H'
  | .ex c fs S' => ∀ cls dx H' φ', Ext φ H φ' H' → Rel G φ' H' S' → RpX G φ' H' c fs cls dx → Wx cls dx H'
  | .bad => False
/-- the start may be later -/
def Mn {α β : Type} (L : Rl α β) : Prop := ∀ H0 H1 φ H a b, (∀ x, H1 x = none → H0 x = none) → L H1 φ H a b → L H0 φ H a b
end

section
variable {G : Gb} {φ φ1 : List Addr} {H H1 : Hp} {S S1 : Store} {Wx : XK}
theorem mnW : Mn (RlW G) := fun _ _ _ _ _ _ h r => ⟨r.1, fun ds a e1 e2 => h _ (r.2 ds a e1 e2)⟩
theorem mnD : Mn (RlD G) := fun _ _ _ _ _ _ _ r => r
theorem mnDs : Mn (RlDs G) := fun _ _ _ _ _ _ _ r => r
theorem mnB : Mn RlB := fun _ _ _ _ _ _ _ r => r
theorem mnWs : Mn (RlWs G) := fun _ _ _ _ _ _ h r => ⟨r.1, fun i ds a e1 e2 => h _ (r.2 i ds a e1 e2)⟩
variable {α β γ δ : Type} {L : Rl α β} {Lb : Rl γ δ}
theorem Post.mono {r : R α} {Q Q' : β → Hp → Prop} (h : Post G L φ H r Wx Q) (hQ : ∀ b H, Q b H → Q' b H) : Post G L φ H r Wx Q' := by
  cases r with
  | ok a S => exact fun b H' φ' e R l => hQ _ _ (h b H' φ' e R l)
  | ex c fs S => exact h
  | bad => exact h
theorem Post.bd {r : R α} {f : α → Store → R γ} {Q : δ → Hp → Prop} (h : Post G Lb φ H (r.bd f) Wx Q) :
    Post G L φ H r Wx (fun b H1 => ∃ φ1 a S1, r = .ok a S1 ∧ Ext φ H φ1 H1 ∧ Rel G φ1 H1 S1 ∧ L H φ1 H1 a b ∧ Post G Lb φ H (f a S1) Wx Q) := by
  cases r with
  | ok a S => exact fun b H' φ' e R l => ⟨φ', a, S, rfl, e, R, l, h⟩
  | ex c fs S => exact h
  | bad => exact h
theorem Ext.fr (e : Ext φ H φ1 H1) (R : Rel G φ1 H1 S1) : ∀ x, H1 x = none → H x = none := fun x h => by
  cases q : H x with
  | none => rfl
  | some o =>
    by_cases m : x ∈ φ
    · obtain ⟨u, hu, _⟩ := R.at (e.pre.subset m)
      rw [h] at hu; cases hu
    · rw [e.keep x o q m] at h; cases h
theorem Post.sh {r : R α} {Q : β → Hp → Prop} (h : Post G L φ H r Wx Q) (e : Ext φ H φ1 H1) (R : Rel G φ1 H1 S1) (m : Mn L) : Post G L φ1 H1 r Wx Q := by
  cases r with
  | ok a S => exact fun b H' φ' e' R' l => h b H' φ' (e.trans e') R' (m _ _ _ _ _ _ (e.fr R) l)
  | ex c fs S => exact fun cls dx H' φ' e' R' x => h cls dx H' φ' (e.trans e') R' x
  | bad => exact h
theorem Post.ok {a : α} {Q : β → Hp → Prop} {b : β} {H' : Hp} {φ' : List Addr} {S' : Store} (h : Post G L φ H (.ok a S') Wx Q) (e : Ext φ H φ' H') (R : Rel G φ' H' S') (l : L H φ' H' a b) : Q b H' := h b H' φ' e R l
end

abbrev AX (α : Type) := Env → Store → R α
section
variable (G : Gb) (Wx : WX)
/-- the state is told by the small language's -/
def tI {α β : Type} (L : Rl α β) (A : AX α) : L2.St → Hp → (β → Hp → Prop) → Prop := fun σ H Q => ∃ φ ρ S, Rel G φ H S ∧ Sl G φ H ρ σ ∧ Post G L φ H (A ρ S) (fun c d H' => Wx c d σ H') Q
abbrev tK (A : AX W) : TE := tI G Wx (RlW G) A
abbrev tD (A : AX D) : TE := tI G Wx (RlD G) A
abbrev tBo (A : AX Bool) : TT := tI G Wx RlB A
abbrev tDs (A : AX (List D)) : TA := tI G Wx (RlDs G) A
abbrev tWs (A : AX (List W)) : TA := tI G Wx (RlWs G) A
end

section
variable {X : Cx} {e : Expr} {t t' : TE}
theorem _root_.L2.PE.im (h : PE X e t) (hi : ∀ σ H Q, t' σ H Q → t σ H Q) : PE X e t' := ⟨fun pins s σ H Q I q => h.run pins s σ H Q I (hi _ _ _ q)⟩
theorem _root_.L2.PT.im {t t' : TT} (h : PT X e t) (hi : ∀ σ H Q, t' σ H Q → t σ H Q) : PT X e t' := ⟨fun pins s σ H Q I q => h.run pins s σ H Q I (hi _ _ _ q)⟩
theorem _root_.L2.PW.im {t t' : TT} (h : L2.PW X e t) (hi : ∀ σ H Q, t' σ H Q → t σ H Q) : L2.PW X e t' := ⟨fun wh pins s σ H Q I q => h.run wh pins s σ H Q I (hi _ _ _ q)⟩
theorem _root_.L2.PA.im {es : List Expr} {t t' : TA} (h : PA X es t) (hi : ∀ σ H Q, t' σ H Q → t σ H Q) : PA X es t' := ⟨fun pos pins s σ H Q I q => h.run pos pins s σ H Q I (hi _ _ _ q)⟩
end

section
variable {G : Gb} {Wx : WX} {X : Cx} {a b c e : Expr} {A B C : AX W} {pos : Pos} {α β γ δ : Type}
/-- one after the other: at the point behind the first -/
theorem tI.bd {L : Rl α β} {Lb : Rl γ δ} {A : AX α} {F : α → AX γ} {σ : L2.St} {H : Hp} {Q : δ → Hp → Prop} {Q' : β → Hp → Prop}
    (h : tI G Wx Lb (fun ρ S => (A ρ S).bd fun x S => F x ρ S) σ H Q)
    (k : ∀ φ ρ S b φ1 H1 x S1, Rel G φ H S → Sl G φ H ρ σ → Ext φ H φ1 H1 → Rel G φ1 H1 S1 → L H φ1 H1 x b → Post G Lb φ H (F x ρ S1) (fun c d H' => Wx c d σ H') Q → Q' b H1) : tI G Wx L A σ H Q' := by
  obtain ⟨φ, ρ, S, R, sl, h⟩ := h
  exact ⟨φ, ρ, S, R, sl, (Post.bd h).mono fun b H1 ⟨φ1, x, S1, _, e, R1, l, h1⟩ => k φ ρ S b φ1 H1 x S1 R sl e R1 l h1⟩
theorem tI.go {L : Rl α β} {A : AX α} {σ : L2.St} {H H1 : Hp} {Q : β → Hp → Prop} {φ φ1 : List Addr} {ρ : Env} {S S1 : Store} (R : Rel G φ H S) (sl : Sl G φ H ρ σ) (e : Ext φ H φ1 H1) (R1 : Rel G φ1 H1 S1) (m : Mn L)
    (h : Post G L φ H (A ρ S1) (fun c d H' => Wx c d σ H') Q) : tI G Wx L A σ H1 Q := ⟨φ1, ρ, S1, R1, sl.mono (e.toKeep R), h.sh e R1 m⟩

/-! ### values get a place; tests -/
theorem toD_post {w : W} {v : V} {φ φ1 : List Addr} {H H1 : Hp} {S1 : Store} {xk : XK} {Q : V → Hp → Prop} (e : Ext φ H φ1 H1) (R1 : Rel G φ1 H1 S1) (l : RlW G H φ1 H1 w v) (h : Post G (RlD G) φ H (toD w S1) xk Q) : Q v H1 := by
  cases w with
  | val d => exact h.ok e R1 l.1
  | lis ds =>
    obtain ⟨⟨p, vs, rfl, hp, n, r⟩, f⟩ := l
    have f := f ds p rfl rfl
    have R2 : Rel G (φ1 ++ [p]) H1 (S1 ++ [.lst ds]) := R1.more n ⟨vs, hp, r⟩
    refine h.ok (φ' := φ1 ++ [p]) ⟨e.pre.trans (List.prefix_append _ _), e.keep, fun x hx => ?_⟩ R2 ?_
    · rcases List.mem_append.mp hx with q | q
      · exact e.new x q
      · simp at q; subst q; exact .inr f
    · show Rp G _ _ (.ref S1.length) _
      unfold Rp
      exact ⟨p, rfl, by rw [← R1.len]; simp⟩
theorem k_D (h : PE X e (tK G Wx A)) : PE X e (tD G Wx fun ρ S => (A ρ S).bd toD) := h.im fun σ H Q q => tI.bd (F := fun w _ S => toD w S) q fun φ ρ S b φ1 H1 x S1 R sl e R1 l h => toD_post e R1 l h
theorem toB_post {w : W} {v : V} {φ φ1 : List Addr} {H H1 : Hp} {S1 : Store} {xk : XK} {Q : Bool → Hp → Prop} (e : Ext φ H φ1 H1) (R1 : Rel G φ1 H1 S1) (l : RlW G H φ1 H1 w v) (h : Post G RlB φ H (toB w S1) xk Q) : ∃ k, v = .bl k ∧ Q k H1 := by
  cases w with
  | lis ds => exact h.elim
  | val d =>
    cases d with
    | bl k => exact ⟨k, by have q := l.1; unfold RpW Rp at q; exact q, h.ok e R1 rfl⟩
    | _ => exact h.elim
theorem k_B (h : PE X e (tK G Wx A)) (he : ∀ whole, isTrue e X.env whole = (do let v ← whole; standAt e.pos; holding [v] (truthy v)) := by intro _; rfl) : PT X e (tBo G Wx fun ρ S => (A ρ S).bd toB) :=
  (pt_val h he).im fun σ H Q q => tI.bd (F := fun w _ S => toB w S) q fun φ ρ S b φ1 H1 x S1 R sl e R1 l h => toB_post e R1 l h
theorem k_Bcmp {r : R2} {op : CmpOp} {ta tb : TE} (ho : OpR X (compareOp op) r) (ha : PE X a ta) (hb : PE X b tb) (hm : behindInMarks op b = false) (hi : ∀ σ H Q, tK G Wx A σ H Q → tOp r ta tb σ H Q) : PT X (.Compare a [op] [b] pos) (tBo G Wx fun ρ S => (A ρ S).bd toB) :=
  (pt_cmpR ho ha hb hm).im fun σ H Q q => hi _ _ _ (tI.bd (F := fun w _ S => toB w S) q fun φ ρ S b φ1 H1 x S1 R sl e R1 l h => toB_post e R1 l h)

/-! ### constants, names -/
theorem rl_val {φ1 : List Addr} {H H1 : Hp} {d : D} {v : V} (h : Rp G φ1 H1 d v) : RlW G H φ1 H1 (.val d) v := ⟨h, fun _ _ e => nomatch e⟩
theorem k_const {d : D} {v : V} (h : PE X e (tC v)) (hd : ∀ φ H, Rp G φ H d v) : PE X e (tK G Wx fun _ S => vv d S) := h.im fun σ H Q ⟨φ, ρ, S, R, sl, q⟩ => q.ok (Ext.refl _ _) R (rl_val (hd _ _))
theorem k_var {i : Nat} {x : Str} (hN : X.N[i]? = some x) (hv : Vis X.env.scope x) (hd : (x == ("__debug__" : Str)) = false) (hcd : (x == ("__classdict__" : Str)) = false) :
    PE X (.Name x pos) (tK G Wx fun ρ S => match ρ[i]? with | some (some d) => vv d S | _ => .bad) := (pe_var hN hv hd hcd).im fun σ H Q ⟨φ, ρ, S, R, sl, q⟩ => by
  dsimp only at q
  cases h : ρ[i]? with
  | none => rw [h] at q; exact q.elim
  | some o =>
    cases o with
    | none => rw [h] at q; exact q.elim
    | some d =>
      rw [h] at q
      obtain ⟨v, h1, h2⟩ := sl.2 i d h
      exact ⟨v, h1, q.ok (Ext.refl _ _) R (rl_val h2)⟩

/-- the next part, from the place behind the one ahead -/
theorem tI.next {L : Rl α β} {Lb : Rl γ δ} {A : AX α} {F : α → Store → R γ} {σ : L2.St} {H H1 : Hp} {Q : δ → Hp → Prop} {Q' : β → Hp → Prop} {φ φ1 : List Addr} {ρ : Env} {S S1 : Store} (R : Rel G φ H S) (sl : Sl G φ H ρ σ) (e : Ext φ H φ1 H1) (R1 : Rel G φ1 H1 S1)
    (h : Post G Lb φ H ((A ρ S1).bd F) (fun c d H' => Wx c d σ H') Q)
    (k : ∀ b H2 φ2 x S2, Ext φ1 H1 φ2 H2 → Rel G φ2 H2 S2 → L H1 φ2 H2 x b → Post G Lb φ H (F x S2) (fun c d H' => Wx c d σ H') Q → Q' b H2) : tI G Wx L A σ H1 Q' := by
  refine ⟨φ1, ρ, S1, R1, sl.mono (e.toKeep R), ?_⟩
  cases q : A ρ S1 with
  | ok x S2 => exact fun b H2 φ2 e2 R2 l => k b H2 φ2 x S2 e2 R2 l (by rw [q] at h; exact h)
  | ex c fs S2 =>
    rw [q] at h
    exact fun cls dx H2 φ2 e2 R2 x => h cls dx H2 φ2 (e.trans e2) R2 x
  | bad =>
    rw [q] at h
    exact h
/-! ### operations by values -/
/-- what an operation of values is asked, at the place now -/
def rP2 (G : Gb) (o : W → W → Store → R W) : R2 := fun x y H Q => ∃ φ w1 w2 S xk, Rel G φ H S ∧ RpW G φ H w1 x ∧ RpW G φ H w2 y ∧ Post G (RlW G) φ H (o w1 w2 S) xk Q
def rP1 (G : Gb) (o : W → Store → R W) : V → Hp → VK → Prop := fun x H Q => ∃ φ w1 S xk, Rel G φ H S ∧ RpW G φ H w1 x ∧ Post G (RlW G) φ H (o w1 S) xk Q
theorem p2_im {o : W → W → Store → R W} {σ : L2.St} {H : Hp} {Q : VK} (q : tK G Wx (fun ρ S => (A ρ S).bd fun x S => (B ρ S).bd fun y S => o x y S) σ H Q) : tOp (rP2 G o) (tK G Wx A) (tK G Wx B) σ H Q := by
  refine tI.bd (F := fun x ρ S => (B ρ S).bd fun y S => o x y S) q fun φ ρ S v φ1 H1 x S1 R sl e R1 l h => ?_
  refine tI.next R sl e R1 h fun u H2 φ2 y S2 e2 R2 l2 h2 => ?_
  exact ⟨φ2, x, y, S2, _, R2, RpW.mono e2 R1 l.1, l2.1, h2.sh (e.trans e2) R2 mnW⟩
theorem p1_im {o : W → Store → R W} {σ : L2.St} {H : Hp} {Q : VK} (q : tK G Wx (fun ρ S => (A ρ S).bd fun x S => o x S) σ H Q) : tUn (rP1 G o) (tK G Wx A) σ H Q :=
  tI.bd (F := fun x _ S => o x S) q fun φ ρ S v φ1 H1 x S1 R sl e R1 l h => ⟨φ1, x, S1, _, R1, l.1, h.sh e R1 mnW⟩
theorem k_bin {o : W → W → Store → R W} {op : Operator} (ho : OpR X (binaryOp op) (rP2 G o)) (ha : PE X a (tK G Wx A)) (hb : PE X b (tK G Wx B)) : PE X (.BinOp a op b pos) (tK G Wx fun ρ S => (A ρ S).bd fun x S => (B ρ S).bd fun y S => o x y S) := (pe_op ho ha hb).im fun _ _ _ q => p2_im q
theorem k_cmp {o : W → W → Store → R W} {op : CmpOp} (ho : OpR X (compareOp op) (rP2 G o)) (ha : PE X a (tK G Wx A)) (hb : PE X b (tK G Wx B)) (hm : behindInMarks op b = false) : PE X (.Compare a [op] [b] pos) (tK G Wx fun ρ S => (A ρ S).bd fun x S => (B ρ S).bd fun y S => o x y S) := (pe_cmpR ho ha hb hm).im fun _ _ _ q => p2_im q
theorem k_cmpB {o : W → W → Store → R W} {op : CmpOp} (ho : OpR X (compareOp op) (rP2 G o)) (ha : PE X a (tK G Wx A)) (hb : PE X b (tK G Wx B)) (hm : behindInMarks op b = false) :
    PT X (.Compare a [op] [b] pos) (tBo G Wx fun ρ S => ((A ρ S).bd fun x S => (B ρ S).bd fun y S => o x y S).bd toB) := k_Bcmp ho ha hb hm fun _ _ _ q => p2_im q
theorem k_neg {o : W → Store → R W} {op : UnaryOp} (ho : UnR X (unaryOp op) (rP1 G o)) (ha : PE X a (tK G Wx A)) : PE X (.UnaryOp op a pos) (tK G Wx fun ρ S => (A ρ S).bd fun x S => o x S) := (pe_un ho ha).im fun _ _ _ q => p1_im q
theorem k_ix {o : W → W → Store → R W} (ho : IxR X (rP2 G o)) (ha : PE X a (tK G Wx A)) (hb : PE X b (tK G Wx B)) (hs : PlainIx b) : PE X (.Subscript a b pos) (tK G Wx fun ρ S => (A ρ S).bd fun x S => (B ρ S).bd fun y S => o x y S) := (pe_ix ho ha hb hs).im fun _ _ _ q => p2_im q

/-! ### tests -/
theorem bd_bd {r : R α} {f : α → Store → R β} {g : β → Store → R γ} : (r.bd f).bd g = r.bd fun a S => (f a S).bd g := by cases r <;> rfl
variable {TA TB : AX Bool}
theorem k_not (ha : PT X a (tBo G Wx TA)) : PT X (.UnaryOp .Not a pos) (tBo G Wx fun ρ S => (TA ρ S).bd fun k S => .ok (!k) S) := (pt_not ha).im fun σ H Q q =>
  tI.bd (F := fun k _ S => .ok (!k) S) q fun φ ρ S b φ1 H1 x S1 R sl e R1 l h => by
    have l' : x = b := l
    subst l'
    exact h.ok e R1 rfl
theorem k_and1 (ha : PT X a (tBo G Wx TA)) : L2.PW X (.BoolOp .And [a] pos) (tBo G Wx TA) := pw_and1 ha
theorem k_or1 (ha : PT X a (tBo G Wx TA)) : L2.PW X (.BoolOp .Or [a] pos) (tBo G Wx TA) := pw_or1 ha
variable {rest : List Expr}
theorem k_and (ha : PT X a (tBo G Wx TA)) (hb : L2.PW X (.BoolOp .And (b :: rest) pos) (tBo G Wx TB)) : L2.PW X (.BoolOp .And (a :: b :: rest) pos) (tBo G Wx fun ρ S => (TA ρ S).bd fun k S => if k = true then TB ρ S else .ok false S) :=
  (pw_and ha hb).im fun σ H Q q => tI.bd (F := fun k ρ S => if k = true then TB ρ S else .ok false S) q fun φ ρ S b φ1 H1 x S1 R sl e R1 l h => by
    have l' : x = b := l
    subst l'
    cases x with
    | true => exact (if_pos rfl).mpr (tI.go R sl e R1 mnB h)
    | false => exact (if_neg Bool.false_ne_true).mpr (h.ok e R1 rfl)
theorem k_or (ha : PT X a (tBo G Wx TA)) (hb : L2.PW X (.BoolOp .Or (b :: rest) pos) (tBo G Wx TB)) : L2.PW X (.BoolOp .Or (a :: b :: rest) pos) (tBo G Wx fun ρ S => (TA ρ S).bd fun k S => if k = true then .ok true S else TB ρ S) :=
  (pw_or ha hb).im fun σ H Q q => tI.bd (F := fun k ρ S => if k = true then .ok true S else TB ρ S) q fun φ ρ S b φ1 H1 x S1 R sl e R1 l h => by
    have l' : x = b := l
    subst l'
    cases x with
    | true => exact (if_pos rfl).mpr (h.ok e R1 rfl)
    | false => exact (if_neg Bool.false_ne_true).mpr (tI.go R sl e R1 mnB h)
/-- as values -/
theorem bl_of {φ φ1 : List Addr} {H H1 : Hp} {w : W} {v : V} {S1 : Store} {xk : XK} {F : Bool → Store → R γ} {Lb : Rl γ δ} {Q : δ → Hp → Prop} (l : RlW G H φ1 H1 w v) (h : Post G Lb φ H ((toB w S1).bd F) xk Q) : ∃ k, w = .val (.bl k) ∧ v = .bl k := by
  cases w with
  | lis ds => exact h.elim
  | val d =>
    cases d with
    | bl k => exact ⟨k, rfl, by have q := l.1; unfold RpW Rp at q; exact q⟩
    | _ => exact h.elim
theorem kv_not (ha : PE X a (tK G Wx A)) : PE X (.UnaryOp .Not a pos) (tK G Wx fun ρ S => ((A ρ S).bd toB).bd fun k S => vv (.bl (!k)) S) := (pe_not ha).im fun σ H Q q => by
  simp only [bd_bd] at q
  refine tI.bd (F := fun w _ S => (toB w S).bd fun k S => vv (.bl (!k)) S) q fun φ ρ S b φ1 H1 x S1 R sl e R1 l h => ?_
  obtain ⟨k, rfl, rfl⟩ := bl_of l h
  exact ⟨k, rfl, h.ok e R1 (rl_val (by unfold Rp; rfl))⟩
theorem kv_and (ha : PE X a (tK G Wx A)) (hb : PE X (.BoolOp .And (b :: rest) pos) (tK G Wx B)) : PE X (.BoolOp .And (a :: b :: rest) pos) (tK G Wx fun ρ S => ((A ρ S).bd toB).bd fun k S => if k = true then B ρ S else vv (.bl false) S) :=
  (pe_and ha hb).im fun σ H Q q => by
  simp only [bd_bd] at q
  refine tI.bd (F := fun w ρ S => (toB w S).bd fun k S => if k = true then B ρ S else vv (.bl false) S) q fun φ ρ S b φ1 H1 x S1 R sl e R1 l h => ?_
  obtain ⟨k, rfl, rfl⟩ := bl_of l h
  refine ⟨k, rfl, ?_⟩
  cases k with
  | true => exact (if_pos rfl).mpr (tI.go R sl e R1 mnW h)
  | false => exact (if_neg Bool.false_ne_true).mpr (h.ok e R1 (rl_val (by unfold Rp; rfl)))
theorem kv_or (ha : PE X a (tK G Wx A)) (hb : PE X (.BoolOp .Or (b :: rest) pos) (tK G Wx B)) : PE X (.BoolOp .Or (a :: b :: rest) pos) (tK G Wx fun ρ S => ((A ρ S).bd toB).bd fun k S => if k = true then vv (.bl true) S else B ρ S) :=
  (pe_or ha hb).im fun σ H Q q => by
  simp only [bd_bd] at q
  refine tI.bd (F := fun w ρ S => (toB w S).bd fun k S => if k = true then vv (.bl true) S else B ρ S) q fun φ ρ S b φ1 H1 x S1 R sl e R1 l h => ?_
  obtain ⟨k, rfl, rfl⟩ := bl_of l h
  refine ⟨k, rfl, ?_⟩
  cases k with
  | true => exact (if_pos rfl).mpr (h.ok e R1 (rl_val (by unfold Rp; rfl)))
  | false => exact (if_neg Bool.false_ne_true).mpr (tI.go R sl e R1 mnW h)
theorem k_ite (hc : PT X c (tBo G Wx TA)) (ha : PE X a (tK G Wx A)) (hb : PE X b (tK G Wx B)) : PE X (.IfExp c a b pos) (tK G Wx fun ρ S => (TA ρ S).bd fun k S => if k = true then A ρ S else B ρ S) :=
  (pe_ifExp hc ha hb).im fun σ H Q q => tI.bd (F := fun k ρ S => if k = true then A ρ S else B ρ S) q fun φ ρ S b φ1 H1 x S1 R sl e R1 l h => by
    have l' : x = b := l
    subst l'
    cases x with
    | true => exact (if_pos rfl).mpr (tI.go R sl e R1 mnW h)
    | false => exact (if_neg Bool.false_ne_true).mpr (tI.go R sl e R1 mnW h)
/-- a op b op' c -/
theorem ch_im {o o' : W → W → Store → R W} {σ : L2.St} {H : Hp} {Q : VK} (q : tK G Wx (fun ρ S => (A ρ S).bd fun x S => (B ρ S).bd fun y S => ((o x y S).bd toB).bd fun k S => if k = true then (C ρ S).bd fun z S => o' y z S else vv (.bl false) S) σ H Q) :
    tChain (rP2 G o) (rP2 G o') (tK G Wx A) (tK G Wx B) (tK G Wx C) σ H Q := by
  refine tI.bd (F := fun x ρ S => (B ρ S).bd fun y S => ((o x y S).bd toB).bd fun k S => if k = true then (C ρ S).bd fun z S => o' y z S else vv (.bl false) S) q fun φ ρ S v φ1 H1 x S1 R sl e R1 l h => ?_
  refine tI.next R sl e R1 h fun u H2 φ2 y S2 e2 R2 l2 h2 => ?_
  have h2 := h2.sh (e.trans e2) R2 mnW
  have e12 := e.trans e2
  simp only [bd_bd] at h2
  refine ⟨φ2, x, y, S2, _, R2, RpW.mono e2 R1 l.1, l2.1, (Post.bd h2).mono fun z H3 hz => ?_⟩
  obtain ⟨φ3, w, S3, _, e3, R3, l3, h3⟩ := hz
  obtain ⟨k, rfl, rfl⟩ := bl_of l3 h3
  refine ⟨k, rfl, ?_⟩
  have h3 : Post G (RlW G) φ2 H2 (if k = true then (C ρ S3).bd fun z S => o' y z S else vv (.bl false) S3) _ Q := h3
  cases k with
  | false => exact (if_neg Bool.false_ne_true).mpr (h3.ok e3 R3 (rl_val (by unfold Rp; rfl)))
  | true =>
    refine (if_pos rfl).mpr (tI.next R2 (sl.mono (e12.toKeep R)) e3 R3 h3 fun z' H4 φ4 z4 S4 e4 R4 l4 h4 => ?_)
    exact ⟨φ4, y, z4, S4, _, R4, RpW.mono (e3.trans e4) R2 l2.1, l4.1, h4.sh (e3.trans e4) R4 mnW⟩
theorem k_ch {o o' : W → W → Store → R W} {op op' : CmpOp} (ho : OpR X (compareOp op) (rP2 G o)) (ho' : OpR X (compareOp op') (rP2 G o')) (ha : PE X a (tK G Wx A)) (hb : PE X b (tK G Wx B)) (hc : PE X c (tK G Wx C)) (hm : lastMarks [op, op'] [b, c] = false) :
    PE X (.Compare a [op, op'] [b, c] pos) (tK G Wx fun ρ S => (A ρ S).bd fun x S => (B ρ S).bd fun y S => ((o x y S).bd toB).bd fun k S => if k = true then (C ρ S).bd fun z S => o' y z S else vv (.bl false) S) := (pe_chain ho ho' ha hb hc hm).im fun _ _ _ q => ch_im q
theorem k_chB {o o' : W → W → Store → R W} {op op' : CmpOp} (ho : OpR X (compareOp op) (rP2 G o)) (ho' : OpR X (compareOp op') (rP2 G o')) (ha : PE X a (tK G Wx A)) (hb : PE X b (tK G Wx B)) (hc : PE X c (tK G Wx C)) (hm : lastMarks [op, op'] [b, c] = false) :
    PT X (.Compare a [op, op'] [b, c] pos) (tBo G Wx fun ρ S => ((A ρ S).bd fun x S => (B ρ S).bd fun y S => ((o x y S).bd toB).bd fun k S => if k = true then (C ρ S).bd fun z S => o' y z S else vv (.bl false) S).bd toB) :=
  (pt_chain ho ho' ha hb hc hm).im fun σ H Q q => ch_im (tI.bd (F := fun w _ S => toB w S) q fun φ ρ S b φ1 H1 x S1 R sl e R1 l h => toB_post e R1 l h)

/-! ### arguments, tuples, lists -/
variable {es : List Expr} {As : AX (List D)} {AD : AX D}
theorem ka_nil : PA X [] (tDs G Wx fun _ S => .ok [] S) := pa_nil.im fun σ H Q ⟨φ, ρ, S, R, sl, q⟩ => q.ok (Ext.refl _ _) R (by show Rps G φ H [] []; unfold Rps; rfl)
theorem ka_cons (ha : PE X e (tD G Wx AD)) (hr : PA X es (tDs G Wx As)) (hs : starEach (e :: es) X.env = (false, eval e X.env) :: starEach es X.env) : PA X (e :: es) (tDs G Wx fun ρ S => (AD ρ S).bd fun d S => (As ρ S).bd fun ds S => .ok (d :: ds) S) :=
  (pa_cons ha hr hs).im fun σ H Q q => tI.bd (F := fun d ρ S => (As ρ S).bd fun ds S => .ok (d :: ds) S) q fun φ ρ S v φ1 H1 x S1 R sl e R1 l h => by
    refine tI.next R sl e R1 h fun us H2 φ2 ds S2 e2 R2 l2 h2 => ?_
    refine h2.ok (e.trans e2) R2 ?_
    show Rps G φ2 H2 (x :: ds) (v :: us)
    unfold Rps
    exact ⟨v, us, rfl, Rp.mono (e2.toKeep R1) _ _ l, l2⟩
theorem Rps.len {φ : List Addr} {H : Hp} : ∀ {ds : List D} {vs : List V}, Rps G φ H ds vs → ds.length = vs.length
  | [], _, h => by unfold Rps at h; subst h; rfl
  | d :: ds, _, h => by
    unfold Rps at h
    obtain ⟨v, r, rfl, _, h2⟩ := h
    rw [List.length_cons, List.length_cons, Rps.len h2]
theorem k_tup {x1} (h : PA X es (tDs G Wx As)) : PE X (.Tuple es x1 pos) (tK G Wx fun ρ S => (As ρ S).bd fun ds S => if ds.length ≤ sizeLine then vv (.tup ds) S else .bad) :=
  (pe_tup h).im fun σ H Q q => tI.bd (F := fun ds _ S => if ds.length ≤ sizeLine then vv (.tup ds) S else .bad) q fun φ ρ S vs φ1 H1 ds S1 R sl e R1 l h => by
    have l : Rps G φ1 H1 ds vs := l
    have hz := l.len
    by_cases c : ds.length ≤ sizeLine
    · rw [if_pos c] at h
      refine ⟨by rw [← hz]; exact c, fun p hp => ?_⟩
      have E := Ext.fresh R1 hp (.tup vs)
      refine h.ok (e.trans E) (R1.fresh hp _) (rl_val ?_)
      unfold Rp
      exact ⟨p, vs, rfl, upd_same, Rps.mono (E.toKeep R1) _ _ l⟩
    · rw [if_neg c] at h
      exact h.elim
theorem k_disp (h : PA X es (tDs G Wx As)) : PE X (.List es pos) (tK G Wx fun ρ S => (As ρ S).bd fun ds S => if ds.length ≤ sizeLine then .ok (.lis ds) S else .bad) :=
  (pe_lst h).im fun σ H Q q => tI.bd (F := fun ds _ S => if ds.length ≤ sizeLine then R.ok (W.lis ds) S else R.bad) q fun φ ρ S vs φ1 H1 ds S1 R sl e R1 l h => by
    have l : Rps G φ1 H1 ds vs := l
    have hz := l.len
    by_cases c : ds.length ≤ sizeLine
    · rw [if_pos c] at h
      refine ⟨by rw [← hz]; exact c, fun p hp => ?_⟩
      have E := Ext.fresh R1 hp (.lst vs)
      exact h.ok (e.trans E) (R1.fresh hp _) ⟨⟨p, vs, rfl, upd_same, R1.unk hp, Rps.mono (E.toKeep R1) _ _ l⟩, fun ds a e1 e2 => by cases e2; exact e.fr R1 _ hp⟩
    · rw [if_neg c] at h
      exact h.elim
end
end Mi

/-! Mi, part D: what is walked, targets, comprehensions. -/
namespace Mi
open PySem L2 PyProof.Rows RT RZ

section
variable (G : Gb)
/-- an iterator that gives these items while the lists stay -/
def ItOk (J : It) (φ0 : List Addr) (H0 : Hp) (I : Its) : Prop := ∀ (i : Nat) (φ : List Addr) (H : Hp) (S : Store), Ext φ0 H0 φ H → Rel G φ H S → isLive I.live S →
  (∀ d, I.items[i]? = some d → J.go i H ∧ ∀ x H3, J.yld i H x H3 → Ext φ H φ H3 ∧ Rel G φ H3 S ∧ Rp G φ H3 d x) ∧ (I.items.length ≤ i → J.stop i H)
def RlI : Rl Its It := fun _ φ H I J => ItOk G J φ H I
abbrev tIts (Wx : WX) (A : AX Its) : TI := tI G Wx (RlI G) A
end
noncomputable def itsA (k : IK) (ws : List W) (S : Store) : R Its := match its k ws S with
  | some I => .ok I S
  | none => .bad

section
variable {G : Gb} {Wx : WX} {X : Cx} {tg e e2 : Expr} {A B : AX W} {pos p : Pos}
theorem Rps.get {φ : List Addr} {H : Hp} : ∀ {ds : List D} {vs : List V} {i : Nat} {d : D}, Rps G φ H ds vs → ds[i]? = some d → ∃ v, vs[i]? = some v ∧ Rp G φ H d v
  | [], _, _, _, _, e => by simp at e
  | d :: ds, _, 0, _, h, e => by
    unfold Rps at h
    obtain ⟨v, r, rfl, h1, h2⟩ := h
    simp at e
    subst e
    exact ⟨v, rfl, h1⟩
  | d :: ds, _, i + 1, _, h, e => by
    unfold Rps at h
    obtain ⟨v, r, rfl, h1, h2⟩ := h
    simp at e
    obtain ⟨w, h3, h4⟩ := Rps.get h2 e
    exact ⟨w, by simpa using h3, h4⟩
/-- what a sequence's items are -/
theorem seq_rp {φ : List Addr} {H : Hp} {S : Store} {w : W} {v : V} {b : Bool} {ds : List D} (R : Rel G φ H S) (r : RpW G φ H w v) (h : w.seq S = some (b, ds)) :
    ∃ a vs, v = .ref a ∧ (if b = true then SqT G.K H a vs else SqL G.K H a vs) ∧ Rps G φ H ds vs := by
  cases w with
  | lis es =>
    have h : some (false, es) = some (b, ds) := h
    cases h
    obtain ⟨a, vs, e, h1, _, h2⟩ := r
    exact ⟨a, vs, e, (if_neg Bool.false_ne_true).mpr (SqL.of h1), h2⟩
  | val d =>
    cases d with
    | tup es =>
      have h : some (true, es) = some (b, ds) := h
      cases h
      unfold RpW Rp at r
      obtain ⟨a, vs, e, h1, h2⟩ := r
      exact ⟨a, vs, e, (if_pos rfl).mpr h1.sq, h2⟩
    | ls es =>
      have h : some (false, es) = some (b, ds) := h
      cases h
      unfold RpW Rp at r
      obtain ⟨a, vs, e, h1, h2⟩ := r
      exact ⟨a, vs, e, (if_neg Bool.false_ne_true).mpr h1.sq, h2⟩
    | kt es =>
      have h : some (true, es) = some (b, ds) := h
      cases h
      unfold RpW Rp at r
      obtain ⟨a, vs, e, h1, h2⟩ := r
      exact ⟨a, vs, e, (if_pos rfl).mpr h1.sq, h2⟩
    | ref n =>
      unfold RpW Rp at r
      obtain ⟨a, e, h1⟩ := r
      unfold W.seq at h
      cases hs : S[n]? with
      | none => simp only [hs] at h; cases h
      | some o =>
        cases o with
        | lst es =>
          simp only [hs] at h
          cases h
          obtain ⟨vs, h2, h3⟩ := R.obj n a _ h1 hs
          exact ⟨a, vs, e, (if_neg Bool.false_ne_true).mpr (SqL.of h2), h3⟩
        | _ => simp only [hs] at h; cases h
    | _ => cases h
/-- a sequence that is walked stays -/
theorem seq_stay {φ φ1 : List Addr} {H H1 : Hp} {S S1 : Store} {w : W} {v : V} {b : Bool} {ds : List D} (R : Rel G φ H S) (r : RpW G φ H w v) (h : w.seq S = some (b, ds)) (e : Ext φ H φ1 H1) (R1 : Rel G φ1 H1 S1) (l : isLive (live1 w ds) S1) :
    w.seq S1 = some (b, ds) := by
  cases w with
  | lis es => exact h
  | val d =>
    cases d with
    | ref n =>
      have q : S1[n]? = some (.lst ds) := l (n, ds) (by show (n, ds) ∈ [(n, ds)]; simp)
      unfold W.seq at h ⊢
      cases hs : S[n]? with
      | none => simp only [hs] at h; cases h
      | some o =>
        cases o with
        | lst es => simp only [hs] at h; cases h; simp only [q]
        | _ => simp only [hs] at h; cases h
    | _ => exact h
theorem sq_uniq {α : Type} {a b : α} {c : Prop} [Decidable c] {P Q : Prop} (h : if c then P else Q) (hc : c) : P := by rw [if_pos hc] at h; exact h
theorem ifF {P Q : Prop} (h : if (false : Bool) = true then P else Q) : Q := by rw [if_neg Bool.false_ne_true] at h; exact h
theorem ifT {P Q : Prop} (h : if (true : Bool) = true then P else Q) : P := by rw [if_pos rfl] at h; exact h
/-- over a list -/
theorem it_list {φ0 : List Addr} {H0 : Hp} {S0 : Store} {w : W} {a : Addr} {ds : List D} (R : Rel G φ0 H0 S0) (r : RpW G φ0 H0 w (.ref a)) (h : w.seq S0 = some (false, ds)) : ItOk G (Itl G.K a) φ0 H0 ⟨ds, live1 w ds⟩ := by
  intro i φ H S e R1 l
  have r1 := RpW.mono e R r
  obtain ⟨a', vs, ea, hq, hr⟩ := seq_rp R1 r1 (seq_stay R r h e R1 l)
  cases ea
  have hq := ifF hq
  refine ⟨fun d hd => ?_, fun hi => ⟨vs, hq, by rw [← hr.len]; exact hi⟩⟩
  obtain ⟨v, hv, rv⟩ := hr.get hd
  refine ⟨⟨vs, v, hq, hv⟩, fun x H3 y => ?_⟩
  obtain ⟨e3, y⟩ := y
  subst e3
  have q := y vs hq
  rw [hv] at q
  cases q
  exact ⟨Ext.refl _ _, R1, rv⟩
theorem it_tup {φ0 : List Addr} {H0 : Hp} {S0 : Store} {w : W} {a : Addr} {ds : List D} (R : Rel G φ0 H0 S0) (r : RpW G φ0 H0 w (.ref a)) (h : w.seq S0 = some (true, ds)) : ItOk G (Itt G.K a) φ0 H0 ⟨ds, live1 w ds⟩ := by
  intro i φ H S e R1 l
  have r1 := RpW.mono e R r
  obtain ⟨a', vs, ea, hq, hr⟩ := seq_rp R1 r1 (seq_stay R r h e R1 l)
  cases ea
  have hq := ifT hq
  refine ⟨fun d hd => ?_, fun hi => ⟨vs, hq, by rw [← hr.len]; exact hi⟩⟩
  obtain ⟨v, hv, rv⟩ := hr.get hd
  refine ⟨⟨vs, v, hq, hv⟩, fun x H3 y => ?_⟩
  obtain ⟨e3, y⟩ := y
  subst e3
  have q := y vs hq
  rw [hv] at q
  cases q
  exact ⟨Ext.refl _ _, R1, rv⟩
theorem it_str {φ0 : List Addr} {H0 : Hp} {z : Str} : ItOk G (L2.Its z) φ0 H0 ⟨z.cps.toList.map fun c => .str ⟨#[c]⟩, []⟩ := by
  intro i φ H S e R1 l
  refine ⟨fun d hd => ?_, fun hi => by show z.cps.size ≤ i; simpa using hi⟩
  simp only [List.getElem?_map, Option.map_eq_some_iff] at hd
  obtain ⟨c, hc, rfl⟩ := hd
  have hc' : z.cps[i]? = some c := by simpa using hc
  refine ⟨(Array.getElem?_eq_some_iff.mp hc').1, fun x H3 y => ?_⟩
  obtain ⟨e3, c', h1, rfl⟩ := y
  subst e3
  rw [hc'] at h1
  cases h1
  exact ⟨Ext.refl _ _, R1, by unfold Rp; rfl⟩
theorem intsD_get {n : Nat} {f : Nat → Int} {i : Nat} {d : D} (h : (intsD n f)[i]? = some d) : i < n ∧ d = .int (f i) := by
  unfold intsD at h
  rw [List.getElem?_map] at h
  by_cases c : i < n
  · rw [List.getElem?_range c] at h
    exact ⟨c, (Option.some.inj h).symm⟩
  · rw [List.getElem?_eq_none (by simpa using c)] at h
    cases h
theorem it_range {φ0 : List Addr} {H0 : Hp} {lo : Int} {n : Nat} {f : Nat → Int} (hf : ∀ i, f i = lo + i) : ItOk G (Itr lo n) φ0 H0 ⟨intsD n f, []⟩ := by
  intro i φ H S e R1 l
  refine ⟨fun d hd => ?_, fun hi => by show n ≤ i; simpa [intsD] using hi⟩
  obtain ⟨h1, rfl⟩ := intsD_get hd
  refine ⟨h1, fun x H3 y => ?_⟩
  obtain ⟨e3, rfl⟩ := y
  subst e3
  exact ⟨Ext.refl _ _, R1, by unfold Rp; rw [hf]⟩
theorem it_rangeC {φ0 : List Addr} {H0 : Hp} {lo c : Int} {n : Nat} : ItOk G (Itc lo c n) φ0 H0 ⟨intsD n fun i => lo + i * c, []⟩ := by
  intro i φ H S e R1 l
  refine ⟨fun d hd => ?_, fun hi => by show n ≤ i; simpa [intsD] using hi⟩
  obtain ⟨h1, rfl⟩ := intsD_get hd
  refine ⟨h1, fun x H3 y => ?_⟩
  obtain ⟨e3, rfl⟩ := y
  subst e3
  exact ⟨Ext.refl _ _, R1, by unfold Rp; rfl⟩

/-! ### the rules: what is known of a value before it is made tells the rule -/
/-- a part whose end is known -/
theorem tI.run {α β γ δ : Type} {L : Rl α β} {Lb : Rl γ δ} {A : AX α} {F : α → Store → Mi.R γ} {σ : L2.St} {H : Hp} {Q : δ → Hp → Prop} {P : Prop} (h : tI G Wx Lb (fun ρ S => (A ρ S).bd F) σ H Q)
    (k : ∀ x S1, (∀ Q' : β → Hp → Prop, (∀ b φ φ1 H1, Ext φ H φ1 H1 → Rel G φ1 H1 S1 → L H φ1 H1 x b → Post G Lb φ H (F x S1) (fun c d H' => Wx c d σ H') Q → Q' b H1) → tI G Wx L A σ H Q') → (∃ φ, Post G Lb φ H (F x S1) (fun c d H' => Wx c d σ H') Q) → P)
    (kx : (∀ Q' : β → Hp → Prop, tI G Wx L A σ H Q') → P) : P := by
  obtain ⟨φ, ρ, S, R, sl, h⟩ := h
  cases q : A ρ S with
  | ok x S1 =>
    simp only [q, Mi.R.bd] at h
    refine k x S1 (fun Q' hq => ⟨φ, ρ, S, R, sl, ?_⟩) ⟨φ, h⟩
    rw [q]
    exact fun b H1 φ1 e R1 l => hq b φ φ1 H1 e R1 l h
  | ex c fs S1 =>
    simp only [q, Mi.R.bd] at h
    refine kx fun Q' => ⟨φ, ρ, S, R, sl, ?_⟩
    rw [q]
    exact h
  | bad =>
    simp only [q, Mi.R.bd] at h
    exact h.elim
theorem seq_ref {S : Store} {w : W} {b : Bool} {ds : List D} (h : w.seq S = some (b, ds)) : (∀ z, w ≠ .val (.str z)) := by
  rintro z rfl
  cases h
theorem its_it {S : Store} {w : W} {b : Bool} {ds : List D} (h : w.seq S = some (b, ds)) : itsA .it [w] S = .ok ⟨ds, live1 w ds⟩ S := by
  unfold itsA
  simp only [its, h]
/-- for x in e -/
theorem ki_it (he : PE X e (tK G Wx A)) (hK : X.K = G.K) : PI X tg e (tIts G Wx fun ρ S => (A ρ S).bd fun w S => itsA .it [w] S) := by
  refine ⟨fun pins s σ H Rr I h => ?_⟩
  refine tI.run (L := RlW G) h (fun x S1 mk post => ?_) fun mk => (pi_list he).run pins s σ H Rr I (mk _)
  obtain ⟨φp, post⟩ := post
  cases hx : x.seq S1 with
  | some bd =>
    obtain ⟨b, ds⟩ := bd
    have hi := its_it hx
    cases b with
    | false =>
      refine (pi_list he).run pins s σ H Rr I (mk _ fun v φ φ1 H1 e R1 l hp => ?_)
      rw [hi] at hp
      obtain ⟨a, vs, ea, hq, hr⟩ := seq_rp R1 l.1 hx
      subst ea
      refine ⟨a, rfl, ⟨vs, by rw [hK]; exact ifF hq⟩, ?_⟩
      rw [hK]
      exact hp.ok e R1 (it_list R1 l.1 hx)
    | true =>
      refine (pi_tup he).run pins s σ H Rr I (mk _ fun v φ φ1 H1 e R1 l hp => ?_)
      rw [hi] at hp
      obtain ⟨a, vs, ea, hq, hr⟩ := seq_rp R1 l.1 hx
      subst ea
      refine ⟨a, rfl, ⟨vs, by rw [hK]; exact ifT hq⟩, ?_⟩
      rw [hK]
      exact hp.ok e R1 (it_tup R1 l.1 hx)
  | none =>
    by_cases hz : ∃ z, x = .val (.str z)
    · obtain ⟨z, rfl⟩ := hz
      refine (pi_str he).run pins s σ H Rr I (mk _ fun v φ φ1 H1 e R1 l hp => ?_)
      refine ⟨z, by have q := l.1; unfold RpW Rp at q; exact q, ?_⟩
      exact Post.ok (L := RlI G) (a := ⟨z.cps.toList.map fun c => .str ⟨#[c]⟩, []⟩) (S' := S1) hp e R1 it_str
    · exfalso
      have q : itsA .it [x] S1 = .bad := by
        unfold itsA
        simp only [its, hx]
        cases x with
        | lis ds => rfl
        | val d =>
          cases d with
          | str z => exact absurd ⟨z, rfl⟩ hz
          | _ => rfl
      rw [q] at post
      exact post
/-- the ends of the rules for calls of range, zip, reversed -/
theorem fits_of {n : Int} (h : fits62 n = true) : -(2 ^ 62) ≤ n ∧ n < 2 ^ 62 := of_decide_eq_true h
theorem rp_int {φ : List Addr} {H : Hp} {i : Int} {v : V} (h : RpW G φ H (.val (.int i)) v) : v = .int i := by unfold RpW Rp at h; exact h
theorem ki_rng1 (hg : Gl X "range") (hm : X.mg "range" = none) (he : PE X e (tK G Wx A)) (hs : starEach [e] X.env = [(false, eval e X.env)]) : PI X tg (.Call (.Name "range" p) [e] [] pos) (tIts G Wx fun ρ S => (A ρ S).bd fun w S => itsA .rng1 [w] S) := by
  refine ⟨fun pins s σ H Rr I h => ?_⟩
  have rule := pi_range1 (tg := tg) (p := p) (pos := pos) hg hm (pa_cons he pa_nil hs) hs
  refine rule.run pins s σ H Rr I ?_
  refine tI.bd (F := fun w _ S => itsA .rng1 [w] S) h fun φ ρ S v φ1 H1 x S1 R sl e R1 l hp => ?_
  cases x with
  | lis ds => exact hp.elim
  | val d =>
    cases d with
    | int n =>
      by_cases c : fits62 n = true
      · obtain ⟨f1, f2⟩ := fits_of c
        have q : itsA .rng1 [.val (.int n)] S1 = .ok ⟨intsD n.toNat fun i => (i : Int), []⟩ S1 := by
          unfold itsA
          simp only [its, if_pos c]
        rw [q] at hp
        have ev := rp_int l.1
        subst ev
        exact ⟨n, rfl, f1, f2, hp.ok e R1 (it_range fun i => by omega)⟩
      · exfalso
        have q : itsA .rng1 [.val (.int n)] S1 = .bad := by
          unfold itsA
          simp only [its, if_neg c]
        rw [q] at hp
        exact hp
    | _ => exact hp.elim
theorem ki_rng2 (hg : Gl X "range") (hm : X.mg "range" = none) (he : PE X e (tK G Wx A)) (he2 : PE X e2 (tK G Wx B)) (hs : starEach [e, e2] X.env = [(false, eval e X.env), (false, eval e2 X.env)]) (hs2 : starEach [e2] X.env = [(false, eval e2 X.env)]) :
    PI X tg (.Call (.Name "range" p) [e, e2] [] pos) (tIts G Wx fun ρ S => (A ρ S).bd fun w S => (B ρ S).bd fun w2 S => itsA .rng2 [w, w2] S) := by
  refine ⟨fun pins s σ H Rr I h => ?_⟩
  have rule := pi_range2 (tg := tg) (p := p) (pos := pos) hg hm (pa_cons he (pa_cons he2 pa_nil hs2) (by rw [hs, hs2])) hs hs2
  refine rule.run pins s σ H Rr I ?_
  refine tI.bd (F := fun w ρ S => (B ρ S).bd fun w2 S => itsA .rng2 [w, w2] S) h fun φ ρ S v φ1 H1 x S1 R sl e R1 l hp => ?_
  refine tI.next R sl e R1 hp fun u H2 φ2 y S2 e2 R2 l2 h2 => ?_
  have bad : itsA .rng2 [x, y] S2 = .bad → False := fun q => by rw [q] at h2; exact h2
  have l1 := RpW.mono e2 R1 l.1
  cases x with
  | lis ds => exact (bad rfl).elim
  | val d =>
    cases y with
    | lis ds => exact (bad (by cases d <;> rfl)).elim
    | val d2 =>
      cases d with
      | int n =>
        cases d2 with
        | int m =>
          by_cases c : (fits62 n && fits62 m) = true
          · obtain ⟨c1, c2⟩ := Bool.and_eq_true_iff.mp c
            obtain ⟨f1, f2⟩ := fits_of c1
            obtain ⟨g1, g2⟩ := fits_of c2
            have q : itsA .rng2 [.val (.int n), .val (.int m)] S2 = .ok ⟨intsD (m - n).toNat fun i => n + i, []⟩ S2 := by
              unfold itsA
              simp only [its, if_pos c]
            rw [q] at h2
            have ev := rp_int l1
            have eu := rp_int l2.1
            subst ev; subst eu
            exact ⟨n, m, rfl, ⟨f1, f2, g1, g2⟩, h2.ok (e.trans e2) R2 (it_range fun i => rfl)⟩
          · exact (bad (by unfold itsA; simp only [its, if_neg c])).elim
        | _ => exact (bad rfl).elim
      | _ => exact (bad (by cases d2 <;> rfl)).elim
theorem small_of {a b c : Int} (ha : fits62 a = true) (hb : fits62 b = true) (h0 : 0 < c) (h1 : c < 1073741824) : RgC a b c (steps a b c) := by
  obtain ⟨f1, f2⟩ := fits_of ha
  obtain ⟨g1, g2⟩ := fits_of hb
  have e : Builtin.Range.rangeSize a b c = (steps a b c : Nat) := by
    unfold Builtin.Range.rangeSize steps
    rw [if_pos (show c > 0 from h0)]
    by_cases q : a < b
    · rw [if_pos q, if_pos q]
      have : 0 ≤ (b - a - 1) / c := Int.ediv_nonneg (by omega) (by omega)
      omega
    · rw [if_neg q, if_neg q]; try rfl
  refine ⟨by omega, by omega, ?_, e⟩
  unfold Builtin.Range.small
  rw [e]
  have hs : (steps a b c : Int) < 2 ^ 63 := by
    unfold steps
    by_cases q : a < b
    · rw [if_pos q]
      have h1 := Int.ediv_le_self c (show 0 ≤ b - a - 1 by omega)
      have h2 : 0 ≤ (b - a - 1) / c := Int.ediv_nonneg (by omega) (by omega)
      omega
    · rw [if_neg q]; decide
  simp only [Builtin.Range.rangeFitsLong, Bool.and_eq_true, Bool.or_eq_true, decide_eq_true_eq, beq_iff_eq, if_pos (show c > 0 from h0)]
  omega
theorem items_rev {ds : List D} {i : Nat} {d : D} (h : ds.reverse[i]? = some d) : i < ds.length ∧ ds[ds.length - 1 - i]? = some d := by
  have hi : i < ds.length := by simpa using (List.getElem?_eq_some_iff.mp h).1
  refine ⟨hi, ?_⟩
  rw [List.getElem?_reverse hi] at h
  exact h
theorem ki_rev (hg : Gl X "reversed") (hm : X.mg "reversed" = none) (he : PE X e (tK G Wx A)) (hK : X.K = G.K) (hs : starEach [e] X.env = (false, eval e X.env) :: starEach [] X.env) :
    PI X tg (.Call (.Name "reversed" p) [e] [] pos) (tIts G Wx fun ρ S => (A ρ S).bd fun w S => itsA .rev [w] S) := by
  refine ⟨fun pins s σ H Rr I h => ?_⟩
  refine (pi_revA (tg := tg) (p := p) (pos := pos) hg hm he hs).run pins s σ H Rr I ?_
  refine tI.bd (F := fun w _ S => itsA .rev [w] S) h fun φ ρ S v φ1 H1 x S1 R sl e R1 l hp => ?_
  cases hx : x.seq S1 with
  | none =>
    exfalso
    have q : itsA .rev [x] S1 = .bad := by
      unfold itsA
      simp only [its, hx]
    rw [q] at hp
    exact hp
  | some bd =>
    obtain ⟨b, ds⟩ := bd
    have q : itsA .rev [x] S1 = .ok ⟨ds.reverse, live1 x ds⟩ S1 := by
      unfold itsA
      simp only [its, hx]
    rw [q] at hp
    obtain ⟨a, vs, rfl, hq, hr⟩ := seq_rp R1 l.1 hx
    rw [hK]
    refine ⟨a, vs, rfl, ?_⟩
    cases b with
    | false =>
      refine .inl ⟨ifF hq, hp.ok e R1 ?_⟩
      intro i φ' H' S' e' R' l'
      obtain ⟨a', ws, ea, hq', hr'⟩ := seq_rp R' (RpW.mono e' R1 l.1) (seq_stay R1 l.1 hx e' R' l')
      cases ea
      have hq' := ifF hq'
      have hl : ws.length = vs.length := by rw [← hr'.len, ← hr.len]
      refine ⟨fun d hd => ?_, fun hi => by show vs.length ≤ i; rw [← hr.len]; simpa using hi⟩
      obtain ⟨hi, hd⟩ := items_rev hd
      obtain ⟨w, hw, rw'⟩ := hr'.get hd
      rw [hr.len] at hi hw
      refine ⟨⟨hi, ws, w, hq', hw⟩, fun x H3 y => ?_⟩
      obtain ⟨e3, y⟩ := y
      subst e3
      have q := y ws hq'
      rw [hw] at q
      cases q
      exact ⟨Ext.refl _ _, R', rw'⟩
    | true =>
      refine .inr ⟨ifT hq, hp.ok e R1 ?_⟩
      intro i φ' H' S' e' R' l'
      obtain ⟨a', ws, ea, hq', hr'⟩ := seq_rp R' (RpW.mono e' R1 l.1) (seq_stay R1 l.1 hx e' R' l')
      cases ea
      have hq' := ifT hq'
      have hl : ws.length = vs.length := by rw [← hr'.len, ← hr.len]
      refine ⟨fun d hd => ?_, fun hi => by show vs.length ≤ i; rw [← hr.len]; simpa using hi⟩
      obtain ⟨hi, hd⟩ := items_rev hd
      obtain ⟨w, hw, rw'⟩ := hr'.get hd
      rw [hr.len] at hi hw
      refine ⟨⟨hi, ws, w, hq', hw⟩, fun x H3 y => ?_⟩
      obtain ⟨e3, y⟩ := y
      subst e3
      have q := y ws hq'
      rw [hw] at q
      cases q
      exact ⟨Ext.refl _ _, R', rw'⟩
theorem ki_rng3 {e3 : Expr} {Cc : AX W} (hg : Gl X "range") (hm : X.mg "range" = none) (he : PE X e (tK G Wx A)) (he2 : PE X e2 (tK G Wx B)) (he3 : PE X e3 (tK G Wx Cc))
    (hs : starEach [e, e2, e3] X.env = (false, eval e X.env) :: starEach [e2, e3] X.env) (hs2 : starEach [e2, e3] X.env = (false, eval e2 X.env) :: starEach [e3] X.env) (hs3 : starEach [e3] X.env = (false, eval e3 X.env) :: starEach [] X.env)
    (hpl : (backTo pos (starEach [e2, e3] X.env)).any (·.1) = false) :
    PI X tg (.Call (.Name "range" p) [e, e2, e3] [] pos) (tIts G Wx fun ρ S => (A ρ S).bd fun w S => (B ρ S).bd fun w2 S => (Cc ρ S).bd fun w3 S => itsA .rng3 [w, w2, w3] S) := by
  refine ⟨fun pins s σ H Rr I h => ?_⟩
  have rule := pi_range3 (tg := tg) (p := p) (pos := pos) hg hm (pa_cons he (pa_cons he2 (pa_cons he3 pa_nil hs3) hs2) hs) hs hpl
  refine rule.run pins s σ H Rr I ?_
  refine tI.bd (F := fun w ρ S => (B ρ S).bd fun w2 S => (Cc ρ S).bd fun w3 S => itsA .rng3 [w, w2, w3] S) h fun φ ρ S v φ1 H1 x S1 R sl e R1 l hp => ?_
  refine tI.next R sl e R1 hp fun u H2 φ2 y S2 e2 R2 l2 h2 => ?_
  refine tI.next R sl (e.trans e2) R2 h2 fun t H3 φ3 z S3 e3 R3 l3 h3 => ?_
  have bad : itsA .rng3 [x, y, z] S3 = .bad → False := fun q => by rw [q] at h3; exact h3
  have l1 := RpW.mono (e2.trans e3) R1 l.1
  have l2' := RpW.mono e3 R2 l2.1
  by_cases hx : ∃ i j k, x = .val (.int i) ∧ y = .val (.int j) ∧ z = .val (.int k)
  · obtain ⟨i, j, k, rfl, rfl, rfl⟩ := hx
    by_cases c : (fits62 i && fits62 j && decide (0 < k ∧ k < 1073741824)) = true
    · obtain ⟨c12, c3⟩ := Bool.and_eq_true_iff.mp c
      obtain ⟨c1, c2⟩ := Bool.and_eq_true_iff.mp c12
      obtain ⟨k0, k1⟩ := of_decide_eq_true c3
      have q : itsA .rng3 [.val (.int i), .val (.int j), .val (.int k)] S3 = .ok ⟨intsD (steps i j k) fun n => i + n * k, []⟩ S3 := by
        unfold itsA
        simp only [its, if_pos c]
      rw [q] at h3
      have e1 := rp_int l1
      have e2' := rp_int l2'
      have e3' := rp_int l3.1
      subst e1; subst e2'; subst e3'
      exact ⟨i, j, k, steps i j k, rfl, small_of c1 c2 k0 k1, h3.ok ((e.trans e2).trans e3) R3 it_rangeC⟩
    · exact (bad (by unfold itsA; simp only [its, if_neg c])).elim
  · refine (bad ?_).elim
    unfold itsA
    have q : its .rng3 [x, y, z] S3 = none := by
      unfold its
      dsimp only
      split
      · rename_i i j k q
        obtain ⟨q1, q2⟩ := List.cons.inj q
        obtain ⟨q2, q3⟩ := List.cons.inj q2
        obtain ⟨q3, _⟩ := List.cons.inj q3
        exact absurd ⟨i, j, k, q1, q2, q3⟩ hx
      · rfl
    rw [q]
theorem live_app {l l' : List (Nat × List D)} {S : Store} (h : isLive (l ++ l') S) : isLive l S ∧ isLive l' S := ⟨fun p hp => h p (List.mem_append_left _ hp), fun p hp => h p (List.mem_append_right _ hp)⟩
theorem zip_get {ds es : List D} {i : Nat} {d : D} (h : ((ds.zip es).map fun p => D.tup [p.1, p.2])[i]? = some d) : ∃ x y, ds[i]? = some x ∧ es[i]? = some y ∧ d = .tup [x, y] := by
  rw [List.getElem?_map] at h
  cases q : (ds.zip es)[i]? with
  | none => rw [q] at h; cases h
  | some p =>
    rw [q] at h
    cases h
    obtain ⟨x, y⟩ := p
    rw [List.getElem?_zip_eq_some] at q
    exact ⟨x, y, q.1, q.2, rfl⟩
theorem rp_pair {φ : List Addr} {H : Hp} {S : Store} {x y : D} {v w : V} {T : Addr} (R : Rel G φ H S) (hT : H T = none) (h1 : Rp G φ H x v) (h2 : Rp G φ H y w) :
    Ext φ H φ (upd H T (.tup [v, w])) ∧ Rel G φ (upd H T (.tup [v, w])) S ∧ Rp G φ (upd H T (.tup [v, w])) (.tup [x, y]) (.ref T) := by
  have E := Ext.fresh R hT (.tup [v, w])
  refine ⟨E, R.fresh hT _, ?_⟩
  have k := E.toKeep R
  unfold Rp
  refine ⟨T, [v, w], rfl, upd_same, ?_⟩
  unfold Rps
  refine ⟨v, [w], rfl, Rp.mono k _ _ h1, ?_⟩
  unfold Rps
  refine ⟨w, [], rfl, Rp.mono k _ _ h2, ?_⟩
  unfold Rps
  rfl
theorem ki_zip {tpos : Pos} {elts : List Expr} {kk : Nat} (hg : Gl X "zip") (hm : X.mg "zip" = none) (he : PE X e (tK G Wx A)) (he2 : PE X e2 (tK G Wx B)) (hK : X.K = G.K) (hs : starEach [e, e2] X.env = (false, eval e X.env) :: starEach [e2] X.env)
    (hs2 : starEach [e2] X.env = (false, eval e2 X.env) :: starEach [] X.env) (hpl : (backTo pos (starEach [e2] X.env)).any (·.1) = false) :
    PI X (.Tuple elts kk tpos) (.Call (.Name "zip" p) [e, e2] [] pos) (tIts G Wx fun ρ S => (A ρ S).bd fun w S => (B ρ S).bd fun w2 S => itsA .zip [w, w2] S) := by
  refine ⟨fun pins s σ H Rr I h => ?_⟩
  refine (pi_zipA (p := p) (pos := pos) (tpos := tpos) (elts := elts) (kk := kk) hg hm (pa_cons he (pa_cons he2 pa_nil hs2) hs) hs hpl).run pins s σ H Rr I ?_
  refine tI.bd (F := fun w ρ S => (B ρ S).bd fun w2 S => itsA .zip [w, w2] S) h fun φ ρ S v φ1 H1 x S1 R sl e R1 l hp => ?_
  refine tI.next R sl e R1 hp fun u H2 φ2 y S2 e2 R2 l2 h2 => ?_
  have l1 := RpW.mono e2 R1 l.1
  have bad : itsA .zip [x, y] S2 = .bad → False := fun q => by rw [q] at h2; exact h2
  cases hx : x.seq S2 with
  | none => exact (bad (by unfold itsA; simp only [its, hx])).elim
  | some bd =>
    obtain ⟨b, ds⟩ := bd
    cases hy : y.seq S2 with
    | none => exact (bad (by unfold itsA; simp only [its, hx, hy])).elim
    | some bd' =>
      obtain ⟨b', es⟩ := bd'
      by_cases hb : b = b'
      · subst hb
        have q : itsA .zip [x, y] S2 = .ok ⟨(ds.zip es).map fun p => .tup [p.1, p.2], live1 x ds ++ live1 y es⟩ S2 := by
          unfold itsA
          simp only [its, hx, hy, if_pos]
        rw [q] at h2
        obtain ⟨a, vs, rfl, hq, hr⟩ := seq_rp R2 l1 hx
        obtain ⟨a', ws, rfl, hq', hr'⟩ := seq_rp R2 l2.1 hy
        rw [hK]
        refine ⟨a, a', vs, ws, rfl, ?_⟩
        cases b with
        | false =>
          refine .inl ⟨ifF hq, ifF hq', h2.ok (e.trans e2) R2 ?_⟩
          intro i φ' H' S' e' R' l'
          obtain ⟨lx, ly⟩ := live_app l'
          obtain ⟨c, vs', ec, hv, hrv⟩ := seq_rp R' (RpW.mono e' R2 l1) (seq_stay R2 l1 hx e' R' lx)
          cases ec
          obtain ⟨c, ws', ec, hw, hrw⟩ := seq_rp R' (RpW.mono e' R2 l2.1) (seq_stay R2 l2.1 hy e' R' ly)
          cases ec
          have hv := ifF hv
          have hw := ifF hw
          refine ⟨fun d hd => ?_, fun hi => ⟨vs', ws', hv, hw, ?_⟩⟩
          · obtain ⟨d1, d2, g1, g2, rfl⟩ := zip_get hd
            obtain ⟨v1, gv, rv⟩ := hrv.get g1
            obtain ⟨w1, gw, rw'⟩ := hrw.get g2
            refine ⟨⟨vs', ws', v1, w1, hv, hw, gv, gw⟩, fun x' H3 yd => ?_⟩
            obtain ⟨T, x1, y1, rfl, hT, rfl, f1, f2⟩ := yd
            have f1 := f1 vs' hv
            have f2 := f2 ws' hw
            rw [gv] at f1; cases f1
            rw [gw] at f2; cases f2
            exact rp_pair R' hT rv rw'
          · rw [← hrv.len, ← hrw.len]
            have hi : (((ds.zip es).map fun p => D.tup [p.1, p.2]).length) ≤ i := hi
            rw [List.length_map, List.length_zip] at hi
            omega
        | true =>
          refine .inr ⟨ifT hq, ifT hq', h2.ok (e.trans e2) R2 ?_⟩
          intro i φ' H' S' e' R' l'
          obtain ⟨lx, ly⟩ := live_app l'
          obtain ⟨c, vs', ec, hv, hrv⟩ := seq_rp R' (RpW.mono e' R2 l1) (seq_stay R2 l1 hx e' R' lx)
          cases ec
          obtain ⟨c, ws', ec, hw, hrw⟩ := seq_rp R' (RpW.mono e' R2 l2.1) (seq_stay R2 l2.1 hy e' R' ly)
          cases ec
          have hv := ifT hv
          have hw := ifT hw
          refine ⟨fun d hd => ?_, fun hi => ⟨vs', ws', hv, hw, ?_⟩⟩
          · obtain ⟨d1, d2, g1, g2, rfl⟩ := zip_get hd
            obtain ⟨v1, gv, rv⟩ := hrv.get g1
            obtain ⟨w1, gw, rw'⟩ := hrw.get g2
            refine ⟨⟨vs', ws', v1, w1, hv, hw, gv, gw⟩, fun x' H3 yd => ?_⟩
            obtain ⟨T, x1, y1, rfl, hT, rfl, f1, f2⟩ := yd
            have f1 := f1 vs' hv
            have f2 := f2 ws' hw
            rw [gv] at f1; cases f1
            rw [gw] at f2; cases f2
            exact rp_pair R' hT rv rw'
          · rw [← hrv.len, ← hrw.len]
            have hi : (((ds.zip es).map fun p => D.tup [p.1, p.2]).length) ≤ i := hi
            rw [List.length_map, List.length_zip] at hi
            omega
      · exact (bad (by unfold itsA; simp only [its, hx, hy, if_neg hb])).elim
theorem ki_enm {tpos : Pos} {elts : List Expr} {kk : Nat} (hg : Gl X "enumerate") (hm : X.mg "enumerate" = none) (he : PE X e (tK G Wx A)) (hK : X.K = G.K) (hs : starEach [e] X.env = [(false, eval e X.env)]) :
    PI X (.Tuple elts kk tpos) (.Call (.Name "enumerate" p) [e] [] pos) (tIts G Wx fun ρ S => (A ρ S).bd fun w S => itsA .enm [w] S) := by
  refine ⟨fun pins s σ H Rr I h => ?_⟩
  refine (pi_enum (p := p) (pos := pos) (tpos := tpos) (elts := elts) (kk := kk) hg hm (pa_cons he pa_nil hs) hs).run pins s σ H Rr I ?_
  refine tI.bd (F := fun w _ S => itsA .enm [w] S) h fun φ ρ S v φ1 H1 x S1 R sl e R1 l hp => ?_
  have bad : itsA .enm [x] S1 = .bad → False := fun q => by rw [q] at hp; exact hp
  cases hx : x.seq S1 with
  | none => exact (bad (by unfold itsA; simp only [its, hx])).elim
  | some bd =>
    obtain ⟨b, ds⟩ := bd
    cases b with
    | true => exact (bad (by unfold itsA; simp only [its, hx])).elim
    | false =>
      have q : itsA .enm [x] S1 = .ok ⟨ds.zipIdx.map fun q => .tup [.int q.2, q.1], live1 x ds⟩ S1 := by
        unfold itsA
        simp only [its, hx]
      rw [q] at hp
      obtain ⟨a, vs, rfl, hq, hr⟩ := seq_rp R1 l.1 hx
      rw [hK]
      refine ⟨a, vs, rfl, ifF hq, hp.ok e R1 ?_⟩
      intro i φ' H' S' e' R' l'
      obtain ⟨c, vs', ec, hv, hrv⟩ := seq_rp R' (RpW.mono e' R1 l.1) (seq_stay R1 l.1 hx e' R' l')
      cases ec
      have hv := ifF hv
      refine ⟨fun d hd => ?_, fun hi => ⟨vs', hv, ?_⟩⟩
      · have hd : (ds.zipIdx.map fun q => D.tup [.int q.2, q.1])[i]? = some d := hd
        rw [List.getElem?_map, List.getElem?_zipIdx] at hd
        cases g : ds[i]? with
        | none => rw [g] at hd; cases hd
        | some d1 =>
          rw [g] at hd
          cases hd
          obtain ⟨v1, gv, rv⟩ := hrv.get g
          refine ⟨⟨vs', v1, hv, gv⟩, fun x' H3 yd => ?_⟩
          obtain ⟨T, x1, rfl, hT, rfl, f1⟩ := yd
          have f1 := f1 vs' hv
          rw [gv] at f1; cases f1
          have := rp_pair (x := .int ((0 + i : Nat) : Int)) R' hT (by unfold Rp; rfl) rv
          simpa using this
      · have hi : (ds.zipIdx.map fun q => D.tup [.int q.2, q.1]).length ≤ i := hi
        rw [← hrv.len]
        simpa using hi
end
end Mi

/-! Mi, part E: targets, comprehensions, statements. -/
namespace Mi
open PySem L2 PyProof.Rows RT RZ

/-! ### targets -/
def gNames : List Nat → TGs
  | [] => gNil
  | i :: is => gCons (gName i) (gNames is)
def gTg (K : PySem.W.Frag) : Tg → TG
  | .nm i => gName i
  | .tp is => gTup K is.length (gNames is)
def Tg.slots : Tg → List Nat
  | .nm i => [i]
  | .tp is => is
theorem wipe_in {σ : L2.St} {i : Nat} : ∀ {vs : List Nat}, i ∈ vs → i < σ.length → (L2.wipe σ vs)[i]? = some none
  | [], h, _ => nomatch h
  | v :: vs, h, hl => by
    unfold L2.wipe
    by_cases e : v = i
    · subst e
      rw [List.getElem?_set_self (by rw [L2.wipe_length]; exact hl)]
    · rw [List.getElem?_set_ne e]
      rcases List.mem_cons.mp h with q | q
      · exact absurd q.symm e
      · exact wipe_in q hl
theorem wipe_eq {σ τ : L2.St} {vs : List Nat} (hl : σ.length = τ.length) (h : ∀ i, i ∉ vs → σ[i]? = τ[i]?) : L2.wipe σ vs = L2.wipe τ vs := by
  refine List.ext_getElem? fun i => ?_
  by_cases hi : i ∈ vs
  · by_cases hn : i < σ.length
    · rw [wipe_in hi hn, wipe_in hi (by rw [← hl]; exact hn)]
    · rw [List.getElem?_eq_none (by rw [L2.wipe_length]; omega), List.getElem?_eq_none (by rw [L2.wipe_length]; omega)]
  · rw [L2.wipe_out hi, L2.wipe_out hi]
    exact h i hi
section
variable {G : Gb} {φ : List Addr} {H : Hp} {S : Store} {ρ ρ' : Env} {σ : L2.St}
theorem Sl.wipe (h : Sl G φ H ρ σ) : ∀ vs : List Nat, Sl G φ H (wipeD ρ vs) (L2.wipe σ vs)
  | [] => h
  | v :: vs => (Sl.wipe h vs).unset v
/-- slots that may differ -/
def Near (is : List Nat) (σ τ : L2.St) : Prop := σ.length = τ.length ∧ ∀ i, i ∉ is → σ[i]? = τ[i]?
theorem Near.refl (is : List Nat) (σ : L2.St) : Near is σ σ := ⟨rfl, fun _ _ => rfl⟩
theorem Near.set {is : List Nat} {σ τ : L2.St} (h : Near is σ τ) {i : Nat} (hi : i ∈ is) (o : Option V) : Near is (σ.set i o) τ := ⟨by rw [List.length_set]; exact h.1, fun j hj => by
  have hne : i ≠ j := fun e => hj (by rw [← e]; exact hi)
  rw [List.getElem?_set_ne hne]
  exact h.2 j hj⟩
theorem names_im {τ : L2.St} {all : List Nat} {Q : L2.St → Hp → Prop} : ∀ {is : List Nat} {ds : List D} {vs : List V} {ρ ρ' : Env} {σ : L2.St}, bindTs is ds ρ = some ρ' → (∀ i ∈ is, i ∈ all) → Near all σ τ → Sl G φ H ρ σ → Rps G φ H ds vs →
    (∀ σ', Sl G φ H ρ' σ' → Near all σ' τ → Q σ' H) → gNames is vs σ H Q
  | [], [], vs, ρ, ρ', σ, h, _, n, sl, r, k => by
    unfold bindTs at h
    cases h
    unfold Rps at r
    exact ⟨r, k σ sl n⟩
  | [], d :: ds, vs, ρ, ρ', σ, h, _, n, sl, r, k => by
    unfold bindTs at h
    cases h
  | i :: is, [], vs, ρ, ρ', σ, h, _, n, sl, r, k => by
    unfold bindTs at h
    cases h
  | i :: is, d :: ds, vs, ρ, ρ', σ, h, m, n, sl, r, k => by
    unfold bindTs at h
    unfold Rps at r
    obtain ⟨v, rr, rfl, r1, r2⟩ := r
    exact ⟨v, rr, rfl, names_im h (fun j hj => m j (List.mem_cons_of_mem _ hj)) (n.set (m i List.mem_cons_self) _) (sl.set i r1) r2 k⟩
theorem bindTs_len : ∀ {is : List Nat} {ds : List D} {ρ ρ' : Env}, bindTs is ds ρ = some ρ' → is.length = ds.length
  | [], [], _, _, _ => rfl
  | [], _ :: _, _, _, h => by unfold bindTs at h; cases h
  | _ :: _, [], _, _, h => by unfold bindTs at h; cases h
  | i :: is, d :: ds, ρ, ρ', h => by
    unfold bindTs at h
    rw [List.length_cons, List.length_cons, bindTs_len h]
theorem tg_im {t : Tg} {d : D} {x : V} {Q : L2.St → Hp → Prop} (h : bindTg t d ρ = some ρ') (R : Rel G φ H S) (sl : Sl G φ H ρ σ) (r : Rp G φ H d x) (k : ∀ σ', Sl G φ H ρ' σ' → Near t.slots σ' σ → Q σ' H) : gTg G.K t x σ H Q := by
  cases t with
  | nm i =>
    cases h
    exact k _ (sl.set i r) ((Near.refl _ _).set (List.mem_singleton.mpr rfl) _)
  | tp is =>
    cases d with
    | tup ds =>
      have h : bindTs is ds ρ = some ρ' := h
      unfold Rp at r
      obtain ⟨a, vs, rfl, ha, hr⟩ := r
      exact ⟨a, vs, rfl, ha.sq, by rw [← hr.len, bindTs_len h], names_im h (fun _ m => m) (Near.refl _ _) sl hr k⟩
    | _ => cases h
end

/-! ### comprehensions -/
section
variable {G : Gb} {Wx : WX} {X : Cx}
def WxF : WX := fun _ _ _ _ => False
/-- what a block's raises wish -/
def WxB : Bool → WX → L2.St → WX
  | true, W, σ => fun c d _ H => W c d σ H
  | false, _, _ => WxF
/-- a list of ours, known by no place, is changed -/
theorem own_keep {φ : List Addr} {H : Hp} {D : Addr} {vs : List V} {o : HO} (hD : H D = some (.lst vs)) : Keep φ H φ (upd H D o) := by
  refine ⟨fun _ _ h => h, fun a xs h => ?_, fun a o x h => ?_⟩
  · rw [upd_ne]
    · exact h
    · rintro rfl; rw [hD] at h; cases h
  · rw [upd_ne]
    · exact h
    · rintro rfl; rw [hD] at h; cases h
theorem own_rel {φ : List Addr} {H : Hp} {S : Store} {D : Addr} {vs : List V} {o : HO} (R : Rel G φ H S) (hD : H D = some (.lst vs)) (n : D ∉ φ) : Rel G φ (upd H D o) S :=
  ⟨R.len, R.nd, fun m a u h1 h2 => RpO.mono (own_keep hD) (R.obj m a u h1 h2) (upd_ne fun e => n (e ▸ List.mem_of_getElem? h1))⟩
theorem own_ext {φ φ1 : List Addr} {H H1 : Hp} {D : Addr} {o : HO} (e : Ext φ H φ1 H1) (hD : H D = none) : Ext φ H φ1 (upd H1 D o) :=
  ⟨e.pre, fun a u h n => by
    rw [upd_ne (ne_of_none h hD)]
    exact e.keep a u h n, e.new⟩
theorem Rps.snoc {φ : List Addr} {H : Hp} {d : D} {v : V} : ∀ {ds : List D} {vs : List V}, Rps G φ H ds vs → Rp G φ H d v → Rps G φ H (ds ++ [d]) (vs ++ [v])
  | [], _, h, r => by
    unfold Rps at h
    subst h
    show Rps G φ H [d] [v]
    unfold Rps
    refine ⟨v, [], rfl, r, ?_⟩
    unfold Rps
    rfl
  | e :: ds, _, h, r => by
    unfold Rps at h
    obtain ⟨w, t, rfl, h1, h2⟩ := h
    show Rps G φ H (e :: (ds ++ [d])) (w :: (t ++ [v]))
    unfold Rps
    exact ⟨w, t ++ [v], rfl, h1, Rps.snoc h2 r⟩

noncomputable def turnA (xb : Bool) (t : Tg) (own : List Nat) (TC : AX Bool) (AD : AX D) (ρ : Env) (d : D) (S : Store) : Mi.R (Option D) := match bindTg t d (wipeD ρ own) with
  | some ρ' => ((TC ρ' S).noxB xb).bd fun b S => if b = true then ((AD ρ' S).noxB xb).bd fun d S => .ok (some d) S else .ok none S
  | none => .bad
noncomputable def compA (xb : Bool) (t : Tg) (own : List Nat) (IA : AX Its) (TC : AX Bool) (AD : AX D) : AX W := fun ρ S => (IA ρ S).bd fun I S => (compL I.live (turnA xb t own TC AD ρ) I.items S []).bd fun ds S => .ok (.lis ds) S
theorem comp_im {xb : Bool} {t : Tg} {own : List Nat} {IA : AX Its} {TC : AX Bool} {AD : AX D} {σ : L2.St} {H : Hp} {Q : VK} (hown : ∀ i ∈ t.slots, i ∈ own) (h : tK G Wx (compA xb t own IA TC AD) σ H Q) :
    tLc (tIts G Wx IA) (gTg G.K t) (tBo G (WxB xb Wx σ) TC) (tD G (WxB xb Wx σ) AD) own σ H Q := by
  refine tI.bd (F := fun I ρ S => (compL I.live (turnA xb t own TC AD ρ) I.items S []).bd fun ds S => Mi.R.ok (W.lis ds) S) h fun φ ρ S J φ1 H1 I S1 R sl e R1 l h => ?_
  intro Da hDn
  have l : ItOk G J φ1 H1 I := l
  refine ⟨fun i m H' => m = I.items.length - i ∧ i ≤ I.items.length ∧ ∃ φ' S' acc vs, Ext φ1 H1 φ' H' ∧ Rel G φ' H' S' ∧ Sl G φ' H' ρ σ ∧ H' Da = some (.lst vs) ∧ Da ∉ φ' ∧ Rps G φ' H' acc vs ∧
    Post G (RlW G) φ H ((compL I.live (turnA xb t own TC AD ρ) (I.items.drop i) S' acc).bd fun ds S => .ok (.lis ds) S) (fun c d H' => Wx c d σ H') Q, ⟨I.items.length, by simp, Nat.zero_le _, ?_⟩, ?_⟩
  · have E := Ext.fresh R1 hDn (.lst [])
    refine ⟨φ1, S1, [], [], E, R1.fresh hDn _, (sl.mono (e.toKeep R)).mono (E.toKeep R1), upd_same, R1.unk hDn, by unfold Rps; rfl, ?_⟩
    simpa using h
  · rintro i m H' ⟨rfl, hi, φ', S', acc, vs, e', R', sl', hD, nD, ra, hp⟩
    by_cases hlt : i < I.items.length
    · have hdrop : I.items.drop i = I.items[i] :: I.items.drop (i + 1) := List.drop_eq_getElem_cons hlt
      rw [hdrop] at hp
      unfold compL at hp
      by_cases hL : isLive I.live S'
      · rw [if_pos hL] at hp
        obtain ⟨g1, _⟩ := l i φ' H' S' e' R' hL
        obtain ⟨go, gy⟩ := g1 _ (List.getElem?_eq_getElem hlt)
        refine .inr ⟨go, fun H'' => ∃ m', m' < I.items.length - i ∧ m' = I.items.length - (i + 1) ∧ i + 1 ≤ I.items.length ∧ ∃ φ' S' acc vs, Ext φ1 H1 φ' H'' ∧ Rel G φ' H'' S' ∧ Sl G φ' H'' ρ σ ∧ H'' Da = some (.lst vs) ∧ Da ∉ φ' ∧ Rps G φ' H'' acc vs ∧
          Post G (RlW G) φ H ((compL I.live (turnA xb t own TC AD ρ) (I.items.drop (i + 1)) S' acc).bd fun ds S => .ok (.lis ds) S) (fun c d H' => Wx c d σ H') Q, ?_, ?_⟩
        · rintro H'' ⟨m', hm, hw⟩
          exact ⟨m', hm, hw⟩
        · intro x H2 yd
          obtain ⟨e2, R2, r2⟩ := gy x H2 yd
          have hD2 : H2 Da = some (.lst vs) := e2.keep _ _ hD nD
          have ra2 := Rps.mono (e2.toKeep R') _ _ ra
          have sl2 := sl'.mono (e2.toKeep R')
          unfold turnA at hp
          cases hb : bindTg t I.items[i] (wipeD ρ own) with
          | none => simp only [hb] at hp; exact hp.elim
          | some ρ' =>
            simp only [hb] at hp
            refine tg_im hb R2 (sl2.wipe own) r2 fun σ2 slr nr => ⟨?_, ?_⟩
            · refine wipe_eq (by rw [nr.1, L2.wipe_length]) fun j hj => ?_
              rw [nr.2 j (fun q => hj (hown j q)), L2.wipe_out hj]
            · refine ⟨φ', ρ', S', R2, slr, ?_⟩
              cases hT : TC ρ' S' with
              | bad => rw [hT] at hp; cases xb <;> exact hp.elim
              | ex c fs S2 =>
                rw [hT] at hp
                cases xb with
                | false => exact hp.elim
                | true =>
                  have hp : Post G (RlW G) φ H (.ex c fs S2 : Mi.R W) (fun c d H' => Wx c d σ H') Q := hp
                  exact fun cls dx H3 φ3 e3 R3 xx => hp cls dx H3 φ3 (((e.trans e').trans e2).trans e3) R3 xx
              | ok b S2 =>
                rw [hT, Mi.R.noxB_ok] at hp
                intro b' H3 φ3 e3 R3 lb
                have lb : b = b' := lb
                subst lb
                have hD3 : H3 Da = some (.lst vs) := e3.keep _ _ hD2 nD
                have nD3 : Da ∉ φ3 := e3.out hD2 nD
                have ra3 := Rps.mono (e3.toKeep R2) _ _ ra2
                have sl3 := sl2.mono (e3.toKeep R2)
                cases b with
                | false =>
                  rw [if_neg Bool.false_ne_true]
                  refine ⟨I.items.length - (i + 1), by omega, rfl, hlt, φ3, S2, acc, vs, (e'.trans e2).trans e3, R3, sl3, hD3, nD3, ra3, ?_⟩
                  exact hp
                | true =>
                  rw [if_pos rfl]
                  have hp : Post G (RlW G) φ H (((((AD ρ' S2).noxB xb).bd fun d S => (.ok (some d) S : Mi.R (Option D))).bd fun o S => match o with
                    | none => compL I.live (turnA xb t own TC AD ρ) (I.items.drop (i + 1)) S acc
                    | some e => if acc.length < sizeLine then compL I.live (turnA xb t own TC AD ρ) (I.items.drop (i + 1)) S (acc ++ [e]) else .bad).bd fun ds S => .ok (.lis ds) S) (fun c d H' => Wx c d σ H') Q := hp
                  refine ⟨φ3, ρ', S2, R3, slr.mono (e3.toKeep R2), ?_⟩
                  cases hA : AD ρ' S2 with
                  | bad => rw [hA] at hp; cases xb <;> exact hp.elim
                  | ex c fs S3 =>
                    rw [hA] at hp
                    cases xb with
                    | false => exact hp.elim
                    | true =>
                      have hp : Post G (RlW G) φ H (.ex c fs S3 : Mi.R W) (fun c d H' => Wx c d σ H') Q := hp
                      exact fun cls dx H4 φ4 e4 R4 xx => hp cls dx H4 φ4 ((((e.trans e').trans e2).trans e3).trans e4) R4 xx
                  | ok d2 S3 =>
                    rw [hA, Mi.R.noxB_ok] at hp
                    intro y H4 φ4 e4 R4 l4
                    have hp : Post G (RlW G) φ H ((if acc.length < sizeLine then compL I.live (turnA xb t own TC AD ρ) (I.items.drop (i + 1)) S3 (acc ++ [d2]) else .bad).bd fun ds S => .ok (.lis ds) S) (fun c d H' => Wx c d σ H') Q := hp
                    have hD4 : H4 Da = some (.lst vs) := e4.keep _ _ hD3 nD3
                    have nD4 : Da ∉ φ4 := e4.out hD3 nD3
                    have ra4 := Rps.mono (e4.toKeep R3) _ _ ra3
                    have sl4 := sl3.mono (e4.toKeep R3)
                    by_cases hz : acc.length < sizeLine
                    · rw [if_pos hz] at hp
                      have k := own_keep (φ := φ4) (o := .lst (vs ++ [y])) hD4
                      refine ⟨vs, hD4, by rw [← ra4.len]; exact hz, I.items.length - (i + 1), by omega, rfl, hlt, φ4, S3, acc ++ [d2], vs ++ [y], own_ext (((e'.trans e2).trans e3).trans e4) hDn, own_rel R4 hD4 nD4, sl4.mono k, upd_same, nD4, Rps.mono k _ _ (ra4.snoc l4), hp⟩
                    · rw [if_neg hz] at hp
                      exact hp.elim
      · rw [if_neg hL] at hp
        exact hp.elim
    · have hn : i = I.items.length := by omega
      subst hn
      rw [List.drop_length] at hp
      unfold compL at hp
      by_cases hL : isLive I.live S'
      · rw [if_pos hL] at hp
        obtain ⟨_, g2⟩ := l _ φ' H' S' e' R' hL
        refine .inl ⟨g2 (Nat.le_refl _), ?_⟩
        refine Post.ok (L := RlW G) (a := W.lis acc) (S' := S') hp (e.trans e') R' ⟨⟨Da, vs, rfl, hD, nD, ra⟩, fun ds a e1 e2 => ?_⟩
        cases e2
        exact e.fr R1 _ hDn
      · rw [if_neg hL] at hp
        exact hp.elim
theorem k_comp {elt tg iter : Expr} {ifs : List Expr} {scope : Scope} {own : List (Str × Nat)} {pos : Pos} {t : Tg} {IA : AX Its} {TC : AX Bool} {AD : AX D} (hc : X.calm = true) (hN : X.N.Nodup) (hi : PI X tg iter (tIts G Wx IA)) (ok : BlkOk X.N X.env.scope scope own)
    (hg : ∀ (s : Shared) (H : Hp) (C : Addr) (cl : List (Str × Addr)) (fp : List Addr), PG (X.blk s H scope (compEnvC scope cl C X.env) fp) tg (gTg G.K t)) (ht : ∀ (s : Shared) (H : Hp) (C : Addr) (cl : List (Str × Addr)) (fp : List Addr), PTs (X.blk s H scope (compEnvC scope cl C X.env) fp) ifs (tBo G WxF TC))
    (he : ∀ (s : Shared) (H : Hp) (C : Addr) (cl : List (Str × Addr)) (fp : List Addr), PE (X.blk s H scope (compEnvC scope cl C X.env) fp) elt (tD G WxF AD)) (hs : ∀ x, foldedSetIterable iter X.env x = pure x) (hown : ∀ i ∈ t.slots, i ∈ own.map (·.2)) :
    PE X (.ListComp elt [⟨tg, iter, ifs, 0⟩] scope pos) (tK G Wx (compA false t (own.map (·.2)) IA TC AD)) := (pe_lc hc hN hi ok hg ht he hs).im fun _ _ _ q => comp_im (xb := false) hown q
/-- what a comprehension's parts must be, whose raises go on -/
structure BlkM (G : Gb) (m : Bool) (Wx : WX) (X : Cx) (scope : Scope) (tg elt : Expr) (ifs : List Expr) (t : Tg) (TC : AX Bool) (AD : AX D) : Prop where
  g : ∀ (s : Shared) (H : Hp) (C : Addr) (cl : List (Str × Addr)) (fp : List Addr) (xe : Value → Shared → Prop), PG (blkX X s H scope (compEnvC scope cl C X.env) fp xe) tg (gTg G.K t)
  t : ∀ (σ : L2.St) (s : Shared) (H : Hp) (C : Addr) (cl : List (Str × Addr)) (fp : List Addr) (xe : Value → Shared → Prop), (∀ σ', PassesAt (CXm m X.prog X.w) (blkX X s H scope (compEnvC scope cl C X.env) fp xe) σ' (fun c d H => Wx c d σ H)) → PTs (blkX X s H scope (compEnvC scope cl C X.env) fp xe) ifs (tBo G (WxB true Wx σ) TC)
  e : ∀ (σ : L2.St) (s : Shared) (H : Hp) (C : Addr) (cl : List (Str × Addr)) (fp : List Addr) (xe : Value → Shared → Prop), (∀ σ', PassesAt (CXm m X.prog X.w) (blkX X s H scope (compEnvC scope cl C X.env) fp xe) σ' (fun c d H => Wx c d σ H)) → PE (blkX X s H scope (compEnvC scope cl C X.env) fp xe) elt (tD G (WxB true Wx σ) AD)
/-- the place of a comprehension whose raises go on -/
structure AtDef (m : Bool) (Wx : WX) (X : Cx) : Prop where
  stk : X.stack = X.env :: X.outer
  frm : X.env.frame = some X.env.locals
  tk : TakesM m X Wx
theorem k_compX {m : Bool} {elt tg iter : Expr} {ifs : List Expr} {scope : Scope} {own : List (Str × Nat)} {pos : Pos} {t : Tg} {IA : AX Its} {TC : AX Bool} {AD : AX D} (hc : X.calm = true) (hN : X.N.Nodup) (hA : AtDef m Wx X) (hi : PI X tg iter (tIts G Wx IA)) (ok : BlkOk X.N X.env.scope scope own)
    (B : BlkM G m Wx X scope tg elt ifs t TC AD) (hs : ∀ x, foldedSetIterable iter X.env x = pure x) (hown : ∀ i ∈ t.slots, i ∈ own.map (·.2)) :
    PE X (.ListComp elt [⟨tg, iter, ifs, 0⟩] scope pos) (tK G Wx (compA true t (own.map (·.2)) IA TC AD)) :=
  (pe_lcX (CXk := CXm m X.prog X.w) (E := fun σ c d H => Wx c d σ H) (tt := fun E => tBo G (fun c d _ H => E c d H) TC) (te := fun E => tD G (fun c d _ H => E c d H) AD) hc hN hi ok (fun σ => ⟨fun s H C cl fp xe _ => B.g s H C cl fp xe, fun s H C cl fp xe p => B.t σ s H C cl fp xe p, fun s H C cl fp xe p => B.e σ s H C cl fp xe p⟩)
    (fun pins σ fp ce s3 H3 σ' h1 h2 I3 f3 => comp_passM hA.tk (fun _ _ _ h => h) hA.stk hA.frm h1 h2 I3 f3) hs).im fun _ _ _ q => comp_im (xb := true) hown q
theorem kt_nil {X : Cx} : PTs X [] (tBo G Wx fun _ S => .ok true S) := ⟨fun pins s σ H Q I h => pts_nil.run pins s σ H Q I (by
  obtain ⟨φ, ρ, S, R, sl, h⟩ := h
  exact Post.ok (L := RlB) h (Ext.refl _ _) R rfl)⟩
theorem kt_one {X : Cx} {c : Expr} {TA : AX Bool} (h : PT X c (tBo G Wx TA)) : PTs X [c] (tBo G Wx TA) := pts_one h
end

/-! ### statements -/
section
variable (G : Gb) (Wx : WX)
def PostS (φ : List Addr) (H : Hp) (r : RS) (D : Ends) : Prop := match r with
  | .ok .nx ρ S => ∀ σ' H' φ', Ext φ H φ' H' → Rel G φ' H' S → Sl G φ' H' ρ σ' → D.nx σ' H'
  | .ok .brk ρ S => ∀ σ' H' φ', Ext φ H φ' H' → Rel G φ' H' S → Sl G φ' H' ρ σ' → D.bk σ' H'
  | .ok .cnt ρ S => ∀ σ' H' φ', Ext φ H φ' H' → Rel G φ' H' S → Sl G φ' H' ρ σ' → D.ct σ' H'
  | .ok (.rt d) ρ S => ∀ v H' φ', Ext φ H φ' H' → Rel G φ' H' S → Rp G φ' H' d v → D.rt v H'
  | .ex c fs ρ S => ∀ cls dx σ' H' φ', Ext φ H φ' H' → Rel G φ' H' S → Sl G φ' H' ρ σ' → RpX G φ' H' c fs cls dx → Wx cls dx σ' H'
  | .bad => False
abbrev AS := Env → Store → RS
def tS (A : AS) : TS := fun D σ H => ∃ φ ρ S, Rel G φ H S ∧ Sl G φ H ρ σ ∧ PostS G Wx φ H (A ρ S) D
end
section
variable {G : Gb} {Wx : WX} {X : Cx} {α β : Type} {D : Ends} {σ : L2.St} {H : Hp}
theorem PostS.sh {φ φ1 : List Addr} {H1 : Hp} {S1 : Store} {r : RS} (h : PostS G Wx φ H r D) (e : Ext φ H φ1 H1) : PostS G Wx φ1 H1 r D := by
  cases r with
  | ok f ρ S =>
    cases f with
    | nx => exact fun σ' H' φ' e' => h σ' H' φ' (e.trans e')
    | brk => exact fun σ' H' φ' e' => h σ' H' φ' (e.trans e')
    | cnt => exact fun σ' H' φ' e' => h σ' H' φ' (e.trans e')
    | rt d => exact fun v H' φ' e' => h v H' φ' (e.trans e')
  | ex c fs ρ S => exact fun cls dx σ' H' φ' e' => h cls dx σ' H' φ' (e.trans e')
  | bad => exact h
/-- from a place behind the start on -/
theorem tS.next {L : Rl α β} {A : AX α} {F : α → Store → RS} {H1 : Hp} {Q' : β → Hp → Prop} {φ φ1 : List Addr} {ρ : Env} {S S1 : Store} (R : Rel G φ H S) (sl : Sl G φ H ρ σ) (e : Ext φ H φ1 H1) (R1 : Rel G φ1 H1 S1)
    (h : PostS G Wx φ H ((A ρ S1).st ρ F) D)
    (k : ∀ b H2 φ2 x S2, Ext φ1 H1 φ2 H2 → Rel G φ2 H2 S2 → L H1 φ2 H2 x b → PostS G Wx φ H (F x S2) D → Q' b H2) : tI G Wx L A σ H1 Q' := by
  refine ⟨φ1, ρ, S1, R1, sl.mono (e.toKeep R), ?_⟩
  cases q : A ρ S1 with
  | ok x S2 => exact fun b H2 φ2 e2 R2 l => k b H2 φ2 x S2 e2 R2 l (by rw [q] at h; exact h)
  | ex c fs S2 =>
    rw [q] at h
    exact fun cls dx H2 φ2 e2 R2 x => h cls dx σ H2 φ2 (e.trans e2) R2 (sl.mono ((e.trans e2).toKeep R)) x
  | bad =>
    rw [q] at h
    exact h
theorem tS.bd {L : Rl α β} {A : AX α} {F : α → Env → Store → RS} {Q' : β → Hp → Prop} (h : tS G Wx (fun ρ S => (A ρ S).st ρ fun x S => F x ρ S) D σ H)
    (k : ∀ φ ρ S b φ1 H1 x S1, Rel G φ H S → Sl G φ H ρ σ → Ext φ H φ1 H1 → Rel G φ1 H1 S1 → L H φ1 H1 x b → PostS G Wx φ H (F x ρ S1) D → Q' b H1) : tI G Wx L A σ H Q' := by
  obtain ⟨φ, ρ, S, R, sl, h⟩ := h
  exact tS.next R sl (Ext.refl _ _) R h fun b H1 φ1 x S1 e R1 l h1 => k φ ρ S b φ1 H1 x S1 R sl e R1 l h1
theorem tS.go {A : AS} {H1 : Hp} {φ φ1 : List Addr} {ρ : Env} {S1 : Store} {σ1 : L2.St} (e : Ext φ H φ1 H1) (R1 : Rel G φ1 H1 S1) (sl : Sl G φ1 H1 ρ σ1) (h : PostS G Wx φ H (A ρ S1) D) : tS G Wx A D σ1 H1 := ⟨φ1, ρ, S1, R1, sl, h.sh (S1 := S1) e⟩
theorem _root_.L2.PS.im {st : Stmt} {t t' : TS} (h : PS X st t) (hi : ∀ D σ H, t' D σ H → t D σ H) : PS X st t' := ⟨fun pins s σ H D I q => h.run pins s σ H D I (hi _ _ _ q)⟩
theorem _root_.L2.PSs.im {st : List Stmt} {t t' : TS} (h : PSs X st t) (hi : ∀ D σ H, t' D σ H → t D σ H) : PSs X st t' := ⟨fun pins s σ H D I q => h.run pins s σ H D I (hi _ _ _ q)⟩

variable {A : AX W} {AD : AX Mi.D} {TA : AX Bool} {A1 A2 : AS} {e : Expr} {pos : Pos}
noncomputable def setA (t : Tg) (AD : AX Mi.D) : AS := fun ρ S => (AD ρ S).st ρ fun d S => match bindTg t d ρ with
  | some ρ => .ok .nx ρ S
  | none => .bad
theorem set_post {t : Tg} {φ φ1 : List Addr} {H1 : Hp} {ρ : Env} {S1 : Store} {d : Mi.D} {v : V} (e : Ext φ H φ1 H1) (R1 : Rel G φ1 H1 S1) (sl : Sl G φ1 H1 ρ σ) (r : Rp G φ1 H1 d v)
    (h : PostS G Wx φ H (match bindTg t d ρ with | some ρ => .ok .nx ρ S1 | none => .bad) D) : gTg G.K t v σ H1 D.nx := by
  cases q : bindTg t d ρ with
  | none => rw [q] at h; exact h.elim
  | some ρ' =>
    rw [q] at h
    exact tg_im q R1 sl r fun σ' sl' _ => h σ' H1 φ1 e R1 sl'
theorem set_im {t : Tg} (h : tS G Wx (setA t AD) D σ H) : tAsg (tD G Wx AD) (gTg G.K t) D σ H :=
  tS.bd (F := fun d ρ S => match bindTg t d ρ with | some ρ => .ok .nx ρ S | none => .bad) h fun φ ρ S v φ1 H1 d S1 R sl e R1 l h1 => set_post e R1 (sl.mono (e.toKeep R)) l h1
theorem set_imK {t : Tg} (h : tS G Wx (setA t fun ρ S => (A ρ S).bd toD) D σ H) : tK G Wx A σ H fun x H1 => gTg G.K t x σ H1 D.nx := by
  obtain ⟨φ, ρ, S, R, sl, h⟩ := h
  unfold setA at h
  dsimp only at h
  refine ⟨φ, ρ, S, R, sl, ?_⟩
  cases q : A ρ S with
  | bad => rw [q] at h; exact h
  | ex c fs S1 =>
    rw [q] at h
    exact fun cls dx H2 φ2 e2 R2 x => h cls dx σ H2 φ2 e2 R2 (sl.mono (e2.toKeep R)) x
  | ok w S1 =>
    rw [q] at h
    intro v H1 φ1 e R1 l
    refine toD_post (xk := fun c d H' => Wx c d σ H') (Q := fun x H1 => gTg G.K t x σ H1 D.nx) e R1 l ?_
    have h : PostS G Wx φ H ((toD w S1).st ρ fun d S => match bindTg t d ρ with | some ρ => .ok .nx ρ S | none => .bad) D := h
    cases w with
    | val d => exact fun u H2 φ2 e2 R2 l2 => set_post e2 R2 (sl.mono (e2.toKeep R)) l2 h
    | lis ds => exact fun u H2 φ2 e2 R2 l2 => set_post e2 R2 (sl.mono (e2.toKeep R)) l2 h
/-- an expression alone -/
theorem exp_im (h : tS G Wx (fun ρ S => (A ρ S).st ρ fun _ S => .ok .nx ρ S) D σ H) : tDrop (tK G Wx A) D σ H :=
  tS.bd (F := fun _ ρ S => .ok .nx ρ S) h fun φ ρ S v φ1 H1 x S1 R sl e R1 l h1 => h1 σ H1 φ1 e R1 (sl.mono (e.toKeep R))
theorem ret_im (h : tS G Wx (fun ρ S => (AD ρ S).st ρ fun d S => .ok (.rt d) ρ S) D σ H) : tRet (tD G Wx AD) D σ H :=
  tS.bd (F := fun d ρ S => .ok (.rt d) ρ S) h fun φ ρ S v φ1 H1 x S1 R sl e R1 l h1 => h1 v H1 φ1 e R1 l
theorem iff_im (h : tS G Wx (fun ρ S => (TA ρ S).st ρ fun k S => if k = true then A1 ρ S else A2 ρ S) D σ H) : tIfS (tBo G Wx TA) (tS G Wx A1) (tS G Wx A2) D σ H :=
  tS.bd (F := fun k ρ S => if k = true then A1 ρ S else A2 ρ S) h fun φ ρ S b φ1 H1 x S1 R sl e R1 l h1 => by
    have l : x = b := l
    subst l
    cases x with
    | true => exact (if_pos rfl).mpr (tS.go e R1 (sl.mono (e.toKeep R)) h1)
    | false => exact (if_neg Bool.false_ne_true).mpr (tS.go e R1 (sl.mono (e.toKeep R)) h1)
theorem k_setX {X : Cx} {m : Bool} {i : Nat} {y : Str} {py spos : Pos} {elt tg iter : Expr} {ifs : List Expr} {scope : Scope} {own : List (Str × Nat)} {pos : Pos} {t : Tg} {IA : AX Its} {TC : AX Bool} {AD : AX Mi.D} (hc : X.calm = true) (hN : X.N.Nodup) (hA : AtDef m Wx X) (hy : X.N[i]? = some y) (hyl : X.env.scope.names.lookup y = some .local)
    (hsw : swapsWith (.ListComp elt [⟨tg, iter, ifs, 0⟩] scope pos) (some (.Name y py)) spos.line X.env = pure true) (hi : PI X tg iter (tIts G Wx IA)) (ok : BlkOk X.N X.env.scope scope own)
    (B : BlkM G m Wx X scope tg elt ifs t TC AD) (hs : ∀ x, foldedSetIterable iter X.env x = pure x) (hown : ∀ i ∈ t.slots, i ∈ own.map (·.2)) :
    PS X (.Assign [.Name y py] (.ListComp elt [⟨tg, iter, ifs, 0⟩] scope pos) spos) (tAsg (tK G Wx (compA true t (own.map (·.2)) IA TC AD)) (gName i)) :=
  (ps_setLcX (CXk := CXm m X.prog X.w) (E := fun σ c d H => Wx c d σ H) (tt := fun E => tBo G (fun c d _ H => E c d H) TC) (te := fun E => tD G (fun c d _ H => E c d H) AD) hc hN hy hyl hsw hi ok (fun σ => ⟨fun s H C cl fp xe _ => B.g s H C cl fp xe, fun s H C cl fp xe p => B.t σ s H C cl fp xe p, fun s H C cl fp xe p => B.e σ s H C cl fp xe p⟩)
    (fun pins σ fp ce s3 H3 σ' h1 h2 I3 f3 => comp_passM hA.tk (fun _ _ _ h => h) hA.stk hA.frm h1 h2 I3 f3) hs).im fun _ _ _ q => comp_im (xb := true) hown q
theorem k_if {c : Expr} {a b : List Stmt} (hc : PT X c (tBo G Wx TA)) (ha : PSs X a (tS G Wx A1)) (hb : PSs X b (tS G Wx A2)) : PS X (.If c a b pos) (tS G Wx fun ρ S => (TA ρ S).st ρ fun k S => if k = true then A1 ρ S else A2 ρ S) := (ps_if hc ha hb).im fun _ _ _ => iff_im
theorem k_ret (h : PE X e (tD G Wx AD)) : PS X (.Return (some e) pos) (tS G Wx fun ρ S => (AD ρ S).st ρ fun d S => .ok (.rt d) ρ S) := (ps_ret h).im fun _ _ _ => ret_im
theorem k_exp (h : PE X e (tK G Wx A)) (hs : swapsWith e none pos.line X.env = pure false) : PS X (.Expr e pos) (tS G Wx fun ρ S => (A ρ S).st ρ fun _ S => .ok .nx ρ S) := (ps_expr h hs).im fun _ _ _ => exp_im
theorem k_nil : PSs X [] (tS G Wx fun ρ S => .ok .nx ρ S) := pss_nil.im fun D σ H ⟨φ, ρ, S, R, sl, h⟩ => h σ H φ (Ext.refl _ _) R sl
theorem k_pass : PS X (.Pass pos) (tS G Wx fun ρ S => .ok .nx ρ S) := ps_pass.im fun D σ H ⟨φ, ρ, S, R, sl, h⟩ => h σ H φ (Ext.refl _ _) R sl
theorem k_brk : PS X (.Break pos) (tS G Wx fun ρ S => .ok .brk ρ S) := ps_break.im fun D σ H ⟨φ, ρ, S, R, sl, h⟩ => h σ H φ (Ext.refl _ _) R sl
theorem k_cnt : PS X (.Continue pos) (tS G Wx fun ρ S => .ok .cnt ρ S) := ps_continue.im fun D σ H ⟨φ, ρ, S, R, sl, h⟩ => h σ H φ (Ext.refl _ _) R sl
theorem k_doc {x : Str} {j : Nat} {p2 : Pos} : PS X (.Expr (.Constant (.str x) j pos) p2) (tS G Wx fun ρ S => .ok .nx ρ S) := ps_doc.im fun D σ H ⟨φ, ρ, S, R, sl, h⟩ => h σ H φ (Ext.refl _ _) R sl
theorem seq_im (h : tS G Wx (fun ρ S => (A1 ρ S).sq fun ρ S => A2 ρ S) D σ H) : tSeq (tS G Wx A1) (tS G Wx A2) D σ H := by
  obtain ⟨φ, ρ, S, R, sl, h⟩ := h
  dsimp only at h
  refine ⟨φ, ρ, S, R, sl, ?_⟩
  cases q : A1 ρ S with
  | bad => rw [q] at h; exact h
  | ex c fs ρ S => rw [q] at h; exact h
  | ok f ρ1 S1 =>
    rw [q] at h
    cases f with
    | nx => exact fun σ' H' φ' e R' sl' => tS.go e R' sl' h
    | brk => exact h
    | cnt => exact h
    | rt d => exact h
theorem k_cons {st : Stmt} {rest : List Stmt} (h1 : PS X st (tS G Wx A1)) (h2 : PSs X rest (tS G Wx A2)) : PSs X (st :: rest) (tS G Wx fun ρ S => (A1 ρ S).sq fun ρ S => A2 ρ S) := (pss_cons h1 h2).im fun _ _ _ => seq_im

/-! ### for -/
noncomputable def bodyA (t : Tg) (A1 : AS) : Mi.D → AS := fun d ρ S => match bindTg t d ρ with
  | some ρ => A1 ρ S
  | none => .bad
theorem for_im {t : Tg} {IA : AX Its} (h : tS G Wx (fun ρ S => (IA ρ S).st ρ fun I S => forL I.live (bodyA t A1) I.items ρ S) D σ H) : tFor (tIts G Wx IA) (gTg G.K t) (tS G Wx A1) D σ H := by
  refine tS.bd (F := fun I ρ S => forL I.live (bodyA t A1) I.items ρ S) h fun φ ρ S J φ1 H1 I S1 R sl e R1 l h => ?_
  have l : ItOk G J φ1 H1 I := l
  refine ⟨fun i m σ' H' => m = I.items.length - i ∧ i ≤ I.items.length ∧ ∃ φ' ρ' S', Ext φ1 H1 φ' H' ∧ Rel G φ' H' S' ∧ Sl G φ' H' ρ' σ' ∧ PostS G Wx φ H (forL I.live (bodyA t A1) (I.items.drop i) ρ' S') D,
    ⟨I.items.length, by simp, Nat.zero_le _, φ1, ρ, S1, Ext.refl _ _, R1, sl.mono (e.toKeep R), by simpa using h⟩, ?_⟩
  rintro i m σ' H' ⟨rfl, hi, φ', ρ', S', e', R', sl', hp⟩
  by_cases hlt : i < I.items.length
  · rw [List.drop_eq_getElem_cons hlt] at hp
    unfold forL at hp
    by_cases hL : isLive I.live S'
    · rw [if_pos hL] at hp
      obtain ⟨g1, _⟩ := l i φ' H' S' e' R' hL
      obtain ⟨go, gy⟩ := g1 _ (List.getElem?_eq_getElem hlt)
      refine .inr ⟨go, fun σ'' H'' => ∃ m', m' < I.items.length - i ∧ m' = I.items.length - (i + 1) ∧ i + 1 ≤ I.items.length ∧ ∃ φ' ρ' S', Ext φ1 H1 φ' H'' ∧ Rel G φ' H'' S' ∧ Sl G φ' H'' ρ' σ'' ∧
        PostS G Wx φ H (forL I.live (bodyA t A1) (I.items.drop (i + 1)) ρ' S') D, fun σ'' H'' ⟨m', hm, hw⟩ => ⟨m', hm, hw⟩, fun x H2 yd => ?_⟩
      obtain ⟨e2, R2, r2⟩ := gy x H2 yd
      have sl2 := sl'.mono (e2.toKeep R')
      unfold bodyA at hp
      cases hb : bindTg t I.items[i] ρ' with
      | none => simp only [hb] at hp; exact hp.elim
      | some ρ2 =>
        simp only [hb] at hp
        refine tg_im hb R2 sl2 r2 fun σ2 slr _ => ⟨φ', ρ2, S', R2, slr, ?_⟩
        have e12 := e'.trans e2
        have e02 := (e.trans e12)
        cases hA : A1 ρ2 S' with
        | bad => rw [hA] at hp; exact hp
        | ex c fs ρ3 S3 =>
          rw [hA] at hp
          exact fun cls dx σ3 H3 φ3 e3 R3 sl3 x3 => hp cls dx σ3 H3 φ3 (e02.trans e3) R3 sl3 x3
        | ok f ρ3 S3 =>
          rw [hA] at hp
          cases f with
          | nx => exact fun σ3 H3 φ3 e3 R3 sl3 => ⟨I.items.length - (i + 1), by omega, rfl, hlt, φ3, ρ3, S3, e12.trans e3, R3, sl3, hp⟩
          | cnt => exact fun σ3 H3 φ3 e3 R3 sl3 => ⟨I.items.length - (i + 1), by omega, rfl, hlt, φ3, ρ3, S3, e12.trans e3, R3, sl3, hp⟩
          | brk => exact fun σ3 H3 φ3 e3 R3 sl3 => hp σ3 H3 φ3 (e02.trans e3) R3 sl3
          | rt d => exact fun v H3 φ3 e3 R3 l3 => hp v H3 φ3 (e02.trans e3) R3 l3
    · rw [if_neg hL] at hp
      exact hp.elim
  · have hn : i = I.items.length := by omega
    subst hn
    rw [List.drop_length] at hp
    unfold forL at hp
    by_cases hL : isLive I.live S'
    · rw [if_pos hL] at hp
      obtain ⟨_, g2⟩ := l _ φ' H' S' e' R' hL
      exact .inl ⟨g2 (Nat.le_refl _), hp σ' H' φ' (e.trans e') R' sl'⟩
    · rw [if_neg hL] at hp
      exact hp.elim
theorem k_for {tg iter : Expr} {body : List Stmt} {t : Tg} {IA : AX Its} (hp : PassesOwn (model X.prog X.w) X.A X.env X.xe) (hc : X.calm = true) (hi : PI X tg iter (tIts G Wx IA)) (hg : PG X tg (gTg G.K t)) (hb : PSs X body (tS G Wx A1)) (hs : ∀ x, foldedSetIterable iter X.env x = pure x) :
    PS X (.For tg iter body [] pos) (tS G Wx fun ρ S => (IA ρ S).st ρ fun I S => forL I.live (bodyA t A1) I.items ρ S) := (ps_for hp hc hi hg hb hs).im fun _ _ _ => for_im

/-! ### while -/
theorem whileF_mono {c : AX Bool} {b : AS} : ∀ {n : Nat} {ρ : Env} {S : Store} {r : RS} (k : Nat), whileF c b n ρ S = some r → whileF c b (n + k) ρ S = some r
  | 0, _, _, _, _, h => by unfold whileF at h; cases h
  | n + 1, ρ, S, r, k, h => by
    rw [Nat.add_right_comm]
    unfold whileF at h ⊢
    cases q : c ρ S with
    | bad => simp only [q] at h ⊢; exact h
    | ex c fs S => simp only [q] at h ⊢; exact h
    | ok t S1 =>
      simp only [q] at h ⊢
      cases t with
      | false => exact h
      | true =>
        dsimp only at h ⊢
        cases q2 : b ρ S1 with
        | bad => simp only [q2] at h ⊢; exact h
        | ex c fs ρ S => simp only [q2] at h ⊢; exact h
        | ok f ρ2 S2 =>
          simp only [q2] at h ⊢
          cases f with
          | nx => exact whileF_mono k h
          | cnt => exact whileF_mono k h
          | brk => exact h
          | rt d => exact h
theorem whileR_of {c : AX Bool} {b : AS} {n : Nat} {ρ : Env} {S : Store} {r : RS} (h : whileF c b n ρ S = some r) : whileR c b ρ S = r := by
  unfold whileR
  have ex : ∃ r n, whileF c b n ρ S = some r := ⟨r, n, h⟩
  rw [dif_pos ex]
  obtain ⟨m, hm⟩ := Classical.choose_spec ex
  have h1 := whileF_mono m h
  have h2 := whileF_mono n hm
  rw [Nat.add_comm m n] at h2
  rw [h1] at h2
  exact (Option.some.inj h2).symm
theorem whileR_fuel {c : AX Bool} {b : AS} {ρ : Env} {S : Store} (h : whileR c b ρ S ≠ .bad) : ∃ n, whileF c b n ρ S = some (whileR c b ρ S) := by
  by_cases ex : ∃ r n, whileF c b n ρ S = some r
  · obtain ⟨r, n, hn⟩ := ex
    exact ⟨n, by rw [whileR_of hn]; exact hn⟩
  · unfold whileR at h
    rw [dif_neg ex] at h
    exact absurd rfl h
theorem whl_im (h : tS G Wx (fun ρ S => whileR TA A1 ρ S) D σ H) : tWhile (tBo G Wx TA) (tS G Wx A1) D σ H := by
  obtain ⟨φ, ρ, S, R, sl, h⟩ := h
  dsimp only at h
  have nb : whileR TA A1 ρ S ≠ .bad := fun q => by rw [q] at h; exact h
  obtain ⟨n, hn⟩ := whileR_fuel nb
  refine ⟨fun m σ' H' => ∃ φ' ρ' S', Ext φ H φ' H' ∧ Rel G φ' H' S' ∧ Sl G φ' H' ρ' σ' ∧ whileF TA A1 m ρ' S' = some (whileR TA A1 ρ S), ⟨n, φ, ρ, S, Ext.refl _ _, R, sl, hn⟩, ?_⟩
  rintro m σ' H' ⟨φ', ρ', S', e', R', sl', hm⟩
  cases m with
  | zero => unfold whileF at hm; cases hm
  | succ m =>
    unfold whileF at hm
    refine ⟨φ', ρ', S', R', sl', ?_⟩
    cases q : TA ρ' S' with
    | bad =>
      rw [q] at hm
      exact absurd (Option.some.inj hm).symm nb
    | ex c fs S1 =>
      rw [q] at hm
      have hm := (Option.some.inj hm)
      rw [← hm] at h
      exact fun cls dx H2 φ2 e2 R2 x => h cls dx σ' H2 φ2 (e'.trans e2) R2 (sl'.mono (e2.toKeep R')) x
    | ok t S1 =>
      rw [q] at hm
      intro b H2 φ2 e2 R2 lb
      have lb : t = b := lb
      subst lb
      have sl2 := sl'.mono (e2.toKeep R')
      cases t with
      | false =>
        have hm := Option.some.inj hm
        rw [← hm] at h
        exact (if_neg Bool.false_ne_true).mpr (h σ' H2 φ2 (e'.trans e2) R2 sl2)
      | true =>
        refine (if_pos rfl).mpr ⟨fun σ'' H'' => ∃ φ' ρ' S', Ext φ H φ' H'' ∧ Rel G φ' H'' S' ∧ Sl G φ' H'' ρ' σ'' ∧ whileF TA A1 m ρ' S' = some (whileR TA A1 ρ S), fun σ'' H'' hw => ⟨m, Nat.lt_succ_self _, hw⟩, φ2, ρ', S1, R2, sl2, ?_⟩
        dsimp only at hm
        cases qb : A1 ρ' S1 with
        | bad =>
          rw [qb] at hm
          exact absurd (Option.some.inj hm).symm nb
        | ex c fs ρ3 S3 =>
          rw [qb] at hm
          have hm := Option.some.inj hm
          rw [← hm] at h
          exact fun cls dx σ3 H3 φ3 e3 R3 sl3 x => h cls dx σ3 H3 φ3 ((e'.trans e2).trans e3) R3 sl3 x
        | ok f ρ3 S3 =>
          rw [qb] at hm
          cases f with
          | nx => exact fun σ3 H3 φ3 e3 R3 sl3 => ⟨φ3, ρ3, S3, (e'.trans e2).trans e3, R3, sl3, hm⟩
          | cnt => exact fun σ3 H3 φ3 e3 R3 sl3 => ⟨φ3, ρ3, S3, (e'.trans e2).trans e3, R3, sl3, hm⟩
          | brk =>
            have hm := Option.some.inj hm
            rw [← hm] at h
            exact fun σ3 H3 φ3 e3 R3 sl3 => h σ3 H3 φ3 ((e'.trans e2).trans e3) R3 sl3
          | rt d =>
            have hm := Option.some.inj hm
            rw [← hm] at h
            exact fun v H3 φ3 e3 R3 l3 => h v H3 φ3 ((e'.trans e2).trans e3) R3 l3
theorem k_whl {c : Expr} {body : List Stmt} (hp : PassesOwn (model X.prog X.w) X.A X.env X.xe) (hc : PT X c (tBo G Wx TA)) (hb : PSs X body (tS G Wx A1)) : PS X (.While c body [] pos) (tS G Wx fun ρ S => whileR TA A1 ρ S) := (ps_while hp hc hb).im fun _ _ _ => whl_im

/-! ### name += e -/
theorem aug_im {i : Nat} {o : P2} {f : Int → Int → Int} (hf : ∀ x y d, augV o x y = some d → ∃ a b, x = .int a ∧ y = .val (.int b) ∧ d = .int (f a b)) (h : tS G Wx (fun ρ S => match ρ[i]? with
    | some (some x) => (A ρ S).st ρ fun y S => match augV o x y with
      | some d => .ok .nx (ρ.set i (some d)) S
      | none => .bad
    | _ => .bad) D σ H) : tAug i (tK G Wx A) (ipI f) D σ H := by
  obtain ⟨φ, ρ, S, R, sl, h⟩ := h
  dsimp only at h
  cases q : ρ[i]? with
  | none => simp only [q] at h; exact h.elim
  | some oo =>
    cases oo with
    | none => simp only [q] at h; exact h.elim
    | some x =>
      simp only [q] at h
      obtain ⟨v, hv, rv⟩ := sl.2 i x q
      refine ⟨v, hv, tS.next (L := RlW G) (F := fun y S => match augV o x y with
        | some d => .ok .nx (ρ.set i (some d)) S
        | none => .bad) R sl (Ext.refl _ _) R h fun u H1 φ1 y S1 e R1 l h1 => ?_⟩
      cases qq : augV o x y with
      | none => simp only [qq] at h1; exact h1.elim
      | some d =>
        simp only [qq] at h1
        obtain ⟨a, b, rfl, rfl, rfl⟩ := hf x y d qq
        unfold Rp at rv
        have ru := rp_int l.1
        exact ⟨a, b, rv, ru, h1 _ H1 φ1 e R1 ((sl.mono (e.toKeep R)).set i (by unfold Rp; rfl))⟩
theorem augAdd : ∀ x y d, augV .add x y = some d → ∃ a b, x = .int a ∧ y = .val (.int b) ∧ d = .int (a + b) := by
  intro x y d h
  unfold augV at h
  split at h
  · cases h; exact ⟨_, _, rfl, rfl, rfl⟩
  · exact absurd ‹P2.add = P2.sub› (by decide)
  · cases h
theorem augSub : ∀ x y d, augV .sub x y = some d → ∃ a b, x = .int a ∧ y = .val (.int b) ∧ d = .int (a - b) := by
  intro x y d h
  unfold augV at h
  split at h
  · exact absurd ‹P2.sub = P2.add› (by decide)
  · cases h; exact ⟨_, _, rfl, rfl, rfl⟩
  · cases h
end
end Mi

/-! Mi, part F: operations by values. -/
namespace Mi
open PySem L2 PyProof.Rows RT RZ

/-! ### data -/
section
variable {α β : Type} {f : α → Option β}
theorem mapO_cons {a : α} {r : List α} {l : List β} (h : mapO f (a :: r) = some l) : ∃ b bs, f a = some b ∧ mapO f r = some bs ∧ l = b :: bs := by
  unfold mapO at h
  cases q : f a with
  | none => simp only [q] at h; cases h
  | some b =>
    cases q2 : mapO f r with
    | none => simp only [q, q2] at h; cases h
    | some bs => simp only [q, q2] at h; cases h; exact ⟨b, bs, rfl, rfl, rfl⟩
theorem mapO_nil {l : List β} (h : mapO f [] = some l) : l = [] := by
  unfold mapO at h
  cases h; rfl
end
theorem toPy_ok {S : Store} : ∀ {n : Nat} {d : D} {y : PyData}, toPy S n d = some y → y.plain = true ∧ y.depth ≤ n
  | 0, _, _, h => by unfold toPy at h; cases h
  | n + 1, d, y, h => by
    have lst : ∀ (ds : List D) (ys : List PyData), mapO (toPy S n) ds = some ys → PyData.plainAll ys = true ∧ PyData.depthAll ys ≤ n := by
      intro ds
      induction ds with
      | nil => intro ys h; rw [mapO_nil h]; exact ⟨rfl, Nat.zero_le _⟩
      | cons d ds ih =>
        intro ys h
        obtain ⟨b, bs, h1, h2, rfl⟩ := mapO_cons h
        obtain ⟨i1, i2⟩ := toPy_ok h1
        obtain ⟨j1, j2⟩ := ih bs h2
        refine ⟨?_, ?_⟩
        · rw [PyData.plainAll, i1, j1]; try rfl
        · rw [PyData.depthAll]; omega
    unfold toPy at h
    cases d with
    | non => cases h; exact ⟨rfl, by rw [PyData.depth]; omega⟩
    | bl b => cases h; exact ⟨rfl, by rw [PyData.depth]; omega⟩
    | int b => cases h; exact ⟨rfl, by rw [PyData.depth]; omega⟩
    | str b => cases h; exact ⟨rfl, by rw [PyData.depth]; omega⟩
    | tup ds =>
      obtain ⟨ys, h1, rfl⟩ := Option.map_eq_some_iff.mp h
      obtain ⟨h1, h2⟩ := lst ds ys h1
      exact ⟨by rw [PyData.plain]; exact h1, by rw [PyData.depth]; omega⟩
    | ls ds =>
      obtain ⟨ys, h1, rfl⟩ := Option.map_eq_some_iff.mp h
      obtain ⟨h1, h2⟩ := lst ds ys h1
      exact ⟨by rw [PyData.plain]; exact h1, by rw [PyData.depth]; omega⟩
    | kt ds =>
      obtain ⟨ys, h1, rfl⟩ := Option.map_eq_some_iff.mp h
      obtain ⟨h1, h2⟩ := lst ds ys h1
      exact ⟨by rw [PyData.plain]; exact h1, by rw [PyData.depth]; omega⟩
    | ref k =>
      dsimp only at h
      cases q : S[k]? with
      | none => simp only [q] at h; cases h
      | some o =>
        cases o with
        | lst ds =>
          simp only [q] at h
          obtain ⟨ys, h1, rfl⟩ := Option.map_eq_some_iff.mp h
          obtain ⟨h1, h2⟩ := lst ds ys h1
          exact ⟨by rw [PyData.plain]; exact h1, by rw [PyData.depth]; omega⟩
        | _ => simp only [q] at h; cases h
theorem mapPy_ok {S : Store} {n : Nat} : ∀ {ds : List D} {ys : List PyData}, mapO (toPy S n) ds = some ys → PyData.plainAll ys = true ∧ PyData.depthAll ys ≤ n
  | [], ys, h => by rw [mapO_nil h]; exact ⟨rfl, Nat.zero_le _⟩
  | d :: ds, ys, h => by
    obtain ⟨b, bs, h1, h2, rfl⟩ := mapO_cons h
    obtain ⟨i1, i2⟩ := toPy_ok h1
    obtain ⟨j1, j2⟩ := mapPy_ok h2
    refine ⟨?_, ?_⟩
    · rw [PyData.plainAll, i1, j1]; try rfl
    · rw [PyData.depthAll]; omega
section
variable {G : Gb} {φ : List Addr} {H : Hp} {S : Store}
theorem toPy_dp (R : Rel G φ H S) : ∀ {n : Nat} {d : D} {v : V} {y : PyData}, Rp G φ H d v → toPy S n d = some y → Dp G.K H v y
  | 0, _, _, _, _, h => by unfold toPy at h; cases h
  | n + 1, d, v, y, r, h => by
    have lst : ∀ (ds : List D) (vs : List V) (ys : List PyData), Rps G φ H ds vs → mapO (toPy S n) ds = some ys → DpAll G.K H vs ys := by
      intro ds
      induction ds with
      | nil => intro vs ys r h; unfold Rps at r; subst r; rw [mapO_nil h]; exact .nil
      | cons d ds ih =>
        intro vs ys r h
        obtain ⟨b, bs, h1, h2, rfl⟩ := mapO_cons h
        unfold Rps at r
        obtain ⟨w, t, rfl, r1, r2⟩ := r
        exact .cons (toPy_dp R r1 h1) (ih t bs r2 h2)
    unfold toPy at h
    cases d with
    | non => cases h; unfold Rp at r; subst r; exact .non
    | bl b => cases h; unfold Rp at r; subst r; exact .bl b
    | int b => cases h; unfold Rp at r; subst r; exact .int b
    | str b => cases h; unfold Rp at r; subst r; exact .str b
    | tup ds =>
      obtain ⟨ys, h1, rfl⟩ := Option.map_eq_some_iff.mp h
      unfold Rp at r
      obtain ⟨a, vs, rfl, ha, hr⟩ := r
      exact .tup ha.sq (lst ds vs ys hr h1)
    | ls ds =>
      obtain ⟨ys, h1, rfl⟩ := Option.map_eq_some_iff.mp h
      unfold Rp at r
      obtain ⟨a, vs, rfl, ha, hr⟩ := r
      exact .lst ha.sq (lst ds vs ys hr h1)
    | kt ds =>
      obtain ⟨ys, h1, rfl⟩ := Option.map_eq_some_iff.mp h
      unfold Rp at r
      obtain ⟨a, vs, rfl, ha, hr⟩ := r
      exact .tup ha.sq (lst ds vs ys hr h1)
    | ref k =>
      dsimp only at h
      unfold Rp at r
      obtain ⟨a, rfl, ha⟩ := r
      cases q : S[k]? with
      | none => simp only [q] at h; cases h
      | some o =>
        cases o with
        | lst ds =>
          simp only [q] at h
          obtain ⟨ys, h1, rfl⟩ := Option.map_eq_some_iff.mp h
          obtain ⟨vs, h2, h3⟩ := R.obj k a _ ha q
          exact .lst (SqL.of h2) (lst ds vs ys h3 h1)
        | _ => simp only [q] at h; cases h
theorem mapPy_dp (R : Rel G φ H S) {n : Nat} : ∀ {ds : List D} {vs : List V} {ys : List PyData}, Rps G φ H ds vs → mapO (toPy S n) ds = some ys → DpAll G.K H vs ys
  | [], vs, ys, r, h => by unfold Rps at r; subst r; rw [mapO_nil h]; exact .nil
  | d :: ds, vs, ys, r, h => by
    obtain ⟨b, bs, h1, h2, rfl⟩ := mapO_cons h
    unfold Rps at r
    obtain ⟨w, t, rfl, r1, r2⟩ := r
    exact .cons (toPy_dp R r1 h1) (mapPy_dp R r2 h2)
theorem py_ok {w : W} {y : PyData} (h : w.py S = some y) : y.plain = true ∧ y.depth ≤ deepest + 1 := by
  cases w with
  | val d =>
    obtain ⟨h1, h2⟩ := toPy_ok (show toPy S deepest d = some y from h)
    exact ⟨h1, by omega⟩
  | lis ds =>
    obtain ⟨ys, h1, rfl⟩ := Option.map_eq_some_iff.mp (show (mapO (toPy S deepest) ds).map PyData.list = some y from h)
    obtain ⟨h1, h2⟩ := mapPy_ok h1
    exact ⟨by rw [PyData.plain]; exact h1, by rw [PyData.depth]; omega⟩
theorem py_dp (R : Rel G φ H S) {w : W} {v : V} {y : PyData} (r : RpW G φ H w v) (h : w.py S = some y) : Dp G.K H v y := by
  cases w with
  | val d => exact toPy_dp R (show Rp G φ H d v from r) (show toPy S deepest d = some y from h)
  | lis ds =>
    obtain ⟨ys, h1, rfl⟩ := Option.map_eq_some_iff.mp (show (mapO (toPy S deepest) ds).map PyData.list = some y from h)
    obtain ⟨a, vs, rfl, h2, _, h3⟩ := r
    exact .lst (SqL.of h2) (mapPy_dp R h3 h1)
end

section
variable {G : Gb} {X : Cx}
theorem vv_ok {φ : List Addr} {H : Hp} {S : Store} {d : D} {v : V} {xk : XK} {Q : VK} (R : Rel G φ H S) (h : Post G (RlW G) φ H (vv d S) xk Q) (r : Rp G φ H d v) : Q v H := Post.ok (L := RlW G) h (Ext.refl _ _) R (rl_val r)
theorem rp_bl {φ : List Addr} {H : Hp} {b : Bool} : Rp G φ H (.bl b) (.bl b) := by unfold Rp; rfl
theorem rp_in {φ : List Addr} {H : Hp} {b : Int} : Rp G φ H (.int b) (.int b) := by unfold Rp; rfl
theorem rp_st {φ : List Addr} {H : Hp} {b : Str} : Rp G φ H (.str b) (.str b) := by unfold Rp; rfl
theorem rp_no {φ : List Addr} {H : Hp} : Rp G φ H .non .non := by unfold Rp; rfl
theorem rp_str {φ : List Addr} {H : Hp} {i : Str} {v : V} (h : RpW G φ H (.val (.str i)) v) : v = .str i := by unfold RpW Rp at h; exact h

theorem o_eq (hK : X.K = G.K) (hu : X.A.units + 64 < cLine) : OpR X (compareOp .Eq) (rP2 G (p2 .eq)) := by
  intro pins s σ H x y v u Q I rx ry h
  obtain ⟨φ, w1, w2, S, xk, R, r1, r2, h⟩ := h
  unfold p2 at h
  dsimp only at h
  rw [eqW_eq] at h
  cases q1 : w1.py S with
  | none => simp only [q1] at h; exact h.elim
  | some a =>
    cases q2 : w2.py S with
    | none => simp only [q1, q2] at h; exact h.elim
    | some b =>
      simp only [q1, q2] at h
      obtain ⟨p1, d1⟩ := py_ok q1
      obtain ⟨p2, d2⟩ := py_ok q2
      obtain ⟨as, t1⟩ := Dp.reads I a x v (by rw [hK]; exact py_dp R r1 q1) rx
      obtain ⟨bs, t2⟩ := Dp.reads I b y u (by rw [hK]; exact py_dp R r2 q2) ry
      exact SeqAt.eq_plain t1 t2 p1 p2 (by have : deepest = 40 := rfl; omega) ⟨.bl _, H, I, rfl, vv_ok R h rp_bl⟩
theorem o_ne (hK : X.K = G.K) (hu : X.A.units + 64 < cLine) : OpR X (compareOp .NotEq) (rP2 G (p2 .ne)) := by
  intro pins s σ H x y v u Q I rx ry h
  obtain ⟨φ, w1, w2, S, xk, R, r1, r2, h⟩ := h
  unfold p2 at h
  dsimp only at h
  rw [eqW_eq] at h
  cases q1 : w1.py S with
  | none => simp only [q1] at h; exact h.elim
  | some a =>
    cases q2 : w2.py S with
    | none => simp only [q1, q2] at h; exact h.elim
    | some b =>
      simp only [q1, q2] at h
      obtain ⟨p1, d1⟩ := py_ok q1
      obtain ⟨p2, d2⟩ := py_ok q2
      obtain ⟨as, t1⟩ := Dp.reads I a x v (by rw [hK]; exact py_dp R r1 q1) rx
      obtain ⟨bs, t2⟩ := Dp.reads I b y u (by rw [hK]; exact py_dp R r2 q2) ry
      exact SeqAt.ne_plain t1 t2 p1 p2 (by have : deepest = 40 := rfl; omega) ⟨.bl _, H, I, rfl, vv_ok R h rp_bl⟩
theorem isNone_ne {a : PyData} (h : isNonePy a = false) : a ≠ .none := by rintro rfl; cases h
theorem o_lt (hK : X.K = G.K) (hu : X.A.units + 64 < cLine) : OpR X (compareOp .Lt) (rP2 G (p2 .lt)) := by
  intro pins s σ H x y v u Q I rx ry h
  obtain ⟨φ, w1, w2, S, xk, R, r1, r2, h⟩ := h
  unfold p2 at h
  dsimp only at h
  cases q1 : w1.py S with
  | none => simp only [q1] at h; exact h.elim
  | some a =>
    cases q2 : w2.py S with
    | none => simp only [q1, q2] at h; exact h.elim
    | some b =>
      simp only [q1, q2] at h
      obtain ⟨p1, d1⟩ := py_ok q1
      obtain ⟨as, t1⟩ := Dp.reads I a x v (by rw [hK]; exact py_dp R r1 q1) rx
      obtain ⟨bs, t2⟩ := Dp.reads I b y u (by rw [hK]; exact py_dp R r2 q2) ry
      unfold cmpD at h
      by_cases c : (W.alike a b && !isNonePy a) = true
      · rw [if_pos c] at h
        obtain ⟨c1, c2⟩ := Bool.and_eq_true_iff.mp c
        exact W.lt_data t1 t2 c1 (isNone_ne (by simpa using c2)) (by have : deepest = 40 := rfl; omega) ⟨.bl _, H, I, rfl, vv_ok R h rp_bl⟩
      · rw [if_neg c] at h; exact h.elim
theorem o_gt (hK : X.K = G.K) (hu : X.A.units + 64 < cLine) : OpR X (compareOp .Gt) (rP2 G (p2 .gt)) := by
  intro pins s σ H x y v u Q I rx ry h
  obtain ⟨φ, w1, w2, S, xk, R, r1, r2, h⟩ := h
  unfold p2 at h
  dsimp only at h
  cases q1 : w1.py S with
  | none => simp only [q1] at h; exact h.elim
  | some a =>
    cases q2 : w2.py S with
    | none => simp only [q1, q2] at h; exact h.elim
    | some b =>
      simp only [q1, q2] at h
      obtain ⟨p1, d1⟩ := py_ok q1
      obtain ⟨as, t1⟩ := Dp.reads I a x v (by rw [hK]; exact py_dp R r1 q1) rx
      obtain ⟨bs, t2⟩ := Dp.reads I b y u (by rw [hK]; exact py_dp R r2 q2) ry
      unfold cmpD at h
      by_cases c : (W.alike a b && !isNonePy a) = true
      · rw [if_pos c] at h
        obtain ⟨c1, c2⟩ := Bool.and_eq_true_iff.mp c
        exact W.gt_data t1 t2 c1 (isNone_ne (by simpa using c2)) (by have : deepest = 40 := rfl; omega) ⟨.bl _, H, I, rfl, vv_ok R h rp_bl⟩
      · rw [if_neg c] at h; exact h.elim
theorem o_le (hK : X.K = G.K) (hu : X.A.units + 64 < cLine) : OpR X (compareOp .LtE) (rP2 G (p2 .le)) := by
  intro pins s σ H x y v u Q I rx ry h
  obtain ⟨φ, w1, w2, S, xk, R, r1, r2, h⟩ := h
  unfold p2 at h
  dsimp only at h
  cases q1 : w1.py S with
  | none => simp only [q1] at h; exact h.elim
  | some a =>
    cases q2 : w2.py S with
    | none => simp only [q1, q2] at h; exact h.elim
    | some b =>
      simp only [q1, q2] at h
      obtain ⟨p1, d1⟩ := py_ok q1
      obtain ⟨as, t1⟩ := Dp.reads I a x v (by rw [hK]; exact py_dp R r1 q1) rx
      obtain ⟨bs, t2⟩ := Dp.reads I b y u (by rw [hK]; exact py_dp R r2 q2) ry
      unfold cmpD at h
      by_cases c : (W.alike a b && !isNonePy a) = true
      · rw [if_pos c] at h
        obtain ⟨c1, c2⟩ := Bool.and_eq_true_iff.mp c
        exact W.le_data t1 t2 c1 (isNone_ne (by simpa using c2)) (by have : deepest = 40 := rfl; omega) ⟨.bl _, H, I, rfl, vv_ok R h rp_bl⟩
      · rw [if_neg c] at h; exact h.elim
theorem o_ge (hK : X.K = G.K) (hu : X.A.units + 64 < cLine) : OpR X (compareOp .GtE) (rP2 G (p2 .ge)) := by
  intro pins s σ H x y v u Q I rx ry h
  obtain ⟨φ, w1, w2, S, xk, R, r1, r2, h⟩ := h
  unfold p2 at h
  dsimp only at h
  cases q1 : w1.py S with
  | none => simp only [q1] at h; exact h.elim
  | some a =>
    cases q2 : w2.py S with
    | none => simp only [q1, q2] at h; exact h.elim
    | some b =>
      simp only [q1, q2] at h
      obtain ⟨p1, d1⟩ := py_ok q1
      obtain ⟨as, t1⟩ := Dp.reads I a x v (by rw [hK]; exact py_dp R r1 q1) rx
      obtain ⟨bs, t2⟩ := Dp.reads I b y u (by rw [hK]; exact py_dp R r2 q2) ry
      unfold cmpD at h
      by_cases c : (W.alike a b && !isNonePy a) = true
      · rw [if_pos c] at h
        obtain ⟨c1, c2⟩ := Bool.and_eq_true_iff.mp c
        exact W.ge_data t1 t2 c1 (isNone_ne (by simpa using c2)) (by have : deepest = 40 := rfl; omega) ⟨.bl _, H, I, rfl, vv_ok R h rp_bl⟩
      · rw [if_neg c] at h; exact h.elim

/-! ### in -/
def OpRp (G : Gb) (φ : List Addr) (H : Hp) (o : Option D) (ov : Option V) : Prop := match o with
  | some d => ∃ w, ov = some w ∧ Rp G φ H d w
  | none => ov = none
theorem RpKV.look {κ : Type} [DecidableEq κ] {φ : List Addr} {H : Hp} {k : κ} : ∀ {kvs : List (κ × D)} {vs : List (κ × V)}, RpKV G φ H kvs vs → OpRp G φ H (lookD kvs k) (valV vs k)
  | [], vs, h => by
    have h : vs = [] := h
    subst h
    rfl
  | p :: r, vs, h => by
    obtain ⟨v, t, rfl, h1, h2⟩ := h
    by_cases c : p.1 = k
    · have e : lookD (p :: r) k = some p.2 := by simp [lookD, List.find?_cons, c]
      rw [e, valV_pos (p := (p.1, v)) c]
      exact ⟨v, rfl, h1⟩
    · have e : lookD (p :: r) k = lookD r k := by simp [lookD, List.find?_cons, c]
      rw [e, valV_neg (p := (p.1, v)) c]
      exact RpKV.look h2
theorem key_v {φ : List Addr} {H : Hp} {d : D} {k : Key} {v : V} (h : d.key = some k) (r : Rp G φ H d v) : v = kV k := by
  cases d with
  | int i => cases h; unfold Rp at r; exact r
  | str x => cases h; unfold Rp at r; exact r
  | _ => cases h
theorem keys_v {φ : List Addr} {H : Hp} : ∀ {ds : List D} {ks : List Key} {vs : List V}, mapO D.key ds = some ks → Rps G φ H ds vs → vs = ks.map kV
  | [], ks, vs, h, r => by unfold Rps at r; subst r; rw [mapO_nil h]; try rfl
  | d :: ds, ks, vs, h, r => by
    obtain ⟨b, bs, h1, h2, rfl⟩ := mapO_cons h
    unfold Rps at r
    obtain ⟨v, t, rfl, r1, r2⟩ := r
    rw [List.map_cons, key_v h1 r1, keys_v h2 r2]
theorem keyT_v {φ : List Addr} {H : Hp} {d : D} {ks : List Key} {v : V} (h : d.keyT = some ks) (r : Rp G φ H d v) : ∃ b, v = .ref b ∧ H b = some (.tup (ks.map kV)) := by
  cases d with
  | tup ds =>
    unfold Rp at r
    obtain ⟨a, vs, rfl, ha, hr⟩ := r
    have e := keys_v (show mapO D.key ds = some ks from h) hr
    subst e
    exact ⟨a, rfl, ha⟩
  | _ => cases h
theorem look_dget {φ : List Addr} {H : Hp} {S : Store} {n : Nat} {k : D} {o : Option D} {a : Addr} {v : V} (R : Rel G φ H S) (ha : φ[n]? = some a) (r : Rp G φ H k v) (h : look S n k = some o) : ∃ ov, DGet H a v ov ∧ OpRp G φ H o ov := by
  unfold look at h
  cases q : S[n]? with
  | none => simp only [q] at h; cases h
  | some ob =>
    cases ob with
    | dk kvs =>
      simp only [q] at h
      obtain ⟨k', hk, rfl⟩ := Option.map_eq_some_iff.mp h
      obtain ⟨vs, h1, h2⟩ := R.obj n a _ ha q
      have e := key_v hk r
      subst e
      exact ⟨_, .inl ⟨vs, k', .inl h1, rfl, rfl⟩, RpKV.look h2⟩
    | dt kvs =>
      simp only [q] at h
      obtain ⟨k', hk, rfl⟩ := Option.map_eq_some_iff.mp h
      obtain ⟨vs, h1, h2⟩ := R.obj n a _ ha q
      obtain ⟨b, rfl, hb⟩ := keyT_v hk r
      exact ⟨_, .inr ⟨vs, k', b, .inl h1, rfl, hb, rfl⟩, RpKV.look h2⟩
    | _ => simp only [q] at h; cases h
theorem seq_or {H : Hp} {a : Addr} {vs : List V} {b : Bool} (h : if b = true then SqT G.K H a vs else SqL G.K H a vs) : SqL G.K H a vs ∨ SqT G.K H a vs := by
  cases b with
  | true => exact .inr (ifT h)
  | false => exact .inl (ifF h)
/-- what «in» comes to -/
theorem in_cases {φ : List Addr} {H : Hp} {S : Store} {w1 w2 : W} {x y : V} {b : Bool} (R : Rel G φ H S) (r1 : RpW G φ H w1 x) (r2 : RpW G φ H w2 y) (h : isIn w1 w2 S = some b) :
    (∃ t z, x = .str z ∧ y = .str t ∧ b = !(Builtin.Str.occurrences t z 0 t.length 1).isEmpty) ∨
    (∃ a vs ys p, y = .ref a ∧ (SqL G.K H a vs ∨ SqT G.K H a vs) ∧ DpAll G.K H vs ys ∧ Dp G.K H x p ∧ PyData.plainAll ys = true ∧ p.plain = true ∧ PyData.depthAll ys ≤ deepest ∧ b = ys.any fun y => PyData.eqv y p) ∨
    (∃ a o, y = .ref a ∧ DGet H a x o ∧ b = o.isSome) := by
  unfold isIn at h
  cases hq : w2.seq S with
  | some bd =>
    obtain ⟨bb, ds⟩ := bd
    have h : ((w1.py S).bind fun p => (mapO (toPy S deepest) ds).map fun ys => ys.any fun y => PyData.eqv y p) = some b := by
      cases w2 with
      | lis es => simp only [hq] at h; exact h
      | val d =>
        cases d with
        | str t => cases hq
        | _ => simp only [hq] at h; exact h
    obtain ⟨p, hp, h⟩ := Option.bind_eq_some_iff.mp h
    obtain ⟨ys, hy, rfl⟩ := Option.map_eq_some_iff.mp h
    obtain ⟨a, vs, rfl, hs, hr⟩ := seq_rp R r2 hq
    obtain ⟨m1, m2⟩ := mapPy_ok hy
    exact .inr (.inl ⟨a, vs, ys, p, rfl, seq_or hs, mapPy_dp R hr hy, py_dp R r1 hp, m1, (py_ok hp).1, m2, rfl⟩)
  | none =>
    cases w2 with
    | lis es => cases hq
    | val d =>
      cases d with
      | str t =>
        cases w1 with
        | lis es => cases h
        | val d1 =>
          cases d1 with
          | str z =>
            cases h
            exact .inl ⟨t, z, rp_str r1, rp_str r2, strIn_eq⟩
          | _ => cases h
      | ref n =>
        simp only [hq] at h
        cases w1 with
        | lis es => cases h
        | val d1 =>
          obtain ⟨o, ho, rfl⟩ := Option.map_eq_some_iff.mp h
          unfold RpW Rp at r2
          obtain ⟨a, rfl, ha⟩ := r2
          obtain ⟨ov, hd, hm⟩ := look_dget R ha (show Rp G φ H d1 x from r1) ho
          refine .inr (.inr ⟨a, ov, rfl, hd, ?_⟩)
          cases o with
          | none => have hm : ov = none := hm; rw [hm]; try rfl
          | some d => obtain ⟨w, rfl, _⟩ := hm; rfl
      | tup es => cases hq
      | kt es => cases hq
      | ls es => cases hq
      | _ => simp only [hq] at h; cases h
theorem o_in (hK : X.K = G.K) (hu : X.A.units + 64 < cLine) : OpR X (compareOp .In) (rP2 G (p2 .inn)) := by
  intro pins s σ H x y v u Q I rx ry h
  obtain ⟨φ, w1, w2, S, xk, R, r1, r2, h⟩ := h
  unfold p2 at h
  dsimp only at h
  cases hi : isIn w1 w2 S with
  | none => simp only [hi] at h; exact h.elim
  | some b =>
    simp only [hi] at h
    have q := vv_ok R h rp_bl
    rcases in_cases R r1 r2 hi with ⟨t, z, rfl, rfl, rfl⟩ | ⟨a, vs, ys, p, rfl, hs, hv, hp, m1, m2, m3, rfl⟩ | ⟨a, o, rfl, hd, rfl⟩
    · exact op_in_str pins s σ H _ _ v u Q I rx ry ⟨z, t, rfl, rfl, q⟩
    · obtain ⟨bs, t2⟩ := Dp.reads I p x v (by rw [hK]; exact hp) rx
      have hu' : X.A.units + 1 + min (PyData.depthAll ys) p.depth < cLine := by have : deepest = 40 := rfl; omega
      rcases hs with hs | hs
      · obtain ⟨as, t1⟩ := Dp.reads I (.list ys) (.ref a) u (by rw [hK]; exact .lst hs hv) ry
        exact SeqAt.in_list_data t1 t2 m1 m2 hu' ⟨.bl _, H, I, rfl, q⟩
      · obtain ⟨as, t1⟩ := Dp.reads I (.tuple ys) (.ref a) u (by rw [hK]; exact .tup hs hv) ry
        exact SeqAt.in_tuple_data t1 t2 m1 m2 hu' ⟨.bl _, H, I, rfl, q⟩
    · cases (show u = Value.ref a from ry)
      exact d_in (by omega) I hd rx fun s' I' => ⟨.bl _, H, I', rfl, q⟩
theorem o_nin (hK : X.K = G.K) (hu : X.A.units + 64 < cLine) : OpR X (compareOp .NotIn) (rP2 G (p2 .nin)) := by
  intro pins s σ H x y v u Q I rx ry h
  obtain ⟨φ, w1, w2, S, xk, R, r1, r2, h⟩ := h
  unfold p2 at h
  dsimp only at h
  cases hi : isIn w1 w2 S with
  | none => simp only [hi] at h; exact h.elim
  | some b =>
    simp only [hi] at h
    have q := vv_ok R h rp_bl
    rcases in_cases R r1 r2 hi with ⟨t, z, rfl, rfl, rfl⟩ | ⟨a, vs, ys, p, rfl, hs, hv, hp, m1, m2, m3, rfl⟩ | ⟨a, o, rfl, hd, rfl⟩
    · exact op_notin_str pins s σ H _ _ v u Q I rx ry ⟨z, t, rfl, rfl, q⟩
    · obtain ⟨bs, t2⟩ := Dp.reads I p x v (by rw [hK]; exact hp) rx
      have hu' : X.A.units + 1 + min (PyData.depthAll ys) p.depth < cLine := by have : deepest = 40 := rfl; omega
      rcases hs with hs | hs
      · obtain ⟨as, t1⟩ := Dp.reads I (.list ys) (.ref a) u (by rw [hK]; exact .lst hs hv) ry
        exact SeqAt.notIn_list_data t1 t2 m1 m2 hu' ⟨.bl _, H, I, rfl, q⟩
      · obtain ⟨as, t1⟩ := Dp.reads I (.tuple ys) (.ref a) u (by rw [hK]; exact .tup hs hv) ry
        exact SeqAt.notIn_tuple_data t1 t2 m1 m2 hu' ⟨.bl _, H, I, rfl, q⟩
    · cases (show u = Value.ref a from ry)
      exact d_notIn (by omega) I hd rx fun s' I' => ⟨.bl _, H, I', rfl, q⟩

/-! ### is None -/
theorem o_isN : OpR X (compareOp .Is) (fun x y H Q => y = .non ∧ rP1 G (p1 .isN) x H Q) := by
  intro pins s σ H x y v u Q I rx ry h
  obtain ⟨rfl, φ, w1, S, xk, R, r1, h⟩ := h
  refine op_isN pins s σ H x .non v u Q I rx ry ⟨rfl, ?_⟩
  have hx : vv (D.bl (decide (x = .non))) S = p1 .isN w1 S := by
    cases w1 with
    | lis ds =>
      obtain ⟨a, vs, rfl, _⟩ := r1
      rfl
    | val d =>
      cases d <;> unfold RpW Rp at r1 <;> first
        | (subst r1; rfl)
        | (obtain ⟨a, vs, rfl, _⟩ := r1; rfl)
        | (obtain ⟨a, rfl, _⟩ := r1; rfl)
  rw [← hx] at h
  exact vv_ok R h rp_bl
theorem o_notN : OpR X (compareOp .IsNot) (fun x y H Q => y = .non ∧ rP1 G (p1 .notN) x H Q) := by
  intro pins s σ H x y v u Q I rx ry h
  obtain ⟨rfl, φ, w1, S, xk, R, r1, h⟩ := h
  refine op_notN pins s σ H x .non v u Q I rx ry ⟨rfl, ?_⟩
  have hx : vv (D.bl (!decide (x = .non))) S = p1 .notN w1 S := by
    cases w1 with
    | lis ds =>
      obtain ⟨a, vs, rfl, _⟩ := r1
      rfl
    | val d =>
      cases d <;> unfold RpW Rp at r1 <;> first
        | (subst r1; rfl)
        | (obtain ⟨a, vs, rfl, _⟩ := r1; rfl)
        | (obtain ⟨a, rfl, _⟩ := r1; rfl)
  rw [← hx] at h
  exact vv_ok R h rp_bl
end
end Mi

/-! Mi, part G: arithmetic, subscripts, built-in calls and methods. -/
namespace Mi
open PySem L2 PyProof.Rows RT RZ

section
variable {G : Gb} {X : Cx}
theorem lis_new {φ : List Addr} {H : Hp} {S : Store} {ds : List D} {vs : List V} {p : Addr} {xk : XK} {Q : VK} (R : Rel G φ H S) (h : Post G (RlW G) φ H (.ok (.lis ds) S) xk Q) (r : Rps G φ H ds vs) (hp : H p = none) : Q (.ref p) (upd H p (.lst vs)) := by
  have E := Ext.fresh R hp (.lst vs)
  exact Post.ok (L := RlW G) h E (R.fresh hp _) ⟨⟨p, vs, rfl, upd_same, R.unk hp, Rps.mono (E.toKeep R) _ _ r⟩, fun ds a e1 e2 => by cases e2; exact hp⟩
theorem tup_new {φ : List Addr} {H : Hp} {S : Store} {ds : List D} {vs : List V} {p : Addr} {xk : XK} {Q : VK} (R : Rel G φ H S) (h : Post G (RlW G) φ H (vv (.tup ds) S) xk Q) (r : Rps G φ H ds vs) (hp : H p = none) : Q (.ref p) (upd H p (.tup vs)) := by
  have E := Ext.fresh R hp (.tup vs)
  refine Post.ok (L := RlW G) h E (R.fresh hp _) (rl_val ?_)
  unfold Rp
  exact ⟨p, vs, rfl, upd_same, Rps.mono (E.toKeep R) _ _ r⟩
theorem Rps.app {φ : List Addr} {H : Hp} : ∀ {ds es : List D} {vs ws : List V}, Rps G φ H ds vs → Rps G φ H es ws → Rps G φ H (ds ++ es) (vs ++ ws)
  | [], _, vs, _, h, r => by unfold Rps at h; subst h; exact r
  | d :: ds, es, _, ws, h, r => by
    unfold Rps at h
    obtain ⟨w, t, rfl, h1, h2⟩ := h
    show Rps G φ H (d :: (ds ++ es)) (w :: (t ++ ws))
    unfold Rps
    exact ⟨w, t ++ ws, rfl, h1, Rps.app h2 r⟩
theorem Rps.take {φ : List Addr} {H : Hp} : ∀ {ds : List D} {vs : List V} (n : Nat), Rps G φ H ds vs → Rps G φ H (ds.take n) (vs.take n)
  | _, _, 0, _ => by simp [Rps]
  | [], vs, n + 1, h => by unfold Rps at h; subst h; simp [Rps]
  | d :: ds, _, n + 1, h => by
    unfold Rps at h
    obtain ⟨w, t, rfl, h1, h2⟩ := h
    show Rps G φ H (d :: ds.take n) (w :: t.take n)
    unfold Rps
    exact ⟨w, _, rfl, h1, Rps.take n h2⟩
theorem Rps.drop {φ : List Addr} {H : Hp} : ∀ {ds : List D} {vs : List V} (n : Nat), Rps G φ H ds vs → Rps G φ H (ds.drop n) (vs.drop n)
  | _, _, 0, h => h
  | [], vs, n + 1, h => by unfold Rps at h; subst h; simp [Rps]
  | d :: ds, _, n + 1, h => by
    unfold Rps at h
    obtain ⟨w, t, rfl, h1, h2⟩ := h
    exact Rps.drop n h2
theorem Rps.set {φ : List Addr} {H : Hp} {d : D} {v : V} (r : Rp G φ H d v) : ∀ {ds : List D} {vs : List V} (n : Nat), Rps G φ H ds vs → Rps G φ H (ds.set n d) (vs.set n v)
  | [], vs, n, h => by unfold Rps at h; subst h; simp [Rps]
  | e :: ds, _, 0, h => by
    unfold Rps at h
    obtain ⟨w, t, rfl, h1, h2⟩ := h
    show Rps G φ H (d :: ds) (v :: t)
    unfold Rps
    exact ⟨v, t, rfl, r, h2⟩
  | e :: ds, _, n + 1, h => by
    unfold Rps at h
    obtain ⟨w, t, rfl, h1, h2⟩ := h
    show Rps G φ H (e :: ds.set n d) (w :: t.set n v)
    unfold Rps
    exact ⟨w, _, rfl, h1, Rps.set r n h2⟩
theorem Rps.dropLast {φ : List Addr} {H : Hp} {ds : List D} {vs : List V} (h : Rps G φ H ds vs) : Rps G φ H ds.dropLast vs.dropLast := by
  rw [List.dropLast_eq_take, List.dropLast_eq_take, h.len]
  exact h.take _

theorem Rps.rep {φ : List Addr} {H : Hp} {ds : List D} {vs : List V} (h : Rps G φ H ds vs) : ∀ n : Nat, Rps G φ H (List.replicate n ds).flatten (List.replicate n vs).flatten
  | 0 => by simp [Rps]
  | n + 1 => by
    rw [List.replicate_succ, List.replicate_succ, List.flatten_cons, List.flatten_cons]
    exact h.app (h.rep n)
theorem o_sub : OpR X (binaryOp .Sub) (rP2 G (p2 .sub)) := by
  intro pins s σ H x y v u Q I rx ry h
  obtain ⟨φ, w1, w2, S, xk, R, r1, r2, h⟩ := h
  unfold p2 at h
  dsimp only at h
  split at h
  · exact op_sub pins s σ H x y v u Q I rx ry ⟨_, _, rp_int r1, rp_int r2, vv_ok R h rp_in⟩
  · exact h.elim
theorem o_fdiv : OpR X (binaryOp .FloorDiv) (rP2 G (p2 .fdiv)) := by
  intro pins s σ H x y v u Q I rx ry h
  obtain ⟨φ, w1, w2, S, xk, R, r1, r2, h⟩ := h
  unfold p2 at h
  dsimp only at h
  split at h
  · rename_i i j
    by_cases c : divFits j = true
    · rw [if_pos c] at h
      have c := of_decide_eq_true c
      exact op_fdivW pins s σ H x y v u Q I rx ry ⟨_, _, rp_int r1, rp_int r2, c, vv_ok R h rp_in⟩
    · rw [if_neg c] at h; exact h.elim
  · exact h.elim
theorem o_mod : OpR X (binaryOp .Mod) (rP2 G (p2 .mod)) := by
  intro pins s σ H x y v u Q I rx ry h
  obtain ⟨φ, w1, w2, S, xk, R, r1, r2, h⟩ := h
  unfold p2 at h
  dsimp only at h
  split at h
  · rename_i i j
    by_cases c : 0 < j
    · rw [if_pos c] at h
      exact op_mod pins s σ H x y v u Q I rx ry ⟨_, _, rp_int r1, rp_int r2, c, vv_ok R h rp_in⟩
    · rw [if_neg c] at h; exact h.elim
  · exact h.elim
theorem o_pow : OpR X (binaryOp .Pow) (rP2 G (p2 .pow)) := by
  intro pins s σ H x y v u Q I rx ry h
  obtain ⟨φ, w1, w2, S, xk, R, r1, r2, h⟩ := h
  unfold p2 at h
  dsimp only at h
  split at h
  · rename_i i j
    by_cases c : 0 ≤ j ∧ j ≤ 1000000 ∧ i.natAbs < 2 ^ 64
    · rw [if_pos c] at h
      exact op_pow pins s σ H x y v u Q I rx ry ⟨_, _, rp_int r1, rp_int r2, c, vv_ok R h rp_in⟩
    · rw [if_neg c] at h; exact h.elim
  · exact h.elim
theorem lst_rp {φ : List Addr} {H : Hp} {S : Store} {w : W} {v : V} {ds : List D} {b : Bool} (R : Rel G φ H S) (r : RpW G φ H w v) (h : w.seq S = some (b, ds)) (hl : isLst S w = true) : ∃ a vs, v = .ref a ∧ H a = some (.lst vs) ∧ Rps G φ H ds vs := by
  cases w with
  | lis es =>
    have h : some (false, es) = some (b, ds) := h
    cases h
    obtain ⟨a, vs, e, h1, _, h2⟩ := r
    exact ⟨a, vs, e, h1, h2⟩
  | val d =>
    cases d with
    | ref n =>
      unfold RpW Rp at r
      obtain ⟨a, e, h1⟩ := r
      unfold W.seq at h
      cases hs : S[n]? with
      | none => simp only [hs] at h; cases h
      | some o =>
        cases o with
        | lst es =>
          simp only [hs] at h
          cases h
          obtain ⟨vs, h2, h3⟩ := R.obj n a _ h1 hs
          exact ⟨a, vs, e, h2, h3⟩
        | _ => simp only [hs] at h; cases h
    | _ => cases hl
theorem o_add (hK : X.K = G.K) : OpR X (binaryOp .Add) (rP2 G (p2 .add)) := by
  intro pins s σ H x y v u Q I rx ry h
  obtain ⟨φ, w1, w2, S, xk, R, r1, r2, h⟩ := h
  unfold p2 at h
  dsimp only at h
  split at h
  · exact op_add pins s σ H x y v u Q I rx ry ⟨_, _, rp_int r1, rp_int r2, vv_ok R h rp_in⟩
  · rename_i a b
    by_cases c : a.length + b.length ≤ sizeLine
    · rw [if_pos c] at h
      exact op_add_str pins s σ H x y v u Q I rx ry ⟨_, _, rp_str r1, rp_str r2, c, vv_ok R h rp_st⟩
    · rw [if_neg c] at h; exact h.elim
  · split at h
    · rename_i xs ys h1 h2
      by_cases c : (isLst S w1 && isLst S w2 && decide (xs.length + ys.length ≤ sizeLine)) = true
      · rw [if_pos c] at h
        obtain ⟨c12, c3⟩ := Bool.and_eq_true_iff.mp c
        obtain ⟨c1, c2⟩ := Bool.and_eq_true_iff.mp c12
        have c3 := of_decide_eq_true c3
        obtain ⟨a, vs, rfl, ha, hr⟩ := lst_rp R r1 h1 c1
        obtain ⟨b, ws, rfl, hb, hs⟩ := lst_rp R r2 h2 c2
        exact op_cat pins s σ H _ _ v u Q I rx ry ⟨a, b, vs, ws, rfl, rfl, ha, hb, by rw [← hr.len, ← hs.len]; exact c3, fun p hp => lis_new R h (hr.app hs) hp⟩
      · rw [if_neg c] at h; exact h.elim
    · rename_i xs ys h1 h2
      by_cases c : (!xs.isEmpty && !ys.isEmpty && decide (xs.length + ys.length ≤ sizeLine)) = true
      · rw [if_pos c] at h
        obtain ⟨c12, c3⟩ := Bool.and_eq_true_iff.mp c
        obtain ⟨c1, c2⟩ := Bool.and_eq_true_iff.mp c12
        have c3 := of_decide_eq_true c3
        obtain ⟨a, vs, rfl, ha, hr⟩ := seq_rp R r1 h1
        obtain ⟨b, ws, rfl, hb, hs⟩ := seq_rp R r2 h2
        have n1 : vs ≠ [] := by
          rintro rfl
          have := hr.len
          cases xs with
          | nil => simp at c1
          | cons _ _ => simp at this
        have n2 : ws ≠ [] := by
          rintro rfl
          have := hs.len
          cases ys with
          | nil => simp at c2
          | cons _ _ => simp at this
        exact op_catT pins s σ H _ _ v u Q I rx ry ⟨a, b, vs, ws, rfl, rfl, by rw [hK]; exact ifT ha, by rw [hK]; exact ifT hb, n1, by rw [← hr.len, ← hs.len]; exact c3, fun q => absurd q n2, fun _ p hp => tup_new R h (hr.app hs) hp⟩
      · rw [if_neg c] at h; exact h.elim
    · exact h.elim
theorem o_mul : OpR X (binaryOp .Mult) (rP2 G (p2 .mul)) := by
  intro pins s σ H x y v u Q I rx ry h
  obtain ⟨φ, w1, w2, S, xk, R, r1, r2, h⟩ := h
  unfold p2 at h
  dsimp only at h
  split at h
  · rename_i i j
    by_cases c : mulFits i j = true
    · rw [if_pos c] at h
      have c := of_decide_eq_true c
      exact op_mulW pins s σ H x y v u Q I rx ry ⟨_, _, rp_int r1, rp_int r2, (by show _ < 1000000; omega), vv_ok R h rp_in⟩
    · rw [if_neg c] at h; exact h.elim
  · rename_i a j
    by_cases c : 0 ≤ j ∧ j ≤ 1000 ∧ a.length ≤ 1000
    · rw [if_pos c] at h
      have e1 := rp_str r1
      have e2 := rp_int r2
      subst e1 e2
      obtain ⟨t1, rfl⟩ := rx
      obtain ⟨t2, rfl⟩ := ry
      exact SB.mul (mulOk_of 1000 1000 c.2.2 (by omega) (by omega) (by decide) (by decide)) fun t' k => ⟨.str (Txt.mul a j), H, I.kept (t' := k) fun _ _ z => z, ⟨t', rfl⟩, vv_ok R h (by unfold Rp; rfl)⟩
    · rw [if_neg c] at h; exact h.elim
  · rename_i j _ _
    split at h
    · rename_i ds h1
      by_cases c : (isLst S w1 && fits62 j && decide (ds.length * j.toNat ≤ sizeLine)) = true
      · rw [if_pos c] at h
        obtain ⟨c12, c3⟩ := Bool.and_eq_true_iff.mp c
        obtain ⟨c1, c2⟩ := Bool.and_eq_true_iff.mp c12
        have c3 := of_decide_eq_true c3
        unfold fits62 at c2
        have c2 := of_decide_eq_true c2
        obtain ⟨a, vs, rfl, ha, hr⟩ := lst_rp R r1 h1 c1
        have e2 := rp_int r2
        subst e2
        exact op_rep pins s σ H _ _ v u Q I rx ry ⟨a, j, vs, rfl, rfl, ha, by omega, by omega, by rw [← hr.len]; exact c3, fun p hp => lis_new R h (hr.rep j.toNat) hp⟩
      · rw [if_neg c] at h; exact h.elim
    · exact h.elim
  · exact h.elim
theorem o_neg : UnR X (unaryOp .USub) (rP1 G (p1 .neg)) := by
  intro pins s σ H x v Q I rx h
  obtain ⟨φ, w1, S, xk, R, r1, h⟩ := h
  unfold p1 at h
  dsimp only at h
  split at h
  · exact un_neg pins s σ H x v Q I rx ⟨_, rp_int r1, vv_ok R h rp_in⟩
  · exact h.elim

/-! ### subscripts -/
theorem atI_rp {φ : List Addr} {H : Hp} {ds : List D} {vs : List V} {i : Int} {d : D} (h : Rps G φ H ds vs) (e : atI ds i = some d) : ∃ v, atI vs i = some v ∧ Rp G φ H d v := by
  unfold atI at e ⊢
  rw [← h.len]
  obtain ⟨j, hj, hd⟩ := Option.bind_eq_some_iff.mp e
  obtain ⟨v, hv, r⟩ := h.get hd
  exact ⟨v, by rw [hj]; exact hv, r⟩
theorem o_ix (hK : X.K = G.K) (hu : X.A.units + 64 < cLine) : IxR X (rP2 G (p2 .ix)) := by
  intro value slice pins s σ H x y v u Q I rx ry h hsub
  obtain ⟨φ, w1, w2, S, xk, R, r1, r2, h⟩ := h
  unfold p2 at h
  dsimp only at h
  split at h
  · rename_i z
    split at h
    · rename_i i
      split at h
      · rename_i c hc
        by_cases q : z.length ≤ sizeLine
        · rw [if_pos q] at h
          exact ix_seq value slice pins s σ H x y v u Q I rx ry (.inr (.inr ⟨z, i, c, rp_str r1, rp_int r2, q, hc, vv_ok R h rp_st⟩)) hsub
        · rw [if_neg q] at h; exact h.elim
      · exact h.elim
    · exact h.elim
  · split at h
    · rename_i b ds hq
      split at h
      · rename_i i
        split at h
        · rename_i d hd
          obtain ⟨a, vs, rfl, hs, hr⟩ := seq_rp R r1 hq
          obtain ⟨w, hw, rw'⟩ := atI_rp hr hd
          have q := vv_ok R h rw'
          rcases seq_or hs with hs | hs
          · exact ix_seq value slice pins s σ H _ y v u Q I rx ry (.inl ⟨a, vs, i, w, rfl, rp_int r2, by rw [hK]; exact hs, hw, q⟩) hsub
          · exact ix_seq value slice pins s σ H _ y v u Q I rx ry (.inr (.inl ⟨a, vs, i, w, rfl, rp_int r2, by rw [hK]; exact hs, hw, q⟩)) hsub
        · exact h.elim
      · exact h.elim
    · rename_i hq
      cases w1 with
      | lis es => exact h.elim
      | val d1 =>
        cases d1 with
        | ref n =>
          cases w2 with
          | lis es => exact h.elim
          | val k =>
            dsimp only at h
            split at h
            · rename_i d hl
              unfold RpW Rp at r1
              obtain ⟨a, rfl, ha⟩ := r1
              obtain ⟨ov, hg, w, rfl, rw'⟩ := look_dget R ha (show Rp G φ H k y from r2) hl
              cases (show v = Value.ref a from rx)
              have q := vv_ok R h rw'
              exact tail_any (dict_typeIs I hg) PySem.F.slot_dict_getitem.lookup (d_getItem (by omega) I hg ry fun w' s3 I3 rw' => ⟨w, H, I3, rw', q⟩) hsub
            · exact h.elim
        | _ => exact h.elim

/-! ### slices -/
theorem cut_rp {φ : List Addr} {H : Hp} {ds : List D} {vs : List V} (h : Rps G φ H ds vs) (lo hi : Option Int) : Rps G φ H (cutD ds lo hi) (cutV vs lo hi) := by
  unfold cutD cutV
  rw [← h.len]
  exact (h.drop _).take _
theorem cut_all {vs : List V} {lo hi : Option Int} (h : HT.sIx vs.length 0 lo = 0 ∧ HT.sIx vs.length vs.length hi = vs.length) : cutV vs lo hi = vs := by
  unfold cutV
  rw [h.1, h.2]
  simp
def rSl (G : Gb) : V → Option Int → Option Int → Hp → VK → Prop := fun x lo hi H Q => ∃ φ w1 S xk, Rel G φ H S ∧ RpW G φ H w1 x ∧ Post G (RlW G) φ H (cutW w1 lo hi S) xk Q
theorem o_sl (hK : X.K = G.K) : SlR X (rSl G) := by
  intro pins s σ H x v vl vu lo hi sl Q I rx hs pl pu h
  obtain ⟨φ, w1, S, xk, R, r1, h⟩ := h
  unfold cutW at h
  split at h
  · rename_i z
    by_cases c : z.length ≤ sizeLine
    · rw [if_pos c] at h
      exact sl_str pins s σ H x v vl vu lo hi sl Q I rx hs pl pu ⟨z, rp_str r1, c, vv_ok R h rp_st⟩
    · rw [if_neg c] at h; exact h.elim
  · split at h
    · rename_i ds hq
      obtain ⟨a, vs, rfl, hs', hr⟩ := seq_rp R r1 hq
      have hs' := ifT hs'
      by_cases c : HT.sIx vs.length 0 lo = 0 ∧ HT.sIx vs.length vs.length hi = vs.length
      · by_cases cz : (cutD ds lo hi).length = ds.length
        · rw [if_pos cz] at h; exact h.elim
        · exfalso
          apply cz
          rw [(cut_rp hr lo hi).len, cut_all c, hr.len]
      · by_cases cz : (cutD ds lo hi).length = ds.length
        · rw [if_pos cz] at h; exact h.elim
        · rw [if_neg cz] at h
          exact sl_tup pins s σ H _ v vl vu lo hi sl Q I rx hs pl pu ⟨a, vs, rfl, by rw [hK]; exact hs', c, fun p hp => tup_new R h (cut_rp hr lo hi) hp⟩
    · rename_i ds hq
      obtain ⟨a, vs, rfl, hs', hr⟩ := seq_rp R r1 hq
      have hs' := ifF hs'
      exact sl_list pins s σ H _ v vl vu lo hi sl Q I rx hs pl pu ⟨a, vs, rfl, by rw [hK]; exact hs', fun p hp => lis_new R h (cut_rp hr lo hi) hp⟩
    · exact h.elim
/-- a part of a slice, perhaps none -/
def optA (G : Gb) (Wx : WX) (oA : Option (AX W)) : TO := match oA with
  | none => tNoPart
  | some A => tPart (tK G Wx A)
theorem po_im {e : Option Expr} {oA : Option (AX W)} {Wx : WX} (h : match e, oA with | none, none => True | some e, some A => PE X e (tK G Wx A) | _, _ => False) : PO X e (optA G Wx oA) := by
  cases e with
  | none =>
    cases oA with
    | none => exact po_none
    | some A => exact h.elim
  | some e =>
    cases oA with
    | none => exact h.elim
    | some A => exact po_some h

/-! ### isinstance -/
def Ty.name : Ty → String
  | .int => "int" | .str => "str" | .bool => "bool" | .tuple => "tuple" | .list => "list"
theorem kNon : ∀ ty : Ty, kitB "NoneType" ty.name = some false := by intro ty; cases ty <;> decide +kernel
theorem kBool : ∀ ty : Ty, kitB "bool" ty.name = some (match ty with | .int => true | .bool => true | _ => false) := by intro ty; cases ty <;> decide +kernel
theorem kInt : ∀ ty : Ty, kitB "int" ty.name = some (match ty with | .int => true | _ => false) := by intro ty; cases ty <;> decide +kernel
theorem kStr : ∀ ty : Ty, kitB "str" ty.name = some (match ty with | .str => true | _ => false) := by intro ty; cases ty <;> decide +kernel
theorem kTup : ∀ ty : Ty, kitB "tuple" ty.name = some (match ty with | .tuple => true | _ => false) := by intro ty; cases ty <;> decide +kernel
theorem kLis : ∀ ty : Ty, kitB "list" ty.name = some (match ty with | .list => true | _ => false) := by intro ty; cases ty <;> decide +kernel
theorem kDic : ∀ ty : Ty, kitB "dict" ty.name = some false := by intro ty; cases ty <;> decide +kernel
theorem ty_of {φ : List Addr} {H : Hp} {S : Store} {w : W} {x : V} (R : Rel G φ H S) (r : RpW G φ H w x) (hp : w.plain S = true) : ∃ t, TyX G.K H x (.type t) ∧ ∀ ty : Ty, kitB t ty.name = some (Ty.of S w ty) := by
  cases w with
  | lis ds =>
    obtain ⟨a, vs, rfl, h1, _, _⟩ := r
    exact ⟨"list", .base (.lst h1), fun ty => (kLis ty).trans (by cases ty <;> rfl)⟩
  | val d =>
    cases d with
    | non => unfold RpW Rp at r; subst r; exact ⟨_, .base .non, fun ty => (kNon ty).trans (by cases ty <;> rfl)⟩
    | bl b => unfold RpW Rp at r; subst r; exact ⟨_, .base (.bl b), fun ty => (kBool ty).trans (by cases ty <;> rfl)⟩
    | int b => unfold RpW Rp at r; subst r; exact ⟨_, .base (.int b), fun ty => (kInt ty).trans (by cases ty <;> rfl)⟩
    | str b => unfold RpW Rp at r; subst r; exact ⟨_, .base (.str b), fun ty => (kStr ty).trans (by cases ty <;> rfl)⟩
    | tup ds =>
      unfold RpW Rp at r
      obtain ⟨a, vs, rfl, ha, _⟩ := r
      exact ⟨_, .base (.tup ha), fun ty => (kTup ty).trans (by cases ty <;> rfl)⟩
    | kt ds =>
      unfold RpW Rp at r
      obtain ⟨a, vs, rfl, ⟨o, its, n, h1, h2, _⟩, _⟩ := r
      exact ⟨_, .kTuple h1 h2, fun ty => (kTup ty).trans (by cases ty <;> rfl)⟩
    | ls ds =>
      unfold RpW Rp at r
      obtain ⟨a, vs, rfl, ha, _⟩ := r
      rcases ha with ⟨o, ha⟩ | ⟨o, its, n, h1, h2, _⟩
      · exact ⟨_, .base (.frz ha), fun ty => (kLis ty).trans (by cases ty <;> rfl)⟩
      · exact ⟨_, .kList h1 h2, fun ty => (kLis ty).trans (by cases ty <;> rfl)⟩
    | ref n =>
      unfold RpW Rp at r
      obtain ⟨a, rfl, ha⟩ := r
      unfold W.plain at hp
      cases hs : S[n]? with
      | none => simp only [hs] at hp; cases hp
      | some o =>
        have hT : ∀ ty, Ty.of S (.val (.ref n)) ty = match ty, o with | .list, .lst _ => true | _, _ => false := by
          intro ty
          cases ty <;> simp only [Ty.of, hs] <;> cases o <;> rfl
        cases o with
        | lst ds =>
          obtain ⟨vs, h1, _⟩ := R.obj n a _ ha hs
          exact ⟨_, .base (.lst h1), fun ty => (kLis ty).trans (by rw [hT]; cases ty <;> rfl)⟩
        | dk ds =>
          obtain ⟨vs, h1, _⟩ := R.obj n a _ ha hs
          exact ⟨_, .base (.dK h1), fun ty => (kDic ty).trans (by rw [hT]; cases ty <;> rfl)⟩
        | dt ds =>
          obtain ⟨vs, h1, _⟩ := R.obj n a _ ha hs
          exact ⟨_, .base (.dT h1), fun ty => (kDic ty).trans (by rw [hT]; cases ty <;> rfl)⟩
        | ins c fs => simp only [hs] at hp; cases hp
theorem kit_any {K : PySem.W.Frag} {t : String} {f : Ty → Bool} (h : ∀ ty : Ty, kitB t ty.name = some (f ty)) : ∀ ts : List Ty, PySem.W.kitAny K (.type t) (ts.map fun ty => Value.type ty.name) = some (ts.any f)
  | [] => kitAny_nil
  | ty :: ts => by
    rw [List.map_cons, List.any_cons]
    refine kitAny_cons (kit_ty (h ty)) (fun hb => ?_) fun hb => ?_
    · rw [hb, Bool.false_or]; exact kit_any h ts
    · rw [hb]; try rfl

/-! ### built-in calls of one argument -/
def rC1 (G : Gb) (o : P1) : List V → Hp → VK → Prop := fun vs H Q => ∃ v, vs = [v] ∧ rP1 G (p1 o) v H Q
theorem c_len (hK : X.K = G.K) : CallR X (.builtin "len") (rC1 G .len) := by
  intro pins s σ H xs us Q I r h
  obtain ⟨v, rfl, φ, w1, S, xk, R, r1, h⟩ := h
  unfold p1 at h
  dsimp only at h
  split at h
  · rename_i x
    by_cases c : x.length ≤ sizeLine
    · rw [if_pos c] at h
      have e := rp_str r1
      subst e
      exact call_len pins s σ H _ us Q I r ⟨_, x.length, rfl, ⟨c, rfl⟩, vv_ok R h rp_in⟩
    · rw [if_neg c] at h; exact h.elim
  · split at h
    · rename_i b ds hq
      obtain ⟨a, vs, rfl, hs, hr⟩ := seq_rp R r1 hq
      refine call_len_seq pins s σ H _ us Q I r ⟨a, vs, rfl, by rw [hK]; exact seq_or hs, ?_⟩
      rw [← hr.len]
      exact vv_ok R h rp_in
    · exact h.elim
theorem c_int : CallR X (.type "int") (rC1 G .int_) := by
  intro pins s σ H xs us Q I r h
  obtain ⟨v, rfl, φ, w1, S, xk, R, r1, h⟩ := h
  unfold p1 at h
  dsimp only at h
  split at h
  · have e := rp_int r1
    subst e
    exact call_int1 pins s σ H _ us Q I r (.inl ⟨_, rfl, vv_ok R h rp_in⟩)
  · rename_i b
    have e : v = .bl b := by unfold RpW Rp at r1; exact r1
    subst e
    exact call_int1 pins s σ H _ us Q I r (.inr ⟨_, rfl, vv_ok R h rp_in⟩)
  · rename_i z
    split at h
    · rename_i k hk
      by_cases c : z.length ≤ 640
      · rw [if_pos c] at h
        have e := rp_str r1
        subst e
        exact call_int_str pins s σ H _ us Q I r ⟨z, k, rfl, hk, c, vv_ok R h rp_in⟩
      · rw [if_neg c] at h; exact h.elim
    · exact h.elim
  · exact h.elim
theorem bls_v {φ : List Addr} {H : Hp} : ∀ {ds : List D} {bs : List Bool} {vs : List V}, blsOf ds = some bs → Rps G φ H ds vs → vs = bs.map V.bl
  | [], ys, vs, h, r => by unfold blsOf at h; cases h; unfold Rps at r; exact r
  | d :: ds, ys, vs, h, r => by
    unfold blsOf at h
    cases d with
    | bl x =>
      dsimp only at h
      obtain ⟨zs, hz, rfl⟩ := Option.map_eq_some_iff.mp h
      unfold Rps at r
      obtain ⟨v, t, rfl, r1, r2⟩ := r
      unfold Rp at r1
      rw [r1, bls_v hz r2]
      try rfl
    | _ => cases h
theorem c_all (hK : X.K = G.K) (hc : X.calm = true) : CallR X (.builtin "all") (rC1 G .all_) := by
  intro pins s σ H xs us Q I r h
  obtain ⟨v, rfl, φ, w1, S, xk, R, r1, h⟩ := h
  unfold p1 at h
  dsimp only at h
  split at h
  · rename_i ds hq
    split at h
    · rename_i bs hb
      obtain ⟨a, vs, rfl, hs, hr⟩ := seq_rp R r1 hq
      have e := bls_v hb hr
      subst e
      exact cr_all hc pins s σ H _ us Q I r ⟨a, bs, rfl, by rw [hK]; exact hs, vv_ok R h rp_bl⟩
    · exact h.elim
  · exact h.elim
theorem ints_v {φ : List Addr} {H : Hp} : ∀ {ds : List D} {ys : List Int} {vs : List V}, intsOf ds = some ys → Rps G φ H ds vs → vs = ys.map V.int
  | [], ys, vs, h, r => by cases h; unfold Rps at r; subst r; rfl
  | d :: ds, ys, vs, h, r => by
    unfold intsOf at h
    cases d with
    | int x =>
      dsimp only at h
      obtain ⟨zs, hz, rfl⟩ := Option.map_eq_some_iff.mp h
      unfold Rps at r
      obtain ⟨v, t, rfl, r1, r2⟩ := r
      unfold Rp at r1
      rw [r1, ints_v hz r2]
      try rfl
    | _ => cases h
theorem c_sum (hK : X.K = G.K) (hc : X.calm = true) : CallR X (.builtin "sum") (rC1 G .sum) := by
  intro pins s σ H xs us Q I r h
  obtain ⟨v, rfl, φ, w1, S, xk, R, r1, h⟩ := h
  unfold p1 at h
  dsimp only at h
  split at h
  · rename_i ds hq
    split at h
    · rename_i bs hb
      obtain ⟨a, vs, rfl, hs, hr⟩ := seq_rp R r1 hq
      have e := ints_v hb hr
      subst e
      exact cr_sum hc pins s σ H _ us Q I r ⟨a, bs, rfl, by rw [hK]; exact hs, vv_ok R h rp_in⟩
    · exact h.elim
  · exact h.elim
theorem c_abs : CallR X (.builtin "abs") (rC1 G .abs) := by
  intro pins s σ H xs us Q I r h
  obtain ⟨v, rfl, φ, w1, S, xk, R, r1, h⟩ := h
  unfold p1 at h
  dsimp only at h
  split at h
  · rename_i i
    have e := rp_int r1
    subst e
    exact call_abs pins s σ H _ us Q I r ⟨i, rfl, vv_ok R h rp_in⟩
  · exact h.elim
def rC2 (G : Gb) (o : P2) : List V → Hp → VK → Prop := fun vs H Q => ∃ u v, vs = [u, v] ∧ rP2 G (p2 o) u v H Q
theorem c_max (hc : X.calm = true) : CallR X (.builtin "max") (rC2 G .max_) := by
  intro pins s σ H xs us Q I r h
  obtain ⟨u, v, rfl, φ, w1, w2, S, xk, R, r1, r2, h⟩ := h
  unfold p2 at h
  dsimp only at h
  split at h
  · rename_i i j
    have e := rp_int r1
    subst e
    have e := rp_int r2
    subst e
    exact call_max2 hc pins s σ H _ us Q I r ⟨i, j, rfl, vv_ok R h rp_in⟩
  · exact h.elim
theorem c_min (hc : X.calm = true) : CallR X (.builtin "min") (rC2 G .min_) := by
  intro pins s σ H xs us Q I r h
  obtain ⟨u, v, rfl, φ, w1, w2, S, xk, R, r1, r2, h⟩ := h
  unfold p2 at h
  dsimp only at h
  split at h
  · rename_i i j
    have e := rp_int r1
    subst e
    have e := rp_int r2
    subst e
    exact call_min2 hc pins s σ H _ us Q I r ⟨i, j, rfl, vv_ok R h rp_in⟩
  · exact h.elim
theorem c_ord : CallR X (.builtin "ord") (rC1 G .ord) := by
  intro pins s σ H xs us Q I r h
  obtain ⟨v, rfl, φ, w1, S, xk, R, r1, h⟩ := h
  unfold p1 at h
  dsimp only at h
  split at h
  · rename_i x
    by_cases c : x.length = 1
    · rw [if_pos c] at h
      have e := rp_str r1
      subst e
      exact call_ord pins s σ H _ us Q I r ⟨x, rfl, c, vv_ok R h rp_in⟩
    · rw [if_neg c] at h; exact h.elim
  · exact h.elim
theorem c_str : CallR X (.type "str") (rC1 G .str_) := by
  intro pins s σ H xs us Q I r h
  obtain ⟨v, rfl, φ, w1, S, xk, R, r1, h⟩ := h
  unfold p1 at h
  dsimp only at h
  split at h
  · rename_i i
    by_cases c : i.natAbs.log2 < 1920
    · rw [if_pos c] at h
      have e := rp_int r1
      subst e
      exact call_str_int pins s σ H _ us Q I r ⟨i, rfl, c, vv_ok R h rp_st⟩
    · rw [if_neg c] at h; exact h.elim
  · exact h.elim
theorem c_tuple (hK : X.K = G.K) : CallR X (.type "tuple") (rC1 G .tuple_) := by
  intro pins s σ H xs us Q I r h
  obtain ⟨v, rfl, φ, w1, S, xk, R, r1, h⟩ := h
  unfold p1 at h
  dsimp only at h
  split at h
  · rename_i b ds hq
    obtain ⟨a, vs, rfl, hs, hr⟩ := seq_rp R r1 hq
    cases b with
    | false =>
      have h : Post G (RlW G) φ H (vv (.tup ds) S) xk Q := by
        cases w1 with
        | lis es => exact h
        | val d =>
          cases d with
          | kt es => cases hq
          | _ => exact h
      exact call_tuple_of pins s σ H _ us Q I r ⟨a, vs, rfl, .inl ⟨by rw [hK]; exact ifF hs, fun p hp => tup_new R h hr hp⟩⟩
    | true =>
      refine call_tuple_of pins s σ H _ us Q I r ⟨a, vs, rfl, .inr ⟨by rw [hK]; exact ifT hs, ?_⟩⟩
      cases w1 with
      | lis es => cases hq
      | val d =>
        cases d with
        | tup es => cases hq; exact Post.ok (L := RlW G) h (Ext.refl _ _) R ⟨r1, fun _ _ e => nomatch e⟩
        | kt es => exact h.elim
        | ref n =>
          unfold W.seq at hq
          dsimp only at hq
          split at hq <;> cases hq
        | _ => cases hq
  · exact h.elim
theorem c_list (hK : X.K = G.K) : CallR X (.type "list") (rC1 G .list_) := by
  intro pins s σ H xs us Q I r h
  obtain ⟨v, rfl, φ, w1, S, xk, R, r1, h⟩ := h
  unfold p1 at h
  dsimp only at h
  split at h
  · rename_i b ds hq
    obtain ⟨a, vs, rfl, hs, hr⟩ := seq_rp R r1 hq
    exact call_list_of pins s σ H _ us Q I r ⟨a, vs, rfl, by rw [hK]; exact seq_or hs, fun p hp => lis_new R h hr hp⟩
  · exact h.elim

/-! ### methods -/
theorem m_pop : MtR X "list.pop" (fun x xs H Q => xs = [] ∧ rP1 G (p1 .pop) x H Q) := by
  intro pins s σ H x xs v us Q I rx rs h
  obtain ⟨rfl, φ, w1, S, xk, R, r1, h⟩ := h
  unfold p1 at h
  dsimp only at h
  split at h
  · rename_i n
    split at h
    · rename_i ds hs
      split at h
      · rename_i d hd
        unfold RpW Rp at r1
        obtain ⟨a, rfl, ha⟩ := r1
        obtain ⟨vs, h1, h2⟩ := R.obj n a _ ha hs
        have hg : ds[ds.length - 1]? = some d := by rw [← List.getLast?_eq_getElem?]; exact hd
        obtain ⟨y, hy, ry⟩ := h2.get hg
        rw [h2.len] at hy
        have k := keep_write (u := .lst vs.dropLast) R ha
        refine mt_pop pins s σ H _ [] v us Q I rx rs ⟨a, vs, y, rfl, rfl, h1, hy, ?_⟩
        exact Post.ok (L := RlW G) h (Ext.write R ha) (R.write ha ⟨_, upd_same, Rps.mono k _ _ h2.dropLast⟩) (rl_val (Rp.mono k _ _ ry))
      · exact h.elim
    · exact h.elim
  · exact h.elim
/-- a method of one argument, at the start (φ0, H0) -/
def rM1 (G : Gb) (o : P2) : V → List V → Hp → VK → Prop := fun x xs H Q => ∃ y φ0 H0 φ w1 w2 S xk, xs = [y] ∧ Ext φ0 H0 φ H ∧ Rel G φ H S ∧ RpW G φ H w1 x ∧ RlW G H0 φ H w2 y ∧ Post G (RlW G) φ0 H0 (p2 o w1 w2 S) xk Q
theorem m_append : MtR X "list.append" (rM1 G .append) := by
  intro pins s σ H x xs v us Q I rx rs h
  obtain ⟨y, φ0, H0, φ, w1, w2, S, xk, rfl, E, R, r1, r2, h⟩ := h
  unfold p2 at h
  dsimp only at h
  -- the argument's place
  have key : ∃ d φ1 S1, toD w2 S = .ok d S1 ∧ Ext φ0 H0 φ1 H ∧ Rel G φ1 H S1 ∧ Rp G φ1 H d y ∧ (∀ (n : Nat) (a : Addr), φ[n]? = some a → φ1[n]? = some a) := by
    cases w2 with
    | val d => exact ⟨d, φ, S, rfl, E, R, r2.1, fun _ _ h => h⟩
    | lis ds =>
      obtain ⟨⟨p, vs, rfl, hp, n, r⟩, f⟩ := r2
      have f := f ds p rfl rfl
      refine ⟨_, φ ++ [p], S ++ [.lst ds], rfl, ⟨E.pre.trans (List.prefix_append _ _), E.keep, fun z hz => ?_⟩, R.more (o := .lst ds) n ⟨vs, hp, r⟩, ?_, fun m a hm => ?_⟩
      · rcases List.mem_append.mp hz with q | q
        · exact E.new z q
        · simp at q; subst q; exact .inr f
      · unfold Rp
        exact ⟨p, rfl, by rw [← R.len]; simp⟩
      · rw [List.getElem?_append_left (List.getElem?_eq_some_iff.mp hm).1]; exact hm
  obtain ⟨d, φ1, S1, ht, E1, R1, rd, hk⟩ := key
  rw [ht] at h
  simp only [Mi.R.bd] at h
  cases w1 with
  | lis ds => exact h.elim
  | val d1 =>
    cases d1 with
    | ref n =>
      unfold RpW Rp at r1
      obtain ⟨a, rfl, ha⟩ := r1
      have ha1 := hk _ _ ha
      have h : Post G (RlW G) φ0 H0 (match S1[n]? with
        | some (.lst ds) => if ds.length < sizeLine then vv .non (S1.set n (.lst (ds ++ [d]))) else .bad
        | _ => .bad) xk Q := h
      cases hs : S1[n]? with
      | none => rw [hs] at h; exact h.elim
      | some o =>
        cases o with
        | lst ds =>
          rw [hs] at h
          have h : Post G (RlW G) φ0 H0 (if ds.length < sizeLine then vv .non (S1.set n (.lst (ds ++ [d]))) else .bad) xk Q := h
          by_cases c : ds.length < sizeLine
          · rw [if_pos c] at h
            obtain ⟨vs, h1, h2⟩ := R1.obj n a _ ha1 hs
            have k := keep_write (u := .lst (vs ++ [y])) R1 ha1
            refine mt_append pins s σ H _ [y] v us Q I rx rs ⟨a, vs, y, rfl, rfl, h1, by rw [← h2.len]; exact c, ?_⟩
            exact Post.ok (L := RlW G) h (E1.trans (Ext.write R1 ha1)) (R1.write ha1 ⟨_, upd_same, Rps.mono k _ _ (h2.snoc rd)⟩) (rl_val rp_no)
          · rw [if_neg c] at h; exact h.elim
        | _ => rw [hs] at h; exact h.elim
    | _ => exact h.elim
theorem rl_sh {φ φ0 : List Addr} {H H0 : Hp} {S : Store} {r : Mi.R W} {xk : XK} {Q : VK} (h : Post G (RlW G) φ0 H0 r xk Q) (E : Ext φ0 H0 φ H) (R : Rel G φ H S) : Post G (RlW G) φ H r xk Q := h.sh E R mnW
theorem list_extend_tup (l : Addr) (items : Array Value) (n : Nat) (b : Addr) (items2 : Array Value) (n2 : Nat) (dd : Option Addr) (sl : Array (Option Value)) (hs0 : ¬(!items.isEmpty && Builtin.List.listTooLong (items.size + items2.size)) = true) (hs1 : items.size ≤ sizeLine) (hs2 : items.size + items2.size ≤ sizeLine + 1) :
    Meets (Builtin.«list.extend» ⟨[.ref l, .ref b], []⟩) (fun _ R s => s.heap.get? l = some { cls := .type "list", dict := none, data := .seq items n, slots := #[] } ∧ s.heap.get? b = some { cls := .type "tuple", dict := dd, data := .seq items2 n2, slots := sl } ∧ R (.ok (.ret Value.none)) { s with heap := s.heap.update l (Obj.mapSeq fun x => x ++ items2), toks := s.toks }) :=
  .of_wp fun prog w A R s h => by
    obtain ⟨hp, g, d, tk, os⟩ := s
    obtain ⟨hl, hb, h⟩ := h
    have f1 := AutoSeq1.idx_int
    have f2 := AutoSeq1.sub_tuple_tuple
    have f3 := AutoSeq1.sub_list_list
    have f4 := AutoSeq1.sub_tuple_list
    have f5 := AutoSeq1.sub_list_tuple
    have hz' : (items ++ items2).size ≤ sizeLine + 1 := by rw [Array.size_append]; exact hs2
    wp_walk using (wpAny_updateSeq hl rfl (hz := hs1) (_hz' := hz')), wpAny_loadPart' hl, wpAny_loadPart' hb
    exact ⟨_, rfl, h⟩
theorem mt_extendT : MtR X "list.extend" (fun x vs H Q => ∃ l b xs zs, x = .ref l ∧ vs = [.ref b] ∧ H l = some (.lst xs) ∧ SqT X.K H b zs ∧ xs.length + zs.length ≤ sizeLine ∧ Q .non (upd H l (.lst (xs ++ zs)))) := by
  intro pins s σ H x vs v us Q I rx rv h
  obtain ⟨l, b, xs, zs, rfl, rfl, hH, hB, hz, q⟩ := h
  cases rx
  obtain ⟨u, rfl, ru⟩ := rv.one
  cases ru
  obtain ⟨z, its, n, r, hl, e⟩ := I.lstM hH
  obtain ⟨its2, r2, ⟨⟨cls, dd, data, sl⟩, ho, hc, n2, hd⟩, hs⟩ := I.tuple hB
  simp only at hc hd
  subst hc hd
  have hl2 : zs.length = its2.length := r2.length
  have hsz : its.toArray.size + its2.toArray.size ≤ sizeLine := by rw [List.size_toArray, List.size_toArray]; omega
  have hlong : ¬ (!its.toArray.isEmpty && Builtin.List.listTooLong (its.toArray.size + its2.toArray.size)) = true := by
    rw [notLongL hsz, Bool.and_false]
    exact Bool.false_ne_true
  refine call_meets F.slot_list_extend ⟨_, e, rfl⟩ F.entry_list_extend (F.args_list_extend_2 _ _)
    (list_extend_tup l its.toArray n b its2.toArray n2 dd sl hlong (by rw [List.size_toArray]; omega) (by omega)) ⟨e, ho, ?_⟩
  refine ⟨.non, _, I.lset (its' := its ++ its2) hH e (by simp) (r.append r2) ?_, rfl, q⟩
  rw [List.length_append]
  omega
theorem m_extend (hK : X.K = G.K) : MtR X "list.extend" (rM1 G .extend) := by
  intro pins s σ H x xs v us Q I rx rs h
  obtain ⟨y, φ0, H0, φ, w1, w2, S, xk, rfl, E, R, r1, r2, h⟩ := h
  replace h := rl_sh h E R
  unfold p2 at h
  dsimp only at h
  split at h
  · rename_i n
    split at h
    · rename_i ds hs
      split at h
      · rename_i b es hq
        by_cases c : ((b || isLst S w2) && decide (ds.length + es.length ≤ sizeLine)) = true
        · rw [if_pos c] at h
          obtain ⟨c1, c2⟩ := Bool.and_eq_true_iff.mp c
          have c2 := of_decide_eq_true c2
          unfold RpW Rp at r1
          obtain ⟨a, rfl, ha⟩ := r1
          obtain ⟨vs, h1, h2⟩ := R.obj n a _ ha hs
          cases b with
          | true =>
            obtain ⟨b, ws, rfl, hb, hr⟩ := seq_rp R r2.1 hq
            have k := keep_write (u := .lst (vs ++ ws)) R ha
            refine mt_extendT pins s σ H _ [.ref b] v us Q I rx rs ⟨a, b, vs, ws, rfl, rfl, h1, by rw [hK]; exact ifT hb, by rw [← h2.len, ← hr.len]; exact c2, ?_⟩
            exact Post.ok (L := RlW G) h (Ext.write R ha) (R.write ha ⟨_, upd_same, Rps.mono k _ _ (h2.app hr)⟩) (rl_val rp_no)
          | false =>
          rw [Bool.false_or] at c1
          obtain ⟨b, ws, rfl, hb, hr⟩ := lst_rp R r2.1 hq c1
          have k := keep_write (u := .lst (vs ++ ws)) R ha
          refine mt_extend pins s σ H _ [.ref b] v us Q I rx rs ⟨a, b, vs, ws, rfl, rfl, h1, hb, by rw [← h2.len, ← hr.len]; exact c2, ?_⟩
          exact Post.ok (L := RlW G) h (Ext.write R ha) (R.write ha ⟨_, upd_same, Rps.mono k _ _ (h2.app hr)⟩) (rl_val rp_no)
        · rw [if_neg c] at h; exact h.elim
      · exact h.elim
    · exact h.elim
  · exact h.elim
theorem strs_v {φ : List Addr} {H : Hp} : ∀ {ds : List D} {ys : List Str} {vs : List V}, strsOf ds = some ys → Rps G φ H ds vs → vs = ys.map V.str
  | [], ys, vs, h, r => by unfold strsOf at h; cases h; unfold Rps at r; exact r
  | d :: ds, ys, vs, h, r => by
    unfold strsOf at h
    cases d with
    | str x =>
      dsimp only at h
      obtain ⟨zs, hz, rfl⟩ := Option.map_eq_some_iff.mp h
      unfold Rps at r
      obtain ⟨v, t, rfl, r1, r2⟩ := r
      unfold Rp at r1
      rw [r1, strs_v hz r2]
      try rfl
    | _ => cases h
theorem m_join (hK : X.K = G.K) : MtR X "str.join" (rM1 G .join) := by
  intro pins s σ H x xs v us Q I rx rs h
  obtain ⟨y, φ0, H0, φ, w1, w2, S, xk, rfl, E, R, r1, r2, h⟩ := h
  replace h := rl_sh h E R
  unfold p2 at h
  dsimp only at h
  split at h
  · rename_i a
    split at h
    · rename_i b ds hq
      split at h
      · rename_i ys hys
        by_cases c : joinFits a ys = true
        · rw [if_pos c] at h
          obtain ⟨p, vs, rfl, hs, hr⟩ := seq_rp R r2.1 hq
          have e := strs_v hys hr
          subst e
          have e := rp_str r1
          subst e
          exact mt_join pins s σ H _ _ v us Q I rx rs ⟨a, p, ys, rfl, rfl, by rw [hK]; exact seq_or hs, of_decide_eq_true c, vv_ok R h rp_st⟩
        · rw [if_neg c] at h; exact h.elim
      · exact h.elim
    · exact h.elim
  · exact h.elim
theorem strs_rp {φ : List Addr} {H : Hp} : ∀ ys : List Str, Rps G φ H (ys.map D.str) (ys.map V.str)
  | [] => by show Rps G φ H [] []; unfold Rps; rfl
  | y :: ys => by
    rw [List.map_cons, List.map_cons]
    unfold Rps
    exact ⟨_, _, rfl, rp_st, strs_rp ys⟩
theorem m_split : MtR X "str.split" (rM1 G .split) := by
  intro pins s σ H x xs v us Q I rx rs h
  obtain ⟨y, φ0, H0, φ, w1, w2, S, xk, rfl, E, R, r1, r2, h⟩ := h
  replace h := rl_sh h E R
  unfold p2 at h
  dsimp only at h
  split at h
  · rename_i a b
    by_cases c : (b.length == 0) = false ∧ a.length + 2 ≤ sizeLine
    · rw [if_pos c] at h
      have e := rp_str r1
      subst e
      have e := rp_str r2.1
      subst e
      exact mt_split pins s σ H _ _ v us Q I rx rs ⟨a, b, rfl, rfl, c.1, c.2, fun p hp => lis_new R h (strs_rp _) hp⟩
    · rw [if_neg c] at h; exact h.elim
  · exact h.elim
end
end Mi

set_option maxHeartbeats 1000000
/-! Mi, part L: list(zip(a, b)) of two lists or two tuples. -/
namespace Mi.Z
open PySem PySem.Spec PyProof.Rows L2 PySem.W PySem.Calls

theorem zip_no_len : typeLookup (.type "zip") "__len__" = pure none := by rw [typeLookup_type, builtinLookup_eq_fast]; kernel_rfl
theorem zip_no_hint : typeLookup (.type "zip") "__length_hint__" = pure none := by rw [typeLookup_type, builtinLookup_eq_fast]; kernel_rfl

/-- how an iterator of a kind is turned -/
structure IterK (prog : Program) (w : World) (It : Heap → Addr → Addr → Nat → Prop) (Sq : Heap → Addr → Array Value → Prop) : Prop where
  keepI : ∀ {h h' : Heap} {it l : Addr} {k : Nat}, It h it l k → (∀ o, h.get? it = some o → h'.get? it = some o) → It h' it l k
  keepS : ∀ {h h' : Heap} {l : Addr} {xs : Array Value}, Sq h l xs → (∀ o, h.get? l = some o → h'.get? l = some o) → Sq h' l xs
  there : ∀ {h : Heap} {it l : Addr} {k : Nat}, It h it l k → it < h.objs.size
  item : ∀ {A : Around} {E : Value → Shared → Prop} {s : Shared} {it l : Addr} {i : Nat} {items : Array Value} {x : Value} {Q : Value → Shared → Prop}, It s.heap it l i → Sq s.heap l items → items[i]? = some x →
    (∀ h', It h' it l (i + 1) → Heap.SameBut it s.heap h' → Q x { s with heap := h' }) → wpAny (model prog w) A (Builtin.SmallTypes.nextOf (.ref it)) Q E s
  stop : ∀ {A : Around} {E : Value → Shared → Prop} {s : Shared} {it l : Addr} {i : Nat} {items : Array Value} {Q : Value → Shared → Prop}, A.handled = none → It s.heap it l i → Sq s.heap l items → items[i]? = none →
    (∀ h' e, Heap.ExtBut it s.heap h' → (∃ o, h'.get? e = some o ∧ o.cls = .type "StopIteration") → E (.ref e) { s with heap := h' }) → wpAny (model prog w) A (Builtin.SmallTypes.nextOf (.ref it)) Q E s
theorem iterL {prog : Program} {w : World} : IterK prog w Heap.IsListIter Heap.IsList where
  keepI := fun h k => h.at k
  keepS := fun h k => h.at k
  there := fun ⟨_, h, _⟩ => Heap.lt_size h
  item := fun h1 h2 h3 h4 => wpAny_nextOf_list_item h1 h2 h3 h4
  stop := fun h0 h1 h2 h3 h4 => wpAny_nextOf_list_end h0 h1 h2 h3 h4
theorem iterT {prog : Program} {w : World} : IterK prog w Heap.IsTupleIter Heap.IsTuple where
  keepI := fun h k => h.at k
  keepS := fun h k => h.at k
  there := fun ⟨_, h, _⟩ => Heap.lt_size h
  item := fun h1 h2 h3 h4 => RZ.nextOf_tuple_item h1 h2 h3 h4
  stop := fun h0 h1 h2 h3 h4 => RZ.nextOf_tuple_end h0 h1 h2 h3 h4

section
variable {prog : Program} {w : World} {A : Around} {E : Value → Shared → Prop} {s : Shared} {It : Heap → Addr → Addr → Nat → Prop} {Sq : Heap → Addr → Array Value → Prop}
theorem next_held (KK : IterK prog w It Sq) {z TI TO T i1 i2 l1 l2 : Addr} {f : Bool} {oT : Obj} {k1 k2 : Nat} {xs ys : Array Value} {x y : Value} {Q : Value → Shared → Prop} (D : ZipApart z TI TO i1 i2 l1 l2)
    (hz : IsZipHeld s.heap z TI TO T f) (hT : s.heap.get? T = some oT) (hTI : IsPair s.heap TI (.ref i1) (.ref i2))
    (h1 : It s.heap i1 l1 k1) (h2 : It s.heap i2 l2 k2) (hl1 : Sq s.heap l1 xs) (hl2 : Sq s.heap l2 ys) (hx : xs[k1]? = some x) (hy : ys[k2]? = some y)
    (hQ : ∀ h', IsZipHeld h' z TI TO T true → It h' i1 l1 (k1 + 1) → It h' i2 l2 (k2 + 1) → IsPair h' s.heap.objs.size x y → h'.objs.size = s.heap.objs.size + 1 →
      (∀ c o, c ≠ z → c ≠ i1 → c ≠ i2 → s.heap.get? c = some o → h'.get? c = some o) → Q (.ref s.heap.objs.size) { s with heap := h' }) :
    wpAny (model prog w) A (Builtin.«zip.__next__» ⟨[.ref z], []⟩) (fun fin s' => ∃ v, fin = .done (.ret v) ∧ Q v s') E s := by
  show wpAny _ _ (field (.ref z) 2 >>= _) _ _ _
  refine wpAny_bind (wpAny_field hz rfl (x := .bool false) rfl ?_)
  show wpAny _ _ (field (.ref z) 3 >>= _) _ _ _
  refine wpAny_bind (wpAny_field hz rfl (x := .ref TI) rfl ?_)
  refine wpAny_bind (wpAny_seqItems hTI rfl ?_)
  show wpAny _ _ (Builtin.SmallTypes.ownedTupleIsFree (.ref z) >>= _) _ _ _
  refine wpAny_bind (wpAny_tupleHeld_zip hz hT fun h₁ hz₁ hs₁ => ?_)
  simp only [Bool.false_eq_true, if_false]
  refine wpAny_bind ?_
  rw [← Array.forIn_toList]
  simp only [List.forIn_cons, List.forIn_nil]
  refine wpAny_bind (wpAny_bind (wpAny_holding ?_))
  show wpAny _ _ (Builtin.SmallTypes.nextOf (.ref i1) >>= _) _ _ _
  refine wpAny_bind (KK.item (s := { s with heap := h₁ }) (KK.keepI h1 fun o e => hs₁.extBut _ _ D.i1z e) (KK.keepS hl1 fun o e => hs₁.extBut _ _ D.l1z e) hx fun h₂ h1₂ hs₂ => wpAny_pure ?_)
  refine wpAny_pure ?_
  refine wpAny_bind (wpAny_bind (wpAny_holding ?_))
  show wpAny _ _ (Builtin.SmallTypes.nextOf (.ref i2) >>= _) _ _ _
  refine wpAny_bind (KK.item (s := { s with heap := h₂ }) (KK.keepI h2 fun o e => hs₂.extBut _ _ D.i12.symm (hs₁.extBut _ _ D.i2z e)) (KK.keepS hl2 fun o e => hs₂.extBut _ _ D.l2i1 (hs₁.extBut _ _ D.l2z e)) hy fun h₃ h2₃ hs₃ => wpAny_pure ?_)
  refine wpAny_pure (wpAny_pure ?_)
  show wpAny _ _ (newTuple [x, y] >>= _) _ _ _
  refine wpAny_bind (wpAny_newTuple ?_)
  have hsz : h₃.objs.size = s.heap.objs.size := by rw [hs₃.1, hs₂.1, hs₁.1]
  have hz₃ : IsZipHeld h₃ z TI TO T true := hs₃.extBut _ _ D.i2z.symm (hs₂.extBut _ _ D.i1z.symm hz₁)
  have hk : ∀ c o, c ≠ z → c ≠ i1 → c ≠ i2 → s.heap.get? c = some o → h₃.get? c = some o := fun c o c1 c2 c3 e => hs₃.extBut _ _ c3 (hs₂.extBut _ _ c2 (hs₁.extBut _ _ c1 e))
  have h1₃ : It h₃ i1 l1 (k1 + 1) := KK.keepI h1₂ fun o e => hs₃.extBut _ _ D.i12 e
  refine wpAny_pure ⟨_, rfl, ?_⟩
  show Q (.ref h₃.objs.size) _
  have hp : IsPair (h₃.push { cls := .type "tuple", data := .seq #[x, y] }) h₃.objs.size x y := Heap.get?_push_size _ rfl
  have hz4 : (h₃.push { cls := .type "tuple", data := .seq #[x, y] }).objs.size = h₃.objs.size + 1 := Heap.size_push ..
  rw [hsz] at hp hz4 ⊢
  exact hQ _ (Heap.get?_push_of_some _ hz₃) (KK.keepI h1₃ fun o e => Heap.get?_push_of_some _ e) (KK.keepI h2₃ fun o e => Heap.get?_push_of_some _ e) hp hz4 fun c o c1 c2 c3 e => Heap.get?_push_of_some _ (hk c o c1 c2 c3 e)
theorem stop_held (KK : IterK prog w It Sq) {z TI TO T i1 i2 l1 l2 : Addr} {f : Bool} {oT : Obj} {k1 k2 : Nat} {xs ys : Array Value} {Q : PySem.Fin → Shared → Prop} (hh : A.handled = none) (D : ZipApart z TI TO i1 i2 l1 l2)
    (hz : IsZipHeld s.heap z TI TO T f) (hT : s.heap.get? T = some oT) (hTI : IsPair s.heap TI (.ref i1) (.ref i2))
    (h1 : It s.heap i1 l1 k1) (h2 : It s.heap i2 l2 k2) (hl1 : Sq s.heap l1 xs) (hl2 : Sq s.heap l2 ys) (hend : xs[k1]? = none ∨ ys[k2]? = none)
    (hE : ∀ h' e, (∀ c o, c ≠ z → c ≠ i1 → c ≠ i2 → s.heap.get? c = some o → h'.get? c = some o) → (∃ o, h'.get? e = some o ∧ o.cls = .type "StopIteration") → E (.ref e) { s with heap := h' }) :
    wpAny (model prog w) A (Builtin.«zip.__next__» ⟨[.ref z], []⟩) Q E s := by
  show wpAny _ _ (field (.ref z) 2 >>= _) _ _ _
  refine wpAny_bind (wpAny_field hz rfl (x := .bool false) rfl ?_)
  show wpAny _ _ (field (.ref z) 3 >>= _) _ _ _
  refine wpAny_bind (wpAny_field hz rfl (x := .ref TI) rfl ?_)
  refine wpAny_bind (wpAny_seqItems hTI rfl ?_)
  show wpAny _ _ (Builtin.SmallTypes.ownedTupleIsFree (.ref z) >>= _) _ _ _
  refine wpAny_bind (wpAny_tupleHeld_zip hz hT fun h₁ hz₁ hs₁ => ?_)
  simp only [Bool.false_eq_true, if_false]
  refine wpAny_bind ?_
  rw [← Array.forIn_toList]
  simp only [List.forIn_cons, List.forIn_nil]
  refine wpAny_bind (wpAny_bind (wpAny_holding ?_))
  show wpAny _ _ (Builtin.SmallTypes.nextOf (.ref i1) >>= _) _ _ _
  cases hx : xs[k1]? with
  | none =>
    refine wpAny_bind (KK.stop (s := { s with heap := h₁ }) hh (KK.keepI h1 fun o e => hs₁.extBut _ _ D.i1z e) (KK.keepS hl1 fun o e => hs₁.extBut _ _ D.l1z e) hx fun h₂ e hs₂ he => ?_)
    exact hE h₂ e (fun c o c1 c2 _ x => hs₂ _ _ c2 (hs₁.extBut _ _ c1 x)) he
  | some x =>
    have hy : ys[k2]? = none := by rcases hend with h | h; rw [hx] at h; cases h; exact h
    refine wpAny_bind (KK.item (s := { s with heap := h₁ }) (KK.keepI h1 fun o e => hs₁.extBut _ _ D.i1z e) (KK.keepS hl1 fun o e => hs₁.extBut _ _ D.l1z e) hx fun h₂ h1₂ hs₂ => wpAny_pure ?_)
    refine wpAny_pure ?_
    refine wpAny_bind (wpAny_bind (wpAny_holding ?_))
    show wpAny _ _ (Builtin.SmallTypes.nextOf (.ref i2) >>= _) _ _ _
    refine wpAny_bind (KK.stop (s := { s with heap := h₂ }) hh (KK.keepI h2 fun o e => hs₂.extBut _ _ D.i12.symm (hs₁.extBut _ _ D.i2z e)) (KK.keepS hl2 fun o e => hs₂.extBut _ _ D.l2i1 (hs₁.extBut _ _ D.l2z e)) hy fun h₃ e hs₃ he => ?_)
    exact hE h₃ e (fun c o c1 c2 c3 x => hs₃ _ _ c3 (hs₂.extBut _ _ c2 (hs₁.extBut _ _ c1 x))) he
theorem pyNext_held (KK : IterK prog w It Sq) {z TI TO T i1 i2 l1 l2 : Addr} {f : Bool} {oT : Obj} {k1 k2 : Nat} {xs ys : Array Value} {x y : Value} {Q : Option Value → Shared → Prop} (D : ZipApart z TI TO i1 i2 l1 l2)
    (hz : IsZipHeld s.heap z TI TO T f) (hT : s.heap.get? T = some oT) (hTI : IsPair s.heap TI (.ref i1) (.ref i2))
    (h1 : It s.heap i1 l1 k1) (h2 : It s.heap i2 l2 k2) (hl1 : Sq s.heap l1 xs) (hl2 : Sq s.heap l2 ys) (hx : xs[k1]? = some x) (hy : ys[k2]? = some y)
    (hQ : ∀ h', IsZipHeld h' z TI TO T true → It h' i1 l1 (k1 + 1) → It h' i2 l2 (k2 + 1) → IsPair h' s.heap.objs.size x y → h'.objs.size = s.heap.objs.size + 1 →
      (∀ c o, c ≠ z → c ≠ i1 → c ≠ i2 → s.heap.get? c = some o → h'.get? c = some o) → Q (some (.ref s.heap.objs.size)) { s with heap := h' }) :
    wpAny (model prog w) A (pyNext (.ref z)) Q E s := by
  have hTy : s.TypeIs (.ref z) "zip" := ⟨_, hz, rfl⟩
  unfold pyNext
  exact wpAny_bind (wpAny_attempt (wpAny_callSpecial?_slot (name := Str.ofString "__next__") hTy PySem.F.slot_zip_next
    (wpAny_call_entry PySem.F.slot_zip_next hTy PySem.F.entry_zip_next
      (next_held KK D hz hT hTI h1 h2 hl1 hl2 hx hy fun h' a1 a3 a4 a5 a6 a7 => wpAny_pure (hQ h' a1 a3 a4 a5 a6 a7)) (PySem.F.args_zip_next_1 _))))
theorem pyStop_held (KK : IterK prog w It Sq) {z TI TO T i1 i2 l1 l2 : Addr} {f : Bool} {oT : Obj} {k1 k2 : Nat} {xs ys : Array Value} {Q : Option Value → Shared → Prop} (hh : A.handled = none) (D : ZipApart z TI TO i1 i2 l1 l2)
    (hz : IsZipHeld s.heap z TI TO T f) (hT : s.heap.get? T = some oT) (hTI : IsPair s.heap TI (.ref i1) (.ref i2))
    (h1 : It s.heap i1 l1 k1) (h2 : It s.heap i2 l2 k2) (hl1 : Sq s.heap l1 xs) (hl2 : Sq s.heap l2 ys) (hend : xs[k1]? = none ∨ ys[k2]? = none)
    (hQ : ∀ h', (∀ c o, c ≠ z → c ≠ i1 → c ≠ i2 → s.heap.get? c = some o → h'.get? c = some o) → Q none { s with heap := h' }) : wpAny (model prog w) A (pyNext (.ref z)) Q E s := by
  have hTy : s.TypeIs (.ref z) "zip" := ⟨_, hz, rfl⟩
  unfold pyNext
  refine wpAny_bind (wpAny_attempt (wpAny_callSpecial?_slot (name := Str.ofString "__next__") hTy PySem.F.slot_zip_next
    (wpAny_call_entry PySem.F.slot_zip_next hTy PySem.F.entry_zip_next (stop_held KK hh D hz hT hTI h1 h2 hl1 hl2 hend fun h' e hk he => ?_) (PySem.F.args_zip_next_1 _))))
  obtain ⟨o, ho, hc⟩ := he
  refine wpAny_bind (wpAny_isInstance (T := "StopIteration") (b := true) ⟨o, ho, hc⟩ isSubtype_stop ?_)
  exact wpAny_pure (hQ _ hk)
end

/-- a zip whose n items are new pairs, while at S a list is being filled -/
structure ZSrc (prog : Program) (w : World) (A : Around) (z S : Addr) (ch : List Addr) (n : Nat) (P : Nat → Value × Value) (St : Nat → Heap → Prop) : Prop where
  off : S ∉ ch
  low : ∀ b ∈ ch, b < S
  frame : ∀ i h h', St i h → (∀ b o, b ≠ S → h.get? b = some o → h'.get? b = some o) → St i h'
  type : ∀ i (s : Shared), St i s.heap → s.TypeIs (.ref z) "zip"
  self : ∀ i (s : Shared) (Q : Value → Shared → Prop) (E : Value → Shared → Prop), St i s.heap → Q (.ref z) s → wpAny (model prog w) A (pyIter (.ref z)) Q E s
  item : ∀ i (s : Shared) (Q : Option Value → Shared → Prop) (E : Value → Shared → Prop), i < n → St i s.heap → S < s.heap.objs.size →
    (∀ h', St (i + 1) h' → IsPair h' s.heap.objs.size (P i).1 (P i).2 → h'.objs.size = s.heap.objs.size + 1 → (∀ b o, b ∉ ch → s.heap.get? b = some o → h'.get? b = some o) → Q (some (.ref s.heap.objs.size)) { s with heap := h' }) → wpAny (model prog w) A (pyNext (.ref z)) Q E s
  done : ∀ (s : Shared) (Q : Option Value → Shared → Prop) (E : Value → Shared → Prop), St n s.heap →
    (∀ h', (∀ b o, b ∉ ch → s.heap.get? b = some o → h'.get? b = some o) → Q none { s with heap := h' }) → wpAny (model prog w) A (pyNext (.ref z)) Q E s
structure ZG (P : Nat → Value × Value) (lo : Addr) (h : Heap) (as : List Addr) : Prop where
  rise : as.Pairwise (· < ·)
  above : ∀ a ∈ as, lo < a
  pairs : ∀ (j : Nat) (a : Addr), as[j]? = some a → IsPair h a (P j).1 (P j).2
theorem ZG.there {P : Nat → Value × Value} {lo : Addr} {h : Heap} {as : List Addr} (g : ZG P lo h as) {a : Addr} (ha : a ∈ as) : a < h.objs.size := by
  obtain ⟨j, hj⟩ := List.mem_iff_getElem?.mp ha
  exact Heap.lt_size (g.pairs j a hj)
section
variable {prog : Program} {w : World} {A : Around} {s : Shared} {R : Result → Shared → Prop} {n : Nat} {P : Nat → Value × Value} {St : Nat → Heap → Prop} {z S : Addr} {ch : List Addr}
theorem z_loop (Z : ZSrc prog w A.in1 z S ch n P St) (hn : n ≤ sizeLine) (res : Value) {h₁ : Heap}
    (hR : ∀ h' tk acc c as, (∀ b o, b ≠ S → b ∉ ch → h₁.get? b = some o → h'.get? b = some o) → h'.get? S = some { cls := .type "list", dict := none, data := .seq acc c, slots := #[] } → as.length = n → ZG P S h' as →
      acc.toList = as.map Value.ref → R (.ok (.ret res)) { s with heap := h', toks := tk }) :
    ∀ (k i : Nat) (h : Heap) (tk c : Nat) (acc : Array Value) (as : List Addr), n - i = k → i ≤ n → St i h → (∀ b o, b ≠ S → b ∉ ch → h₁.get? b = some o → h.get? b = some o) →
      h.get? S = some { cls := .type "list", dict := none, data := .seq acc c, slots := #[] } → acc.toList = as.map Value.ref → as.length = i → ZG P S h as →
      codeAny (model prog w) A (.builtin "list.extend.loop" ⟨[.ref S, .ref z, res], []⟩) R { s with heap := h, toks := tk } := by
  intro k
  induction k with
  | zero =>
    intro i h tk c acc as hk hi hst hkeep hS hacc hal hG
    have hin : i = n := by omega
    subst hin
    refine codeAny_builtin PySem.F.entry_extend_loop ?_
    rw [Around.under_plainId PySem.F.plain_extend_loop _]
    show wpAny _ A.in1 (pyNext (.ref z) >>= _) _ _ _
    refine wpAny_bind (Z.done { s with heap := h, toks := tk } _ _ hst fun h' he => ?_)
    refine wpAny_pure (hR h' tk acc c as (fun b o h1 h2 e => he b o h2 (hkeep b o h1 h2 e)) (he S _ Z.off hS) hal ⟨hG.rise, hG.above, fun j a hj => ?_⟩ hacc)
    exact he a _ (fun hm => Nat.lt_asymm (hG.above a (List.mem_of_getElem? hj)) (Z.low a hm)) (hG.pairs j a hj)
  | succ k ih =>
    intro i h tk c acc as hk hi hst hkeep hS hacc hal hG
    have hlt : i < n := by omega
    have hsz : acc.size = i := by rw [← Array.length_toList, hacc, List.length_map, hal]
    have hSl : S < h.objs.size := Heap.lt_size hS
    refine codeAny_builtin PySem.F.entry_extend_loop ?_
    rw [Around.under_plainId PySem.F.plain_extend_loop _]
    show wpAny _ A.in1 (pyNext (.ref z) >>= _) _ _ _
    refine wpAny_bind (Z.item i { s with heap := h, toks := tk } _ _ hlt hst hSl fun h' hst' ht hz hkp => ?_)
    dsimp only at ht hz hkp ⊢
    have hS' := hkp S _ Z.off hS
    have up : ∀ b o, b ≠ S → h'.get? b = some o → (h'.update S (Obj.mapSeq (·.push (Value.ref h.objs.size)))).get? b = some o := fun b o hb e => (Heap.get?_update_other _ _ (Ne.symm hb)).trans e
    have nch : ∀ a, S < a → a ∉ ch := fun a ha hm => Nat.lt_asymm ha (Z.low a hm)
    show wpAny _ A.in1 (updateSeq S (·.push (Value.ref h.objs.size)) >>= _) _ _ _
    refine wpAny_bind ?_
    refine wpAny_updateSeq hS' rfl (wpAny_pure ⟨plainId_quiet PySem.F.plain_extend_loop _, ih (i + 1) _ tk _ (acc.push (Value.ref h.objs.size)) (as ++ [h.objs.size]) (by omega) hlt (Z.frame _ _ _ hst' up)
      (fun b o h1 h2 e => up b o h1 (hkp b o h2 (hkeep b o h1 h2 e))) (Heap.get?_update_self _ hS' rfl) (by rw [Array.toList_push, hacc, List.map_append]; rfl) (by rw [List.length_append, hal]; try rfl) ⟨?_, ?_, ?_⟩⟩) (by rw [hsz]; omega) (by show (acc.push (Value.ref h.objs.size)).size ≤ sizeLine + 1; rw [Array.size_push, hsz]; omega)
    · refine List.pairwise_append.mpr ⟨hG.rise, List.pairwise_singleton _ _, fun a ha b hb => ?_⟩
      rw [List.mem_singleton.mp hb]
      exact hG.there ha
    · intro a ha
      rcases List.mem_append.mp ha with ha | ha
      · exact hG.above a ha
      · rw [List.mem_singleton.mp ha]; exact hSl
    · intro j b hj
      rcases Nat.lt_trichotomy j as.length with h1 | h1 | h1
      · rw [List.getElem?_append_left h1] at hj
        have hb := hG.above b (List.mem_of_getElem? hj)
        exact up b _ (Nat.ne_of_gt hb) (hkp b _ (nch b hb) (hG.pairs j b hj))
      · subst h1
        have hb : h.objs.size = b := by simpa using hj
        subst hb
        subst hal
        exact up _ _ (Nat.ne_of_gt hSl) ht
      · have hnone : (as ++ [h.objs.size])[j]? = none := List.getElem?_eq_none (by rw [List.length_append, List.length_singleton]; omega)
        rw [hnone] at hj; cases hj
theorem z_extend (Z : ZSrc prog w A.in1 z S ch n P St) (hn : n ≤ sizeLine) (res : Value) (c₀ : Nat) (st : St 0 s.heap) (hSz : S ≠ z) (hS : s.heap.get? S = some { cls := .type "list", data := .seq #[] c₀ })
    (hR : ∀ h' tk acc c as, (∀ b o, b ≠ S → b ∉ ch → s.heap.get? b = some o → h'.get? b = some o) → h'.get? S = some { cls := .type "list", dict := none, data := .seq acc c, slots := #[] } → as.length = n → ZG P S h' as →
      acc.toList = as.map Value.ref → R (.ok (.ret res)) { s with heap := h', toks := tk }) :
    wpAny (model prog w) A.in1 (Builtin.List.listExtendWith (.ref S) (.ref z) res)
      (fun fin s' => match fin with | .done f => R (.ok f) s' | .again c' => c'.quiet = true ∧ codeAny (model prog w) A c' R s') (fun e s' => R (.error e) s') s := by
  unfold Builtin.List.listExtendWith
  refine wpAny_bind (wpAny_typeOf (Z.type 0 s st) ?_)
  have h1 : Builtin.List.listSameRef (.ref S) (.ref z) = false := by simp [Builtin.List.listSameRef, hSz]
  have h2 : (Value.type "zip" == Value.type "list") = false := by decide
  have h3 : (Value.type "zip" == Value.type "tuple") = false := by decide
  simp only [h1, h2, h3, Bool.or_false, Bool.false_eq_true, if_false]
  refine wpAny_bind (Z.self 0 _ _ _ st ?_)
  refine wpAny_bind (wpAny_holding ?_)
  unfold Builtin.List.listLengthHint
  refine wpAny_bind (wpAny_specialOf (Z.type 0 s st) zip_no_len ?_)
  show wpAny _ A.in1 (specialOf (Value.ref z) (Str.ofString "__length_hint__") >>= _) _ _ _
  refine wpAny_bind (wpAny_specialOf (Z.type 0 s st) zip_no_hint ?_)
  refine wpAny_pure ?_
  show wpAny _ A.in1 (rule "list.extend.makes-room" >>= fun _ => Builtin.List.listTouch (.ref S) >>= fun _ =>
    again (.builtin "list.extend.loop" ⟨[.ref S, .ref z, res], []⟩)) _ _ _
  refine wpAny_bind (wpAny_rule ?_)
  refine wpAny_bind ?_
  show wpAny _ A.in1 (updateSeq S (·.push .none) >>= fun _ => updateSeq S (·.pop)) _ _ _
  refine wpAny_bind (wpAny_updateSeq hS rfl ?_)
  have hS₂ := Heap.get?_update_self (Obj.mapSeq (·.push Value.none)) hS rfl
  refine wpAny_updateSeq (hz := by seq_fits) hS₂ rfl ?_
  have hS₃ := Heap.get?_update_self (Obj.mapSeq (·.pop)) hS₂ rfl
  have oth : ∀ b o, b ≠ S → s.heap.get? b = some o → ((s.heap.update S (Obj.mapSeq (·.push Value.none))).update S (Obj.mapSeq (·.pop))).get? b = some o :=
    fun b o hb e => (Heap.get?_update_other _ _ (Ne.symm hb)).trans ((Heap.get?_update_other _ _ (Ne.symm hb)).trans e)
  refine wpAny_pure ⟨plainId_quiet PySem.F.plain_extend_loop _, z_loop (s := s) (h₁ := s.heap) Z hn res hR n 0 _ _ _ #[] [] (Nat.sub_zero _) (Nat.zero_le _) (Z.frame 0 _ _ st oth) (fun b o hb _ e => oth b o hb e) hS₃ rfl rfl
    ⟨List.Pairwise.nil, (fun _ ha => nomatch ha), (fun j a hj => by simp at hj)⟩⟩
theorem z_init (Z : ZSrc prog w A.in1 z S ch n P St) (hn : n ≤ sizeLine) (st : St 0 s.heap) (hSz : S ≠ z) (hS : s.heap.get? S = some { cls := .type "list", data := .seq #[] })
    (hR : ∀ h' tk acc c as, (∀ b o, b ≠ S → b ∉ ch → s.heap.get? b = some o → h'.get? b = some o) → h'.get? S = some { cls := .type "list", dict := none, data := .seq acc c, slots := #[] } → as.length = n → ZG P S h' as →
      acc.toList = as.map Value.ref → R (.ok (.ret .none)) { s with heap := h', toks := tk }) :
    wpAny (model prog w) A.in1 (Builtin.«list.__init__» ⟨[.ref S, .ref z], []⟩)
      (fun fin s' => match fin with | .done f => R (.ok f) s' | .again c' => c'.quiet = true ∧ codeAny (model prog w) A c' R s') (fun e s' => R (.error e) s') s := by
  show wpAny _ _ (do let old ← Builtin.List.listItems (.ref S); Builtin.List.listUpdate (.ref S) (fun _ => #[]); letGo old.toList.reverse; Builtin.List.listExtendWith (.ref S) (.ref z) .none) _ _ s
  refine wpAny_bind ?_
  unfold Builtin.List.listItems
  refine wpAny_bind (wpAny_seqItems hS rfl (wpAny_pure ?_))
  show wpAny _ _ (updateSeq S (fun _ => #[]) >>= fun _ => letGo (#[] : Array Value).toList.reverse >>= fun _ => Builtin.List.listExtendWith (.ref S) (.ref z) .none) _ _ s
  refine wpAny_bind (wpAny_updateSeq hS rfl ?_)
  have hS₂ := Heap.get?_update_self (Obj.mapSeq (fun _ => (#[] : Array Value))) hS rfl
  have oth : ∀ b o, b ≠ S → s.heap.get? b = some o → (s.heap.update S (Obj.mapSeq (fun _ => (#[] : Array Value)))).get? b = some o :=
    fun b o hb e => (Heap.get?_update_other _ _ (Ne.symm hb)).trans e
  refine wpAny_bind (wpAny_letGo ?_)
  refine z_extend (s := { s with heap := s.heap.update S (Obj.mapSeq (fun _ => (#[] : Array Value))) }) Z hn .none _ (Z.frame 0 _ _ st oth) hSz hS₂ fun h' tk acc c as hk hS' hl hG hacc => ?_
  exact hR h' tk acc c as (fun b o hb hc e => hk b o hb hc (oth b o hb e)) hS' hl hG hacc
end
section
variable {prog : Program} {w : World} {A : Around} {E : Value → Shared → Prop} {s : Shared} {n : Nat} {P : Nat → Value × Value} {St : Nat → Heap → Prop} {z : Addr} {ch : List Addr}
theorem z_call {Q : Value → Shared → Prop} (Z : ∀ A : Around, A.handled = none → ZSrc prog w A z s.heap.objs.size ch n P St) (hh : A.handled = none) (hn : n ≤ sizeLine) (hz : z < s.heap.objs.size) (st : St 0 (s.heap.push { cls := .type "list", data := .seq #[] }))
    (hQ : ∀ h' tk acc c as, (∀ b o, b ∉ ch → s.heap.get? b = some o → h'.get? b = some o) → h'.get? s.heap.objs.size = some { cls := .type "list", dict := none, data := .seq acc c, slots := #[] } → as.length = n → ZG P s.heap.objs.size h' as →
      acc.toList = as.map Value.ref → Q (.ref s.heap.objs.size) { s with heap := h', toks := tk }) :
    wpAny (model prog w) A (call (.type "list") [.ref z]) Q E s := by
  refine callType_codes (Q₁ := fun obj s₁ => obj = .ref s.heap.objs.size ∧ s₁ = { s with heap := s.heap.push { cls := .type "list", data := .seq #[] } }) PySem.F.called_list (PySem.F.typeCall_list_1 _) PySem.F.entry_list_init
    (code_list_new _ ⟨rfl, rfl⟩) fun obj s₁ h₁ => ?_
  obtain ⟨rfl, rfl⟩ := h₁
  have hS : (s.heap.push { cls := .type "list", data := .seq #[] }).get? s.heap.objs.size = some { cls := .type "list", data := .seq #[] } := Heap.get?_push_size _ rfl
  refine ⟨⟨_, hS, rfl⟩, PySem.F.args_list_init_2 _ _, z_init (A := A.in1) (s := { s with heap := s.heap.push { cls := .type "list", data := .seq #[] } }) (Z A.in1.in1 hh) hn st (Nat.ne_of_gt hz) hS fun h' tk acc c as hk hS' hl hG hacc => ?_⟩
  exact ⟨rfl, hQ h' tk acc c as (fun b o hb e => hk b o (Nat.ne_of_lt (Heap.lt_size e)) hb (Heap.get?_push_of_some _ e)) hS' hl hG hacc⟩
end
end Mi.Z

/-! Mi, part M: list(zip(a, b)) for the small language. -/
namespace Mi.Z
open PySem PySem.Spec PyProof.Rows L2 PySem.W PySem.Calls
structure IterZ (prog : Program) (w : World) (It : Heap → Addr → Addr → Nat → Prop) (Sq : Heap → Addr → Array Value → Prop) : Prop extends IterK prog w It Sq where
  zitem : ∀ {A : Around} {E : Value → Shared → Prop} {s : Shared} {z TI TO i1 i2 l1 l2 : Addr} {k1 k2 : Nat} {xs ys : Array Value} {x y a b : Value} {Q : Option Value → Shared → Prop}, ZipApart z TI TO i1 i2 l1 l2 →
    IsZip s.heap z TI TO .none → IsPair s.heap TI (.ref i1) (.ref i2) → IsPair s.heap TO a b → It s.heap i1 l1 k1 → It s.heap i2 l2 k2 → Sq s.heap l1 xs → Sq s.heap l2 ys → xs[k1]? = some x → ys[k2]? = some y →
    (∀ h', IsZip h' z TI TO (rawInt s.heap.objs.size) → IsPair h' TO x y → It h' i1 l1 (k1 + 1) → It h' i2 l2 (k2 + 1) → IsPair h' s.heap.objs.size x y → h'.objs.size = s.heap.objs.size + 1 →
      (∀ c o, c ≠ z → c ≠ TO → c ≠ i1 → c ≠ i2 → s.heap.get? c = some o → h'.get? c = some o) → Q (some (.ref s.heap.objs.size)) { s with heap := h' }) → wpAny (model prog w) A (pyNext (.ref z)) Q E s
  zstop : ∀ {A : Around} {E : Value → Shared → Prop} {s : Shared} {z TI TO i1 i2 l1 l2 : Addr} {k1 k2 : Nat} {xs ys : Array Value} {a b : Value} {Q : Option Value → Shared → Prop}, A.handled = none → ZipApart z TI TO i1 i2 l1 l2 →
    IsZip s.heap z TI TO .none → IsPair s.heap TI (.ref i1) (.ref i2) → IsPair s.heap TO a b → It s.heap i1 l1 k1 → It s.heap i2 l2 k2 → Sq s.heap l1 xs → Sq s.heap l2 ys → (xs[k1]? = none ∨ ys[k2]? = none) →
    (∀ h', (∀ c o, c ≠ z → c ≠ TO → c ≠ i1 → c ≠ i2 → s.heap.get? c = some o → h'.get? c = some o) → Q none { s with heap := h' }) → wpAny (model prog w) A (pyNext (.ref z)) Q E s
theorem izL {prog : Program} {w : World} : IterZ prog w Heap.IsListIter Heap.IsList :=
  { iterL with zitem := fun D a b c d e f g h i j => wpAny_pyNext_zip_item D a b c d e f g h i j, zstop := fun hh D a b c d e f g h i => wpAny_pyNext_zip_end hh D a b c d e f g h i }
theorem izT {prog : Program} {w : World} : IterZ prog w Heap.IsTupleIter Heap.IsTuple :=
  { iterT with zitem := fun D a b c d e f g h i j => RZ.pyNext_zipT_item D a b c d e f g h i j, zstop := fun hh D a b c d e f g h i => RZ.pyNext_zipT_end hh D a b c d e f g h i }
section
variable {prog : Program} {w : World} {It : Heap → Addr → Addr → Nat → Prop} {Sq : Heap → Addr → Array Value → Prop}
def ZSt (It : Heap → Addr → Addr → Nat → Prop) (Sq : Heap → Addr → Array Value → Prop) (z TI TO i1 i2 l1 l2 S : Addr) (xs ys : Array Value) (i : Nat) (h : Heap) : Prop :=
  IsPair h TI (.ref i1) (.ref i2) ∧ It h i1 l1 i ∧ It h i2 l2 i ∧ Sq h l1 xs ∧ Sq h l2 ys ∧ ((IsZip h z TI TO .none ∧ ∃ a b, IsPair h TO a b) ∨ ∃ T f oT, IsZipHeld h z TI TO T f ∧ h.get? T = some oT ∧ T ≠ z ∧ T ≠ i1 ∧ T ≠ i2 ∧ T ≠ S)
theorem zsrc (KK : IterZ prog w It Sq) {z TI TO i1 i2 l1 l2 S : Addr} (D : ZipApart z TI TO i1 i2 l1 l2) {xs ys : Array Value} (hz : z < S) (hTI : TI < S) (hTO : TO < S) (h1 : i1 < S) (h2 : i2 < S) (hl1 : l1 < S) (hl2 : l2 < S) (A : Around) (hA : A.handled = none) :
    ZSrc prog w A z S [z, TO, i1, i2] (min xs.size ys.size) (fun i => (xs.getD i .none, ys.getD i .none)) (ZSt It Sq z TI TO i1 i2 l1 l2 S xs ys) where
  off := by
    intro hm
    simp only [List.mem_cons, List.not_mem_nil, or_false] at hm
    rcases hm with e | e | e | e
    · exact Nat.ne_of_gt hz e
    · exact Nat.ne_of_gt hTO e
    · exact Nat.ne_of_gt h1 e
    · exact Nat.ne_of_gt h2 e
  low := fun b hm => by
    simp only [List.mem_cons, List.not_mem_nil, or_false] at hm
    rcases hm with rfl | rfl | rfl | rfl <;> assumption
  frame := fun i h h' st hk => by
    obtain ⟨a1, a2, a3, a4, a5, hz'⟩ := st
    refine ⟨hk _ _ (Nat.ne_of_lt hTI) a1, KK.keepI a2 fun o e => hk _ _ (Nat.ne_of_lt h1) e, KK.keepI a3 fun o e => hk _ _ (Nat.ne_of_lt h2) e, KK.keepS a4 fun o e => hk _ _ (Nat.ne_of_lt hl1) e, KK.keepS a5 fun o e => hk _ _ (Nat.ne_of_lt hl2) e, ?_⟩
    rcases hz' with ⟨b1, a, b, b2⟩ | ⟨T, f, oT, b1, b2, r1, r2, r3, r4⟩
    · exact .inl ⟨hk _ _ (Nat.ne_of_lt hz) b1, a, b, hk _ _ (Nat.ne_of_lt hTO) b2⟩
    · exact .inr ⟨T, f, oT, hk _ _ (Nat.ne_of_lt hz) b1, hk _ _ r4 b2, r1, r2, r3, r4⟩
  type := fun i s st => by
    obtain ⟨_, _, _, _, _, ⟨b1, _⟩ | ⟨T, f, oT, b1, _⟩⟩ := st
    · exact ⟨_, b1, rfl⟩
    · exact ⟨_, b1, rfl⟩
  self := fun i s Q E st h => by
    obtain ⟨_, _, _, _, _, ⟨b1, _⟩ | ⟨T, f, oT, b1, _⟩⟩ := st
    · exact wpAny_pyIter_zip b1 h
    · have hT : s.TypeIs (.ref z) "zip" := ⟨_, b1, rfl⟩
      refine wpAny_pyIter_slot hT PySem.F.slot_zip_iter (wpAny_call_entry PySem.F.slot_zip_iter hT PySem.F.entry_zip_iter ?_ (PySem.F.args_zip_iter_1 _))
      show wpAny _ _ (ret (.ref z)) _ _ s
      exact wpAny_pure ⟨_, rfl, "zip", _, hT, PySem.F.slot_zip_next.lookup, h⟩
  item := fun i s Q E hi st hS hQ => by
    obtain ⟨a1, a2, a3, a4, a5, hz'⟩ := st
    have hix : i < xs.size := Nat.lt_of_lt_of_le hi (Nat.min_le_left ..)
    have hiy : i < ys.size := Nat.lt_of_lt_of_le hi (Nat.min_le_right ..)
    have ex : xs[i]? = some (xs.getD i .none) := by rw [Array.getElem?_eq_getElem hix]; simp [Array.getD, hix]
    have ey : ys[i]? = some (ys.getD i .none) := by rw [Array.getElem?_eq_getElem hiy]; simp [Array.getD, hiy]
    have nm : ∀ c, c ∉ [z, TO, i1, i2] → c ≠ z ∧ c ≠ TO ∧ c ≠ i1 ∧ c ≠ i2 := fun c hc => by simpa using hc
    rcases hz' with ⟨b1, a, b, b2⟩ | ⟨T, f, oT, b1, b2, r1, r2, r3, r4⟩
    · refine KK.zitem D b1 a1 b2 a2 a3 a4 a5 ex ey fun h' c1 c2 c3 c4 c5 c6 hk => ?_
      refine hQ h' ⟨hk _ _ D.TIz D.TITO D.TIi1 D.TIi2 a1, c3, c4, KK.keepS a4 fun o e => hk _ _ D.l1z D.l1TO D.l1i1 D.l1i2 e, KK.keepS a5 fun o e => hk _ _ D.l2z D.l2TO D.l2i1 D.l2i2 e, .inr ⟨s.heap.objs.size, false, _, c1, c5, Nat.ne_of_gt (Nat.lt_trans hz hS), Nat.ne_of_gt (Nat.lt_trans h1 hS), Nat.ne_of_gt (Nat.lt_trans h2 hS), Nat.ne_of_gt hS⟩⟩ c5 c6 fun c o hc e => ?_
      obtain ⟨n1, n2, n3, n4⟩ := nm c hc
      exact hk c o n1 n2 n3 n4 e
    · refine pyNext_held KK.toIterK D b1 b2 a1 a2 a3 a4 a5 ex ey fun h' c1 c3 c4 c5 c6 hk => ?_
      refine hQ h' ⟨hk _ _ D.TIz D.TIi1 D.TIi2 a1, c3, c4, KK.keepS a4 fun o e => hk _ _ D.l1z D.l1i1 D.l1i2 e, KK.keepS a5 fun o e => hk _ _ D.l2z D.l2i1 D.l2i2 e, .inr ⟨T, true, oT, c1, hk _ _ r1 r2 r3 b2, r1, r2, r3, r4⟩⟩ c5 c6 fun c o hc e => ?_
      obtain ⟨n1, n2, n3, n4⟩ := nm c hc
      exact hk c o n1 n3 n4 e
  done := fun s Q E st hQ => by
    obtain ⟨a1, a2, a3, a4, a5, hz'⟩ := st
    have hend : xs[min xs.size ys.size]? = none ∨ ys[min xs.size ys.size]? = none := by
      rcases Nat.le_total xs.size ys.size with h | h
      · exact .inl (Array.getElem?_eq_none (by rw [Nat.min_eq_left h]; exact Nat.le_refl _))
      · exact .inr (Array.getElem?_eq_none (by rw [Nat.min_eq_right h]; exact Nat.le_refl _))
    have nm : ∀ c, c ∉ [z, TO, i1, i2] → c ≠ z ∧ c ≠ TO ∧ c ≠ i1 ∧ c ≠ i2 := fun c hc => by simpa using hc
    rcases hz' with ⟨b1, a, b, b2⟩ | ⟨T, f, oT, b1, b2, r1, r2, r3, r4⟩
    · exact KK.zstop hA D b1 a1 b2 a2 a3 a4 a5 hend fun h' hk => hQ h' fun c o hc e => by
        obtain ⟨n1, n2, n3, n4⟩ := nm c hc
        exact hk c o n1 n2 n3 n4 e
    · exact pyStop_held KK.toIterK hA D b1 b2 a1 a2 a3 a4 a5 hend fun h' hk => hQ h' fun c o hc e => by
        obtain ⟨n1, n2, n3, n4⟩ := nm c hc
        exact hk c o n1 n3 n4 e
end

/-! ### tracked -/
def putP : Hp → List Addr → List (V × V) → Hp
  | H, a :: as, p :: r => putP (upd H a (.tup [p.1, p.2])) as r
  | H, _, _ => H
theorem putP_off {b : Addr} : ∀ (as : List Addr) (ps : List (V × V)) (H : Hp), b ∉ as → putP H as ps b = H b
  | [], _, _, _ => rfl
  | _ :: _, [], _, _ => rfl
  | a :: as, p :: ps, H, h => by
    show putP (upd H a (.tup [p.1, p.2])) as ps b = H b
    rw [putP_off as ps _ (fun z => h (List.mem_cons_of_mem _ z)), upd_ne (fun z => h (by rw [z]; exact List.mem_cons_self))]
theorem putP_at : ∀ (as : List Addr) (ps : List (V × V)) (H : Hp), as.Nodup → ∀ (j : Nat) (a : Addr) (p : V × V), as[j]? = some a → ps[j]? = some p → putP H as ps a = some (.tup [p.1, p.2])
  | [], _, _, _, j, a, p, h, _ => by simp at h
  | _ :: _, [], _, _, j, a, p, _, h => by simp at h
  | a :: as, q :: ps, H, hn, 0, b, p, h1, h2 => by
    cases h1; cases h2
    show putP (upd H a (.tup [q.1, q.2])) as ps a = _
    rw [putP_off as ps _ (List.nodup_cons.mp hn).1, upd_same]
  | a :: as, q :: ps, H, hn, j + 1, b, p, h1, h2 => putP_at as ps _ (List.nodup_cons.mp hn).2 j b p h1 h2
section
variable {X : Cx}
theorem pairs_laid {pins : List (Addr × Obj)} {σ : L2.St} {H : Hp} {s : Shared} {h' : Heap} {tk : Nat} {P : Nat → Value × Value} {ps : List (V × V)} {acc : Array Value} {c : Nat} {as : List Addr} {S : Addr} (I : Inv X pins σ H s) (hz : ps.length ≤ sizeLine)
    (hk : ∀ b o, s.heap.get? b = some o → h'.get? b = some o) (hSs : s.heap.objs.size ≤ S) (hS : h'.get? S = some { cls := .type "list", dict := none, data := .seq acc c, slots := #[] }) (hl : as.length = ps.length) (hG : ZG P S h' as) (hacc : acc.toList = as.map Value.ref)
    (rel : ∀ (j : Nat) (p : V × V), ps[j]? = some p → RelV p.1 (P j).1 ∧ RelV p.2 (P j).2) :
    ∃ H' : Hp, (∀ b o, H b = some o → H' b = some o) ∧ H S = none ∧ (∀ t ∈ as, H t = none) ∧ S ∉ as ∧ H' S = some (.lst (as.map V.ref)) ∧ (∀ (j : Nat) (a : Addr) (p : V × V), as[j]? = some a → ps[j]? = some p → H' a = some (.tup [p.1, p.2])) ∧ Inv X pins σ H' { s with heap := h', toks := tk } := by
  have hSn : S ∉ as := fun z => Nat.lt_irrefl _ (hG.above _ z)
  have nd : as.Nodup := List.Pairwise.imp (fun {a b} (h : a < b) => Nat.ne_of_lt h) hG.rise
  have new : ∀ t ∈ as, H t = none := fun t ht => I.hok.fresh (Nat.le_trans hSs (Nat.le_of_lt (hG.above t ht)))
  have newS : H S = none := I.hok.fresh hSs
  have atP := putP_at as ps (upd H S (.lst (as.map V.ref))) nd
  have off : ∀ b, b ∉ as → b ≠ S → putP (upd H S (.lst (as.map V.ref))) as ps b = H b := fun b h1 h2 => by rw [putP_off as ps _ h1, upd_ne h2]
  have low : ∀ b o, s.heap.get? b = some o → b ∉ as ∧ b ≠ S := fun b o e => by
    have hb := Heap.lt_size e
    exact ⟨fun z => Nat.lt_irrefl _ (Nat.lt_trans (Nat.lt_of_lt_of_le hb hSs) (hG.above b z)), Nat.ne_of_lt (Nat.lt_of_lt_of_le hb hSs)⟩
  have kp : ∀ b u, H b = some u → (putP (upd H S (.lst (as.map V.ref))) as ps) b = some u := fun b u e => by
    rw [off b (fun z => by rw [new b z] at e; cases e) (fun z => by rw [z, newS] at e; cases e)]
    exact e
  have eS : putP (upd H S (.lst (as.map V.ref))) as ps S = some (.lst (as.map V.ref)) := by rw [putP_off as ps _ hSn, upd_same]
  refine ⟨putP (upd H S (.lst (as.map V.ref))) as ps, kp, newS, new, hSn, eS, atP, ?_⟩
  refine I.call' (ch := []) rfl ⟨fun b o q _ _ _ => hk b o q, fun b o q _ _ _ => ⟨o.slots, hk b o q⟩, fun b o q n _ => ?_, fun b o q _ => ⟨o, hk b o q⟩, fun b xs q => kp b _ q, fun b o u q => kp b _ q, fun b ps q => ⟨#[], by rw [kp b _ q]; simp⟩⟩ (fun b u q => ?_) I.bare fun b z => by simp at z
  · obtain ⟨z1, z2⟩ := low b o q
    rw [off b z1 z2]
    exact n
  · by_cases hb : b ∈ as
    · obtain ⟨j, e1⟩ := List.mem_iff_getElem?.mp hb
      have hj : j < ps.length := by rw [← hl]; exact (List.getElem?_eq_some_iff.mp e1).1
      have e2 : ps[j]? = some ps[j] := List.getElem?_eq_getElem hj
      rw [atP j b _ e1 e2] at q
      cases q
      obtain ⟨r1, r2⟩ := rel j _ e2
      exact ⟨by show 2 ≤ sizeLine; decide, [(P j).1, (P j).2], .cons r1 (.cons r2 .nil), ⟨_, hG.pairs j b e1, rfl, _, rfl⟩⟩
    · by_cases hb2 : b = S
      · rw [hb2] at q ⊢
        rw [eS] at q
        cases q
        refine ⟨by rw [List.length_map]; omega, acc.toList, c, by rw [hacc]; exact LiI.vals_refs as, ?_⟩
        rw [Array.toArray_toList]
        exact hS
      · rw [off b hb hb2] at q
        exact (I.hok b u q).stay (fun d v _ y => hk d v y) (fun d y => kp d _ y) fun d xs y => kp d _ y
/-- list(zip(a, b)) -/
def tLZ (K : PySem.W.Frag) (ta : TA) : TE := fun σ H Q => ta σ H fun vs H1 => ∃ a b xs ys, vs = [.ref a, .ref b] ∧ ((SqL K H1 a xs ∧ SqL K H1 b ys) ∨ (SqT K H1 a xs ∧ SqT K H1 b ys)) ∧
  ∀ (H' : Hp) (p : Addr) (ts : List Addr), (∀ b o, H1 b = some o → H' b = some o) → H1 p = none → (∀ t ∈ ts, H1 t = none) → p ∉ ts → H' p = some (.lst (ts.map V.ref)) → ts.length = (xs.zip ys).length →
    (∀ (j : Nat) (t : Addr) (q : V × V), ts[j]? = some t → (xs.zip ys)[j]? = some q → H' t = some (.tup [q.1, q.2])) → Q (.ref p) H'

theorem zip_rel {xs ys : List V} {us ws : List Value} (r1 : Vals xs us) (r2 : Vals ys ws) (j : Nat) (p : V × V) (h : (xs.zip ys)[j]? = some p) : RelV p.1 (us.toArray.getD j .none) ∧ RelV p.2 (ws.toArray.getD j .none) := by
  rw [List.getElem?_zip_eq_some] at h
  obtain ⟨h1, h2⟩ := h
  obtain ⟨u, e1, q1⟩ := r1.get h1
  obtain ⟨v, e2, q2⟩ := r2.get h2
  have f : ∀ {l : List Value} {u : Value}, l[j]? = some u → l.toArray.getD j .none = u := fun {l u} e => by
    obtain ⟨hj, e'⟩ := List.getElem?_eq_some_iff.mp e
    simp [Array.getD, hj, e']
  rw [f e1, f e2]
  exact ⟨q1, q2⟩
theorem pe_listZip {e e2 : Expr} {ta : TA} {p p2 cpos pos : Pos} (hc : X.calm = true) (hg : L2.Gl X "list") (hm : X.mg "list" = none) (hg2 : L2.Gl X "zip") (hm2 : X.mg "zip" = none) (ha : PA X [e, e2] ta)
    (hs2 : starEach [e, e2] X.env = (false, eval e X.env) :: starEach [e2] X.env) (hpl : (backTo cpos (starEach [e2] X.env)).any (·.1) = false) :
    PE X (.Call (.Name "list" p) [.Call (.Name "zip" p2) [e, e2] [] cpos] [] pos) (tLZ X.K ta) := by
  refine ⟨fun pins s σ H Q I hq => ?_⟩
  refine wpAny_Call_Name_kw (ld_blt I hg hm boot_list ?_)
  refine PyProof.Rows.callWith_type1 ?_ rfl rfl
  show wpAny _ _ (spliced ((false, eval (.Call (.Name "zip" p2) [e, e2] [] cpos) X.env) :: backTo pos (starEach [] X.env))) _ _ s
  refine Calls.spliced_cons ?_
  refine Call_ (ld_blt I hg2 hm2 PyProof.Rows.boot_zip (PyProof.Rows.callWith_type1 (thn (ha.run cpos pins s σ H _ I hq) fun us s1 ⟨vs, H1, I1, r1, q1⟩ => ?_) hs2 hpl))
  obtain ⟨a, b, xs, ys, ex, hsq, q⟩ := q1
  subst ex
  cases r1 with
  | cons r rr =>
    cases rr with
    | cons r' rr =>
      cases rr
      cases r
      cases r'
      -- behind the zip, whatever its items' kind
      have go : ∀ (It : Heap → Addr → Addr → Nat → Prop) (Sq : Heap → Addr → Array Value → Prop) (KK : IterZ X.prog X.w It Sq) (its its2 : List Value) (h' : Heap), Vals xs its → Vals ys its2 → xs.length ≤ sizeLine → a < s1.heap.objs.size → b < s1.heap.objs.size →
          Sq s1.heap a its.toArray → Sq s1.heap b its2.toArray → IsZip h' (s1.heap.objs.size + 4) (s1.heap.objs.size + 2) (s1.heap.objs.size + 3) .none → IsPair h' (s1.heap.objs.size + 2) (.ref s1.heap.objs.size) (.ref (s1.heap.objs.size + 1)) →
          IsPair h' (s1.heap.objs.size + 3) .none .none → It h' s1.heap.objs.size a 0 → It h' (s1.heap.objs.size + 1) b 0 → h'.objs.size = s1.heap.objs.size + 5 → (∀ c o, s1.heap.get? c = some o → h'.get? c = some o) →
          wpAny (model X.prog X.w) X.A (call (.type "list") [.ref (s1.heap.objs.size + 4)]) (EP X pins σ Q) X.xe { s1 with heap := h' } := by
        intro It Sq KK its its2 h' rv rv2 hzl hal hbl hq1 hq2 hz hTI hTO h1 h2 hsz hk
        have lt : ∀ k, k < 5 → s1.heap.objs.size + k < h'.objs.size := fun k hk => by rw [hsz]; exact Nat.add_lt_add_left hk _
        have lt0 : s1.heap.objs.size < h'.objs.size := lt 0 (by decide)
        have D := PySem.W.ktu_apart s1.heap.objs.size a b hal hbl
        refine z_call (s := { s1 with heap := h' }) (n := min its.toArray.size its2.toArray.size) (fun A hA => zsrc KK D (S := h'.objs.size) (xs := its.toArray) (ys := its2.toArray) (lt 4 (by decide)) (lt 2 (by decide)) (lt 3 (by decide)) lt0 (lt 1 (by decide)) (Nat.lt_trans hal lt0) (Nat.lt_trans hbl lt0) A hA)
          (I1.ok.hd hc) ?_ (lt 4 (by decide)) ⟨Heap.get?_push_of_some _ hTI, KK.keepI h1 fun o e => Heap.get?_push_of_some _ e, KK.keepI h2 fun o e => Heap.get?_push_of_some _ e, KK.keepS hq1 fun o e => Heap.get?_push_of_some _ (hk _ o e), KK.keepS hq2 fun o e => Heap.get?_push_of_some _ (hk _ o e), .inl ⟨Heap.get?_push_of_some _ hz, _, _, Heap.get?_push_of_some _ hTO⟩⟩ ?_
        · have l1 := rv.length
          have : its.toArray.size ≤ sizeLine := by rw [List.size_toArray, ← l1]; exact hzl
          exact Nat.le_trans (Nat.min_le_left _ _) this
        · intro h2' tk acc c as hk2 hS hl hG hacc
          have keep : ∀ b o, s1.heap.get? b = some o → h2'.get? b = some o := fun c o e => by
            have hcl : c < s1.heap.objs.size := Heap.lt_size e
            refine hk2 c o (fun hm => ?_) (hk c o e)
            simp only [List.mem_cons, List.not_mem_nil, or_false] at hm
            rcases hm with z | z | z | z
            · rw [z] at hcl; exact Nat.not_lt.mpr (Nat.le_add_right _ _) hcl
            · rw [z] at hcl; exact Nat.not_lt.mpr (Nat.le_add_right _ _) hcl
            · rw [z] at hcl; exact Nat.lt_irrefl _ hcl
            · rw [z] at hcl; exact Nat.not_lt.mpr (Nat.le_add_right _ _) hcl
          have hzip : (xs.zip ys).length = min its.toArray.size its2.toArray.size := by rw [List.length_zip, rv.length, rv2.length, List.size_toArray, List.size_toArray]
          obtain ⟨H', k1, k2, k3, k4, k5, k6, J⟩ := pairs_laid (X := X) (tk := tk) (ps := xs.zip ys) I1 (by rw [List.length_zip]; exact Nat.le_trans (Nat.min_le_left _ _) hzl) keep (Nat.le_of_lt lt0) hS (by rw [hl, hzip]) hG hacc (zip_rel rv rv2)
          exact ⟨.ref _, H', J, rfl, q H' _ as k1 k2 k3 k4 k5 (by rw [hl, hzip]) k6⟩
      rcases hsq with ⟨hqx, hqy⟩ | ⟨hqx, hqy⟩
      · obtain ⟨its, rv, p1, hz1⟩ := I1.list hqx
        obtain ⟨its2, rv2, p2, _⟩ := I1.list hqy
        exact call_zip_2 p1.isList p2.isList fun h' hz hTI hTO h1 h2 hsz hk => Calls.spliced_nil (go _ _ izL its its2 h' rv rv2 hz1 p1.lt p2.lt p1.isList p2.isList hz hTI hTO h1 h2 hsz hk)
      · obtain ⟨its, rv, p1, hz1⟩ := I1.tuple hqx
        obtain ⟨its2, rv2, p2, _⟩ := I1.tuple hqy
        obtain ⟨o1, ho1, _⟩ := id p1
        obtain ⟨o2, ho2, _⟩ := id p2
        exact RZ.call_zipT (show s1.heap.IsTuple a its.toArray from p1) (show s1.heap.IsTuple b its2.toArray from p2) fun h' hz hTI hTO h1 h2 hsz hk => Calls.spliced_nil (go _ _ izT its its2 h' rv rv2 hz1 (Heap.lt_size ho1) (Heap.lt_size ho2) p1 p2 hz hTI hTO h1 h2 hsz hk)
end
end Mi.Z

/-! Mi, part S: sorted(xs, key=f), f a def of the text, its keys any plain data (lists too). -/
namespace Mi.So
open PySem PySem.Spec PyProof.Rows L2 PySem.W PySem.Calls

theorem each_of {R : Value → PyData → Prop} {X : Cx} {pins : List (Addr × Obj)} {σ : L2.St} {H : Hp} {s : Shared} (I : Inv X pins σ H s) : ∀ {ys : List V} {us : List Value} {kz : List PyData}, Vals ys us → DpAll X.K H ys kz → EachIs (fun v k => ∃ as, Reads s.heap v k as) us kz
  | _, _, _, .nil, d => by cases d; exact .nil
  | _, _, _, .cons r rs, d => by
    cases d with
    | cons d1 d2 => exact .cons (Dp.reads I _ _ _ d1 r) (each_of (R := R) I rs d2)
theorem vals_each {xs : List V} {us : List Value} {kz : List PyData} (r : Vals xs us) (hl : xs.length = kz.length) : EachIs (fun (v : Value) (b : V × PyData) => RelV b.1 v) us (xs.zip kz) := by
  induction r generalizing kz with
  | nil => exact .nil
  | cons h t ih =>
    cases kz with
    | nil => cases hl
    | cons k kz => exact .cons h (ih (Nat.succ.inj hl))
theorem each_vals : ∀ {us : List Value} {bs : List (V × PyData)}, EachIs (fun (v : Value) (b : V × PyData) => RelV b.1 v) us bs → Vals (bs.map (·.1)) us
  | _, _, .nil => .nil
  | _, _, .cons h t => .cons h (each_vals t)
theorem map_snd_zip {α β : Type} : ∀ {xs : List α} {ys : List β}, xs.length = ys.length → (xs.zip ys).map (·.2) = ys
  | [], [], _ => rfl
  | [], _ :: _, h => by cases h
  | _ :: _, [], h => by cases h
  | _ :: xs, _ :: ys, h => by
    rw [List.zip_cons_cons, List.map_cons, map_snd_zip (Nat.succ.inj h)]
theorem vals_snoc {xs : List V} {us : List Value} {x : V} {u : Value} (h : Vals xs us) (r : RelV x u) : Vals (xs ++ [x]) (us ++ [u]) := by
  induction h with
  | nil => exact .cons r .nil
  | cons h t ih => exact .cons h ih

section
variable {X : Cx} {pins : List (Addr × Obj)} {σ : L2.St} {H : Hp} {s : Shared} {l f : Addr} {xs : List V} {Q : VK}
theorem sort_core (I : Inv X pins σ H s) {its : List Value} (rv : Vals xs its) (hz : xs.length ≤ sizeLine) {hp0 : Heap} {a : Addr} {tk0 : Nat} (ho : hp0.get? a = some (seqObj "list" its.toArray 0)) (hage : s.heap.objs.size ≤ a) (hold : ∀ b o, s.heap.get? b = some o → hp0.get? b = some o) (hu : X.A.units + 64 < cLine) (J : Nat → List V → Hp → Prop) (h0 : J 0 [] H)
    (turn : ∀ (pins : List (Addr × Obj)) (i : Nat) (x : V) (u : Value) (ys : List V) (H : Hp) (s : Shared), Inv X pins σ H s → xs[i]? = some x → RelV x u → J i ys H →
      wpAny (model X.prog X.w) X.A.in1.in1 (call (.ref f) [u]) (fun v s' => ∃ y H', Inv X pins σ H' s' ∧ RelV y v ∧ J (i + 1) (ys ++ [y]) H') (fun _ _ => False) s)
    (hend : ∀ ys H', J xs.length ys H' → ∃ kz, DpAll X.K H' ys kz ∧ kz.length = xs.length ∧ AllAlike kz ∧ Sortable kz ∧ (∀ d ∈ kz, d.depth ≤ 40) ∧ ∀ p, H' p = none → Q (.ref p) (upd H' p (.lst (byKeys false xs kz)))) {E' : Value → Shared → Prop} :
    wpAny (model X.prog X.w) X.A.in1.in1 (Builtin.«list.sort» ⟨[.ref a], [(Str.ofString "key", .ref f)]⟩) (fun fl s' => fl = .done (.ret .none) ∧ EP X pins σ Q (.ref a) s') E' { s with heap := hp0, toks := tk0 } := by
  have hlen := rv.length
  rw [ksk_t1]
  obtain ⟨e1, ho1⟩ : ∃ e1, (hp0.update a (Obj.mapSeq fun _ => (#[] : Array Value))).get? a = some (seqObj "list" #[] e1) := ⟨_, get?_update_seq ho fun _ => #[]⟩
  have hal : a < hp0.objs.size := Heap.lt_size ho
  unfold ksk_tree
  refine wpAny_bind (listItems_at ho rfl ?_)
  refine wpAny_bind (listUpdate_at ho rfl ?_ (by rw [List.size_toArray, ← hlen]; exact hz) (Nat.zero_le _))
  refine wpAny_bind (seqEpoch_at ho1 rfl ?_)
  refine wpAny_bind (wpAny_newTuple ?_ (by show its.length ≤ _; rw [← hlen]; exact hz))
  refine wpAny_bind (wpAny_newList ?_ (Nat.zero_le _))
  refine wpAny_holding ?_
  have hkS : (((hp0.update a (Obj.mapSeq fun _ => (#[] : Array Value))).push (seqObj "tuple" its.toArray 0)).objs.size) = hp0.objs.size + 1 := by rw [size_push', Heap.size_update]
  show wpAny _ _ (ksk_rest a (.ref f) false its.toArray e1 (.ref (((hp0.update a (Obj.mapSeq fun _ => (#[] : Array Value))).push (seqObj "tuple" its.toArray 0)).objs.size))) _ _ { s with toks := tk0, heap := ((hp0.update a (Obj.mapSeq fun _ => (#[] : Array Value))).push (seqObj "tuple" its.toArray 0)).push (seqObj "list" #[] 0) }
  have ga : (((hp0.update a (Obj.mapSeq fun _ => (#[] : Array Value))).push (seqObj "tuple" its.toArray 0)).push (seqObj "list" #[] 0)).get? a = some (seqObj "list" #[] e1) := Heap.get?_push_of_some _ (Heap.get?_push_of_some _ ho1)
  have gk : (((hp0.update a (Obj.mapSeq fun _ => (#[] : Array Value))).push (seqObj "tuple" its.toArray 0)).push (seqObj "list" #[] 0)).get? (((hp0.update a (Obj.mapSeq fun _ => (#[] : Array Value))).push (seqObj "tuple" its.toArray 0)).objs.size) = some (seqObj "list" #[] 0) := Heap.get?_push_size _ rfl
  have old : ∀ b o, s.heap.get? b = some o → (((hp0.update a (Obj.mapSeq fun _ => (#[] : Array Value))).push (seqObj "tuple" its.toArray 0)).push (seqObj "list" #[] 0)).get? b = some o := fun b o e =>
    Heap.get?_push_of_some _ (Heap.get?_push_of_some _ (((Heap.SameBut.update hp0 a (Obj.mapSeq fun _ => (#[] : Array Value))).2 b (Nat.ne_of_lt (Nat.lt_of_lt_of_le (Heap.lt_size e) hage))).trans (hold b o e)))
  rw [hkS] at gk ⊢
  generalize hk0 : hp0.objs.size + 1 = kS at gk ⊢
  generalize (((hp0.update a (Obj.mapSeq fun _ => (#[] : Array Value))).push (seqObj "tuple" its.toArray 0)).push (seqObj "list" #[] 0)) = hp at ga gk old ⊢
  have hka : kS ≠ a := by rw [← hk0]; exact Nat.ne_of_gt (Nat.lt_succ_of_lt hal)
  have hkge : s.heap.objs.size ≤ kS := Nat.le_trans hage (by rw [← hk0]; exact Nat.le_of_lt (Nat.lt_succ_of_lt hal))
  have I1 : Inv X pins σ H { s with heap := hp, toks := tk0 } := I.kept (t' := tk0) old
  have fp : ∀ {H' : Hp} {b : Addr}, (b = a ∨ b = kS) → H' b = none → FpOk X pins H' b := fun {H' b} hb hn => I.fpOk (by rcases hb with e | e <;> rw [e] <;> assumption) hn
  unfold ksk_rest
  refine wpAny_bind (wpAny_rule ?_)
  first
    | rw [List.forIn_toArray]
    | (rw [← Array.forIn_toList]; simp only [List.toList_toArray])
    | rw [← Array.forIn_toList]
  refine wpAny_bind (ksk_fold (fun i s' => ∃ H' ys kA e, Inv X pins σ H' s' ∧ H' a = none ∧ H' kS = none ∧ s'.heap.get? a = some (seqObj "list" #[] e1) ∧ s'.heap.get? kS = some (seqObj "list" kA e) ∧ Vals ys kA.toList ∧ ys.length = i ∧ J i ys H') its 0 _
    ⟨H, [], #[], 0, I1, I.hok.fresh hage, I.hok.fresh hkge, ga, gk, .nil, rfl, h0⟩ ?step ?done)
  case step =>
    rintro j x s' hx ⟨H', ys, kA, e, I', na, nk, ga', gk', rv', hl', hJ⟩
    simp only [Nat.zero_add] at hl' hJ ⊢
    have hj : j < its.length := (List.getElem?_eq_some_iff.mp hx).1
    obtain ⟨y0, hy0⟩ : ∃ y, xs[j]? = some y := ⟨_, List.getElem?_eq_getElem (by rw [hlen]; exact hj)⟩
    obtain ⟨u0, hu0, ru0⟩ := rv.get hy0
    rw [hx] at hu0
    cases hu0
    have hsz : kA.size = j := by rw [← Array.length_toList, ← rv'.length, hl']
    have hszL : kA.size ≤ sizeLine := by rw [hsz]; rw [hlen] at hz; exact Nat.le_trans (Nat.le_of_lt hj) hz
    have I'p := I'.pinned (fp := [a, kS]) (fun b hb => by
      rcases List.mem_cons.mp hb with rfl | hb
      · exact fp (.inl rfl) na
      · rw [List.mem_singleton.mp hb]; exact fp (.inr rfl) nk) (fun b hb => by
      rcases List.mem_cons.mp hb with rfl | hb
      · exact ⟨_, ga', fun v q => nomatch q⟩
      · rw [List.mem_singleton.mp hb]; exact ⟨_, gk', fun v q => nomatch q⟩)
    refine wpAny_bind (wpAny_attempt (wpAny_mono (turn _ j y0 x ys H' s' I'p hy0 ru0 hJ) (fun v s2 he => ?_) fun _ _ hF => hF.elim))
    obtain ⟨y, H2, I2, ry, hJ2⟩ := he
    have pa := I2.pin (a, seqObj "list" #[] e1) (List.mem_append_right _ (List.mem_append_right _ (mem_pinsAt (List.mem_cons_self) ga')))
    have pk := I2.pin (kS, seqObj "list" kA e) (List.mem_append_right _ (List.mem_append_right _ (mem_pinsAt (List.mem_cons_of_mem _ List.mem_cons_self) gk')))
    have na2 : H2 a = none := pa.2.1
    have nk2 : H2 kS = none := pk.2.1
    have ga2 : s2.heap.get? a = some (seqObj "list" #[] e1) := pa.1
    have gk2 : s2.heap.get? kS = some (seqObj "list" kA e) := pk.1
    have I3 := I2.unpinned
    try dsimp only
    have s1 := Heap.SameBut.update s2.heap kS (Obj.mapSeq (·.push v))
    obtain ⟨c2, hc2⟩ : ∃ c2, (s2.heap.update kS (Obj.mapSeq (·.push v))).get? kS = some (seqObj "list" (kA.push v) c2) := ⟨_, get?_update_seq gk2 (·.push v)⟩
    refine wpAny_bind (listUpdate_at gk2 rfl ?_ hszL (Nat.le_trans (Nat.le_of_eq (Array.size_push ..)) (Nat.succ_le_succ hszL)))
    refine wpAny_pure ⟨rfl, H2, ys ++ [y], kA.push v, c2, I3.turnedL (t' := s2.toks) (ch := [kS]) (fun b o hb e => (s1.2 b (fun z => hb (by simp [z]))).trans e) (fun b hb => by rw [List.mem_singleton.mp hb]; exact fp (.inr rfl) nk2), na2, nk2, (s1.2 a hka.symm).trans ga2, hc2, ?_, by rw [List.length_append, hl']; try rfl, hJ2⟩
    have e3 : (kA.push v).toList = kA.toList ++ [v] := by simp
    rw [e3]
    exact vals_snoc rv' ry
  case done =>
    rintro s' ⟨H', ys, kA, e, I', na, nk, ga', gk', rv', hl', hJ⟩
    rw [Nat.zero_add, ← hlen] at hJ hl'
    obtain ⟨kz, hdp, hkl, hal2, hsk, hdep, hQ⟩ := hend ys H' hJ
    have hk' := each_of (R := fun _ _ => True) I' rv' hdp
    have hsz : kA.size = its.length := by rw [← Array.length_toList, ← rv'.length, hl', hlen]
    obtain ⟨G, hG1, hG2⟩ := L2.restrict s'.heap (fun b => b != kS)
    have up : ∀ b o, b ≠ kS → s'.heap.get? b = some o → G.get? b = some o := fun b o hb e => by rw [hG1 b (by simpa using hb)]; exact e
    refine wpAny_bind (listItems_at gk' rfl ?_)
    refine keyH_end (κ := dataKind s'.heap kz) (h₁ := G) (fun b o hb e => ?_) (hG2 kS (by simp)) gk' ga' hka (SortsAt.data (s := s') hk' hal2 hsk fun d hd => ?_) hsz (by rw [← hlen]; exact hz) fun h' tk c kp2 ha2 => ?_
    · by_cases hbk : b = kS
      · rw [hbk, hG2 kS (by simp)] at e; cases e
      · rw [← hG1 b (by simpa using hbk)]; exact e
    · have := hdep d hd
      show X.A.units + 1 + 1 + d.depth < cLine
      omega
    · have KO : KeyedOut false kz its (sortVals (dataKind s'.heap kz) false kA.toList its) := ⟨s'.heap, kA.toList, hal2, rfl, hk'⟩
      have hR := vals_each (kz := kz) rv hkl.symm
      have EO := keyedOut_each (bs := xs.zip kz) (fun b : V × PyData => b.2) (by rw [map_snd_zip hkl.symm]; exact KO) hR
      have VO := each_vals EO
      have ho2 : (byKeys false xs kz).length ≤ sizeLine := by
        unfold byKeys
        rw [List.length_map, List.length_mergeSort, List.length_zip]
        exact Nat.le_trans (Nat.min_le_left _ _) hz
      have I2 : Inv X pins σ H' { s' with heap := h', toks := tk } := I'.turnedL (t' := tk) (ch := [a, kS]) (fun b o hb e => kp2 b o (fun z => hb (by simp [z])) (up b o (fun z => hb (by simp [z])) e)) (fun b hb => by
        rcases List.mem_cons.mp hb with rfl | hb
        · exact fp (.inl rfl) na
        · rw [List.mem_singleton.mp hb]; exact fp (.inr rfl) nk)
      have I3 : Inv X pins σ (upd H' a (.lst (byKeys false xs kz))) { s' with heap := h', toks := tk } := L2.Inv.take (s := { s' with heap := h', toks := tk }) (h' := h') (t' := tk) I2 (fun b o _ e => e) (fp (.inl rfl) na) ⟨ho2, _, c, VO, ha2⟩
      exact ⟨rfl, .ref a, _, I3, rfl, hQ a na⟩
theorem sorted_def (I : Inv X pins σ H s) (hs : SqL X.K H l xs) (hu : X.A.units + 64 < cLine) (J : Nat → List V → Hp → Prop) (h0 : J 0 [] H)
    (turn : ∀ (pins : List (Addr × Obj)) (i : Nat) (x : V) (u : Value) (ys : List V) (H : Hp) (s : Shared), Inv X pins σ H s → xs[i]? = some x → RelV x u → J i ys H →
      wpAny (model X.prog X.w) X.A.in1.in1 (call (.ref f) [u]) (fun v s' => ∃ y H', Inv X pins σ H' s' ∧ RelV y v ∧ J (i + 1) (ys ++ [y]) H') (fun _ _ => False) s)
    (hend : ∀ ys H', J xs.length ys H' → ∃ kz, DpAll X.K H' ys kz ∧ kz.length = xs.length ∧ AllAlike kz ∧ Sortable kz ∧ (∀ d ∈ kz, d.depth ≤ 40) ∧ ∀ p, H' p = none → Q (.ref p) (upd H' p (.lst (byKeys false xs kz)))) :
    wpAny (model X.prog X.w) X.A (call (.builtin "sorted") [.ref l] [(Str.ofString "key", .ref f)]) (EP X pins σ Q) X.xe s := by
  obtain ⟨its, rv, pl, hz⟩ := I.list hs
  have hlen := rv.length
  exact sorted_of_sort pl.isList (by rw [← hlen]; exact hz) (ksk_s1 _ _) (fun _ => ksk_l1 _ _) fun E' => sort_core (tk0 := s.toks) I rv hz (copyHeap_at s.heap its) (Nat.le_succ _) (fun b o e => copyHeap_old e) hu J h0 turn hend
theorem sorted_defD (I : Inv X pins σ H s) (hcalm : X.calm = true) {kvs : List (Key × V)} (hd : Rd H l (.dK kvs)) (hxs : xs = kvs.map fun kv => kV kv.1) (hu : X.A.units + 64 < cLine) (J : Nat → List V → Hp → Prop) (h0 : J 0 [] H)
    (turn : ∀ (pins : List (Addr × Obj)) (i : Nat) (x : V) (u : Value) (ys : List V) (H : Hp) (s : Shared), Inv X pins σ H s → xs[i]? = some x → RelV x u → J i ys H →
      wpAny (model X.prog X.w) X.A.in1.in1 (call (.ref f) [u]) (fun v s' => ∃ y H', Inv X pins σ H' s' ∧ RelV y v ∧ J (i + 1) (ys ++ [y]) H') (fun _ _ => False) s)
    (hend : ∀ ys H', J xs.length ys H' → ∃ kz, DpAll X.K H' ys kz ∧ kz.length = xs.length ∧ AllAlike kz ∧ Sortable kz ∧ (∀ d ∈ kz, d.depth ≤ 40) ∧ ∀ p, H' p = none → Q (.ref p) (upd H' p (.lst (byKeys false xs kz)))) :
    wpAny (model X.prog X.w) X.A (call (.builtin "sorted") [.ref l] [(Str.ofString "key", .ref f)]) (EP X pins σ Q) X.xe s := by
  obtain ⟨z, lo, vs, rel, dd⟩ := dk_rd I.hok hd
  obtain ⟨ep, hat⟩ := dd.dictAt
  have ek : (kvs.map fun kv => kV kv.1) = vs.map fun p => kV p.1 := by
    have e := congrArg (List.map kV) rel.keys
    rw [List.map_map, List.map_map] at e
    exact e
  have hvz : vs.length ≤ sizeLine := by rw [← rel.length]; exact z
  have hxz : xs.length ≤ sizeLine := by rw [hxs, List.length_map]; exact z
  refine call_function_entry_kw kind_sorted plain_sorted entry_sorted (ksk_s1 _ _) ?_
  unfold Builtin.«sorted»
  refine wpAny_bind (m := checkCount "sorted" 1 1 _) (wpAny_pure ?_)
  refine wpAny_bind (PySem.W.kdu_collect (A := X.A.in1) (PySem.W.kdl_dict (knd := mixKind X.prog X.w) (kvs := vs) (ep := ep) lo) (I.ok.hd hcalm) hat hvz fun h' tk acc hk hacc => ?_)
  have hv : Vals (vs.map fun p => kV p.1) acc.toList := keys_at (by rw [Array.length_toList]; exact hacc.1) fun j v e => hacc.2 j v (by rw [← Array.getElem?_toList]; exact e)
  have hv : Vals xs acc.toList := by rw [hxs, ek]; exact hv
  have hal : acc.toList.length ≤ sizeLine := by rw [← hv.length]; exact hxz
  refine wpAny_bind (wpAny_newList ?_ hal)
  have hoL : (h'.push (seqObj "list" acc.toList.toArray 0)).get? h'.objs.size = some (seqObj "list" acc.toList.toArray 0) := Heap.get?_push_size _ rfl
  show wpAny _ _ _ _ _ { s with heap := h'.push (seqObj "list" acc.toList.toArray 0), toks := tk }
  have I1 : Inv X pins σ H { s with heap := h', toks := tk } := I.kept hk
  refine wpAny_bind (wpAny_holding (wpAny_call_entry_kw PyProof.Rows.slot_list_sort ⟨_, hoL, rfl⟩ PyProof.Rows.entry_list_sort ?body (ksk_l1 _ _)))
  case body =>
    refine wpAny_mono (sort_core (s := { s with heap := h', toks := tk }) (tk0 := tk) I1 hv hxz hoL (Nat.le_refl _) (fun b o e => Heap.get?_push_of_some _ e) hu J h0 turn hend) (fun fl s' hf => ?_) fun _ _ e => e
    obtain ⟨rfl, hq⟩ := hf
    exact ⟨_, rfl, wpAny_pure ⟨_, rfl, hq⟩⟩
end
end Mi.So

/-! Mi, part N: dict(a list of pairs), dict displays. -/
namespace Mi
open PySem L2 PyProof.Rows RT RZ

def mergeT (kvs more : List (List Key × V)) : List (List Key × V) := more.foldl (fun acc kv => putK acc kv.1 kv.2) kvs
theorem length_mergeT : ∀ (more kvs : List (List Key × V)), (mergeT kvs more).length ≤ kvs.length + more.length
  | [], kvs => by show kvs.length ≤ kvs.length + 0; omega
  | p :: r, kvs => by
    have h1 := length_mergeT r (putK kvs p.1 p.2)
    have h2 := length_putK kvs p.1 p.2
    show (mergeT (putK kvs p.1 p.2) r).length ≤ _
    rw [List.length_cons]; omega
theorem kt_merge {H : Hp} : ∀ {more : List (List Key × V)} {rs : List (List Key × Addr × Value)} {kvs : List (List Key × V)} {xs : List (List Key × Addr × Value)}, L2.KT H more rs → L2.KT H kvs xs → L2.KT H (mergeT kvs more) (PySem.storedAllH xs rs) := by
  intro more rs kvs xs r
  unfold L2.KT at r
  induction r generalizing kvs xs with
  | nil => intro q; exact q
  | @cons p q ps qs h t ih =>
    intro r0
    obtain ⟨h1, h2, h3⟩ := h
    have e : L2.KT H (putK kvs p.1 p.2) (storedH xs q.1 q.2.1 q.2.2) := by
      have := r0.put p.1 h2 h3
      rw [← h1]; exact this
    exact ih e
section
variable {X : Cx}
theorem pairsT_of {pins : List (Addr × Obj)} {σ : L2.St} {H : Hp} {s : Shared} (I : Inv X pins σ H s) : ∀ {ps : List Addr} {kvs : List (List Key × V)}, Paired (fun (p : Addr) (kv : List Key × V) => ∃ b, SqT X.K H p [V.ref b, kv.2] ∧ H b = some (.tup (kv.1.map kV))) ps kvs →
    ∃ rs : List (List Key × Addr × Value), L2.KT H kvs rs ∧ rs.length = ps.length ∧ ∀ (j : Nat) (q : List Key × Addr × Value), rs[j]? = some q → ∃ (b : Addr), ps[j]? = some b ∧ IsTup s.heap b #[Value.ref q.2.1, q.2.2] ∧ H q.2.1 = some (.tup (q.1.map kV))
  | _, _, .nil => ⟨[], .nil, rfl, fun j q e => by simp at e⟩
  | _, _, .cons (a := p) (b := kv) h t => by
    obtain ⟨rs, r, hl, hp⟩ := pairsT_of I t
    obtain ⟨b, h, hb⟩ := h
    obtain ⟨its, rv, ht, _⟩ := I.tuple h
    obtain ⟨u, y, ei, ru, ry⟩ := vals2 rv
    subst ei
    have eu : u = Value.ref b := ru
    subst eu
    refine ⟨(kv.1, b, y) :: rs, .cons ⟨rfl, hb, ry⟩ r, by rw [List.length_cons, List.length_cons, hl], fun j q e => ?_⟩
    cases j with
    | zero =>
      have e' : (kv.1, b, y) = q := Option.some.inj e
      subst e'
      exact ⟨p, rfl, ht, hb⟩
    | succ j =>
      obtain ⟨b', e1, e2, e3⟩ := hp j q (by simpa using e)
      exact ⟨b', by simpa using e1, e2, e3⟩
/-- dict(xs) of a list of pairs (tuple key, value) -/
theorem call_dictT (hcalm : X.calm = true) (hu : X.A.units + 64 < cLine) : CallR X (.type "dict") (fun xs H Q => ∃ (a : Addr) (ps : List Addr) (kvs : List (List Key × V)), xs = [.ref a] ∧ SqL X.K H a (ps.map V.ref) ∧
    Paired (fun (p : Addr) (kv : List Key × V) => ∃ b, SqT X.K H p [V.ref b, kv.2] ∧ H b = some (.tup (kv.1.map kV))) ps kvs ∧ ∀ p, H p = none → Q (.ref p) (upd H p (.dT (mergeT [] kvs)))) := by
  intro pins s σ H xs us Q I r q
  obtain ⟨a, ps, kvs, ex, hq, hp, q⟩ := q
  subst ex
  obtain ⟨u, eu, rx⟩ := vals1 r
  subst eu
  cases rx
  obtain ⟨its, rv, pl, hz⟩ := I.list hq
  have ei := refs_at rv
  subst ei
  rw [List.length_map] at hz
  obtain ⟨rs, rel, hl, hpr⟩ := pairsT_of I hp
  obtain ⟨o, n, ho, hc, hd, hdat⟩ := pl
  have hPI : PySem.PairItems s.heap (ps.map Value.ref).toArray (fun j => ps.getD j 0) (rs.map fun q => (Value.ref q.2.1, q.2.2)) := by
    refine ⟨by simp [hl], fun j k v hj => ?_⟩
    rw [List.getElem?_map] at hj
    obtain ⟨q, hq, e⟩ := Option.map_eq_some_iff.mp hj
    cases e
    obtain ⟨b, e1, e2, e3⟩ := hpr j q hq
    have eb : ps.getD j 0 = b := by rw [List.getD_eq_getElem?_getD, e1]; try rfl
    dsimp only
    rw [eb]
    exact ⟨by simp [e1], .inl e2⟩
  have key : ∀ (h' : Heap) (x : List Key × Addr × Value), x ∈ rs → (∀ b o, s.heap.get? b = some o → h'.get? b = some o) → (tupleKind (mixKind X.prog X.w)).is h' x.1 x.2.1 := fun h' x hx hk => by
    obtain ⟨j, hj⟩ := List.mem_iff_getElem?.mp hx
    obtain ⟨b, _, _, e3⟩ := hpr j x hj
    obtain ⟨o, its, n, h1, h2, h3, h4⟩ := key_of I.hok e3
    exact ⟨o, its, n, hk _ _ h1, h2, h3, h4⟩
  refine PySem.call_dict_pairsH (knd := tupleKind (mixKind X.prog X.w)) (ps := rs) (PySem.PairArg.list a _ _ _) (I.ok.hd hcalm) (by show X.A.units + 1 + 1 < cLine; omega) ⟨⟨o, n, ho, hc, hd, hdat⟩, hPI⟩ ⟨by simp, fun i k v hr => ?_⟩ (fun h' hk x hx => ?_) (by rw [List.length_map, hl]; exact hz) fun h' tk hd' k => ?_
  · have hr : (rs.map fun q => (Value.ref q.2.1, q.2.2))[i]? = some (k, v) := hr
    rw [List.getElem?_map] at hr
    obtain ⟨q, hq, e⟩ := Option.map_eq_some_iff.mp hr
    cases e
    exact ⟨q.1, q.2.1, hq, rfl⟩
  · exact key h' x hx fun b o e => hk b o (Nat.ne_of_lt (Heap.lt_size e)) (by simp) e
  · have hm : (s.heap.objs.size == sysModules) = false := beq_eq_false_iff_ne.mpr (Nat.ne_of_gt I.big)
    have hlen : (mergeT [] kvs).length ≤ sizeLine := by
      refine Nat.le_trans (length_mergeT kvs []) ?_
      have l2 : kvs.length = rs.length := Paired.length rel
      rw [List.length_nil, Nat.zero_add, l2, hl]
      exact hz
    have hn := I.hok.fresh (Nat.le_refl s.heap.objs.size)
    have rel2 : L2.KT (upd H s.heap.objs.size (.dT (mergeT [] kvs))) (mergeT [] kvs) (PySem.storedAllH [] rs) := (kt_merge rel .nil).keeps fun b ys e => by
      rw [upd_ne (fun z => by rw [z, hn] at e; cases e)]
      exact e
    obtain ⟨o', es, ep, d1, d2, d3, d4, d5, d6⟩ := hd'
    exact ⟨.ref s.heap.objs.size, upd H s.heap.objs.size (.dT (mergeT [] kvs)), I.laid (t' := tk) (fun b o e => k b o (by simp) e) (Nat.le_refl _) (show ObjOk X.prog X.w _ _ _ (.dT (mergeT [] kvs)) from ⟨hlen, hm, PySem.storedAllH [] rs, rel2, o', es, ep, d1, d2, d3, d4, d6⟩), rfl, q _ hn⟩
end

/-! ### dict(xs) for the small language -/
section
variable {G : Gb} {X : Cx}
theorem RpKV.put {κ : Type} [DecidableEq κ] {φ : List Addr} {H : Hp} {k : κ} {d : Mi.D} {v : V} (r : Rp G φ H d v) : ∀ {kvs : List (κ × Mi.D)} {vs : List (κ × V)}, RpKV G φ H kvs vs → RpKV G φ H (putD kvs k d) (putK vs k v) := by
  have any : ∀ {kvs : List (κ × Mi.D)} {vs : List (κ × V)}, RpKV G φ H kvs vs → (kvs.any fun kv => decide (kv.1 = k)) = vs.any fun kv => decide (kv.1 = k) := by
    intro kvs
    induction kvs with
    | nil => intro vs h; have h : vs = [] := h; subst h; rfl
    | cons p rr ih =>
      intro vs h
      obtain ⟨w, t, rfl, h1, h2⟩ := h
      rw [List.any_cons, List.any_cons, ih h2]
  intro kvs vs h
  unfold putD putK
  rw [any h]
  by_cases c : (vs.any fun kv => decide (kv.1 = k)) = true
  · rw [if_pos c, if_pos c]
    clear c
    induction kvs generalizing vs with
    | nil => have h : vs = [] := h; subst h; rfl
    | cons p rr ih =>
      obtain ⟨w, t, rfl, h1, h2⟩ := h
      show RpKV G φ H ((if p.1 = k then (p.1, d) else p) :: _) ((if p.1 = k then (p.1, v) else (p.1, w)) :: _)
      by_cases e : p.1 = k
      · rw [if_pos e, if_pos e]
        exact ⟨v, _, rfl, r, ih h2⟩
      · rw [if_neg e, if_neg e]
        exact ⟨w, _, rfl, h1, ih h2⟩
  · rw [if_neg c, if_neg c]
    clear c
    induction kvs generalizing vs with
    | nil => have h : vs = [] := h; subst h; exact ⟨v, [], rfl, r, rfl⟩
    | cons p rr ih =>
      obtain ⟨w, t, rfl, h1, h2⟩ := h
      exact ⟨w, t ++ [(k, v)], rfl, h1, ih h2⟩
theorem RpKV.length {κ : Type} {φ : List Addr} {H : Hp} : ∀ {kvs : List (κ × Mi.D)} {vs : List (κ × V)}, RpKV G φ H kvs vs → kvs.length = vs.length
  | [], _, h => by have h : _ = [] := h; subst h; rfl
  | p :: r, _, h => by
    obtain ⟨w, t, rfl, h1, h2⟩ := h
    rw [List.length_cons, List.length_cons, h2.length]

theorem putD_all {κ : Type} [DecidableEq κ] {φ : List Addr} {H : Hp} : ∀ {more kvs : List (κ × Mi.D)} {vm vs : List (κ × V)}, RpKV G φ H more vm → RpKV G φ H kvs vs → RpKV G φ H (more.foldl (fun acc kv => putD acc kv.1 kv.2) kvs) (vm.foldl (fun acc kv => putK acc kv.1 kv.2) vs)
  | [], _, _, _, h, h2 => by have h : _ = [] := h; subst h; exact h2
  | p :: r, _, _, _, h, h2 => by
    obtain ⟨w, t, rfl, h3, h4⟩ := h
    exact putD_all (more := r) (vm := t) h4 (h2.put h3)
theorem pairK_rp (hK : X.K = G.K) {φ : List Addr} {H : Hp} : ∀ {ds : List Mi.D} {kvs : List (Key × Mi.D)} {vs : List V}, mapO pairK ds = some kvs → Rps G φ H ds vs → ∃ (ps : List Addr) (vk : List (Key × V)), vs = ps.map V.ref ∧ Paired (fun (p : Addr) (kv : Key × V) => SqT X.K H p [kV kv.1, kv.2]) ps vk ∧ RpKV G φ H kvs vk
  | [], _, _, h, r => by
    rw [mapO_nil h]
    unfold Rps at r
    exact ⟨[], [], r, .nil, rfl⟩
  | d :: ds, _, _, h, r => by
    obtain ⟨b, bs, h1, h2, rfl⟩ := mapO_cons h
    unfold Rps at r
    obtain ⟨v, t, rfl, r1, r2⟩ := r
    obtain ⟨ps, vk, rfl, q1, q2⟩ := pairK_rp hK h2 r2
    unfold pairK at h1
    split at h1
    · rename_i kd vd
      obtain ⟨k, hk, rfl⟩ := Option.map_eq_some_iff.mp h1
      unfold Rp at r1
      obtain ⟨a, us, rfl, ha, hr⟩ := r1
      unfold Rps at hr
      obtain ⟨x, r', rfl, hx, hr⟩ := hr
      unfold Rps at hr
      obtain ⟨y, r'', rfl, hy, hr⟩ := hr
      unfold Rps at hr
      subst hr
      have e := key_v hk hx
      subst e
      exact ⟨a :: ps, (k, y) :: vk, rfl, .cons (by rw [hK]; exact ha.sq) q1, y, vk, rfl, hy, q2⟩
    · cases h1
theorem pairT_rp (hK : X.K = G.K) {φ : List Addr} {H : Hp} : ∀ {ds : List Mi.D} {kvs : List (List Key × Mi.D)} {vs : List V}, mapO pairT ds = some kvs → Rps G φ H ds vs →
    ∃ (ps : List Addr) (vk : List (List Key × V)), vs = ps.map V.ref ∧ Paired (fun (p : Addr) (kv : List Key × V) => ∃ b, SqT X.K H p [V.ref b, kv.2] ∧ H b = some (.tup (kv.1.map kV))) ps vk ∧ RpKV G φ H kvs vk
  | [], _, _, h, r => by
    rw [mapO_nil h]
    unfold Rps at r
    exact ⟨[], [], r, .nil, rfl⟩
  | d :: ds, _, _, h, r => by
    obtain ⟨b, bs, h1, h2, rfl⟩ := mapO_cons h
    unfold Rps at r
    obtain ⟨v, t, rfl, r1, r2⟩ := r
    obtain ⟨ps, vk, rfl, q1, q2⟩ := pairT_rp hK h2 r2
    unfold pairT at h1
    split at h1
    · rename_i kd vd
      obtain ⟨k, hk, rfl⟩ := Option.map_eq_some_iff.mp h1
      unfold Rp at r1
      obtain ⟨a, us, rfl, ha, hr⟩ := r1
      unfold Rps at hr
      obtain ⟨x, r', rfl, hx, hr⟩ := hr
      unfold Rps at hr
      obtain ⟨y, r'', rfl, hy, hr⟩ := hr
      unfold Rps at hr
      subst hr
      obtain ⟨b, rfl, hb⟩ := keyT_v hk hx
      exact ⟨a :: ps, (k, y) :: vk, rfl, .cons ⟨b, by rw [hK]; exact ha.sq, hb⟩ q1, y, vk, rfl, hy, q2⟩
    · cases h1
theorem dictOf_cases {ds : List Mi.D} {o : O} (h : dictOf ds = some o) : (∃ kvs, mapO pairK ds = some kvs ∧ o = .dk (kvs.foldl (fun acc kv => putD acc kv.1 kv.2) [])) ∨ ∃ kvs, mapO pairT ds = some kvs ∧ o = .dt (kvs.foldl (fun acc kv => putD acc kv.1 kv.2) []) := by
  unfold dictOf at h
  split at h
  · cases h; exact .inl ⟨[], rfl, rfl⟩
  · rename_i k v r
    cases hk : k.key with
    | some k' =>
      simp only [hk] at h
      obtain ⟨rs, hr, rfl⟩ := Option.map_eq_some_iff.mp h
      refine .inl ⟨(k', v) :: rs, ?_, rfl⟩
      have e : pairK (.tup [k, v]) = some (k', v) := by unfold pairK; simp only [hk]; rfl
      unfold mapO
      simp only [e, hr]
    | none =>
      simp only [hk] at h
      cases hkt : k.keyT with
      | some k' =>
        simp only [hkt] at h
        obtain ⟨rs, hr, rfl⟩ := Option.map_eq_some_iff.mp h
        refine .inr ⟨(k', v) :: rs, ?_, rfl⟩
        have e : pairT (.tup [k, v]) = some (k', v) := by unfold pairT; simp only [hkt]; rfl
        unfold mapO
        simp only [e, hr]
      | none => simp only [hkt] at h; cases h
  · cases h
/-- a new object gets the next place -/
theorem place_new {φ : List Addr} {H : Hp} {S : Store} {p : Addr} {u : HO} {o : O} {xk : XK} {Q : VK} (R : Rel G φ H S) (hp : H p = none) (ho : RpO G φ (upd H p u) o p) (h : Post G (RlW G) φ H (.ok (.val (.ref S.length)) (S ++ [o])) xk Q) : Q (.ref p) (upd H p u) := by
  have E := Ext.fresh R hp u
  have R1 := R.fresh hp u
  have n : p ∉ φ := R.unk hp
  refine Post.ok (L := RlW G) (φ' := φ ++ [p]) h ⟨List.prefix_append _ _, E.keep, fun x hx => ?_⟩ (R1.more n ho) (rl_val ?_)
  · rcases List.mem_append.mp hx with q | q
    · exact .inl q
    · simp at q; subst q; exact .inr hp
  · unfold Rp
    exact ⟨p, rfl, by rw [← R.len]; simp⟩
theorem c_dict (hK : X.K = G.K) (hc : X.calm = true) (hu : X.A.units + 64 < cLine) : CallR X (.type "dict") (rC1 G .dict_) := by
  intro pins s σ H xs us Q I r h
  obtain ⟨v, rfl, φ, w1, S, xk, R, r1, h⟩ := h
  unfold p1 at h
  dsimp only at h
  split at h
  · rename_i ds hq
    split at h
    · rename_i o ho
      obtain ⟨a, vs, rfl, hs, hr⟩ := seq_rp R r1 hq
      have hs : SqL X.K H a vs := by rw [hK]; exact ifF hs
      have kp : ∀ {p : Addr} {u : HO}, H p = none → Keep φ H φ (upd H p u) := fun {p u} hp => (Ext.fresh R hp u).toKeep R
      rcases dictOf_cases ho with ⟨kvs, h1, rfl⟩ | ⟨kvs, h1, rfl⟩
      · obtain ⟨ps, vk, rfl, q1, q2⟩ := pairK_rp (X := X) hK h1 hr
        refine call_dictP hc pins s σ H _ us Q I r ⟨a, ps, vk, rfl, hs, q1, fun p hp => ?_⟩
        exact place_new R hp (show RpO G φ _ (.dk _) p from ⟨_, upd_same, RpKV.mono (kp hp) _ _ (putD_all (kvs := []) (vs := []) q2 rfl)⟩) h
      · obtain ⟨ps, vk, rfl, q1, q2⟩ := pairT_rp (X := X) hK h1 hr
        refine call_dictT hc hu pins s σ H _ us Q I r ⟨a, ps, vk, rfl, hs, q1, fun p hp => ?_⟩
        exact place_new R hp (show RpO G φ _ (.dt _) p from ⟨_, upd_same, RpKV.mono (kp hp) _ _ (putD_all (kvs := []) (vs := []) q2 rfl)⟩) h
    · exact h.elim
  · exact h.elim

/-! ### list(zip(a, b)) -/
theorem zip_rps {φ : List Addr} {H : Hp} : ∀ {ds es : List Mi.D} {xs ys : List V} {ts : List Addr}, Rps G φ H ds xs → Rps G φ H es ys → ts.length = (xs.zip ys).length →
    (∀ (j : Nat) (t : Addr) (q : V × V), ts[j]? = some t → (xs.zip ys)[j]? = some q → H t = some (.tup [q.1, q.2])) → Rps G φ H ((ds.zip es).map fun p => Mi.D.tup [p.1, p.2]) (ts.map V.ref)
  | [], _, _, _, ts, r, _, hl, _ => by
    unfold Rps at r
    subst r
    have e : ts = [] := List.length_eq_zero_iff.mp (by simpa using hl)
    subst e
    show Rps G φ H [] []
    unfold Rps; rfl
  | d :: ds, [], _, _, ts, _, r, hl, _ => by
    unfold Rps at r
    subst r
    have e : ts = [] := List.length_eq_zero_iff.mp (by simpa using hl)
    subst e
    show Rps G φ H [] []
    unfold Rps; rfl
  | d :: ds, e :: es, _, _, ts, r, r2, hl, hk => by
    unfold Rps at r r2
    obtain ⟨x, xs, rfl, h1, h2⟩ := r
    obtain ⟨y, ys, rfl, h3, h4⟩ := r2
    cases ts with
    | nil => simp at hl
    | cons t ts =>
      have ht := hk 0 t (x, y) rfl rfl
      have ih := zip_rps h2 h4 (ts := ts) (by simpa using hl) fun j t q e1 e2 => hk (j + 1) t q (by simpa using e1) (by simpa using e2)
      rw [List.zip_cons_cons, List.map_cons, List.map_cons]
      unfold Rps
      refine ⟨.ref t, _, rfl, ?_, ih⟩
      unfold Rp
      refine ⟨t, [x, y], rfl, ht, ?_⟩
      unfold Rps
      refine ⟨x, [y], rfl, h1, ?_⟩
      unfold Rps
      refine ⟨y, [], rfl, h3, ?_⟩
      unfold Rps
      rfl
theorem k_lzip {Wx : WX} {e e2 : Expr} {A B : AX W} {p p2 cpos pos : Pos} (hK : X.K = G.K) (hc : X.calm = true) (hg : L2.Gl X "list") (hm : X.mg "list" = none) (hg2 : L2.Gl X "zip") (hm2 : X.mg "zip" = none) (ha : PE X e (tK G Wx A)) (hb : PE X e2 (tK G Wx B))
    (hs : starEach [e, e2] X.env = (false, eval e X.env) :: starEach [e2] X.env) (hs2 : starEach [e2] X.env = (false, eval e2 X.env) :: starEach [] X.env) (hpl : (backTo cpos (starEach [e2] X.env)).any (·.1) = false) :
    PE X (.Call (.Name "list" p) [.Call (.Name "zip" p2) [e, e2] [] cpos] [] pos) (tK G Wx fun ρ S => (A ρ S).bd fun x S => (B ρ S).bd fun y S => Mi.p2 .lzip x y S) := by
  refine (Z.pe_listZip hc hg hm hg2 hm2 (pa_cons ha (pa_cons hb pa_nil hs2) hs) hs hpl).im fun σ H Q q => ?_
  refine tI.bd (F := fun x ρ S => (B ρ S).bd fun y S => Mi.p2 .lzip x y S) q fun φ ρ S v φ1 H1 x S1 R sl e1 R1 l h => ?_
  refine tI.next R sl e1 R1 h fun u H2 φ2 y S2 e2 R2 l2 h2 => ?_
  have h2 : Post G (RlW G) φ H (lzipW x y S2) (fun c d H' => Wx c d σ H') Q := h2
  unfold lzipW at h2
  cases hx : x.seq S2 with
  | none => simp only [hx] at h2; exact h2.elim
  | some bx =>
    cases hy : y.seq S2 with
    | none => simp only [hx, hy] at h2; exact h2.elim
    | some bz =>
      simp only [hx, hy] at h2
      by_cases hbb : bx.1 = bz.1
      · rw [if_pos hbb] at h2
        obtain ⟨bx, ds⟩ := bx
        obtain ⟨bz, es⟩ := bz
        obtain ⟨a, xs, rfl, hsa, hra⟩ := seq_rp R2 (RpW.mono e2 R1 l.1) hx
        obtain ⟨b, ys, rfl, hsb, hrb⟩ := seq_rp R2 l2.1 hy
        have e12 := e1.trans e2
        refine ⟨a, b, xs, ys, rfl, ?_, fun H' p ts k1 k2 k3 k4 k5 k6 k7 => ?_⟩
        · have hbb : bx = bz := hbb
          subst hbb
          cases bx with
          | true => exact .inr ⟨by rw [hK]; exact ifT hsa, by rw [hK]; exact ifT hsb⟩
          | false => exact .inl ⟨by rw [hK]; exact ifF hsa, by rw [hK]; exact ifF hsb⟩
        · have E3 : Ext φ2 H2 φ2 H' := ⟨List.prefix_refl _, fun a o h _ => k1 a o h, fun _ h => .inl h⟩
          have kp : Keep φ2 H2 φ2 H' := E3.toKeep R2
          have R3 : Rel G φ2 H' S2 := ⟨R2.len, R2.nd, fun n a o h1 h2 => by
            obtain ⟨u, hu, _⟩ := R2.at (List.mem_of_getElem? h1)
            exact RpO.mono kp (R2.obj n a o h1 h2) (by rw [hu, k1 a u hu])⟩
          refine Post.ok (L := RlW G) (a := W.lis _) h2 (e12.trans E3) R3 ⟨⟨p, _, rfl, k5, R2.unk k2, zip_rps (Rps.mono kp _ _ hra) (Rps.mono kp _ _ hrb) k6 k7⟩, fun ds' a' e1' e2' => ?_⟩
          cases e2'
          exact e12.fr R2 _ k2
      · rw [if_neg hbb] at h2; exact h2.elim

/-! ### {k: v, ..} -/
def flatV : List (V × V) → List V
  | [] => []
  | p :: r => p.1 :: p.2 :: flatV r
theorem unpair_rp {φ : List Addr} {H : Hp} : ∀ {ds : List Mi.D} {kvs : List (Key × Mi.D)} {ps : List (V × V)}, unpair ds = some kvs → Rps G φ H ds (flatV ps) → ∃ vk : List (Key × V), ps = vk.map (fun kv => (kV kv.1, kv.2)) ∧ RpKV G φ H kvs vk
  | [], kvs, ps, h, r => by
    cases h
    unfold Rps at r
    cases ps with
    | nil => exact ⟨[], rfl, rfl⟩
    | cons p ps => cases r
  | [d], kvs, ps, h, r => by cases h
  | k :: v :: ds, kvs, ps, h, r => by
    unfold unpair at h
    cases hk : k.key with
    | none => simp only [hk] at h; cases h
    | some k' =>
      simp only [hk] at h
      obtain ⟨rest, hr, rfl⟩ := Option.map_eq_some_iff.mp h
      unfold Rps at r
      obtain ⟨x, t, e, r1, r⟩ := r
      unfold Rps at r
      obtain ⟨y, t', rfl, r2, r⟩ := r
      cases ps with
      | nil => cases e
      | cons p ps =>
        cases e
        have e1 := key_v hk r1
        obtain ⟨vk, rfl, q⟩ := unpair_rp hr r
        refine ⟨(k', p.2) :: vk, ?_, p.2, vk, rfl, r2, q⟩
        rw [List.map_cons, ← e1]
theorem unk_upd {φ : List Addr} {H : Hp} {S : Store} {p : Addr} {kvs : List (Key × V)} {u : HO} (R : Rel G φ H S) (hp : H p = some (.dK kvs)) (n : p ∉ φ) : Keep φ H φ (upd H p u) ∧ Rel G φ (upd H p u) S := by
  have kp : Keep φ H φ (upd H p u) := by
    refine ⟨fun _ _ h => h, fun a xs h => ?_, fun a o x h => ?_⟩
    · rw [upd_ne]
      · exact h
      · rintro rfl; rw [hp] at h; cases h
    · rw [upd_ne]
      · exact h
      · rintro rfl; rw [hp] at h; cases h
  exact ⟨kp, R.len, R.nd, fun m a o h1 h2 => RpO.mono kp (R.obj m a o h1 h2) (upd_ne fun e => n (e ▸ List.mem_of_getElem? h1))⟩
theorem k_dsp {Wx : WX} {keys : List (Option Expr)} {values : List Expr} {trs : List (TE × TE)} {pos : Pos} {As : AX (List Mi.D)} (h : PPs X pos keys values trs) (hall : keys.all (·.isSome) = true) (hl : keys.length = values.length) (h0 : keys ≠ []) (h15 : keys.length ≤ 15)
    (hi : ∀ σ H Q, tDs G Wx As σ H (fun vs H' => ∀ ps, flatV ps = vs → Q ps H') → tPairs trs σ H Q) :
    PE X (.Dict keys values pos) (tK G Wx fun ρ S => (As ρ S).bd fun ds S => match dispO ds with
      | some o => .ok (.val (.ref S.length)) (S ++ [o])
      | none => .bad) := by
  refine (pe_disp h hall hl h0 h15).im fun σ H Q q p hp => hi _ _ _ ?_
  obtain ⟨φ, ρ, S, R, sl, q⟩ := q
  refine tI.next (L := RlDs G) (F := fun ds S => match dispO ds with
      | some o => Mi.R.ok (W.val (.ref S.length)) (S ++ [o])
      | none => .bad) R sl (Ext.fresh R hp _) (R.fresh hp _) q fun vs H2 φ2 ds S2 e2 R2 l2 h2 ps hps => ?_
  subst hps
  have l2 : Rps G φ2 H2 ds (flatV ps) := l2
  have hp2 : H2 p = some (.dK []) := e2.keep p _ upd_same (R.unk hp)
  have np : p ∉ φ2 := e2.out (upd_same (H := H) (a := p) (o := .dK [])) (R.unk hp)
  refine ⟨hp2, ?_⟩
  unfold dispO at h2
  cases hu : unpair ds with
  | none => simp only [hu] at h2; exact h2.elim
  | some kvs =>
    simp only [hu] at h2
    by_cases c : kvs.length ≤ 15
    · rw [if_pos c] at h2
      obtain ⟨vk, rfl, q2⟩ := unpair_rp hu l2
      refine ⟨vk, rfl, by rw [← q2.length]; exact c, ?_⟩
      obtain ⟨kp, R3⟩ := unk_upd (u := .dK (mergeK [] vk)) R2 hp2 np
      have E := (Ext.fresh R hp (.dK [])).trans e2
      refine Post.ok (L := RlW G) (φ' := φ2 ++ [p]) h2 ⟨E.pre.trans (List.prefix_append _ _), fun a o ha hn => ?_, fun x hx => ?_⟩ (R3.more np (show RpO G φ2 _ (.dk _) p from ⟨_, upd_same, RpKV.mono kp _ _ (putD_all (kvs := []) (vs := []) q2 rfl)⟩)) (rl_val ?_)
      · rw [upd_ne (fun z => by rw [z, hp] at ha; cases ha)]
        exact E.keep a o ha hn
      · rcases List.mem_append.mp hx with z | z
        · exact E.new x z
        · simp at z; subst z; exact .inr hp
      · unfold Rp
        exact ⟨p, rfl, by rw [← R2.len]; simp⟩
    · rw [if_neg c] at h2; exact h2.elim
theorem k_dsp0 {Wx : WX} {pos : Pos} : PE X (.Dict [] [] pos) (tK G Wx fun ρ S => .ok (.val (.ref S.length)) (S ++ [.dk []])) :=
  (pe_dnewK (pos := pos)).im fun σ H Q ⟨φ, ρ, S, R, sl, q⟩ p hp => place_new R hp (show RpO G φ _ (.dk []) p from ⟨[], upd_same, rfl⟩) q
end

/-! ### sorted(xs, key=f) -/
abbrev Calls := Nat → List Mi.D → Store → Mi.R Mi.D
def spI (G : Gb) (C : Calls) (i : Nat) : Sp := fun vs H Q E => ∃ φ S ds, Rel G φ H S ∧ Rps G φ H ds vs ∧ Post G (RlD G) φ H (C i ds S) E Q
section
variable {G : Gb} {X : Cx} {C : Calls} {lev : Nat}
theorem Rps.drop1 {φ : List Addr} {H : Hp} {ds : List Mi.D} {vs : List V} (r : Rps G φ H ds vs) {i : Nat} {x : V} (h : vs[i]? = some x) : ∃ d, ds.drop i = d :: ds.drop (i + 1) ∧ Rp G φ H d x := by
  have hi : i < ds.length := by rw [r.len]; exact (List.getElem?_eq_some_iff.mp h).1
  obtain ⟨v, h1, h2⟩ := r.get (List.getElem?_eq_getElem hi)
  rw [h] at h1
  cases h1
  exact ⟨ds[i], List.drop_eq_getElem_cons hi, h2⟩
theorem rps_snoc {φ : List Addr} {H : Hp} {d : Mi.D} {v : V} {ds : List Mi.D} {vs : List V} (h : Rps G φ H ds vs) (r : Rp G φ H d v) : Rps G φ H (ds ++ [d]) (vs ++ [v]) := h.snoc r
theorem rps_by {φ : List Addr} {H : Hp} {ds : List Mi.D} {vs : List V} {kz : List PyData} (r : Rps G φ H ds vs) (hl : kz.length = ds.length) : Rps G φ H (byKeys false ds kz) (byKeys false vs kz) := by
  -- the pairs, sorted alike
  have h1 : ds.zip kz = (((ds.zip vs).zip kz).map fun q => (q.1.1, q.2)) := by
    have := r.len
    clear r
    induction ds generalizing vs kz with
    | nil => rfl
    | cons d ds ih =>
      cases vs with
      | nil => cases this
      | cons v vs =>
        cases kz with
        | nil => rfl
        | cons k kz => rw [List.zip_cons_cons, List.zip_cons_cons, List.zip_cons_cons, List.map_cons, ih (by simpa using hl) (by simpa using this)]
  have h2 : vs.zip kz = (((ds.zip vs).zip kz).map fun q => (q.1.2, q.2)) := by
    have := r.len
    clear r h1
    induction ds generalizing vs kz with
    | nil =>
      cases vs with
      | nil => rfl
      | cons v vs => cases this
    | cons d ds ih =>
      cases vs with
      | nil => cases this
      | cons v vs =>
        cases kz with
        | nil => rfl
        | cons k kz => rw [List.zip_cons_cons, List.zip_cons_cons, List.zip_cons_cons, List.map_cons, ih (by simpa using hl) (by simpa using this)]
  unfold byKeys
  rw [h1, h2]
  rw [← List.map_mergeSort (f := fun q : (Mi.D × V) × PyData => (q.1.1, q.2)) (r := fun a b => PySem.W.dataLe false (fun q : (Mi.D × V) × PyData => q.2) a b) (fun _ _ _ _ => rfl), ← List.map_mergeSort (f := fun q : (Mi.D × V) × PyData => (q.1.2, q.2)) (r := fun a b => PySem.W.dataLe false (fun q : (Mi.D × V) × PyData => q.2) a b) (fun _ _ _ _ => rfl)]
  rw [List.map_map, List.map_map]
  have all : ∀ q ∈ ((ds.zip vs).zip kz).mergeSort (fun a b => PySem.W.dataLe false (fun q : (Mi.D × V) × PyData => q.2) a b), Rp G φ H q.1.1 q.1.2 := fun q hq => by
    have hq := (List.mergeSort_perm _ _).mem_iff.mp hq
    have hq := (List.of_mem_zip hq).1
    obtain ⟨j, hj⟩ := List.mem_iff_getElem?.mp hq
    rw [List.getElem?_zip_eq_some] at hj
    obtain ⟨v, e1, e2⟩ := r.get hj.1
    rw [hj.2] at e1
    cases e1
    exact e2
  generalize ((ds.zip vs).zip kz).mergeSort (fun a b => PySem.W.dataLe false (fun q : (Mi.D × V) × PyData => q.2) a b) = l at all
  induction l with
  | nil => show Rps G φ H [] []; unfold Rps; rfl
  | cons q l ih =>
    rw [List.map_cons, List.map_cons]
    unfold Rps
    exact ⟨_, _, rfl, all q List.mem_cons_self, ih fun q hq => all q (List.mem_cons_of_mem _ hq)⟩
theorem srt_body {j : Nat} {f : Addr} {fd : FuncData} {ps : List Str} (hK : X.K = G.K) (hr : Room (lev + 2) X.A) (hb : Binds X.K fd ps []) (F : FnOk X.prog X.w X.K X.mg X.base (L2.CX X.prog X.w) lev f fd ps (spI G C j))
    {σ : L2.St} {H : Hp} {Q : VK} {φ : List Addr} {S : Store} {xk : XK} {ds : List Mi.D} {vs : List V} {goal : Prop} (R : Rel G φ H S) (hr0 : Rps G φ H ds vs)
    (h : Post G (RlW G) φ H ((keysL (fun d S => C j [d] S) ds S).bd fun ks S => srtEnd ds ks S) xk Q)
    (go : ∀ J : Nat → List V → Hp → Prop, J 0 [] H →
      (∀ (pins : List (Addr × Obj)) (i : Nat) (x : V) (u : Value) (ys : List V) (H : Hp) (s : Shared), Inv X pins σ H s → vs[i]? = some x → RelV x u → J i ys H →
        wpAny (model X.prog X.w) X.A.in1.in1 (call (.ref f) [u]) (fun v s' => ∃ y H', Inv X pins σ H' s' ∧ RelV y v ∧ J (i + 1) (ys ++ [y]) H') (fun _ _ => False) s) →
      (∀ ys H', J vs.length ys H' → ∃ kz, DpAll X.K H' ys kz ∧ kz.length = vs.length ∧ PySem.W.AllAlike kz ∧ PySem.W.Sortable kz ∧ (∀ d ∈ kz, d.depth ≤ 40) ∧ ∀ p, H' p = none → Q (.ref p) (upd H' p (.lst (byKeys false vs kz)))) → goal) : goal := by
  refine go (fun i ys H' => ∃ φ' S' ks, Ext φ H φ' H' ∧ Rel G φ' H' S' ∧ Rps G φ' H' ks ys ∧ ks.length = i ∧ Post G (RlW G) φ H ((keysL (fun d S => C j [d] S) (ds.drop i) S').bd fun ks2 S => srtEnd ds (ks ++ ks2) S) xk Q) ⟨φ, S, [], Ext.refl _ _, R, by unfold Rps; rfl, rfl, by simpa using h⟩ ?_ ?_
  · rintro pins' i x u ys H1 s1 I1 hx ru ⟨φ1, S1, ks, E1, R1, rk, hkl, hp⟩
    obtain ⟨d, hd, rd⟩ := hr0.drop1 hx
    rw [hd] at hp
    unfold keysL at hp
    rw [bd_bd] at hp
    have rd1 := Rp.mono (E1.toKeep R) _ _ rd
    have hA : Room lev X.A.in1.in1 := (hr.in1).in1
    have hsp : spI G C j [x] H1 (fun y H2 => ∃ φ' S' ks', Ext φ H φ' H2 ∧ Rel G φ' H2 S' ∧ Rps G φ' H2 ks' (ys ++ [y]) ∧ ks'.length = i + 1 ∧ Post G (RlW G) φ H ((keysL (fun d S => C j [d] S) (ds.drop (i + 1)) S').bd fun ks2 S => srtEnd ds (ks' ++ ks2) S) xk Q) (fun _ _ _ => False) := by
      refine ⟨φ1, S1, [d], R1, by unfold Rps; refine ⟨x, [], rfl, rd1, ?_⟩; unfold Rps; rfl, ?_⟩
      cases hC : C j [d] S1 with
      | bad => rw [hC] at hp; exact hp.elim
      | ex c fs S2 => rw [hC] at hp; exact hp.elim
      | ok k S2 =>
        rw [hC] at hp
        intro y H2 φ2 E2 R2 l2
        refine ⟨φ2, S2, ks ++ [k], E1.trans E2, R2, Rps.snoc (Rps.mono (E2.toKeep R1) _ _ rk) l2, by rw [List.length_append, hkl]; try rfl, ?_⟩
        have hp : Post G (RlW G) φ H ((((keysL (fun d S => C j [d] S) (ds.drop (i + 1)) S2).bd fun ks S => .ok (k :: ks) S)).bd fun ks2 S => srtEnd ds (ks ++ ks2) S) xk Q := hp
        rw [bd_bd] at hp
        have e : (fun (ks2 : List Mi.D) (S : Store) => srtEnd ds (ks ++ [k] ++ ks2) S) = fun ks2 S => srtEnd ds (ks ++ (k :: ks2)) S := by
          funext ks2 S
          rw [List.append_assoc]
          try rfl
        rw [e]
        exact hp
    have hps : 1 = ps.length := F.len _ _ _ _ hsp
    refine wpAny_call (codeAny_mono (F.run X.A.in1.in1 X.stack s1 H1 ⟨[u], []⟩ [u] [x] _ (fun _ _ _ => False) hA I1.env0.in1.in1 (by
      have q := hb s1 [u] I1.kIn (by rw [← hps]; try rfl)
      simpa using q) (.cons ru .nil) hsp) fun r2 s2 hq2 => ?_)
    cases r2 with
      | error e =>
        have hq2 : L2.CX X.prog X.w X.stack H1 s1 (fun _ _ _ => False) e s2 := hq2
        obtain ⟨_, _, _, _, _, _, _, _, _, _, _, _, hF⟩ := hq2
        exact hF.elim
      | ok fl =>
        cases fl with
        | ret u2 =>
          obtain ⟨y, H2, I2, ry, q⟩ := I1.after (show CE X.stack X.prog X.w H1 s1 _ u2 s2 from hq2)
          exact ⟨y, H2, I2, ry, q⟩
        | _ => exact hq2.elim
  · rintro ys H1 ⟨φ1, S1, ks, E1, R1, rk, hkl, hp⟩
    rw [← hr0.len, List.drop_length] at hp
    unfold keysL at hp
    have hp : Post G (RlW G) φ H (srtEnd ds (ks ++ []) S1) xk Q := hp
    rw [List.append_nil] at hp
    unfold srtEnd at hp
    cases hm : mapO (toPy S1 deepest) ks with
    | none => rw [hm] at hp; exact hp.elim
    | some kz =>
      rw [hm] at hp
      dsimp only at hp
      by_cases hok : PySem.W.AllAlike kz ∧ PySem.W.Sortable kz
      · rw [if_pos hok] at hp
        have hml : ∀ {l : List Mi.D} {k : List PyData}, mapO (toPy S1 deepest) l = some k → k.length = l.length := by
          intro l
          induction l with
          | nil => intro k h; rw [mapO_nil h]; try rfl
          | cons d l ih =>
            intro k h
            obtain ⟨b, bs, _, h2, rfl⟩ := mapO_cons h
            rw [List.length_cons, List.length_cons, ih h2]
        have hlen : kz.length = ds.length := by rw [hml hm, hkl, hr0.len]
        have hdep : ∀ {l : List PyData}, ∀ d ∈ l, d.depth ≤ PyData.depthAll l := by
          intro l
          induction l with
          | nil => intro d hd; cases hd
          | cons x l ih =>
            intro d hd
            have e : PyData.depthAll (x :: l) = max x.depth (PyData.depthAll l) := by simp [PyData.depthAll]
            rw [e]
            rcases List.mem_cons.mp hd with rfl | hd
            · exact Nat.le_max_left _ _
            · exact Nat.le_trans (ih d hd) (Nat.le_max_right _ _)
        refine ⟨kz, by rw [hK]; exact mapPy_dp R1 rk hm, by rw [hlen, hr0.len], hok.1, hok.2, fun d hd => Nat.le_trans (hdep d hd) (mapPy_ok hm).2, fun p hpn => ?_⟩
        have hr1 := Rps.mono (E1.toKeep R) _ _ hr0
        have E2 := Ext.fresh R1 hpn (.lst (byKeys false vs kz))
        refine Post.ok (L := RlW G) hp (E1.trans E2) (R1.fresh hpn _) ⟨⟨p, _, rfl, upd_same, R1.unk hpn, Rps.mono (E2.toKeep R1) _ _ (rps_by hr1 hlen)⟩, fun ds' a' e1 e2 => ?_⟩
        cases e2
        exact E1.fr R1 _ hpn
      · rw [if_neg hok] at hp; exact hp.elim

theorem ofKey_rps {φ : List Addr} {H : Hp} : ∀ {kvs : List (Key × Mi.D)} {vs : List (Key × V)}, RpKV G φ H kvs vs → Rps G φ H (kvs.map fun kv => D.ofKey kv.1) (vs.map fun kv => kV kv.1)
  | [], vs, h => by
    have h : vs = [] := h
    subst h
    show Rps G φ H [] []
    unfold Rps; rfl
  | p :: ds, vs, h => by
    obtain ⟨v, r, rfl, _, h2⟩ := h
    rw [List.map_cons, List.map_cons]
    unfold Rps
    refine ⟨_, _, rfl, ?_, ofKey_rps h2⟩
    obtain ⟨k, d⟩ := p
    cases k with
    | inl i => show Rp G φ H (.int i) (.int i); unfold Rp; rfl
    | inr x => show Rp G φ H (.str x) (.str x); unfold Rp; rfl
theorem cr_srt {j : Nat} {f : Addr} {fd : FuncData} {ps : List Str} (hK : X.K = G.K) (hcalm : X.calm = true) (hu : X.A.units + 64 < cLine) (hr : Room (lev + 2) X.A) (hb : Binds X.K fd ps []) (F : FnOk X.prog X.w X.K X.mg X.base (L2.CX X.prog X.w) lev f fd ps (spI G C j)) :
    CallRK X (.builtin "sorted") [Str.ofString "key"] (fun vs zs H Q => zs = [.ref f] ∧ ∃ v φ w S xk, vs = [v] ∧ Rel G φ H S ∧ RpW G φ H w v ∧ Post G (RlW G) φ H (srtW (fun d S => C j [d] S) w S) xk Q) := by
  intro pins s σ H xs zs us ws Q I r rz h
  obtain ⟨rfl, v, φ, w, S, xk, rfl, R, r1, h⟩ := h
  obtain ⟨w1, rfl, e1⟩ := vals1 rz
  have e1 : w1 = Value.ref f := e1
  subst e1
  unfold srtW at h
  split at h
  · rename_i ds hq
    obtain ⟨a, vs, rfl, hs, hr0⟩ := seq_rp R r1 hq
    have hs : SqL X.K H a vs := by rw [hK]; exact ifF hs
    obtain rfl := Vals.ref1 r
    show wpAny _ _ (call (.builtin "sorted") [.ref a] [(Str.ofString "key", .ref f)]) _ _ s
    exact srt_body (σ := σ) hK hr hb F R hr0 h fun J h0 turn hend => So.sorted_def I hs hu J h0 turn hend
  · exact h.elim
  · split at h
    · rename_i ds hk
      unfold keysD at hk
      split at hk
      · rename_i n _
        split at hk
        · rename_i kvs hn
          cases hk
          unfold RpW Rp at r1
          obtain ⟨a, rfl, ha⟩ := r1
          obtain ⟨vs, h1, h2⟩ := R.obj n a _ ha hn
          obtain rfl := Vals.ref1 r
          show wpAny _ _ (call (.builtin "sorted") [.ref a] [(Str.ofString "key", .ref f)]) _ _ s
          exact srt_body (σ := σ) hK hr hb F R (ofKey_rps h2) h fun J h0 turn hend => So.sorted_defD I hcalm (kvs := vs) (.inl h1) rfl hu J h0 turn hend
        · cases hk
      · cases hk
    · exact h.elim
end
end Mi

/-! Mi, part H: from the text to the small language; it tells the truth: expressions. -/
namespace Mi
open PySem L2 PyProof.Rows RT RZ

/-! ### the translation -/
inductive Gl where
  | fn (i : Nat) (m : Bool) | cst (d : D) | exc (c : Nat) (ks : KS) | bex (n : String) (ks : KS) | kls (ks : KS)
structure Ct where
  N : List Str
  gl : List (Str × Gl)
  sc : Scope
  m : Bool
  blk : Bool
  top : Bool
/-- within a comprehension -/
abbrev Ct.in_ (c : Ct) (sc : Scope) : Ct := ⟨c.N, c.gl, sc, c.m, true, false⟩
def Ct.vis (c : Ct) (x : Str) : Bool := match c.sc.names.lookup x with
  | some .local => true | some .cell => true | some .free => true | _ => false
def Ct.glb (c : Ct) (x : Str) : Bool := decide (c.sc.names.lookup x = some .globalImplicit)
def Ct.loc (c : Ct) (x : Str) : Bool := match c.sc.names.lookup x with
  | some .local => true | some .cell => true | _ => false
def ixOf (N : List Str) (x : Str) : Option Nat := match N with
  | [] => none
  | y :: r => if y = x then some 0 else (ixOf r x).map (· + 1)
def bad : List Str := ["__debug__", "__classdict__", "__name__"]
def okName (x : Str) : Bool := !(bad.contains x)
def binOf : Operator → Option P2
  | .Add => some .add | .Sub => some .sub | .Mult => some .mul | .FloorDiv => some .fdiv | .Mod => some .mod | .Pow => some .pow | _ => none
def cmpOf : CmpOp → Option P2
  | .Eq => some .eq | .NotEq => some .ne | .Lt => some .lt | .LtE => some .le | .Gt => some .gt | .GtE => some .ge | .In => some .inn | .NotIn => some .nin | _ => none
def isSet : Expr → Bool
  | .Set _ _ _ => true | _ => false
def isStar : Expr → Bool
  | .Starred _ _ => true | _ => false
def isSlice : Expr → Bool
  | .Slice _ _ _ _ => true | _ => false
def baseOk : Expr → Bool
  | .Call (.Name _ _) [] [] _ => false | _ => true
/-- built-in names that a text may call -/
def b1Of (x : Str) : Option P1 := if x = ("len" : Str) then some .len else if x = ("int" : Str) then some .int_ else if x = ("ord" : Str) then some .ord else if x = ("str" : Str) then some .str_ else if x = ("tuple" : Str) then some .tuple_ else if x = ("list" : Str) then some .list_ else if x = ("dict" : Str) then some .dict_ else if x = ("all" : Str) then some .all_ else if x = ("sum" : Str) then some .sum else if x = ("abs" : Str) then some .abs else none
def b2Of (x : Str) : Option P2 := if x = ("max" : Str) then some .max_ else if x = ("min" : Str) then some .min_ else none
def tyOf (x : Str) : Option Ty := if x = ("int" : Str) then some .int else if x = ("str" : Str) then some .str else if x = ("bool" : Str) then some .bool else if x = ("tuple" : Str) then some .tuple else if x = ("list" : Str) then some .list else none
def m0Of (x : Str) : Option (MK × P1) := if x = ("pop" : Str) then some (.list, .pop) else none
def m1Of (x : Str) : Option (MK × P2) := if x = ("append" : Str) then some (.list, .append) else if x = ("extend" : Str) then some (.list, .extend) else if x = ("join" : Str) then some (.str, .join) else if x = ("split" : Str) then some (.str, .split) else none
def Ct.blt (c : Ct) (x : Str) : Bool := c.glb x && (c.gl.lookup x).isNone
def ty1 (c : Ct) (e : Expr) : Option Ty := match e with
  | Expr.Name x _ => if c.blt x = true then tyOf x else none
  | _ => none
def tyE (c : Ct) : Expr → Option (List Ty)
  | .Name x p => (ty1 c (.Name x p)).map fun t => [t]
  | .Tuple es _ _ => if es.length ≤ 100 then mapO (ty1 c) es else none
  | _ => none
def tgE (c : Ct) : Expr → Option Tg
  | .Name x _ => if c.loc x = true then (ixOf c.N x).map .nm else none
  | .Tuple es _ _ => (mapO (fun e => match e with | Expr.Name x _ => if c.loc x = true then ixOf c.N x else none | _ => none) es).map .tp
  | _ => none
def andE : List Ex → Option Ex
  | [] => none
  | [a] => some a
  | a :: b :: r => (andE (b :: r)).map (.and_ a)
def orE : List Ex → Option Ex
  | [] => none
  | [a] => some a
  | a :: b :: r => (orE (b :: r)).map (.or_ a)
def ownE (N : List Str) (sc : Scope) : List (Str × Nat) := sc.names.filterMap fun y => match y.2 with
  | .local => (ixOf N y.1).map fun i => (y.1, i)
  | .cell => (ixOf N y.1).map fun i => (y.1, i)
  | _ => none
def optE (f : Expr → Option Ex) : Option Expr → Option (List Ex)
  | none => some []
  | some e => (f e).map fun e => [e]

/-- the iterators that give tuples want a target of several names -/
def tupT (k : IK) (tg : Expr) : Bool := match k, tg with
  | .zip, .Tuple _ _ _ => true
  | .enm, .Tuple _ _ _ => true
  | .zip, _ => false
  | .enm, _ => false
  | _, _ => true
/-- one step of it: rec is for the parts -/
def iStep (rec : Ct → Expr → Option Ex) (c : Ct) : Expr → Option (IK × List Ex)
  | .Call (.Name x p) es kw pos => if (c.blt x && kw.isEmpty) = true then
      if x = ("range" : Str) then match es with
        | [a] => if isStar a = true then none else (rec c a).map fun a => (.rng1, [a])
        | [a, b] => if (isStar a || isStar b) = true then none else match rec c a, rec c b with
          | some a, some b => some (.rng2, [a, b])
          | _, _ => none
        | [a, b, d] => if (isStar a || isStar b || isStar d) = true then none else match rec c a, rec c b, rec c d with
          | some a, some b, some d => some (.rng3, [a, b, d])
          | _, _, _ => none
        | _ => none
      else if x = ("zip" : Str) then match es with
        | [a, b] => if (isStar a || isStar b) = true then none else match rec c a, rec c b with
          | some a, some b => some (.zip, [a, b])
          | _, _ => none
        | _ => none
      else if x = ("enumerate" : Str) then match es with
        | [a] => if isStar a = true then none else (rec c a).map fun a => (.enm, [a])
        | _ => none
      else if x = ("reversed" : Str) then match es with
        | [a] => if isStar a = true then none else (rec c a).map fun a => (.rev, [a])
        | _ => none
      else (rec c (.Call (.Name x p) es kw pos)).map fun a => (.it, [a])
    else (rec c (.Call (.Name x p) es kw pos)).map fun a => (.it, [a])
  | e => if isSet e = true then none else (rec c e).map fun a => (.it, [a])
def cmpStep (rec : Ct → Expr → Option Ex) (c : Ct) (a : Expr) : List CmpOp → List Expr → Option Ex
  | [op], [b] => if isSet b = true then none else match op, b with
    | .Is, .Constant .none _ _ => (rec c a).map (.p1 .isN)
    | .IsNot, .Constant .none _ _ => (rec c a).map (.p1 .notN)
    | op, b => match cmpOf op, rec c a, rec c b with
      | some o, some a, some b => some (.p2 o a b)
      | _, _, _ => none
  | [op, op'], [b, d] => if isSet d = true then none else match cmpOf op, cmpOf op', rec c a, rec c b, rec c d with
    | some o, some o', some a, some b, some d => some (.ch o o' a b d)
    | _, _, _, _, _ => none
  | _, _ => none
/-- zip(u, v) in list(..) -/
def zipArg (x : Str) (a : Expr) : Option (Expr × Expr) := match a with
  | .Call (.Name y _) [u, v] [] _ => if x = ("list" : Str) then (if y = ("zip" : Str) then some (u, v) else none) else none
  | _ => none
/-- sorted(a, key=f) -/
def srtStep (rec : Ct → Expr → Option Ex) (c : Ct) (x : Str) (es : List Expr) (k y : Str) : Option Ex := match es with
  | [a] => if (c.blt x && decide (x = ("sorted" : Str)) && decide (k = ("key" : Str)) && !isStar a && c.glb y && okName y) = true then match c.gl.lookup y, rec c a with
      | some (.fn i _), some a => some (.srt i false a)
      | _, _ => none
    else none
  | _ => none
/-- a display's keys and values, in turn -/
def flatE : List (Option Expr) → List Expr → Option (List Expr)
  | [], [] => some []
  | some k :: ks, v :: vs => (flatE ks vs).map fun r => k :: v :: r
  | _, _ => none
def callStep (rec : Ct → Expr → Option Ex) (c : Ct) (x : Str) (es : List Expr) : Option Ex :=
  if (okName x && !es.any isStar) = false then none else if c.glb x = false then none else match c.gl.lookup x with
    | some (.fn i m) => if (!c.m || m) = true then (mapO (rec c) es).map (.call i) else none
    | some _ => none
    | none => match es with
      | [a] => match zipArg x a with
        | some (u, v) => if (c.blt "zip" && !isStar u && !isStar v) = true then match rec c u, rec c v with
            | some u, some v => some (.p2 .lzip u v)
            | _, _ => none
          else none
        | none => match b1Of x, rec c a with
          | some o, some a => some (.p1 o a)
          | _, _ => none
      | [a, t] => if x = ("isinstance" : Str) then match rec c a, tyE c t with
          | some a, some ts => some (.isi ts a)
          | _, _ => none
        else match b2Of x, rec c a, rec c t with
          | some o, some a, some b => some (.p2 o a b)
          | _, _, _ => none
      | _ => none
/-- u[lo:v + w].replace(y, z) -/
def replStep (rec : Ct → Expr → Option Ex) (c : Ct) (o : Expr) (m : Str) (a b : Expr) : Option Ex := match o, a, b with
  | .Subscript u (.Slice lo (some (.BinOp v .Add w _)) none _) _, .Constant (.str y) _ _, .Constant (.str z) _ _ => if (decide (m = ("replace" : Str)) && !(y == z)) = true then match rec c u, optE (rec c) lo, rec c v, rec c w with
      | some u, some lo, some v, some w => some (.repl u lo v w y z)
      | _, _, _, _ => none
    else none
  | _, _, _ => none
def methStep (rec : Ct → Expr → Option Ex) (c : Ct) (o : Expr) (m : Str) (es : List Expr) : Option Ex :=
  if (baseOk o && !es.any isStar) = false then none else match es with
    | [] => match m0Of m, rec c o with
      | some (k, p), some o => some (.m0 k p o)
      | _, _ => none
    | [a] => match m1Of m, rec c o, rec c a with
      | some (k, p), some o, some a => some (.m1 k p o a)
      | _, _, _ => none
    | [a, b] => if m = ("get" : Str) then match rec c o, rec c a, rec c b with
        | some o, some a, some b => some (.m2 .dict .get2 o a b)
        | _, _, _ => none
      else replStep rec c o m a b
    | _ => none
/-- a part of an f-string -/
def fmtStep (rec : Ct → Expr → Option Ex) (c : Ct) : Expr → Option Ex
  | .FormattedValue e (-1) none _ => (rec c e).map (.p1 .fmt)
  | .Constant (.str x) _ _ => some (.c (.str x))
  | _ => none
def compStep (rec : Ct → Expr → Option Ex) (c : Ct) (elt tg iter : Expr) (ifs : List Expr) (sc : Scope) : Option Ex :=
  if (blkC c.N c.sc sc (ownE c.N sc) && !isSet iter) = true then match tgE (c.in_ sc) tg, iStep rec c iter, rec (c.in_ sc) elt with
    | some t, some (k, is), some e => if (tupT k tg && t.slots.all fun i => decide (i ∈ (ownE c.N sc).map (·.2))) = true then match ifs with
      | [] => some (.comp (!c.blk) t k is [] e ((ownE c.N sc).map (·.2)))
      | [f] => (rec (c.in_ sc) f).map fun f => .comp (!c.blk) t k is [f] e ((ownE c.N sc).map (·.2))
      | _ => none
      else none
    | _, _, _ => none
  else none
def eStep (rec : Ct → Expr → Option Ex) (c : Ct) : Expr → Option Ex
  | .Name x _ => if okName x = false then none else if c.vis x = true then (ixOf c.N x).map .v else if c.glb x = true then match c.gl.lookup x with
      | some (.cst d) => some (.c d)
      | _ => none
    else none
  | .Constant k _ _ => match k with
    | .none => some (.c .non)
    | .bool b => some (.c (.bl b))
    | .int i => some (.c (.int i))
    | .str x => some (.c (.str x))
    | _ => none
  | .BinOp a op b _ => match binOf op, rec c a, rec c b with
    | some o, some a, some b => some (.p2 o a b)
    | _, _, _ => none
  | .UnaryOp op a _ => match op with
    | .Not => (rec c a).map .not_
    | .USub => (rec c a).map (.p1 .neg)
    | _ => none
  | .BoolOp op es _ => match op with
    | .And => (mapO (rec c) es).bind andE
    | .Or => (mapO (rec c) es).bind orE
  | .IfExp t a b _ => match rec c t, rec c a, rec c b with
    | some t, some a, some b => some (.ite t a b)
    | _, _, _ => none
  | .Compare a ops es _ => cmpStep rec c a ops es
  | .Call f es kw pos => match kw with
    | [] => match f with
      | .Name x _ => callStep rec c x es
      | .Attribute o m apos => if (apos.endLine == pos.line) = false then none else methStep rec c o m es
      | _ => none
    | [⟨some k, .Name y _, _⟩] => match f with
      | .Name x _ => srtStep rec c x es k y
      | _ => none
    | _ => none
  | .Dict keys values _ => match flatE keys values with
    | some es => if keys.length ≤ 15 then (mapO (rec c) es).map .dict else none
    | none => none
  | .Subscript a b _ => match b with
    | .Slice lo hi none _ => match rec c a, optE (rec c) lo, optE (rec c) hi with
      | some a, some lo, some hi => some (.sl a lo hi)
      | _, _, _ => none
    | .Slice _ _ (some _) _ => none
    | b => match rec c a, rec c b with
      | some a, some b => some (.p2 .ix a b)
      | _, _ => none
  | .Tuple es _ _ => if es.any isStar = true then none else (mapO (rec c) es).map .tup
  | .List es _ => if es.any isStar = true then none else (mapO (rec c) es).map .disp
  | .ListComp elt gs sc _ => match gs with
    | [⟨tg, iter, ifs, 0⟩] => compStep rec c elt tg iter ifs sc
    | _ => none
  | .JoinedStr es _ => match es with
    | v1 :: v2 :: r => (mapO (fmtStep rec c) (v1 :: v2 :: r)).map .fst
    | _ => none
  | _ => none
def cE : Nat → Ct → Expr → Option Ex
  | 0 => fun _ _ => none
  | n + 1 => eStep (cE n)
def cI (n : Nat) : Ct → Expr → Option (IK × List Ex) := iStep (cE n)

/-! ### it tells the truth -/
structure FnAt (G : Gb) (C : Calls) (lev : Nat) (X : Cx) (x : Str) (i : Nat) (m : Bool) : Prop where
  ex : ∃ (f : Addr) (fd : FuncData) (ps : List Str), X.mg x = some (.ref f) ∧ PySem.W.keepIn X.K (.ref f) = true ∧ Binds X.K fd ps [] ∧ FnOk X.prog X.w X.K X.mg X.base (CXm m X.prog X.w) lev f fd ps (spI G C i)
def bltNames : List Str := ["len", "int", "ord", "str", "tuple", "list", "isinstance", "bool", "range", "zip", "enumerate", "reversed", "dict", "sorted", "sum", "all", "any", "max", "min", "abs", "set"]
/-- what is known of the classes below a class -/
def Below (G : Gb) (ks : KS) (cv : Value) : Prop := ∀ ce b, ks.lookup ce = some b → ∃ Da : Addr, G.exc ce = some (.ref Da) ∧ PySem.W.exmOne G.K (.ref Da) cv = some b ∧ PySem.W.kitOne G.K (.ref Da) cv = some b ∧ ExcC G.K Da
structure ExcAt (G : Gb) (X : Cx) (x : Str) (k : Nat) (ks : KS) : Prop where
  ex : ∃ (C : Addr) (bmB : List Value) (B newId initId : String), PySem.ExcBaseFacts B newId initId bmB ∧ PySem.W.excIn X.K C bmB newId = true ∧ X.mg x = some (.ref C) ∧ PySem.W.keepIn X.K (.ref C) = true ∧ PySem.W.subIn X.K (.ref C) (.type "BaseException") = some true ∧ PySem.W.typeIn X.K (.ref C) = some (.type "type") ∧ G.exc k = some (.ref C) ∧ Below G ks (.ref C)
structure Good (G : Gb) (C : Calls) (Wx : WX) (lev : Nat) (X : Cx) (c : Ct) : Prop where
  hK : X.K = G.K
  hN : X.N = c.N
  nd : c.N.Nodup
  vis : ∀ x, c.vis x = true → Vis X.env.scope x
  glb : ∀ x, c.glb x = true → L2.Gl X x
  loc : ∀ x, c.loc x = true → Loc X.env.scope x ∧ (X.fn x = true ∨ X.env.scope.names.lookup x = some .local)
  cf : ∀ y, (c.sc.names.lookup y = some .cell ∨ c.sc.names.lookup y = some .free) → (X.env.scope.names.lookup y = some .cell ∨ X.env.scope.names.lookup y = some .free)
  calm : X.calm = true
  hu : X.A.units + 64 < cLine
  room : Room (lev + 2) X.A
  fns : ∀ x i m, c.gl.lookup x = some (.fn i m) → FnAt G C lev X x i m
  cst : ∀ x d, c.gl.lookup x = some (.cst d) → ∃ v u, X.mg x = some u ∧ L2.RelV v u ∧ ∀ φ H, Rp G φ H d v
  blt : ∀ x ∈ bltNames, c.gl.lookup x = none → X.mg x = none
  exc : ∀ x k ks, c.gl.lookup x = some (.exc k ks) → ExcAt G X x k ks
  bex : ∀ x n ks, c.gl.lookup x = some (.bex n ks) → X.mg x = none ∧ bootBuiltins x = some (.type n) ∧ Below G ks (.type n)
  kls : ∀ x ks, c.gl.lookup x = some (.kls ks) → ∃ C : Addr, X.mg x = some (.ref C) ∧ Below G ks (.ref C)
  pas : ∀ σ, PassesAt (CXm c.m X.prog X.w) X σ (fun cl d H => Wx cl d σ H)
  at_ : c.blk = false → AtDef c.m Wx X
section
variable {G : Gb} {C : Calls} {Wx : WX} {lev : Nat} {X : Cx} {c : Ct} {n : Nat}
theorem ixOf_get : ∀ {N : List Str} {x : Str} {i : Nat}, ixOf N x = some i → N[i]? = some x
  | [], _, _, h => by cases h
  | y :: r, x, i, h => by
    unfold ixOf at h
    by_cases e : y = x
    · rw [if_pos e] at h
      cases h
      rw [e]; try rfl
    · rw [if_neg e] at h
      obtain ⟨j, hj, rfl⟩ := Option.map_eq_some_iff.mp h
      simpa using ixOf_get hj
theorem okName_of {x : Str} (h : okName x = true) : (x == ("__debug__" : Str)) = false ∧ (x == ("__classdict__" : Str)) = false ∧ x ≠ ("__name__" : Str) := by
  unfold okName bad at h
  simp only [List.contains_cons, List.contains_nil, Bool.or_false, Bool.not_or, Bool.and_eq_true, Bool.not_eq_true'] at h
  obtain ⟨h1, h2, h3⟩ := h
  exact ⟨h1, h2, by simpa using h3⟩
theorem star_cons {e : Expr} {es : List Expr} {env : PySem.Env} (h : isStar e = false) : starEach (e :: es) env = (false, eval e env) :: starEach es env := by
  cases e <;> first | rfl | cases h
theorem star_any {es : List Expr} {env : PySem.Env} {pos : Pos} (h : es.any isStar = false) : (backTo pos (starEach es env)).any (·.1) = false := by
  have q : ∀ es : List Expr, es.any isStar = false → (starEach es env).any (·.1) = false := by
    intro es
    induction es with
    | nil => intro _; rfl
    | cons e es ih =>
      intro h
      rw [List.any_cons, Bool.or_eq_false_iff] at h
      rw [star_cons h.1, List.any_cons, ih h.2]
      try rfl
  have z := q es h
  have e : ∀ l : List (Bool × Sem Value), (backTo pos l).any (·.1) = l.any (·.1) := by
    intro l
    unfold backTo
    rw [List.any_map]
    try rfl
  rw [e]
  exact z
theorem behind_ok {op : CmpOp} {b : Expr} (h : isSet b = false) : behindInMarks op b = false := by
  cases b <;> first | rfl | cases h
theorem last_ok {op op' : CmpOp} {b d : Expr} (h : isSet d = false) : lastMarks [op, op'] [b, d] = false := by
  show lastMarks [op'] [d] = false
  show behindInMarks op' d = false
  exact behind_ok h
theorem base_ok {o : Expr} {m : Str} {env : PySem.Env} (h : baseOk o = true) : attributeBase o m env (eval o env) = eval o env := by
  cases o with
  | Call f es ks p =>
    cases f with
    | Name x q =>
      cases es with
      | nil =>
        cases ks with
        | nil => cases h
        | cons _ _ => rfl
      | cons _ _ => rfl
    | _ => rfl
  | _ => rfl
theorem plainIx_ok {b : Expr} (h : isSlice b = false) : PlainIx b := by
  intro o i
  cases b <;> first | rfl | cases h
theorem fold_ok {e : Expr} {env : PySem.Env} (h : isSet e = false) : ∀ x, foldedSetIterable e env x = pure x := by
  intro x
  cases e <;> first | rfl | cases h
/-- a comprehension's block -/
theorem lookup_relabel {env : PySem.Env} {x : Str} : ∀ {names : List (Str × NameKind)},
    (names.map fun (n, k) => if (k == NameKind.free && env.scope.kind == .function && env.kindOf n == some .cell) then (n, NameKind.cell) else (n, k)).lookup x = (names.lookup x).map fun k => if (k == NameKind.free && env.scope.kind == .function && env.kindOf x == some .cell) = true then NameKind.cell else k
  | [] => rfl
  | (n, k) :: r => by
    have ih := @lookup_relabel env x r
    show List.lookup x ((if (k == NameKind.free && env.scope.kind == .function && env.kindOf n == some .cell) = true then (n, NameKind.cell) else (n, k)) :: _) = _
    cases hx : x == n with
    | true =>
      have e : x = n := by simpa using hx
      subst e
      by_cases hc : (k == NameKind.free && env.scope.kind == .function && env.kindOf x == some .cell) = true
      · rw [if_pos hc]
        simp only [List.lookup_cons, beq_self_eq_true, Option.map_some, if_pos hc]
      · rw [if_neg hc]
        simp only [List.lookup_cons, beq_self_eq_true, Option.map_some, if_neg hc]
    | false =>
      by_cases hc : (k == NameKind.free && env.scope.kind == .function && env.kindOf n == some .cell) = true
      · rw [if_pos hc]; simp only [List.lookup_cons, hx]; exact ih
      · rw [if_neg hc]; simp only [List.lookup_cons, hx]; exact ih
theorem cxm_no {m : Bool} {P : Program} {w : World} {l : List PySem.Env} {H : Hp} {s : Shared} {e : Value} {s' : Shared} (cx : CXm m P w l H s (fun _ _ _ => False) e s') : False := by
  cases m with
  | true => obtain ⟨_, _, _, _, _, _, _, _, _, _, _, _, hE⟩ := cx; exact hE
  | false => obtain ⟨_, _, _, _, _, _, _, _, _, _, _, _, hE⟩ := cx; exact hE
theorem Good.blkG (g : Good G C Wx lev X c) (sc : Scope) (s : Shared) (H : Hp) (Ca : Addr) (cl : List (Str × Addr)) (fp : List Addr) (xe : Value → Shared → Prop) {Wy : WX} (hp : ∀ σ', PassesAt (CXm c.m X.prog X.w) (blkX X s H sc (compEnvC sc cl Ca X.env) fp xe) σ' (fun cl d H => Wy cl d σ' H)) :
    Good G C Wy lev (blkX X s H sc (compEnvC sc cl Ca X.env) fp xe) (c.in_ sc) := by
  have key : ∀ x, (compEnvC sc cl Ca X.env).scope.names.lookup x = (sc.names.lookup x).map fun k => if (k == NameKind.free && X.env.scope.kind == .function && X.env.kindOf x == some .cell) = true then NameKind.cell else k := fun x => lookup_relabel
  refine ⟨g.hK, g.hN, g.nd, fun x h => ?_, fun x h => ?_, fun x h => ?_, fun x h => ?_, g.calm, g.hu, g.room, fun x i m h => ⟨(g.fns x i m h).ex⟩, g.cst, g.blt, fun x k ks h => ⟨(g.exc x k ks h).ex⟩, g.bex, g.kls, hp, fun z => by cases z⟩
  · unfold Ct.vis at h
    show Vis (compEnvC sc cl Ca X.env).scope x
    unfold Vis
    rw [key]
    have h : (match sc.names.lookup x with | some .local => true | some .cell => true | some .free => true | _ => false) = true := h
    cases q : sc.names.lookup x with
    | none => rw [q] at h; cases h
    | some k =>
      rw [q] at h
      cases k with
      | «local» => exact .inl rfl
      | cell => exact .inr (.inl rfl)
      | free =>
        show some (if _ then NameKind.cell else NameKind.free) = _ ∨ some (if _ then NameKind.cell else NameKind.free) = _ ∨ some (if _ then NameKind.cell else NameKind.free) = _
        split
        · exact .inr (.inl rfl)
        · exact .inr (.inr rfl)
      | _ => cases h
  · have h : sc.names.lookup x = some .globalImplicit := of_decide_eq_true h
    show (compEnvC sc cl Ca X.env).scope.names.lookup x = some .globalImplicit
    rw [key, h]
    try rfl
  · unfold Ct.loc at h
    show L2.Loc (compEnvC sc cl Ca X.env).scope x ∧ ((sc.names.lookup x == some .cell) = true ∨ (compEnvC sc cl Ca X.env).scope.names.lookup x = some .local)
    unfold L2.Loc
    rw [key]
    have h : (match sc.names.lookup x with | some .local => true | some .cell => true | _ => false) = true := h
    cases q : sc.names.lookup x with
    | none => rw [q] at h; cases h
    | some k =>
      rw [q] at h
      cases k with
      | «local» => exact ⟨.inl rfl, .inr rfl⟩
      | cell => exact ⟨.inr rfl, .inl rfl⟩
      | _ => cases h
  · show (compEnvC sc cl Ca X.env).scope.names.lookup x = some .cell ∨ (compEnvC sc cl Ca X.env).scope.names.lookup x = some .free
    rw [key]
    have h : sc.names.lookup x = some .cell ∨ sc.names.lookup x = some .free := h
    rcases h with h | h
    · rw [h]; exact .inl rfl
    · rw [h]
      show some (if _ then NameKind.cell else NameKind.free) = _ ∨ some (if _ then NameKind.cell else NameKind.free) = _
      split
      · exact .inl rfl
      · exact .inr rfl
theorem Good.blk (g : Good G C Wx lev X c) (sc : Scope) (s : Shared) (H : Hp) (Ca : Addr) (cl : List (Str × Addr)) (fp : List Addr) : Good G C WxF lev (X.blk s H sc (compEnvC sc cl Ca X.env) fp) (c.in_ sc) :=
  g.blkG sc s H Ca cl fp (fun _ _ => False) fun σ pins H s e s' I cx => (cxm_no cx).elim
theorem Good.blkF (g : Good G C Wx lev X c) (sc : Scope) (s : Shared) (H : Hp) (Ca : Addr) (cl : List (Str × Addr)) (fp : List Addr) (xe : Value → Shared → Prop) : Good G C WxF lev (blkX X s H sc (compEnvC sc cl Ca X.env) fp xe) (c.in_ sc) :=
  g.blkG sc s H Ca cl fp xe fun σ pins H s e s' I cx => (cxm_no cx).elim
/-- a call of a def -/
theorem call_im {i : Nat} {As : AX (List D)} {σ : L2.St} {H : Hp} {Q : VK} (h : tK G Wx (fun ρ S => (As ρ S).bd fun ds S => (C i ds S).bd fun d S => vv d S) σ H Q) :
    tDs G Wx As σ H fun vs H1 => spI G C i vs H1 Q (fun cl d H' => Wx cl d σ H') :=
  tI.bd (F := fun ds _ S => (C i ds S).bd fun d S => vv d S) h fun φ ρ S vs φ1 H1 ds S1 R sl e R1 l h => by
    refine ⟨φ1, S1, ds, R1, l, ?_⟩
    refine (Post.bd (L := RlD G) (h.sh e R1 mnW)).mono fun v H2 ⟨φ2, d, S2, _, e2, R2, l2, h2⟩ => ?_
    exact Post.ok (L := RlW G) h2 e2 R2 (rl_val l2)
theorem run_at {i : Nat} {σ : L2.St} {pins : List (Addr × Obj)} {H : Hp} {s : Shared} {Q : VK} {us : List Value} {vs : List V} (g : Good G C Wx lev X c) {f : Addr} {fd : FuncData} {ps : List Str} (hb : Binds X.K fd ps [])
    (F : FnOk X.prog X.w X.K X.mg X.base (CXm c.m X.prog X.w) lev f fd ps (spI G C i)) (I : L2.Inv X pins σ H s) (r : Vals vs us) (h : spI G C i vs H Q (fun cl d H' => Wx cl d σ H')) : wpAny (model X.prog X.w) X.A (call (.ref f) us) (EP X pins σ Q) X.xe s :=
  run_fnS (E := fun σ cl d H' => Wx cl d σ H') F (g.room.mono (by omega)) hb (g.pas σ) I r h
theorem k_call {x : Str} {i : Nat} {m : Bool} {es : List Expr} {p pos : Pos} {As : AX (List D)} (g : Good G C Wx lev X c) (hx : c.glb x = true) (hi : c.gl.lookup x = some (.fn i m)) (hm' : (!c.m || m) = true) (hn : okName x = true) (hs : es.any isStar = false) (ha : PA X es (tDs G Wx As)) (h0 : es = [] → As = fun _ S => .ok [] S) :
    PE X (.Call (.Name x p) es [] pos) (tK G Wx fun ρ S => (As ρ S).bd fun ds S => (C i ds S).bd fun d S => vv d S) := by
  obtain ⟨f, fd, ps, hm, hk, hb, F⟩ := (g.fns x i m hi).ex
  have F := fn_upM (m := c.m) (m' := m) (fun z => by rw [z] at hm'; simpa using hm') F
  obtain ⟨n1, n2, n3⟩ := okName_of hn
  cases es with
  | nil =>
    refine ⟨fun pins s σ H Q I h => ?_⟩
    refine wpAny_Call_Name_kw (ld_glob I (g.glb x hx) hm ?_ n1)
    refine PySem.W.callWith_K0 I.kIn hk ?_
    obtain ⟨φ, ρ, S, R, sl, h⟩ := h
    refine run_at (us := []) (vs := []) g hb F I .nil ⟨φ, S, [], R, by unfold Rps; rfl, ?_⟩
    rw [h0 rfl] at h
    have h : Post G (RlW G) φ H ((C i [] S).bd fun d S => vv d S) (fun c d H' => Wx c d σ H') Q := h
    refine (Post.bd (L := RlD G) h).mono fun v H2 ⟨φ2, d, S2, _, e2, R2, l2, h2⟩ => ?_
    exact Post.ok (L := RlW G) h2 e2 R2 (rl_val l2)
  | cons e es =>
    rw [List.any_cons, Bool.or_eq_false_iff] at hs
    refine ⟨fun pins s σ H Q I h => ?_⟩
    refine wpAny_Call_Name_kw (ld_glob I (g.glb x hx) hm ?_ n1)
    refine PySem.W.callWith_K (h₀ := X.base) I.ok.mod.kin hk (thn (ha.run pos pins s σ H _ I (call_im h)) fun us s1 ⟨vs, H1, I1, r, q⟩ => ⟨I1.kIn, ?_⟩) (star_cons hs.1) (star_any hs.2)
    exact run_at g hb F I1 r q
/-! ### built-in calls, methods -/
theorem k_b1 {x : Str} {o : P1} {a : Expr} {id : Value} {p pos : Pos} {A : AX W} (g : Good G C Wx lev X c) (hx : c.blt x = true) (hb : x ∈ bltNames) (hn : okName x = true) (hs : isStar a = false) (ha : PE X a (tK G Wx A))
    (hc : (∃ i, id = .builtin i ∧ bootBuiltins x = some (.builtin i) ∧ CallR X (.builtin i) (rC1 G o)) ∨ (∃ i, id = .type i ∧ bootBuiltins x = some (.type i) ∧ CallR X (.type i) (rC1 G o))) :
    PE X (.Call (.Name x p) [a] [] pos) (tK G Wx fun ρ S => (A ρ S).bd fun x S => p1 o x S) := by
  obtain ⟨n1, n2, n3⟩ := okName_of hn
  unfold Ct.blt at hx
  obtain ⟨h1, h2⟩ := Bool.and_eq_true_iff.mp hx
  have hm := g.blt x hb (by simpa using h2)
  have him : ∀ σ H Q, tK G Wx (fun ρ S => (A ρ S).bd fun x S => p1 o x S) σ H Q → tCB (rC1 G o) (tCons (tK G Wx A) tNil) σ H Q := fun σ H Q q =>
    tI.bd (F := fun x _ S => p1 o x S) q fun φ ρ S v φ1 H1 x S1 R sl e R1 l h => ⟨v, rfl, φ1, x, S1, _, R1, l.1, h.sh e R1 mnW⟩
  rcases hc with ⟨i, rfl, hv, hc⟩ | ⟨i, rfl, hv, hc⟩
  · exact (pe_callB hc (g.glb x h1) hm hv (pa_cons ha pa_nil (star_cons hs)) n3 n1 (star_cons hs) rfl).im him
  · exact (pe_callTy hc (g.glb x h1) hm hv (pa_cons ha pa_nil (star_cons hs)) n3 n1 (star_cons hs) rfl).im him
theorem b1_hc {x : Str} {o : P1} (g : Good G C Wx lev X c) (h : b1Of x = some o) : x ∈ bltNames ∧ okName x = true ∧ ∃ id, ((∃ i, id = Value.builtin i ∧ bootBuiltins x = some (.builtin i) ∧ CallR X (.builtin i) (rC1 G o)) ∨ (∃ i, id = Value.type i ∧ bootBuiltins x = some (.type i) ∧ CallR X (.type i) (rC1 G o))) := by
  unfold b1Of at h
  split at h
  · rename_i e; subst e; cases h
    exact ⟨by decide +kernel, by decide +kernel, _, .inl ⟨"len", rfl, PySem.boot_len, c_len g.hK⟩⟩
  split at h
  · rename_i e; subst e; cases h
    exact ⟨by decide +kernel, by decide +kernel, _, .inr ⟨"int", rfl, boot_int, c_int⟩⟩
  split at h
  · rename_i e; subst e; cases h
    exact ⟨by decide +kernel, by decide +kernel, _, .inl ⟨"ord", rfl, boot_ord, c_ord⟩⟩
  split at h
  · rename_i e; subst e; cases h
    exact ⟨by decide +kernel, by decide +kernel, _, .inr ⟨"str", rfl, boot_str, c_str⟩⟩
  split at h
  · rename_i e; subst e; cases h
    exact ⟨by decide +kernel, by decide +kernel, _, .inr ⟨"tuple", rfl, boot_tuple, c_tuple g.hK⟩⟩
  split at h
  · rename_i e; subst e; cases h
    exact ⟨by decide +kernel, by decide +kernel, _, .inr ⟨"list", rfl, boot_list, c_list g.hK⟩⟩
  split at h
  · rename_i e; subst e; cases h
    exact ⟨by decide +kernel, by decide +kernel, _, .inr ⟨"dict", rfl, PyProof.Rows.boot_dict, c_dict g.hK g.calm g.hu⟩⟩
  split at h
  · rename_i e; subst e; cases h
    exact ⟨by decide +kernel, by decide +kernel, _, .inl ⟨"all", rfl, PyProof.Rows.boot_all, c_all g.hK g.calm⟩⟩
  split at h
  · rename_i e; subst e; cases h
    exact ⟨by decide +kernel, by decide +kernel, _, .inl ⟨"sum", rfl, PyProof.Rows.boot_sum, c_sum g.hK g.calm⟩⟩
  split at h
  · rename_i e; subst e; cases h
    exact ⟨by decide +kernel, by decide +kernel, _, .inl ⟨"abs", rfl, PyProof.Rows.boot_abs, c_abs⟩⟩
  · cases h
theorem k_b2 {x : Str} {o : P2} {a b : Expr} {i : String} {p pos : Pos} {A B : AX W} (g : Good G C Wx lev X c) (hx : c.blt x = true) (hb : x ∈ bltNames) (hn : okName x = true) (hs : isStar a = false) (hs2 : isStar b = false) (ha : PE X a (tK G Wx A)) (hb2 : PE X b (tK G Wx B))
    (hv : bootBuiltins x = some (.builtin i)) (hc : CallR X (.builtin i) (rC2 G o)) :
    PE X (.Call (.Name x p) [a, b] [] pos) (tK G Wx fun ρ S => (A ρ S).bd fun x S => (B ρ S).bd fun y S => p2 o x y S) := by
  obtain ⟨n1, n2, n3⟩ := okName_of hn
  unfold Ct.blt at hx
  obtain ⟨h1, h2⟩ := Bool.and_eq_true_iff.mp hx
  have hm := g.blt x hb (by simpa using h2)
  refine (pe_callB hc (g.glb x h1) hm hv (pa_cons ha (pa_cons hb2 pa_nil (star_cons hs2)) (star_cons hs)) n3 n1 (star_cons hs) (star_any (by simp [hs2]))).im fun σ H Q q => ?_
  refine tI.bd (F := fun x ρ S => (B ρ S).bd fun y S => p2 o x y S) q fun φ ρ S v φ1 H1 x S1 R sl e R1 l h => ?_
  refine tI.next R sl e R1 h fun u H2 φ2 y S2 e2 R2 l2 h2 => ?_
  exact ⟨v, u, rfl, φ2, x, y, S2, _, R2, RpW.mono e2 R1 l.1, l2.1, h2.sh (e.trans e2) R2 mnW⟩
theorem b2_hc {x : Str} {o : P2} (g : Good G C Wx lev X c) (h : b2Of x = some o) : x ∈ bltNames ∧ okName x = true ∧ ∃ i, bootBuiltins x = some (.builtin i) ∧ CallR X (.builtin i) (rC2 G o) := by
  unfold b2Of at h
  split at h
  · rename_i e; subst e; cases h
    exact ⟨by decide +kernel, by decide +kernel, "max", PyProof.Rows.boot_max, c_max g.calm⟩
  split at h
  · rename_i e; subst e; cases h
    exact ⟨by decide +kernel, by decide +kernel, "min", PyProof.Rows.boot_min, c_min g.calm⟩
  · cases h
theorem ty_boot {x : Str} {t : Ty} (h : tyOf x = some t) : x ∈ bltNames ∧ okName x = true ∧ bootBuiltins x = some (.type t.name) := by
  unfold tyOf at h
  split at h
  · rename_i e; subst e; cases h; exact ⟨by decide +kernel, by decide +kernel, boot_int⟩
  split at h
  · rename_i e; subst e; cases h; exact ⟨by decide +kernel, by decide +kernel, boot_str⟩
  split at h
  · rename_i e; subst e; cases h; exact ⟨by decide +kernel, by decide +kernel, boot_bool⟩
  split at h
  · rename_i e; subst e; cases h; exact ⟨by decide +kernel, by decide +kernel, boot_tuple⟩
  split at h
  · rename_i e; subst e; cases h; exact ⟨by decide +kernel, by decide +kernel, boot_list⟩
  · cases h
theorem blt_of {x : Str} (g : Good G C Wx lev X c) (hx : c.blt x = true) (hb : x ∈ bltNames) : c.glb x = true ∧ X.mg x = none := by
  unfold Ct.blt at hx
  obtain ⟨h1, h2⟩ := Bool.and_eq_true_iff.mp hx
  exact ⟨h1, g.blt x hb (by simpa using h2)⟩
theorem k_ty {x : Str} {t : Ty} {pos : Pos} (g : Good G C Wx lev X c) (hx : c.blt x = true) (h : tyOf x = some t) : PE X (.Name x pos) (tC (.ty t.name)) := by
  obtain ⟨b1, b2, b3⟩ := ty_boot h
  obtain ⟨h1, h2⟩ := blt_of g hx b1
  obtain ⟨n1, n2, n3⟩ := okName_of b2
  exact pe_bltn (g.glb x h1) h2 b3 rfl n3 n1
theorem isi_post {φ : List Addr} {H : Hp} {S : Store} {w : W} {x : V} {ts : List Ty} {xk : XK} {Q : VK} (R : Rel G φ H S) (r : RpW G φ H w x) (h : Post G (RlW G) φ H (isiW ts w S) xk Q) :
    ∃ t b, TyX G.K H x (.type t) ∧ PySem.W.kitAny G.K (.type t) (ts.map fun ty => Value.type ty.name) = some b ∧ Q (.bl b) H := by
  unfold isiW at h
  by_cases hp : w.plain S = true
  · rw [if_pos hp] at h
    obtain ⟨t, h1, h2⟩ := ty_of R r hp
    exact ⟨t, _, h1, kit_any h2 ts, vv_ok R h rp_bl⟩
  · rw [if_neg hp] at h; exact h.elim
theorem k_isi1 {x : Str} {t : Ty} {a : Expr} {p p2 pos : Pos} {A : AX W} (g : Good G C Wx lev X c) (hi : c.blt "isinstance" = true) (hx : c.blt x = true) (h : tyOf x = some t) (hs : isStar a = false) (ha : PE X a (tK G Wx A)) :
    PE X (.Call (.Name "isinstance" p) [a, .Name x p2] [] pos) (tK G Wx fun ρ S => (A ρ S).bd fun w S => isiW [t] w S) := by
  obtain ⟨h1, hm⟩ := blt_of g hi (by decide +kernel)
  refine (pe_callB call_isi (g.glb _ h1) hm boot_isinstance (pa_cons ha (pa_cons (k_ty (pos := p2) g hx h) pa_nil rfl) (star_cons hs)) (by decide) (by decide) (star_cons hs) rfl).im fun σ H Q q => ?_
  refine tI.bd (F := fun w _ S => isiW [t] w S) q fun φ ρ S v φ1 H1 w S1 R sl e R1 l hq => ?_
  obtain ⟨ty, b, t1, t2, q1⟩ := isi_post R1 l.1 (hq.sh e R1 mnW)
  refine ⟨v, .ty t.name, .type ty, .type t.name, b, rfl, .ty _, by rw [g.hK]; exact t1, ?_, q1⟩
  have z : PySem.W.kitAny G.K (.type ty) [.type t.name] = some b := t2
  unfold PySem.W.kitAny at z
  rw [g.hK]
  cases k : PySem.W.kitOne G.K (.type ty) (.type t.name) with
  | none => rw [k] at z; cases z
  | some kb =>
    rw [k] at z
    cases kb with
    | true => cases z; rfl
    | false => exact z
theorem tys_pa {es : List Expr} {ts : List Ty} (g : Good G C Wx lev X c) (h : mapO (ty1 c) es = some ts) :
    ∃ t, PA X es t ∧ (∀ σ H (Q : List V → Hp → Prop), Q (ts.map fun ty => V.ty ty.name) H → t σ H Q) := by
  induction es generalizing ts with
  | nil => rw [mapO_nil h]; exact ⟨_, pa_nil, fun σ H Q q => q⟩
  | cons e es ih =>
    obtain ⟨b, bs, h1, h2, rfl⟩ := mapO_cons h
    cases e with
    | Name x p =>
      unfold ty1 at h1
      dsimp only at h1
      by_cases hx : c.blt x = true
      · rw [if_pos hx] at h1
        obtain ⟨t, pt, ht⟩ := ih h2
        exact ⟨_, pa_cons (k_ty (pos := p) g hx h1) pt rfl, fun σ H Q q => ht σ H _ q⟩
      · rw [if_neg hx] at h1; cases h1
    | _ => cases h1
theorem k_isiT {es : List Expr} {ts : List Ty} {k : Nat} {a : Expr} {p p2 pos : Pos} {A : AX W} (g : Good G C Wx lev X c) (hi : c.blt "isinstance" = true) (h : mapO (ty1 c) es = some ts) (hl : ts.length ≤ 100)
    (hs : isStar a = false) (ha : PE X a (tK G Wx A)) : PE X (.Call (.Name "isinstance" p) [a, .Tuple es k p2] [] pos) (tK G Wx fun ρ S => (A ρ S).bd fun w S => isiW ts w S) := by
  obtain ⟨h1, hm⟩ := blt_of g hi (by decide +kernel)
  obtain ⟨t, pt, ht⟩ := tys_pa g h
  refine (pe_callB call_isiT (g.glb _ h1) hm boot_isinstance (pa_cons ha (pa_cons (pe_tup (pos := p2) (x1 := k) pt) pa_nil rfl) (star_cons hs)) (by decide) (by decide) (star_cons hs) rfl).im fun σ H Q q => ?_
  refine tI.bd (F := fun w _ S => isiW ts w S) q fun φ ρ S v φ1 H1 w S1 R sl e R1 l hq => ?_
  refine ht σ H1 _ ⟨?_, fun tp htp => ?_⟩
  · rw [List.length_map]
    exact Nat.le_trans hl (by decide)
  · have E := Ext.fresh R1 htp (.tup (ts.map fun ty => V.ty ty.name))
    obtain ⟨ty, b, t1, t2, q1⟩ := isi_post (R1.fresh htp (.tup (ts.map fun ty => V.ty ty.name))) (RpW.mono E R1 l.1) (hq.sh (e.trans E) (R1.fresh htp _) mnW)
    refine ⟨v, tp, ts.map fun ty => V.ty ty.name, .type ty, ts.map fun ty => Value.type ty.name, b, rfl, upd_same, ?_, by rw [g.hK]; exact t1, by rw [g.hK]; exact t2, q1⟩
    clear t1 t2 ht h hq q E q1 hl
    induction ts with
    | nil => exact .nil
    | cons t ts ih => exact .cons (.ty _) ih
theorem k_m0 {o : Expr} {m : Str} {id : String} {k : MK} {pr : P1} {A : AX W} {apos pos : Pos} (T : String) (pa : PlainAttrs T) (slot : Slot T m id) (hty : typeOf (.builtin id) = pure (.type "method_descriptor")) (hm : MtR X id (fun x xs H Q => xs = [] ∧ rP1 G (p1 pr) x H Q))
    (hT : ∀ φ H S w x, Rel G φ H S → RpW G φ H w x → k.is S w = true → tyV X.K T x H) (ho : PE X o (tK G Wx A)) (hb : baseOk o = true) (hl : (apos.endLine == pos.line) = true) :
    PE X (.Call (.Attribute o m apos) [] [] pos) (tK G Wx fun ρ S => (A ρ S).bd fun x S => if k.is S x = true then p1 pr x S else .bad) :=
  (pe_bm0 pa slot hty hm ho (base_ok hb) hl).im fun σ H Q q => tI.bd (F := fun x _ S => if k.is S x = true then p1 pr x S else .bad) q fun φ ρ S v φ1 H1 x S1 R sl e R1 l h => by
    by_cases c : k.is S1 x = true
    · rw [if_pos c] at h
      exact ⟨hT φ1 H1 S1 x v R1 l.1 c, rfl, φ1, x, S1, _, R1, l.1, h.sh e R1 mnW⟩
    · rw [if_neg c] at h; exact h.elim
theorem k_m1 {o a : Expr} {m : Str} {id : String} {k : MK} {pr : P2} {A B : AX W} {apos pos : Pos} (T : String) (pa : PlainAttrs T) (slot : Slot T m id) (hty : typeOf (.builtin id) = pure (.type "method_descriptor")) (hm : MtR X id (rM1 G pr))
    (hT : ∀ φ H S w x, Rel G φ H S → RpW G φ H w x → k.is S w = true → tyV X.K T x H) (ho : PE X o (tK G Wx A)) (ha : PE X a (tK G Wx B)) (hs : isStar a = false) (hb : baseOk o = true) (hl : (apos.endLine == pos.line) = true) :
    PE X (.Call (.Attribute o m apos) [a] [] pos) (tK G Wx fun ρ S => (A ρ S).bd fun x S => if k.is S x = true then (B ρ S).bd fun y S => p2 pr x y S else .bad) := by
  have hfew : ((backTo pos (starEach [a] X.env)).all (fun x => !x.1) && (backToKw pos (keywordEach [] X.env)).all (fun x => x.1.isSome) && decide ([a].length + ([] : List Keyword).length + (if ([] : List Keyword).isEmpty then 0 else 1) < 30)) = true := by
    rw [star_cons hs]; try rfl
  refine (pe_bm pa slot hty hm ho (pa_cons ha pa_nil (star_cons hs)) (base_ok hb) hfew hl (star_cons hs) rfl).im fun σ H Q q => ?_
  refine tI.bd (F := fun x ρ S => if k.is S x = true then (B ρ S).bd fun y S => p2 pr x y S else .bad) q fun φ ρ S v φ1 H1 x S1 R sl e R1 l h => ?_
  by_cases c : k.is S1 x = true
  · rw [if_pos c] at h
    refine ⟨hT φ1 H1 S1 x v R1 l.1 c, ?_⟩
    refine tI.next R sl e R1 h fun u H2 φ2 y S2 e2 R2 l2 h2 => ?_
    exact ⟨u, φ, H, φ2, x, y, S2, _, rfl, e.trans e2, R2, RpW.mono e2 R1 l.1, mnW _ _ _ _ _ _ (e.fr R1) l2, h2⟩
  · rw [if_neg c] at h; exact h.elim
theorem k_srt {x k y : Str} {i : Nat} {m : Bool} {a : Expr} {p pf kpos pos : Pos} {A : AX W} (g : Good G C Wx lev X c) (hx : c.blt "sorted" = true) (hy : c.glb y = true) (hi : c.gl.lookup y = some (.fn i m)) (hn : okName y = true) (hs : isStar a = false) (ha : PE X a (tK G Wx A)) :
    PE X (.Call (.Name "sorted" p) [a] [⟨some "key", .Name y pf, kpos⟩] pos) (tK G Wx fun ρ S => (A ρ S).bd fun w S => srtW (fun d S => C i [d] S) w S) := by
  obtain ⟨h1, hm⟩ := blt_of g hx (by decide +kernel)
  obtain ⟨f, fd, ps, hmf, hk, hb, F⟩ := (g.fns y i m hi).ex
  have F : FnOk X.prog X.w X.K X.mg X.base (L2.CX X.prog X.w) lev f fd ps (spI G C i) := fn_upM (m := false) (m' := m) (fun z => by cases z) F
  obtain ⟨n1, n2, n3⟩ := okName_of hn
  have hf : PE X (.Name y pf) (tC (.ref f)) := pe_glob (g.glb y hy) hmf rfl n1
  refine (pe_callBK (cr_srt g.hK g.calm g.hu g.room hb F) (g.glb _ h1) hm PyProof.Rows.boot_sorted (pa_cons ha pa_nil (star_cons hs)) (pk_cons hf pk_nil) (by decide) (by decide) (by rw [star_cons hs]; rfl) (by rw [star_cons hs]; try rfl)).im fun σ H Q q => ?_
  refine tI.bd (F := fun w _ S => srtW (fun d S => C i [d] S) w S) q fun φ ρ S v φ1 H1 w S1 R sl e R1 l h => ?_
  exact ⟨rfl, v, φ1, w, S1, _, rfl, R1, l.1, h.sh e R1 mnW⟩
theorem is_list (hK : X.K = G.K) {φ : List Addr} {H : Hp} {S : Store} {w : W} {x : V} (R : Rel G φ H S) (r : RpW G φ H w x) (h : MK.list.is S w = true) : tyV X.K "list" x H := by
  have q : ∃ ds, w.seq S = some (false, ds) := by
    cases w with
    | lis ds => exact ⟨ds, rfl⟩
    | val d =>
      cases d with
      | ls ds => exact ⟨ds, rfl⟩
      | ref n =>
        unfold MK.is at h
        dsimp only at h
        split at h
        · rename_i ds hs
          exact ⟨ds, by unfold W.seq; simp only [hs]⟩
        · cases h
      | _ => cases h
  obtain ⟨ds, hq⟩ := q
  obtain ⟨a, vs, rfl, hs, hr⟩ := seq_rp R r hq
  exact .inl ⟨rfl, vs, by rw [hK]; exact ifF hs⟩
theorem is_str {φ : List Addr} {H : Hp} {S : Store} {w : W} {x : V} (r : RpW G φ H w x) (h : MK.str.is S w = true) : tyV X.K "str" x H := by
  cases w with
  | lis ds => cases h
  | val d =>
    cases d with
    | str z => have e := rp_str r; subst e; rfl
    | _ => cases h
end
end Mi

/-! Mi, part I: the translation of expressions tells the truth. -/
namespace Mi
open PySem L2 PyProof.Rows RT RZ

section
variable {C : Calls}
theorem ev_c {d : D} : evK C (.c d) = fun _ S => vv d S := by funext ρ S; rw [evK]
theorem ev_v {i : Nat} : evK C (.v i) = fun ρ S => match ρ[i]? with | some (some d) => vv d S | _ => .bad := by funext ρ S; rw [evK]; try rfl
theorem ev_p1 {o : P1} {a : Ex} : evK C (.p1 o a) = fun ρ S => (evK C a ρ S).bd fun x S => p1 o x S := by funext ρ S; rw [evK]
theorem ev_p2 {o : P2} {a b : Ex} : evK C (.p2 o a b) = fun ρ S => (evK C a ρ S).bd fun x S => (evK C b ρ S).bd fun y S => p2 o x y S := by funext ρ S; rw [evK]
theorem ev_isi {ts : List Ty} {a : Ex} : evK C (.isi ts a) = fun ρ S => (evK C a ρ S).bd fun x S => isiW ts x S := by funext ρ S; rw [evK]
theorem ev_and {a b : Ex} : evK C (.and_ a b) = fun ρ S => ((evK C a ρ S).bd toB).bd fun c S => if c = true then evK C b ρ S else vv (.bl false) S := by funext ρ S; rw [evK]
theorem ev_or {a b : Ex} : evK C (.or_ a b) = fun ρ S => ((evK C a ρ S).bd toB).bd fun c S => if c = true then vv (.bl true) S else evK C b ρ S := by funext ρ S; rw [evK]
theorem ev_not {a : Ex} : evK C (.not_ a) = fun ρ S => ((evK C a ρ S).bd toB).bd fun c S => vv (.bl (!c)) S := by funext ρ S; rw [evK]
theorem ev_ite {c a b : Ex} : evK C (.ite c a b) = fun ρ S => (evB C c ρ S).bd fun k S => if k = true then evK C a ρ S else evK C b ρ S := by funext ρ S; rw [evK]; try rfl
theorem ev_ch {o o' : P2} {a b c : Ex} : evK C (.ch o o' a b c) = fun ρ S => (evK C a ρ S).bd fun x S => (evK C b ρ S).bd fun y S => ((p2 o x y S).bd toB).bd fun k S =>
      if k = true then (evK C c ρ S).bd fun z S => p2 o' y z S else vv (.bl false) S := by funext ρ S; rw [evK]
theorem ev_tup {es : List Ex} : evK C (.tup es) = fun ρ S => (evDs C es ρ S).bd fun ds S => if ds.length ≤ sizeLine then vv (.tup ds) S else .bad := by funext ρ S; rw [evK]
theorem ev_disp {es : List Ex} : evK C (.disp es) = fun ρ S => (evDs C es ρ S).bd fun ds S => if ds.length ≤ sizeLine then .ok (.lis ds) S else .bad := by funext ρ S; rw [evK]
theorem ev_sl {a : Ex} {lo hi : List Ex} : evK C (.sl a lo hi) = fun ρ S => (evK C a ρ S).bd fun x S => ((evWs C lo ρ S).bd partI).bd fun l S => ((evWs C hi ρ S).bd partI).bd fun h S => cutW x l h S := by funext ρ S; rw [evK]
theorem ev_dict {es : List Ex} : evK C (.dict es) = fun ρ S => (evDs C es ρ S).bd fun ds S => match dispO ds with
    | some o => .ok (.val (.ref S.length)) (S ++ [o])
    | none => .bad := by funext ρ S; rw [evK]; try rfl
theorem ev_srt {f : Nat} {a : Ex} : evK C (.srt f false a) = fun ρ S => (evK C a ρ S).bd fun w S => srtW (fun d S => C f [d] S) w S := by funext ρ S; rw [evK]; try rfl
theorem ev_call {f : Nat} {es : List Ex} : evK C (.call f es) = fun ρ S => (evDs C es ρ S).bd fun ds S => (C f ds S).bd fun d S => vv d S := by funext ρ S; rw [evK]
theorem ev_m0 {k : MK} {o : P1} {a : Ex} : evK C (.m0 k o a) = fun ρ S => (evK C a ρ S).bd fun x S => if k.is S x = true then p1 o x S else .bad := by funext ρ S; rw [evK]
theorem ev_m1 {k : MK} {o : P2} {a b : Ex} : evK C (.m1 k o a b) = fun ρ S => (evK C a ρ S).bd fun x S => if k.is S x = true then (evK C b ρ S).bd fun y S => p2 o x y S else .bad := by funext ρ S; rw [evK]
theorem ev_repl {a v w : Ex} {lo : List Ex} {y z : Str} : evK C (.repl a lo v w y z) = fun ρ S => (evK C a ρ S).bd fun x S => ((evWs C lo ρ S).bd partI).bd fun l S => (evK C v ρ S).bd fun p S => (evK C w ρ S).bd fun q S => replC x l p q y z S := by funext ρ S; rw [evK]
theorem ev_fst {es : List Ex} : evK C (.fst es) = fun ρ S => evJ C es ρ S Str.empty := by funext ρ S; rw [evK]
theorem ev_j0 {acc : Str} : (fun ρ S => evJ C [] ρ S acc) = fun _ S => vv (.str acc) S := by funext ρ S; rw [evJ]
theorem ev_j {e : Ex} {r : List Ex} {acc : Str} : (fun ρ S => evJ C (e :: r) ρ S acc) = fun ρ S => (evK C e ρ S).bd fun w S => match w with
    | .val (.str y) => if (acc ++ y).length ≤ sizeLine then evJ C r ρ S (acc ++ y) else .bad
    | _ => .bad := by funext ρ S; rw [evJ]; try rfl
noncomputable def itA (C : Calls) (k : IK) (is : List Ex) : AX Its := fun ρ S => (evWs C is ρ S).bd fun ws S => itsA k ws S
theorem ev_comp {xb : Bool} {t : Tg} {k : IK} {is cs : List Ex} {e : Ex} {own : List Nat} : evK C (.comp xb t k is cs e own) = compA xb t own (itA C k is) (evCs C cs) (evD C e) := by
  funext ρ S
  rw [evK]
  unfold compA itA
  rw [bd_bd]
  congr 1
  funext ws S
  unfold itsA
  cases its k ws S with
  | none => rfl
  | some I => rfl
theorem ev_ds0 : evDs C [] = fun _ S => .ok [] S := by funext ρ S; rw [evDs]
theorem ev_ds {e : Ex} {r : List Ex} : evDs C (e :: r) = fun ρ S => (evD C e ρ S).bd fun d S => (evDs C r ρ S).bd fun ds S => .ok (d :: ds) S := by funext ρ S; rw [evDs]; try rfl
theorem ev_ws0 : evWs C [] = fun _ S => .ok [] S := by funext ρ S; rw [evWs]
theorem ev_ws {e : Ex} {r : List Ex} : evWs C (e :: r) = fun ρ S => (evK C e ρ S).bd fun d S => (evWs C r ρ S).bd fun ds S => .ok (d :: ds) S := by funext ρ S; rw [evWs]
theorem ev_cs0 : evCs C [] = fun _ S => .ok true S := by funext ρ S; rw [evCs]
theorem ev_cs1 {e : Ex} : evCs C [e] = evB C e := by
  funext ρ S
  rw [evCs]
  unfold evB
  cases h : (evK C e ρ S).bd toB with
  | ok b S' => cases b <;> (simp only [R.bd]; try rw [evCs]; try rfl)
  | ex c fs S => rfl
  | bad => rfl
end

section
variable {G : Gb} {C : Calls} {lev : Nat}
/-- what is known of the parts -/
def SE (G : Gb) (C : Calls) (lev : Nat) (rec : Ct → Expr → Option Ex) : Prop := ∀ {Wx : WX} {X : Cx} {c : Ct} {e : Expr} {x : Ex}, Good G C Wx lev X c → rec c e = some x → PE X e (tK G Wx (evK C x)) ∧ PT X e (tBo G Wx (evB C x))
variable {rec : Ct → Expr → Option Ex} {Wx : WX} {X : Cx} {c : Ct} {x : Ex} {pos : Pos}
theorem both {e : Expr} (h : PE X e (tK G Wx (evK C x))) (he : ∀ whole, isTrue e X.env whole = (do let v ← whole; standAt e.pos; holding [v] (truthy v)) := by intro _; rfl) : PE X e (tK G Wx (evK C x)) ∧ PT X e (tBo G Wx (evB C x)) := ⟨h, k_B h he⟩

theorem s_name {n : Str} (g : Good G C Wx lev X c) (h : eStep rec c (.Name n pos) = some x) : PE X (.Name n pos) (tK G Wx (evK C x)) ∧ PT X (.Name n pos) (tBo G Wx (evB C x)) := by
  dsimp only [eStep] at h
  by_cases hn : okName n = false
  · rw [if_pos hn] at h; cases h
  rw [if_neg hn] at h
  obtain ⟨n1, n2, n3⟩ := okName_of (by simpa using hn)
  by_cases hv : c.vis n = true
  · rw [if_pos hv] at h
    obtain ⟨i, hi, rfl⟩ := Option.map_eq_some_iff.mp h
    refine both ?_
    rw [ev_v]
    exact k_var (by rw [g.hN]; exact ixOf_get hi) (g.vis n hv) n1 n2
  · rw [if_neg hv] at h
    by_cases hg : c.glb n = true
    · rw [if_pos hg] at h
      cases hq : c.gl.lookup n with
      | none => simp only [hq] at h; cases h
      | some gg =>
        simp only [hq] at h
        cases gg with
        | fn i m => cases h
        | exc k ks => cases h
        | bex nn ks => cases h
        | kls ks => cases h
        | cst d =>
          cases h
          obtain ⟨v, u, h1, h2, h3⟩ := g.cst n d hq
          refine both ?_
          rw [ev_c]
          exact k_const (pe_glob (g.glb n hg) h1 h2 n1) h3
    · rw [if_neg hg] at h; cases h
theorem s_const {k : Const} {kd : Nat} (h : eStep rec c (.Constant k kd pos) = some x) : PE X (.Constant k kd pos) (tK G Wx (evK C x)) ∧ PT X (.Constant k kd pos) (tBo G Wx (evB C x)) := by
  dsimp only [eStep] at h
  cases k <;> cases h <;> refine both ?_ <;> rw [ev_c]
  · exact k_const pe_non fun _ _ => by unfold Rp; rfl
  · exact k_const pe_bl fun _ _ => by unfold Rp; rfl
  · exact k_const pe_int fun _ _ => by unfold Rp; rfl
  · exact k_const pe_str fun _ _ => by unfold Rp; rfl

theorem s_un {op : UnaryOp} {a : Expr} (ih : SE G C lev rec) (g : Good G C Wx lev X c) (h : eStep rec c (.UnaryOp op a pos) = some x) : PE X (.UnaryOp op a pos) (tK G Wx (evK C x)) ∧ PT X (.UnaryOp op a pos) (tBo G Wx (evB C x)) := by
  dsimp only [eStep] at h
  cases op with
  | Not =>
    obtain ⟨y, hy, rfl⟩ := Option.map_eq_some_iff.mp h
    obtain ⟨i1, i2⟩ := ih g hy
    refine ⟨by rw [ev_not]; exact kv_not i1, ?_⟩
    have e : evB C (.not_ y) = fun ρ S => (evB C y ρ S).bd fun k S => .ok (!k) S := by
      funext ρ S
      unfold evB
      rw [ev_not, bd_bd]
      try rfl
    rw [e]
    exact k_not i2
  | USub =>
    obtain ⟨y, hy, rfl⟩ := Option.map_eq_some_iff.mp h
    refine both ?_
    rw [ev_p1]
    exact k_neg o_neg (ih g hy).1
  | _ => cases h
theorem o_bin {op : Operator} {o : P2} (g : Good G C Wx lev X c) (h : binOf op = some o) : OpR X (binaryOp op) (rP2 G (p2 o)) := by
  cases op <;> cases h
  · exact o_add g.hK
  · exact o_sub
  · exact o_mul
  · exact o_mod
  · exact o_pow
  · exact o_fdiv
theorem o_cmp {op : CmpOp} {o : P2} (g : Good G C Wx lev X c) (h : cmpOf op = some o) : OpR X (compareOp op) (rP2 G (p2 o)) := by
  cases op <;> cases h
  · exact o_eq g.hK g.hu
  · exact o_ne g.hK g.hu
  · exact o_lt g.hK g.hu
  · exact o_le g.hK g.hu
  · exact o_gt g.hK g.hu
  · exact o_ge g.hK g.hu
  · exact o_in g.hK g.hu
  · exact o_nin g.hK g.hu
theorem s_bin {op : Operator} {a b : Expr} (ih : SE G C lev rec) (g : Good G C Wx lev X c) (h : eStep rec c (.BinOp a op b pos) = some x) : PE X (.BinOp a op b pos) (tK G Wx (evK C x)) ∧ PT X (.BinOp a op b pos) (tBo G Wx (evB C x)) := by
  dsimp only [eStep] at h
  split at h
  · rename_i o xa xb ho ha hb
    cases h
    refine both ?_
    rw [ev_p2]
    exact k_bin (o_bin g ho) (ih g ha).1 (ih g hb).1
  · cases h
theorem s_ite {t a b : Expr} (ih : SE G C lev rec) (g : Good G C Wx lev X c) (h : eStep rec c (.IfExp t a b pos) = some x) : PE X (.IfExp t a b pos) (tK G Wx (evK C x)) ∧ PT X (.IfExp t a b pos) (tBo G Wx (evB C x)) := by
  dsimp only [eStep] at h
  split at h
  · rename_i o xa xb ho ha hb
    cases h
    refine ⟨by rw [ev_ite]; exact k_ite (ih g ho).2 (ih g ha).1 (ih g hb).1, ?_⟩
    have e : evB C (.ite o xa xb) = fun ρ S => (evB C o ρ S).bd fun k S => if k = true then evB C xa ρ S else evB C xb ρ S := by
      funext ρ S
      rw [evB, ev_ite, bd_bd]
      congr 1
      funext k S
      cases k <;> rfl
    rw [e]
    refine ⟨fun pins s σ H Q I h => isTrue_IfExp (thn ((ih g ho).2.run pins s σ H (fun b H1 => if b = true then tBo G Wx (evB C xa) σ H1 Q else tBo G Wx (evB C xb) σ H1 Q) I ?_) ?_)⟩
    · refine tI.bd (F := fun k ρ S => if k = true then evB C xa ρ S else evB C xb ρ S) h fun φ ρ S b φ1 H1 x S1 R sl e R1 l h => ?_
      have l' : x = b := l
      subst l'
      cases x with
      | true => exact (if_pos rfl).mpr (tI.go R sl e R1 mnB h)
      | false => exact (if_neg Bool.false_ne_true).mpr (tI.go R sl e R1 mnB h)
    · rintro b s1 ⟨H1, I1, q⟩
      cases b with
      | true => exact (ih g ha).2.run pins s1 σ H1 Q I1 q
      | false => exact (ih g hb).2.run pins s1 σ H1 Q I1 q
  · cases h
theorem s_and {es : List Expr} {xs : List Ex} (ih : SE G C lev rec) (g : Good G C Wx lev X c) (h1 : mapO (rec c) es = some xs) (h : andE xs = some x) : PE X (.BoolOp .And es pos) (tK G Wx (evK C x)) ∧ L2.PW X (.BoolOp .And es pos) (tBo G Wx (evB C x)) := by
  induction es generalizing xs x with
  | nil => rw [mapO_nil h1] at h; cases h
  | cons e es ihe =>
    obtain ⟨y, ys, hy, hys, rfl⟩ := mapO_cons h1
    obtain ⟨i1, i2⟩ := ih g hy
    cases es with
    | nil =>
      rw [mapO_nil hys] at h
      cases h
      exact ⟨pe_one i1, k_and1 i2⟩
    | cons e2 es =>
      obtain ⟨z, zs, hz, hzs, rfl⟩ := mapO_cons hys
      obtain ⟨w, hw, rfl⟩ := Option.map_eq_some_iff.mp h
      obtain ⟨j1, j2⟩ := ihe hys hw
      refine ⟨by rw [ev_and]; exact kv_and i1 j1, ?_⟩
      have e : evB C (.and_ y w) = fun ρ S => (evB C y ρ S).bd fun k S => if k = true then evB C w ρ S else .ok false S := by
        funext ρ S
        rw [evB, ev_and, bd_bd]
        congr 1
        funext k S
        cases k <;> rfl
      rw [e]
      exact k_and i2 j2
theorem s_or {es : List Expr} {xs : List Ex} (ih : SE G C lev rec) (g : Good G C Wx lev X c) (h1 : mapO (rec c) es = some xs) (h : orE xs = some x) : PE X (.BoolOp .Or es pos) (tK G Wx (evK C x)) ∧ L2.PW X (.BoolOp .Or es pos) (tBo G Wx (evB C x)) := by
  induction es generalizing xs x with
  | nil => rw [mapO_nil h1] at h; cases h
  | cons e es ihe =>
    obtain ⟨y, ys, hy, hys, rfl⟩ := mapO_cons h1
    obtain ⟨i1, i2⟩ := ih g hy
    cases es with
    | nil =>
      rw [mapO_nil hys] at h
      cases h
      exact ⟨pe_one i1, k_or1 i2⟩
    | cons e2 es =>
      obtain ⟨z, zs, hz, hzs, rfl⟩ := mapO_cons hys
      obtain ⟨w, hw, rfl⟩ := Option.map_eq_some_iff.mp h
      obtain ⟨j1, j2⟩ := ihe hys hw
      refine ⟨by rw [ev_or]; exact kv_or i1 j1, ?_⟩
      have e : evB C (.or_ y w) = fun ρ S => (evB C y ρ S).bd fun k S => if k = true then .ok true S else evB C w ρ S := by
        funext ρ S
        rw [evB, ev_or, bd_bd]
        congr 1
        funext k S
        cases k <;> rfl
      rw [e]
      exact k_or i2 j2
theorem s_bool {op : BoolOp} {es : List Expr} (ih : SE G C lev rec) (g : Good G C Wx lev X c) (h : eStep rec c (.BoolOp op es pos) = some x) : PE X (.BoolOp op es pos) (tK G Wx (evK C x)) ∧ PT X (.BoolOp op es pos) (tBo G Wx (evB C x)) := by
  dsimp only [eStep] at h
  cases op with
  | And =>
    obtain ⟨xs, h1, h2⟩ := Option.bind_eq_some_iff.mp h
    obtain ⟨i1, i2⟩ := s_and (pos := pos) ih g h1 h2
    exact ⟨i1, i2.pt⟩
  | Or =>
    obtain ⟨xs, h1, h2⟩ := Option.bind_eq_some_iff.mp h
    obtain ⟨i1, i2⟩ := s_or (pos := pos) ih g h1 h2
    exact ⟨i1, i2.pt⟩
theorem s_args {es : List Expr} {xs : List Ex} (ih : SE G C lev rec) (g : Good G C Wx lev X c) (hs : es.any isStar = false) (h : mapO (rec c) es = some xs) : PA X es (tDs G Wx (evDs C xs)) := by
  induction es generalizing xs with
  | nil => rw [mapO_nil h, ev_ds0]; exact ka_nil
  | cons e es ihe =>
    obtain ⟨y, ys, hy, hys, rfl⟩ := mapO_cons h
    rw [List.any_cons, Bool.or_eq_false_iff] at hs
    rw [ev_ds]
    exact ka_cons (k_D (ih g hy).1) (ihe hs.2 hys) (star_cons hs.1)
theorem s_tup {es : List Expr} {k : Nat} (ih : SE G C lev rec) (g : Good G C Wx lev X c) (h : eStep rec c (.Tuple es k pos) = some x) : PE X (.Tuple es k pos) (tK G Wx (evK C x)) ∧ PT X (.Tuple es k pos) (tBo G Wx (evB C x)) := by
  dsimp only [eStep] at h
  by_cases hs : es.any isStar = true
  · rw [if_pos hs] at h; cases h
  rw [if_neg hs] at h
  obtain ⟨xs, hx, rfl⟩ := Option.map_eq_some_iff.mp h
  refine both ?_
  rw [ev_tup]
  exact k_tup (s_args ih g (by simpa using hs) hx)
theorem s_list {es : List Expr} (ih : SE G C lev rec) (g : Good G C Wx lev X c) (h : eStep rec c (.List es pos) = some x) : PE X (.List es pos) (tK G Wx (evK C x)) ∧ PT X (.List es pos) (tBo G Wx (evB C x)) := by
  dsimp only [eStep] at h
  by_cases hs : es.any isStar = true
  · rw [if_pos hs] at h; cases h
  rw [if_neg hs] at h
  obtain ⟨xs, hx, rfl⟩ := Option.map_eq_some_iff.mp h
  refine both ?_
  rw [ev_disp]
  exact k_disp (s_args ih g (by simpa using hs) hx)

theorem s_cmp {a : Expr} {ops : List CmpOp} {es : List Expr} (ih : SE G C lev rec) (g : Good G C Wx lev X c) (h : cmpStep rec c a ops es = some x) : PE X (.Compare a ops es pos) (tK G Wx (evK C x)) ∧ PT X (.Compare a ops es pos) (tBo G Wx (evB C x)) := by
  unfold cmpStep at h
  split at h
  · rename_i op b
    by_cases hs : isSet b = true
    · rw [if_pos hs] at h; cases h
    rw [if_neg hs] at h
    have hm : ∀ op, behindInMarks op b = false := fun op => behind_ok (by simpa using hs)
    split at h
    · obtain ⟨y, hy, rfl⟩ := Option.map_eq_some_iff.mp h
      have i1 := (ih g hy).1
      have im : ∀ σ H Q, tK G Wx (evK C (.p1 .isN y)) σ H Q → tOp (fun u v H Q => v = .non ∧ rP1 G (p1 .isN) u H Q) (tK G Wx (evK C y)) (tC .non) σ H Q := fun σ H Q q => by
        rw [ev_p1] at q
        exact tI.bd (F := fun x _ S => p1 .isN x S) q fun φ ρ S v φ1 H1 x S1 R sl e R1 l h => ⟨rfl, φ1, x, S1, _, R1, l.1, h.sh e R1 mnW⟩
      exact ⟨(pe_cmpR o_isN i1 pe_non (hm _)).im im, k_Bcmp o_isN i1 pe_non (hm _) im⟩
    · obtain ⟨y, hy, rfl⟩ := Option.map_eq_some_iff.mp h
      have i1 := (ih g hy).1
      have im : ∀ σ H Q, tK G Wx (evK C (.p1 .notN y)) σ H Q → tOp (fun u v H Q => v = .non ∧ rP1 G (p1 .notN) u H Q) (tK G Wx (evK C y)) (tC .non) σ H Q := fun σ H Q q => by
        rw [ev_p1] at q
        exact tI.bd (F := fun x _ S => p1 .notN x S) q fun φ ρ S v φ1 H1 x S1 R sl e R1 l h => ⟨rfl, φ1, x, S1, _, R1, l.1, h.sh e R1 mnW⟩
      exact ⟨(pe_cmpR o_notN i1 pe_non (hm _)).im im, k_Bcmp o_notN i1 pe_non (hm _) im⟩
    · split at h
      · rename_i o xa xb ho ha hb
        cases h
        refine ⟨by rw [ev_p2]; exact k_cmp (o_cmp g ho) (ih g ha).1 (ih g hb).1 (hm _), ?_⟩
        have e : evB C (.p2 o xa xb) = fun ρ S => ((evK C xa ρ S).bd fun x S => (evK C xb ρ S).bd fun y S => p2 o x y S).bd toB := by
          funext ρ S
          rw [evB, ev_p2]
        rw [e]
        exact k_cmpB (o_cmp g ho) (ih g ha).1 (ih g hb).1 (hm _)
      · cases h
  · rename_i op op' b d
    by_cases hs : isSet d = true
    · rw [if_pos hs] at h; cases h
    rw [if_neg hs] at h
    split at h
    · rename_i o o' xa xb xd ho ho' ha hb hd
      cases h
      have hm : lastMarks [op, op'] [b, d] = false := last_ok (by simpa using hs)
      refine ⟨by rw [ev_ch]; exact k_ch (o_cmp g ho) (o_cmp g ho') (ih g ha).1 (ih g hb).1 (ih g hd).1 hm, ?_⟩
      have e : evB C (.ch o o' xa xb xd) = fun ρ S => (evK C (.ch o o' xa xb xd) ρ S).bd toB := rfl
      rw [e, ev_ch]
      exact k_chB (o_cmp g ho) (o_cmp g ho') (ih g ha).1 (ih g hb).1 (ih g hd).1 hm
    · cases h
  · cases h
theorem ty1_of {e : Expr} {t : Ty} (h : ty1 c e = some t) : ∃ n p, e = .Name n p ∧ c.blt n = true ∧ tyOf n = some t := by
  unfold ty1 at h
  split at h
  · rename_i n p
    by_cases hb : c.blt n = true
    · rw [if_pos hb] at h; exact ⟨n, p, rfl, hb, h⟩
    · rw [if_neg hb] at h; cases h
  · cases h
theorem s_call {n : Str} {es : List Expr} {p : Pos} (ih : SE G C lev rec) (g : Good G C Wx lev X c) (h : callStep rec c n es = some x) : PE X (.Call (.Name n p) es [] pos) (tK G Wx (evK C x)) := by
  unfold callStep at h
  by_cases hk : (okName n && !es.any isStar) = false
  · rw [if_pos hk] at h; cases h
  rw [if_neg hk] at h
  simp only [Bool.not_eq_false, Bool.and_eq_true, Bool.not_eq_true'] at hk
  obtain ⟨hn, hs⟩ := hk
  by_cases hg : c.glb n = false
  · rw [if_pos hg] at h; cases h
  rw [if_neg hg] at h
  have hg : c.glb n = true := by simpa using hg
  split at h
  · rename_i i m hi
    by_cases hm : (!c.m || m) = true
    · rw [if_pos hm] at h
      obtain ⟨xs, hx, rfl⟩ := Option.map_eq_some_iff.mp h
      rw [ev_call]
      refine k_call g hg hi hm hn hs (s_args ih g hs hx) fun e0 => ?_
      subst e0
      rw [mapO_nil hx, ev_ds0]
    · rw [if_neg hm] at h; cases h
  · cases h
  · rename_i hi
    have hb : c.blt n = true := by
      unfold Ct.blt
      rw [hg, hi]; try rfl
    split at h
    · rename_i a
      split at h
      · rename_i u v hz
        unfold zipArg at hz
        split at hz
        · rename_i y yp u' v' cpos
          by_cases e1 : n = ("list" : Str)
          · rw [if_pos e1] at hz
            by_cases e2 : y = ("zip" : Str)
            · rw [if_pos e2] at hz
              cases hz
              subst e1
              subst e2
              by_cases hk2 : (c.blt "zip" && !isStar u && !isStar v) = true
              · rw [if_pos hk2] at h
                simp only [Bool.and_eq_true, Bool.not_eq_true'] at hk2
                obtain ⟨⟨z1, z2⟩, z3⟩ := hk2
                split at h
                · rename_i xu xv hu hv
                  cases h
                  obtain ⟨l1, l2⟩ := blt_of g hb (by decide +kernel)
                  obtain ⟨m1, m2⟩ := blt_of g z1 (by decide +kernel)
                  rw [ev_p2]
                  exact k_lzip g.hK g.calm (g.glb _ l1) l2 (g.glb _ m1) m2 (ih g hu).1 (ih g hv).1 (star_cons z2) (star_cons z3) (star_any (by simp [z3]))
                · cases h
              · rw [if_neg hk2] at h; cases h
            · rw [if_neg e2] at hz; cases hz
          · rw [if_neg e1] at hz; cases hz
        · cases hz
      · split at h
        · rename_i o xa ho ha
          cases h
          obtain ⟨b1, b2, id, b3⟩ := b1_hc g ho
          rw [ev_p1]
          exact k_b1 g hb b1 b2 (by simpa using hs) (ih g ha).1 b3
        · cases h
    · rename_i a t
      by_cases hx : n = ("isinstance" : Str)
      · rw [if_pos hx] at h
        subst hx
        have hsa : isStar a = false := by
          rw [List.any_cons, Bool.or_eq_false_iff] at hs
          exact hs.1
        split at h
        · rename_i xa ts ha ht
          cases h
          rw [ev_isi]
          unfold tyE at ht
          split at ht
          · rename_i n2 p2
            obtain ⟨t, h1, rfl⟩ := Option.map_eq_some_iff.mp ht
            obtain ⟨n3, p3, e, q1, q2⟩ := ty1_of h1
            cases e
            exact k_isi1 g hb q1 q2 hsa (ih g ha).1
          · rename_i es2 k2 p2
            by_cases hl : es2.length ≤ 100
            · rw [if_pos hl] at ht
              refine k_isiT g hb ht ?_ hsa (ih g ha).1
              have : ∀ {es : List Expr} {ts : List Ty}, mapO (ty1 c) es = some ts → ts.length = es.length := by
                intro es
                induction es with
                | nil => intro ts h; rw [mapO_nil h]; try rfl
                | cons e es ih =>
                  intro ts h
                  obtain ⟨b, bs, _, h2, rfl⟩ := mapO_cons h
                  rw [List.length_cons, List.length_cons, ih h2]
              rw [this ht]
              exact hl
            · rw [if_neg hl] at ht; cases ht
          · cases ht
        · cases h
      · rw [if_neg hx] at h
        rw [List.any_cons, List.any_cons, List.any_nil, Bool.or_false, Bool.or_eq_false_iff] at hs
        split at h
        · rename_i o xa xb ho ha hb2
          cases h
          obtain ⟨b1, b2, i, b3, b4⟩ := b2_hc g ho
          rw [ev_p2]
          exact k_b2 g hb b1 b2 hs.1 hs.2 (ih g ha).1 (ih g hb2).1 b3 b4
        · cases h
    · cases h
theorem s_part (ih : SE G C lev rec) (g : Good G C Wx lev X c) : ∀ {o : Option Expr} {l : List Ex}, optE (rec c) o = some l → ∃ t, PO X o t ∧ ∀ {σ : L2.St} {H : Hp} {Q : Option Int → Hp → Prop}, tI G Wx (fun H φ1 H1 (w : Option Int) (v : Option Int) => w = v) (fun ρ S => (evWs C l ρ S).bd partI) σ H Q → t σ H Q := by
  intro o l h
  cases o with
  | none =>
    cases h
    refine ⟨_, po_none, fun {σ H Q} q => ?_⟩
    obtain ⟨φ, ρ, S, R, sl, q⟩ := q
    dsimp only at q
    rw [ev_ws0] at q
    exact q none H φ (Ext.refl _ _) R rfl
  | some e =>
    obtain ⟨y, hy, rfl⟩ := Option.map_eq_some_iff.mp h
    refine ⟨_, po_some (ih g hy).1, fun {σ H Q} q => ?_⟩
    have e : (fun ρ S => (evWs C [y] ρ S).bd partI) = fun ρ S => (evK C y ρ S).bd fun w S => partI [w] S := by
      funext ρ S
      rw [ev_ws, bd_bd, ev_ws0]
      try rfl
    rw [e] at q
    refine tI.bd (F := fun w _ S => partI [w] S) q fun φ ρ S v φ1 H1 w S1 R sl e R1 l h => ?_
    cases w with
    | lis ds => exact h.elim
    | val d =>
      cases d with
      | int i =>
        have e2 := rp_int l.1
        exact ⟨i, e2, h (some i) H1 φ1 e R1 rfl⟩
      | _ => exact h.elim
/-! ### u[lo:v + w].replace(y, z) -/
theorem peo_slice {r : V → Option Int → Option Int → Hp → VK → Prop} {e v w : Expr} {lo : Option Expr} {te tv tw : TE} {tl : TO} {p2 p3 : Pos} (hr : SlR X r) (he : PE X e te) (hl : PO X lo tl) (hv : PE X v tv) (hw : PE X w tw)
    {pins : List (Addr × Obj)} {s : Shared} {σ : L2.St} {H : Hp} {Q : VK} (I : L2.Inv X pins σ H s)
    (h : te σ H fun x H1 => tl σ H1 fun l H2 => tv σ H2 fun y H3 => tw σ H3 fun z H4 => ∃ i j, y = .int i ∧ z = .int j ∧ r x l (some (i + j)) H4 Q) :
    wpAny (model X.prog X.w) X.A (eval (.Subscript e (.Slice lo (some (.BinOp v .Add w p3)) none p2) pos) X.env) (fun v s' => 1 ≤ s'.toks ∧ EP X pins σ Q v s') X.xe s := by
  refine Subscript_ (thn (he.run pins s σ H _ I h) fun vx s1 ⟨x, H1, I1, r1, q1⟩ => ?_)
  refine wpAny_Slice (thn (hl.run pins s1 σ H1 _ I1 q1) fun vl s2 ⟨l, H2, I2, pl, q2⟩ => ?_)
  rw [evalPart_some]
  refine wpAny_BinOp (thn (hv.run pins s2 σ H2 _ I2 q2) fun vy s3 ⟨y, H3, I3, r3, q3⟩ => thn (hw.run pins s3 σ H3 _ I3 q3) fun vz s4 ⟨z, H4, I4, r4, q4⟩ => ?_)
  obtain ⟨i, j, rfl, rfl, q5⟩ := q4
  obtain ⟨t3, rfl⟩ := r3
  obtain ⟨t4, rfl⟩ := r4
  refine PySem.P.add_int ?_
  rw [evalPart_none]
  refine wpAny_pure ?_
  have I5 : L2.Inv X pins σ H4 { s4 with toks := s4.toks + 1 } := I4.tok _
  have I6 : L2.Inv X pins σ H4 { s4 with toks := s4.toks + 1, heap := s4.heap.push { cls := .type "slice", data := .fields #[vl, .int (i + j) s4.toks, .none] } } := I5.kept (t' := s4.toks + 1) fun b ob q => Heap.get?_push_of_some _ q
  obtain ⟨T, id, hT, ht, hg⟩ := hr pins { s4 with toks := s4.toks + 1, heap := s4.heap.push { cls := .type "slice", data := .fields #[vl, .int (i + j) s4.toks, .none] } } σ H4 x vx vl (.int (i + j) s4.toks) l (some (i + j)) s4.heap.objs.size Q I6 r1 (Heap.IsSliceOf.new ..) pl (.int (i + j) s4.toks) q5
  show wpAny (model X.prog X.w) X.A (subscriptTail e (.Slice lo (some (.BinOp v .Add w p3)) none p2) vx (.ref s4.heap.objs.size)) _ X.xe { s4 with toks := s4.toks + 1, heap := s4.heap.push { cls := .type "slice", data := .fields #[vl, .int (i + j) s4.toks, .none] } }
  exact wpAny_mono (PySem.wpAny_toks_of (n := 1) (by show 1 ≤ s4.toks + 1; omega) (tail_any (ops := [.ref s4.heap.objs.size, vx]) ht hT hg (by with_unfolding_all rfl))) (fun _ _ q => q) fun _ _ q => q.2
theorem s_repl {o a b : Expr} {m : Str} {apos : Pos} (ih : SE G C lev rec) (g : Good G C Wx lev X c) (hl : (apos.endLine == pos.line) = true) (h : replStep rec c o m a b = some x) : PE X (.Call (.Attribute o m apos) [a, b] [] pos) (tK G Wx (evK C x)) := by
  unfold replStep at h
  split at h
  · rename_i u lo v w p3 p2 p1 y j0 c0 z j1 c1
    by_cases hk : (decide (m = ("replace" : Str)) && !(y == z)) = true
    · rw [if_pos hk] at h
      simp only [Bool.and_eq_true, decide_eq_true_eq, Bool.not_eq_true'] at hk
      obtain ⟨hm, hyz⟩ := hk
      subst hm
      split at h
      · rename_i xu xlo xv xw hu hlo hv hw
        cases h
        obtain ⟨tl, pl, il⟩ := s_part ih g hlo
        refine ⟨fun pins s σ H Q I q => ?_⟩
        rw [ev_repl] at q
        have q2 : tK G Wx (evK C xu) σ H fun v H1 => tl σ H1 fun l H2 => tK G Wx (evK C xv) σ H2 fun y3 H3 => tK G Wx (evK C xw) σ H3 fun z4 H4 => ∃ i j, y3 = .int i ∧ z4 = .int j ∧ rSl G v l (some (i + j)) H4 fun r H5 => ∃ r', r = .str r' ∧ r'.length + (r'.length + 1) * z.length ≤ 16777216 ∧ Q (.str (Txt.replace r' y z)) H5 := by
          refine tI.bd (F := fun x ρ S => ((evWs C xlo ρ S).bd partI).bd fun l S => (evK C xv ρ S).bd fun p S => (evK C xw ρ S).bd fun q S => replC x l p q y z S) q fun φ ρ S v φ1 H1 w1 S1 R sl e R1 l1 h1 => ?_
          refine il (tI.next (L := fun H φ1 H1 (w : Option Int) (v : Option Int) => w = v) (F := fun l S => (evK C xv ρ S).bd fun p S => (evK C xw ρ S).bd fun q S => replC w1 l p q y z S) R sl e R1 h1 fun l H2 φ2 l' S2 e2 R2 l2 h2 => ?_)
          have l2 : l' = l := l2
          subst l2
          refine tI.next (F := fun p S => (evK C xw ρ S).bd fun q S => replC w1 l' p q y z S) R sl (e.trans e2) R2 h2 fun vy H3 φ3 wy S3 e3 R3 l3 h3 => ?_
          refine tI.next (F := fun q S => replC w1 l' wy q y z S) R sl ((e.trans e2).trans e3) R3 h3 fun vz H4 φ4 wz S4 e4 R4 l4 h4 => ?_
          unfold replC at h4
          split at h4
          · rename_i i j
            refine ⟨i, j, rp_int l3.1, rp_int l4.1, φ4, w1, S4, fun c d H' => Wx c d σ H', R4, RpW.mono ((e2.trans e3).trans e4) R1 l1.1, ?_⟩
            refine (Post.bd (L := RlW G) (h4.sh (((e.trans e2).trans e3).trans e4) R4 mnW)).mono fun r H5 ⟨φ5, w5, S5, _, e5, R5, l5, h5⟩ => ?_
            unfold replW at h5
            split at h5
            · rename_i r' _
              by_cases hc : r'.length + (r'.length + 1) * z.length ≤ 16777216
              · rw [if_pos hc] at h5
                exact ⟨r', rp_str l5.1, hc, h5 _ _ _ e5 R5 (rl_val rp_st)⟩
              · rw [if_neg hc] at h5; exact h5.elim
            · exact h5.elim
          · exact h4.elim
        refine PySem.Call_method2 (base_ok rfl) (by rfl) hl (wpAny_mono (peo_slice (o_sl g.hK) (ih g hu).1 pl (ih g hv).1 (ih g hw).1 I q2) (fun vo s1 qo => ?_) fun _ _ z => z)
        obtain ⟨hk, v', H1, I1, r1, r', e1, hb, qo⟩ := qo
        subst e1
        obtain ⟨tx, e2⟩ := r1
        subst e2
        refine ⟨"str", _, F.plainAttrs_str, F.slot_str_replace, F.type_str_replace, typeIs_str _ _ _, (fun _ e => nomatch e), Calls.callWith_builtin rfl (Calls.evalArgs_plain (Calls.spliced_cons ?_))⟩
        refine Calls.Constant_str (Calls.spliced_cons (Calls.Constant_str (Calls.spliced_nil ?_)))
        exact PySem.SC.replace (by show s1.toks ≠ 0; omega) (by show s1.toks + 1 ≠ 0; omega) (by show s1.toks ≠ s1.toks + 1; omega) hyz hb fun t' k => ⟨.str (Txt.replace r' y z), H1, I1.tok k, ⟨t', rfl⟩, qo⟩
      · cases h
    · rw [if_neg hk] at h; cases h
  · cases h
/-! ### f-strings -/
theorem rfmt {φ : List Addr} {H : Hp} {S : Store} {w : W} {v : V} {xk : XK} {Q : VK} (R : Rel G φ H S) (r : RpW G φ H w v) (h : Post G (RlW G) φ H (p1 .fmt w S) xk Q) :
    (∃ y : Str, v = .str y ∧ y.length ≤ sizeLine ∧ Q (.str y) H) ∨ ∃ i : Int, v = .int i ∧ i.natAbs.log2 < 1920 ∧ Q (.str (toString i)) H := by
  unfold p1 at h
  dsimp only at h
  split at h
  · rename_i y
    by_cases hc : y.length ≤ sizeLine
    · rw [if_pos hc] at h; exact .inl ⟨y, rp_str r, hc, vv_ok R h rp_st⟩
    · rw [if_neg hc] at h; exact h.elim
  · rename_i i
    by_cases hc : i.natAbs.log2 < 1920
    · rw [if_pos hc] at h; exact .inr ⟨i, rp_int r, hc, vv_ok R h rp_st⟩
    · rw [if_neg hc] at h; exact h.elim
  · exact h.elim
theorem s_fmt {e : Expr} {y : Ex} (ih : SE G C lev rec) (g : Good G C Wx lev X c) (h : fmtStep rec c e = some y) : PE X e (tK G Wx (evK C y)) := by
  unfold fmtStep at h
  split at h
  · obtain ⟨z, hz, rfl⟩ := Option.map_eq_some_iff.mp h
    rw [ev_p1]
    refine (pe_fmt (ih g hz).1).im fun σ H Q q => ?_
    exact tI.bd (F := fun w _ S => p1 .fmt w S) q fun φ ρ S v φ1 H1 w S1 R sl e R1 l h => rfmt R1 l.1 (h.sh e R1 mnW)
  · cases h
    rw [ev_c]
    exact k_const pe_str fun _ _ => by unfold Rp; rfl
  · cases h
theorem s_fmts (ih : SE G C lev rec) (g : Good G C Wx lev X c) : ∀ {es : List Expr} {xs : List Ex}, mapO (fmtStep rec c) es = some xs →
    ∃ ts, PJ X es ts ∧ ∀ (acc : Str) (σ : L2.St) (H : Hp) (Q : VK), tK G Wx (fun ρ S => evJ C xs ρ S acc) σ H Q → tJs ts acc σ H fun out H1 => Q (.str out) H1
  | [], xs, h => by
    rw [mapO_nil h]
    refine ⟨[], .nil, fun acc σ H Q q => ?_⟩
    rw [ev_j0] at q
    obtain ⟨φ, ρ, S, R, sl, q⟩ := q
    exact vv_ok R q rp_st
  | e :: es, xs, h => by
    obtain ⟨y, ys, h1, h2, rfl⟩ := mapO_cons h
    obtain ⟨ts, hp, hq⟩ := s_fmts ih g h2
    refine ⟨_ :: ts, .cons (s_fmt ih g h1) hp, fun acc σ H Q q => ?_⟩
    rw [ev_j] at q
    refine tI.bd (F := fun w ρ S => match w with
      | .val (.str y) => if (acc ++ y).length ≤ sizeLine then evJ C ys ρ S (acc ++ y) else .bad
      | _ => .bad) q fun φ ρ S v φ1 H1 w S1 R sl e R1 l h => ?_
    split at h
    · rename_i z
      by_cases hc : (acc ++ z).length ≤ sizeLine
      · rw [if_pos hc] at h
        exact ⟨z, rp_str l.1, hc, hq _ _ _ _ (tI.go (A := fun ρ S => evJ C ys ρ S (acc ++ z)) R sl e R1 mnW h)⟩
      · rw [if_neg hc] at h; exact h.elim
    · exact h.elim
theorem ev_m2 {k : MK} {o : P3} {a b c : Ex} : evK C (.m2 k o a b c) = fun ρ S => (evK C a ρ S).bd fun x S => if k.is S x = true then (evK C b ρ S).bd fun y S => (evK C c ρ S).bd fun z S => p3 o x y z S else .bad := by funext ρ S; rw [evK]
theorem is_dict {φ : List Addr} {H : Hp} {S : Store} {w : W} {v : V} (R : Rel G φ H S) (r : RpW G φ H w v) (h : MK.dict.is S w = true) : ∃ n a, w = .val (.ref n) ∧ v = .ref a ∧ φ[n]? = some a ∧ IsD H a := by
  cases w with
  | lis ds => cases h
  | val d =>
  cases d <;> try cases h
  rename_i k
  unfold MK.is at h
  dsimp only at h
  split at h
  · rename_i kvs hs
    unfold RpW Rp at r
    obtain ⟨a, rfl, ha⟩ := r
    obtain ⟨vs, h1, _⟩ := R.obj k a _ ha hs
    exact ⟨k, a, rfl, rfl, ha, .inl ⟨vs, .inl h1⟩⟩
  · rename_i kvs hs
    unfold RpW Rp at r
    obtain ⟨a, rfl, ha⟩ := r
    obtain ⟨vs, h1, _⟩ := R.obj k a _ ha hs
    exact ⟨k, a, rfl, rfl, ha, .inr ⟨vs, .inl h1⟩⟩
  · cases h
theorem s_get {o a b : Expr} {xo xa xb : Ex} {apos : Pos} (ih : SE G C lev rec) (g : Good G C Wx lev X c) (hl : (apos.endLine == pos.line) = true) (hbs : baseOk o = true) (h1 : isStar a = false) (h2 : isStar b = false) (ho : rec c o = some xo) (ha : rec c a = some xa) (hb : rec c b = some xb) :
    PE X (.Call (.Attribute o "get" apos) [a, b] [] pos) (tK G Wx (evK C (.m2 .dict .get2 xo xa xb))) := by
  rw [ev_m2]
  refine (pe_dget2 (by have := g.hu; omega) (ih g ho).1 (ih g ha).1 (ih g hb).1 ⟨base_ok hbs, by rw [star_cons h1, star_cons h2]; rfl, hl, by rw [star_cons h1, star_cons h2]; try rfl⟩).im fun σ H Q q => ?_
  refine tI.bd (F := fun x ρ S => if MK.dict.is S x = true then (evK C xa ρ S).bd fun y S => (evK C xb ρ S).bd fun z S => p3 .get2 x y z S else .bad) q fun φ ρ S v φ1 H1 x S1 R sl e R1 l h => ?_
  by_cases cc : MK.dict.is S1 x = true
  · rw [if_pos cc] at h
    obtain ⟨n, p, rfl, rfl, hp, hd⟩ := is_dict R1 l.1 cc
    refine ⟨p, rfl, hd, ?_⟩
    refine tI.next R sl e R1 h fun u H2 φ2 y S2 e2 R2 l2 h2 => ?_
    refine tI.next R sl (e.trans e2) R2 h2 fun u3 H3 φ3 z S3 e3 R3 l3 h3 => ?_
    unfold p3 at h3
    dsimp only at h3
    split at h3
    · rename_i n' k d en
      cases en
      split at h3
      · rename_i r hr
        obtain ⟨ov, g1, g2⟩ := look_dget R3 ((e2.trans e3).get hp) (Rp.mono (e3.toKeep R2) _ _ l2.1) hr
        refine ⟨ov, g1, h3.ok ((e.trans e2).trans e3) R3 (rl_val ?_)⟩
        cases r with
        | none =>
          have g2 : ov = none := g2
          subst g2
          exact l3.1
        | some d' =>
          obtain ⟨w, rfl, g2⟩ := g2
          exact g2
      · exact h3.elim
    · exact h3.elim
  · rw [if_neg cc] at h; exact h.elim
theorem s_meth {o : Expr} {m : Str} {es : List Expr} {apos : Pos} (ih : SE G C lev rec) (g : Good G C Wx lev X c) (hl : (apos.endLine == pos.line) = true) (h : methStep rec c o m es = some x) : PE X (.Call (.Attribute o m apos) es [] pos) (tK G Wx (evK C x)) := by
  unfold methStep at h
  by_cases hk : (baseOk o && !es.any isStar) = false
  · rw [if_pos hk] at h; cases h
  rw [if_neg hk] at h
  simp only [Bool.not_eq_false, Bool.and_eq_true, Bool.not_eq_true'] at hk
  obtain ⟨hb, hs⟩ := hk
  split at h
  · split at h
    · rename_i k p xo hm ho
      cases h
      rw [ev_m0]
      unfold m0Of at hm
      split at hm
      · rename_i e; subst e; cases hm
        exact k_m0 "list" F.plainAttrs_list F.slot_list_pop F.type_list_pop m_pop (fun φ H S w x R r q => is_list g.hK R r q) (ih g ho).1 hb hl
      · cases hm
    · cases h
  · rename_i a
    have hsa : isStar a = false := by simpa using hs
    split at h
    · rename_i k p xo xa hm ho ha
      cases h
      rw [ev_m1]
      unfold m1Of at hm
      split at hm
      · rename_i e; subst e; cases hm
        exact k_m1 "list" F.plainAttrs_list F.slot_list_append F.type_list_append m_append (fun φ H S w x R r q => is_list g.hK R r q) (ih g ho).1 (ih g ha).1 hsa hb hl
      split at hm
      · rename_i e; subst e; cases hm
        exact k_m1 "list" F.plainAttrs_list F.slot_list_extend F.type_list_extend (m_extend g.hK) (fun φ H S w x R r q => is_list g.hK R r q) (ih g ho).1 (ih g ha).1 hsa hb hl
      split at hm
      · rename_i e; subst e; cases hm
        exact k_m1 "str" F.plainAttrs_str F.slot_str_join F.type_str_join (m_join g.hK) (fun φ H S w x R r q => is_str r q) (ih g ho).1 (ih g ha).1 hsa hb hl
      split at hm
      · rename_i e; subst e; cases hm
        exact k_m1 "str" F.plainAttrs_str F.slot_str_split F.type_str_split m_split (fun φ H S w x R r q => is_str r q) (ih g ho).1 (ih g ha).1 hsa hb hl
      · cases hm
    · cases h
  · rename_i a b
    by_cases hm : m = ("get" : Str)
    · rw [if_pos hm] at h
      subst hm
      split at h
      · rename_i xo xa xb ho ha hb2
        cases h
        simp at hs
        exact s_get ih g hl hb hs.1 hs.2 ho ha hb2
      · cases h
    · rw [if_neg hm] at h
      exact s_repl ih g hl h
  · cases h

theorem s_ix {a b : Expr} (ih : SE G C lev rec) (g : Good G C Wx lev X c) (h : eStep rec c (.Subscript a b pos) = some x) : PE X (.Subscript a b pos) (tK G Wx (evK C x)) := by
  by_cases hb : isSlice b = true
  · cases b <;> try cases hb
    rename_i lo hi st p2
    cases st with
    | some st => dsimp only [eStep] at h; cases h
    | none =>
      dsimp only [eStep] at h
      split at h
      · rename_i xa l u ha hl hu
        cases h
        obtain ⟨tl, pl, il⟩ := s_part ih g hl
        obtain ⟨tu, pu, iu⟩ := s_part ih g hu
        refine (pe_slice (o_sl g.hK) (ih g ha).1 pl pu).im fun σ H Q q => ?_
        rw [ev_sl] at q
        refine tI.bd (F := fun x ρ S => ((evWs C l ρ S).bd partI).bd fun i S => ((evWs C u ρ S).bd partI).bd fun j S => cutW x i j S) q fun φ ρ S v φ1 H1 x S1 R sl e R1 lx h => ?_
        refine il (tI.next (L := fun H φ1 H1 (w : Option Int) (v : Option Int) => w = v) (F := fun i S => ((evWs C u ρ S).bd partI).bd fun j S => cutW x i j S) R sl e R1 h fun i H2 φ2 i' S2 e2 R2 l2 h2 => ?_)
        have l2 : i' = i := l2
        subst l2
        refine iu (tI.next (L := fun H φ1 H1 (w : Option Int) (v : Option Int) => w = v) (F := fun j S => cutW x i' j S) R sl (e.trans e2) R2 h2 fun j H3 φ3 j' S3 e3 R3 l3 h3 => ?_)
        have l3 : j' = j := l3
        subst l3
        exact ⟨φ3, x, S3, _, R3, RpW.mono (e2.trans e3) R1 lx.1, h3.sh ((e.trans e2).trans e3) R3 mnW⟩
      · cases h
  · have hb : isSlice b = false := by simpa using hb
    have h : (match rec c a, rec c b with | some a, some b => some (Ex.p2 .ix a b) | _, _ => none) = some x := by
      cases b <;> first | exact h | cases hb
    split at h
    · rename_i xa xb ha hb2
      cases h
      rw [ev_p2]
      exact k_ix (o_ix g.hK g.hu) (ih g ha).1 (ih g hb2).1 (plainIx_ok hb)
    · cases h

/-! ### what is walked, comprehensions -/
theorem ita_1 {k : IK} {a : Ex} : itA C k [a] = fun ρ S => (evK C a ρ S).bd fun w S => itsA k [w] S := by
  funext ρ S
  unfold itA
  rw [ev_ws, bd_bd, ev_ws0]
  try rfl
theorem ita_2 {k : IK} {a b : Ex} : itA C k [a, b] = fun ρ S => (evK C a ρ S).bd fun w S => (evK C b ρ S).bd fun w2 S => itsA k [w, w2] S := by
  funext ρ S
  unfold itA
  simp only [ev_ws, ev_ws0, bd_bd]
  try rfl
theorem ita_3 {k : IK} {a b d : Ex} : itA C k [a, b, d] = fun ρ S => (evK C a ρ S).bd fun w S => (evK C b ρ S).bd fun w2 S => (evK C d ρ S).bd fun w3 S => itsA k [w, w2, w3] S := by
  funext ρ S
  unfold itA
  simp only [ev_ws, ev_ws0, bd_bd]
  try rfl
theorem s_it {tg e : Expr} {k : IK} {is : List Ex} (ih : SE G C lev rec) (g : Good G C Wx lev X c) (h : iStep rec c e = some (k, is)) (ht : tupT k tg = true) : PI X tg e (tIts G Wx (itA C k is)) := by
  have plain : ∀ {e : Expr}, (rec c e).map (fun a => (IK.it, [a])) = some (k, is) → PI X tg e (tIts G Wx (itA C k is)) := by
    intro e h
    obtain ⟨y, hy, q⟩ := Option.map_eq_some_iff.mp h
    cases q
    rw [ita_1]
    exact ki_it (ih g hy).1 g.hK
  unfold iStep at h
  split at h
  · rename_i n p es kw pos
    by_cases hb : (c.blt n && kw.isEmpty) = true
    · rw [if_pos hb] at h
      rw [Bool.and_eq_true] at hb
      obtain ⟨hb, hkw⟩ := hb
      cases kw with
      | cons _ _ => cases hkw
      | nil =>
      by_cases h1 : n = ("range" : Str)
      · rw [if_pos h1] at h
        subst h1
        obtain ⟨hg, hm⟩ := blt_of g hb (by decide +kernel)
        split at h
        · rename_i a
          by_cases hs : isStar a = true
          · rw [if_pos hs] at h; cases h
          rw [if_neg hs] at h
          obtain ⟨y, hy, q⟩ := Option.map_eq_some_iff.mp h
          cases q
          rw [ita_1]
          exact ki_rng1 (g.glb _ hg) hm (ih g hy).1 (star_cons (by simpa using hs))
        · rename_i a b
          by_cases hs : (isStar a || isStar b) = true
          · rw [if_pos hs] at h; cases h
          rw [if_neg hs] at h
          simp only [Bool.not_eq_true, Bool.or_eq_false_iff] at hs
          split at h
          · rename_i xa xb ha hb2
            cases h
            rw [ita_2]
            have e1 : starEach [b] X.env = [(false, eval b X.env)] := star_cons hs.2
            exact ki_rng2 (g.glb _ hg) hm (ih g ha).1 (ih g hb2).1 (by rw [star_cons hs.1, e1]) e1
          · cases h
        · rename_i a b d
          by_cases hs : (isStar a || isStar b || isStar d) = true
          · rw [if_pos hs] at h; cases h
          rw [if_neg hs] at h
          simp only [Bool.not_eq_true, Bool.or_eq_false_iff] at hs
          split at h
          · rename_i xa xb xd ha hb2 hd
            cases h
            rw [ita_3]
            exact ki_rng3 (g.glb _ hg) hm (ih g ha).1 (ih g hb2).1 (ih g hd).1 (star_cons hs.1.1) (star_cons hs.1.2) (star_cons hs.2) (star_any (by simp [hs.1.2, hs.2]))
          · cases h
        · cases h
      rw [if_neg h1] at h
      by_cases h2 : n = ("zip" : Str)
      · rw [if_pos h2] at h
        subst h2
        obtain ⟨hg, hm⟩ := blt_of g hb (by decide +kernel)
        split at h
        · rename_i a b
          by_cases hs : (isStar a || isStar b) = true
          · rw [if_pos hs] at h; cases h
          rw [if_neg hs] at h
          simp only [Bool.not_eq_true, Bool.or_eq_false_iff] at hs
          split at h
          · rename_i xa xb ha hb2
            cases h
            rw [ita_2]
            cases tg <;> try cases ht
            exact ki_zip (g.glb _ hg) hm (ih g ha).1 (ih g hb2).1 g.hK (star_cons hs.1) (star_cons hs.2) (star_any (by simp [hs.2]))
          · cases h
        · cases h
      rw [if_neg h2] at h
      by_cases h3 : n = ("enumerate" : Str)
      · rw [if_pos h3] at h
        subst h3
        obtain ⟨hg, hm⟩ := blt_of g hb (by decide +kernel)
        split at h
        · rename_i a
          by_cases hs : isStar a = true
          · rw [if_pos hs] at h; cases h
          rw [if_neg hs] at h
          obtain ⟨y, hy, q⟩ := Option.map_eq_some_iff.mp h
          cases q
          rw [ita_1]
          cases tg <;> try cases ht
          exact ki_enm (g.glb _ hg) hm (ih g hy).1 g.hK (star_cons (by simpa using hs))
        · cases h
      rw [if_neg h3] at h
      by_cases h4 : n = ("reversed" : Str)
      · rw [if_pos h4] at h
        subst h4
        obtain ⟨hg, hm⟩ := blt_of g hb (by decide +kernel)
        split at h
        · rename_i a
          by_cases hs : isStar a = true
          · rw [if_pos hs] at h; cases h
          rw [if_neg hs] at h
          obtain ⟨y, hy, q⟩ := Option.map_eq_some_iff.mp h
          cases q
          rw [ita_1]
          exact ki_rev (g.glb _ hg) hm (ih g hy).1 g.hK (star_cons (by simpa using hs))
        · cases h
      rw [if_neg h4] at h
      exact plain h
    · rw [if_neg hb] at h
      exact plain h
  · by_cases hs : isSet e = true
    · rw [if_pos hs] at h; cases h
    · rw [if_neg hs] at h; exact plain h
theorem s_tg {tg : Expr} {t : Tg} (g : Good G C Wx lev X c) (h : tgE c tg = some t) : PG X tg (gTg G.K t) := by
  unfold tgE at h
  split at h
  · rename_i n p
    by_cases hl : c.loc n = true
    · rw [if_pos hl] at h
      obtain ⟨i, hi, rfl⟩ := Option.map_eq_some_iff.mp h
      obtain ⟨l1, l2⟩ := g.loc n hl
      exact pg_name (by rw [g.hN]; exact g.nd) (by rw [g.hN]; exact ixOf_get hi) l1 l2
    · rw [if_neg hl] at h; cases h
  · rename_i es k p
    obtain ⟨is, hi, rfl⟩ := Option.map_eq_some_iff.mp h
    have many : ∀ {es : List Expr} {is : List Nat}, mapO (fun e => match e with | Expr.Name x _ => if c.loc x = true then ixOf c.N x else none | _ => none) es = some is →
        PGs X es (gNames is) ∧ (assignEach es X.env).length = is.length ∧ (assignEach es X.env).findIdx? (·.1) = none := by
      intro es
      induction es with
      | nil => intro is h; rw [mapO_nil h]; exact ⟨pgs_nil, rfl, rfl⟩
      | cons e es ihe =>
        intro is h
        obtain ⟨i, is, h1, h2, rfl⟩ := mapO_cons h
        obtain ⟨j1, j2, j3⟩ := ihe h2
        cases e with
        | Name n p =>
          dsimp only at h1
          by_cases hl : c.loc n = true
          · rw [if_pos hl] at h1
            obtain ⟨l1, l2⟩ := g.loc n hl
            have p1 : PG X (.Name n p) (gName i) := pg_name (by rw [g.hN]; exact g.nd) (by rw [g.hN]; exact ixOf_get h1) l1 l2
            refine ⟨pgs_cons p1 j1 rfl, ?_, ?_⟩
            · show (_ :: assignEach es X.env).length = _
              rw [List.length_cons, List.length_cons, j2]
            · show ((false, _) :: assignEach es X.env).findIdx? (·.1) = none
              rw [List.findIdx?_cons, j3]
              try rfl
          · rw [if_neg hl] at h1; cases h1
        | _ => cases h1
    obtain ⟨m1, m2, m3⟩ := many hi
    unfold gTg
    rw [← g.hK]
    exact pg_tup g.calm m1 m2 m3
  · cases h
theorem comp_parts {elt tg iter : Expr} {ifs : List Expr} {sc : Scope} (ih : SE G C lev rec) (g : Good G C Wx lev X c) (h : compStep rec c elt tg iter ifs sc = some x) :
    ∃ t k is cs y own, x = .comp (!c.blk) t k is cs y (own.map (·.2)) ∧ tgE (c.in_ sc) tg = some t ∧ PI X tg iter (tIts G Wx (itA C k is)) ∧ BlkOk X.N X.env.scope sc own ∧
      (∀ (s : Shared) (H : Hp) (Ca : Addr) (cl : List (Str × Addr)) (fp : List Addr), PG (X.blk s H sc (compEnvC sc cl Ca X.env) fp) tg (gTg G.K t)) ∧
      (∀ (s : Shared) (H : Hp) (Ca : Addr) (cl : List (Str × Addr)) (fp : List Addr), PTs (X.blk s H sc (compEnvC sc cl Ca X.env) fp) ifs (tBo G WxF (evCs C cs))) ∧
      (∀ (s : Shared) (H : Hp) (Ca : Addr) (cl : List (Str × Addr)) (fp : List Addr), PE (X.blk s H sc (compEnvC sc cl Ca X.env) fp) elt (tD G WxF (evD C y))) ∧ BlkM G c.m Wx X sc tg elt ifs t (evCs C cs) (evD C y) ∧
      (∀ y, foldedSetIterable iter X.env y = pure y) ∧ ∀ i ∈ t.slots, i ∈ own.map (·.2) := by
  unfold compStep at h
  by_cases hb : (blkC c.N c.sc sc (ownE c.N sc) && !isSet iter) = true
  · rw [if_pos hb] at h
    rw [Bool.and_eq_true] at hb
    obtain ⟨hb, hset⟩ := hb
    have B := blkOk_by hb
    have B : BlkOk X.N X.env.scope sc (ownE c.N sc) := ⟨B.kind, B.uniq, by rw [g.hN]; exact B.ix, fun y hy e => g.cf _ (B.free y hy e), by rw [g.hN]; exact B.own⟩
    split at h
    · rename_i t k is e ht hi he
      by_cases hk : (tupT k tg && t.slots.all fun i => decide (i ∈ (ownE c.N sc).map (·.2))) = true
      · rw [if_pos hk] at h
        rw [Bool.and_eq_true] at hk
        obtain ⟨hk, hsl⟩ := hk
        have hown : ∀ i ∈ t.slots, i ∈ (ownE c.N sc).map (·.2) := fun i hi => by
          have q := List.all_eq_true.mp hsl i hi
          exact of_decide_eq_true q
        have hI := s_it (tg := tg) ih g hi hk
        have hF : ∀ y, foldedSetIterable iter X.env y = pure y := fold_ok (by simpa using hset)
        split at h
        · cases h
          exact ⟨t, k, is, [], e, _, rfl, ht, hI, B, fun s H Ca cl fp => s_tg (g.blk sc s H Ca cl fp) ht, fun s H Ca cl fp => by rw [ev_cs0]; exact kt_nil, fun s H Ca cl fp => k_D (ih (g.blk sc s H Ca cl fp) he).1, ⟨fun s H Ca cl fp xe => s_tg (g.blkF sc s H Ca cl fp xe) ht, fun σ s H Ca cl fp xe p => by rw [ev_cs0]; exact kt_nil, fun σ s H Ca cl fp xe p => k_D (ih (g.blkG sc s H Ca cl fp xe (Wy := WxB true Wx σ) p) he).1⟩, hF, hown⟩
        · obtain ⟨y, hy, rfl⟩ := Option.map_eq_some_iff.mp h
          exact ⟨t, k, is, [y], e, _, rfl, ht, hI, B, fun s H Ca cl fp => s_tg (g.blk sc s H Ca cl fp) ht, fun s H Ca cl fp => by rw [ev_cs1]; exact kt_one (ih (g.blk sc s H Ca cl fp) hy).2, fun s H Ca cl fp => k_D (ih (g.blk sc s H Ca cl fp) he).1, ⟨fun s H Ca cl fp xe => s_tg (g.blkF sc s H Ca cl fp xe) ht, fun σ s H Ca cl fp xe p => by rw [ev_cs1]; exact kt_one (ih (g.blkG sc s H Ca cl fp xe (Wy := WxB true Wx σ) p) hy).2, fun σ s H Ca cl fp xe p => k_D (ih (g.blkG sc s H Ca cl fp xe (Wy := WxB true Wx σ) p) he).1⟩, hF, hown⟩
        · cases h
      · rw [if_neg hk] at h; cases h
    · cases h
  · rw [if_neg hb] at h; cases h
theorem s_comp {elt tg iter : Expr} {ifs : List Expr} {sc : Scope} (ih : SE G C lev rec) (g : Good G C Wx lev X c) (h : compStep rec c elt tg iter ifs sc = some x) : PE X (.ListComp elt [⟨tg, iter, ifs, 0⟩] sc pos) (tK G Wx (evK C x)) := by
  obtain ⟨t, k, is, cs, y, own, rfl, ht, hI, B, p1, p2, p3, BM, hF, hown⟩ := comp_parts ih g h
  rw [ev_comp]
  cases q : c.blk with
  | true => exact k_comp g.calm (by rw [g.hN]; exact g.nd) hI B p1 p2 p3 hF hown
  | false => exact k_compX g.calm (by rw [g.hN]; exact g.nd) (g.at_ q) hI B BM hF hown

theorem pps_of (ih : SE G C lev rec) (g : Good G C Wx lev X c) : ∀ {keys : List (Option Expr)} {values es : List Expr} {xs : List Ex}, flatE keys values = some es → mapO (rec c) es = some xs →
    keys.all (·.isSome) = true ∧ keys.length = values.length ∧ ∃ trs, PPs X pos keys values trs ∧ ∀ σ H Q, tDs G Wx (evDs C xs) σ H (fun vs H' => ∀ ps, flatV ps = vs → Q ps H') → tPairs trs σ H Q
  | [], [], es, xs, h, hm => by
    cases h
    rw [mapO_nil hm]
    refine ⟨rfl, rfl, [], pps_nil, fun σ H Q q => ?_⟩
    obtain ⟨φ, ρ, S, R, sl, q⟩ := q
    rw [ev_ds0] at q
    exact q [] H φ (Ext.refl _ _) R (by show Rps G φ H [] []; unfold Rps; rfl) [] rfl
  | some k :: ks, v :: vs, es, xs, h, hm => by
    obtain ⟨r, hr, rfl⟩ := Option.map_eq_some_iff.mp (show (flatE ks vs).map (fun r => k :: v :: r) = some es from h)
    obtain ⟨xk, xs1, hk, hm1, rfl⟩ := mapO_cons hm
    obtain ⟨xv, xs2, hv, hm2, rfl⟩ := mapO_cons hm1
    obtain ⟨h1, h2, trs, hp, hq⟩ := pps_of ih g hr hm2
    refine ⟨by rw [List.all_cons, h1]; try rfl, by rw [List.length_cons, List.length_cons, h2], _ :: trs, pps_cons (k_D (ih g hk).1) (k_D (ih g hv).1) hp, fun σ H Q q => ?_⟩
    rw [ev_ds, ev_ds] at q
    refine tI.bd (F := fun d ρ S => ((evD C xv ρ S).bd fun d2 S => (evDs C xs2 ρ S).bd fun ds S => Mi.R.ok (d2 :: ds) S).bd fun ds S => Mi.R.ok (d :: ds) S) q fun φ ρ S x φ1 H1 d S1 R sl e R1 l h => ?_
    rw [bd_bd] at h
    refine tI.next R sl e R1 h fun y H2 φ2 d2 S2 e2 R2 l2 h2 => hq _ _ _ ?_
    rw [bd_bd] at h2
    refine tI.next (L := RlDs G) R sl (e.trans e2) R2 h2 fun us H3 φ3 ds S3 e3 R3 l3 h3 ps hps => ?_
    refine Post.ok (L := RlDs G) (a := d :: d2 :: ds) (b := x :: y :: us) h3 ((e.trans e2).trans e3) R3 ?_ ((x, y) :: ps) (by rw [← hps]; try rfl)
    show Rps G φ3 H3 (d :: d2 :: ds) (x :: y :: us)
    unfold Rps
    refine ⟨x, y :: us, rfl, Rp.mono ((e2.trans e3).toKeep R1) _ _ l, ?_⟩
    unfold Rps
    exact ⟨y, us, rfl, Rp.mono (e3.toKeep R2) _ _ l2, l3⟩
  | some k :: ks, [], es, xs, h, hm => by cases h
  | none :: ks, v, es, xs, h, hm => by cases v <;> cases h
  | [], v :: vs, es, xs, h, hm => by cases h
theorem s_dict {keys : List (Option Expr)} {values : List Expr} (ih : SE G C lev rec) (g : Good G C Wx lev X c) (h : eStep rec c (.Dict keys values pos) = some x) : PE X (.Dict keys values pos) (tK G Wx (evK C x)) := by
  dsimp only [eStep] at h
  split at h
  · rename_i es he
    by_cases hl : keys.length ≤ 15
    · rw [if_pos hl] at h
      obtain ⟨xs, hx, rfl⟩ := Option.map_eq_some_iff.mp h
      rw [ev_dict]
      cases keys with
      | nil =>
        cases values with
        | cons _ _ => cases he
        | nil =>
          cases he
          rw [mapO_nil hx, ev_ds0]
          exact k_dsp0
      | cons k ks =>
        obtain ⟨h1, h2, trs, hp, hq⟩ := pps_of (pos := pos) ih g he hx
        exact k_dsp hp h1 h2 (by simp) hl hq
    · rw [if_neg hl] at h; cases h
  · cases h
theorem s_srt {n k y : Str} {es : List Expr} {p pf kpos : Pos} (ih : SE G C lev rec) (g : Good G C Wx lev X c) (h : srtStep rec c n es k y = some x) : PE X (.Call (.Name n p) es [⟨some k, .Name y pf, kpos⟩] pos) (tK G Wx (evK C x)) := by
  unfold srtStep at h
  split at h
  · rename_i a
    by_cases hk : (c.blt n && decide (n = ("sorted" : Str)) && decide (k = ("key" : Str)) && !isStar a && c.glb y && okName y) = true
    · rw [if_pos hk] at h
      simp only [Bool.and_eq_true, Bool.not_eq_true', decide_eq_true_eq] at hk
      obtain ⟨⟨⟨⟨⟨k1, rfl⟩, rfl⟩, k4⟩, k5⟩, k6⟩ := hk
      split at h
      · rename_i i mm xa hi ha
        cases h
        rw [ev_srt]
        exact k_srt (x := "sorted") (k := "key") g k1 k5 hi k6 k4 (ih g ha).1
      · cases h
    · rw [if_neg hk] at h; cases h
  · cases h
theorem s_step (ih : SE G C lev rec) : SE G C lev (eStep rec) := by
  intro Wx X c e x g h
  cases e with
  | Name n pos => exact s_name g h
  | Constant k kd pos => exact s_const h
  | BinOp a op b pos => exact s_bin ih g h
  | UnaryOp op a pos => exact s_un ih g h
  | BoolOp op es pos => exact s_bool ih g h
  | IfExp t a b pos => exact s_ite ih g h
  | Compare a ops es pos => exact s_cmp ih g h
  | Call f es kw pos =>
    dsimp only [eStep] at h
    split at h
    · cases f with
      | Name n p => exact both (s_call ih g h)
      | Attribute o m apos =>
        dsimp only at h
        by_cases hl : (apos.endLine == pos.line) = false
        · rw [if_pos hl] at h; cases h
        · rw [if_neg hl] at h
          exact both (s_meth ih g (by simpa using hl) h)
      | _ => cases h
    · cases f with
      | Name n p => exact both (s_srt ih g h)
      | _ => cases h
    · cases h
  | Dict keys values pos => exact both (s_dict ih g h)
  | Subscript a b pos => exact both (s_ix ih g h)
  | Tuple es k pos => exact s_tup ih g h
  | List es pos => exact s_list ih g h
  | ListComp elt gs sc pos =>
    dsimp only [eStep] at h
    split at h
    · exact both (s_comp ih g h)
    · cases h
  | JoinedStr es pos =>
    dsimp only [eStep] at h
    split at h
    · obtain ⟨xs, hx, rfl⟩ := Option.map_eq_some_iff.mp h
      obtain ⟨ts, hp, hq⟩ := s_fmts ih g hx
      refine both ?_
      rw [ev_fst]
      exact (pe_joined hp).im fun σ H Q q => hq _ _ _ _ q
    · cases h
  | _ => cases h
theorem s_all : ∀ n : Nat, SE G C lev (cE n)
  | 0 => fun _ h => by cases h
  | n + 1 => s_step (s_all n)
end
end Mi

/-! Mi, part T: except suites: what they say, and that it is so. -/
namespace Mi
open PySem L2 PyProof.Rows RT RZ

/-! ### the translation -/
def clsKs (c : Ct) (x : Str) : Option KS := if (c.glb x && okName x) = true then match c.gl.lookup x with
  | some (.exc _ ks) => some ks
  | some (.bex _ ks) => some ks
  | some (.kls ks) => some ks
  | _ => none
  else none
def hndKs (c : Ct) (x : Str) : Option KS := if (c.glb x && okName x) = true then match c.gl.lookup x with
  | some (.exc _ ks) => some ks
  | _ => none
  else none
def clsE (c : Ct) : Expr → Option KS
  | .Name x _ => clsKs c x
  | _ => none
def xiE (c : Ct) (n : Str) : Expr → Option (List KS)
  | .Call (.Name f _) [.Name y _, t] [] _ => if (decide (f = ("isinstance" : Str)) && c.blt f && decide (y = n)) = true then match t with
      | .Name x p => (clsE c (.Name x p)).map fun ks => [ks]
      | .Tuple es _ _ => if es.length ≤ 100 then mapO (clsE c) es else none
      | _ => none
    else none
  | _ => none
def sxE (c : Ct) (n : Str) : Stmt → Option Sx
  | .Assign [.Name y _] (.List es _) _ => if (c.loc y && !decide (y = n)) = true then match ixOf c.N y, mapO (xiE c n) es with
      | some j, some xs => some (.lis j xs)
      | _, _ => none
    else none
  | .Expr (.Call (.Attribute (.Name y _) m ap) [a] [] p) _ => if (decide (m = ("append" : Str)) && c.vis y && okName y && !decide (y = n) && ap.endLine == p.line) = true then match ixOf c.N y, xiE c n a with
      | some j, some x => some (.app j x)
      | _, _ => none
    else none
  | _ => none

/-! ### it is so -/
/-- of one exception in an except suite: its class, its object -/
structure Caught (G : Gb) (ce : Nat) (Dc : Addr) (oe : Obj) : Prop where
  cls : G.exc ce = some (.ref Dc)
  ok : ExcC G.K Dc
  z : L2.Zc (.ref Dc) none oe
  f : ∃ vs, oe.data = .fields vs
/-- a new tuple may stand -/
def tXi (G : Gb) (i : Nat) (a : Addr) (b : V) : TE := fun σ H Q => σ[i]? = some (some (.ref a)) ∧ ∃ φ S, Rel G φ H S ∧ ∀ H', Ext φ H φ H' → Rel G φ H' S → Q b H'
def tXs (G : Gb) (i : Nat) (a : Addr) (bs : List V) : TA := fun σ H Q => σ[i]? = some (some (.ref a)) ∧ ∃ φ S, Rel G φ H S ∧ ∀ H', Ext φ H φ H' → Rel G φ H' S → Q bs H'
section
variable {G : Gb} {C : Calls} {Wx : WX} {lev : Nat} {X : Cx} {c : Ct} {n : Str} {i ce : Nat} {a Dc : Addr} {oe : Obj} {pn : List (Addr × Obj)}
theorem ixOf_ne {N : List Str} {x y : Str} {i j : Nat} (h : ixOf N x = some i) (h2 : ixOf N y = some j) (ne : y ≠ x) : j ≠ i := by
  intro e
  have h3 := ixOf_get h
  have h4 := ixOf_get h2
  rw [e, h3] at h4
  exact ne (Option.some.inj h4).symm
/-- a class by its name -/
theorem cls_at (g : Good G C Wx lev X c) {e : Expr} {ks : KS} (h : clsE c e = some ks) : ∃ (cv : V) (cu : Value), ClsV cv cu ∧ Below G ks cu ∧ isStar e = false ∧ PE (X.suite a pn) e (tC cv) := by
  cases e with
  | Name x p =>
    have h : clsKs c x = some ks := h
    unfold clsKs at h
    by_cases k : (c.glb x && okName x) = true
    · rw [if_pos k] at h
      obtain ⟨k1, k2⟩ := Bool.and_eq_true_iff.mp k
      obtain ⟨n1, n2, n3⟩ := okName_of k2
      split at h
      · rename_i kk ks' hl
        cases h
        obtain ⟨Ca, _, _, _, _, _, _, gC, _, _, _, _, hb⟩ := (g.exc x kk _ hl).ex
        exact ⟨.ref Ca, .ref Ca, .own Ca, hb, rfl, pe_glob (X := X.suite a pn) (g.glb x k1) gC rfl n1⟩
      · rename_i nn ks' hl
        cases h
        obtain ⟨m1, m2, hb⟩ := g.bex x nn _ hl
        exact ⟨.ty nn, .type nn, .ty nn, hb, rfl, pe_bltn (X := X.suite a pn) (g.glb x k1) m1 m2 rfl n3 n1⟩
      · rename_i ks' hl
        cases h
        obtain ⟨Ca, gC, hb⟩ := g.kls x _ hl
        exact ⟨.ref Ca, .ref Ca, .own Ca, hb, rfl, pe_glob (X := X.suite a pn) (g.glb x k1) gC rfl n1⟩
      · cases h
    · rw [if_neg k] at h; cases h
  | _ => cases h
theorem clss_at (g : Good G C Wx lev X c) : ∀ {es : List Expr} {x : List KS}, mapO (clsE c) es = some x → ∃ (cvs : List V) (cus : List Value) (t : TA), Paired ClsV cvs cus ∧ Paired (fun ks cu => Below G ks cu) x cus ∧ es.any isStar = false ∧ PA (X.suite a pn) es t ∧ cvs.length = es.length ∧ ∀ σ H (Q : List V → Hp → Prop), Q cvs H → t σ H Q
  | [], x, h => by
    rw [mapO_nil h]
    exact ⟨[], [], _, .nil, .nil, rfl, pa_nil, rfl, fun σ H Q q => q⟩
  | e :: es, x, h => by
    obtain ⟨b, bs, h1, h2, rfl⟩ := mapO_cons h
    obtain ⟨cv, cu, p1, p2, p3, p4⟩ := cls_at (a := a) (pn := pn) g h1
    obtain ⟨cvs, cus, t, q1, q2, q3, q4, q5, q6⟩ := clss_at g h2
    exact ⟨cv :: cvs, cu :: cus, _, .cons p1 q1, .cons p2 q2, by rw [List.any_cons, p3, q3]; try rfl, pa_cons p4 q4 (star_cons p3), by simp [q5], fun σ H Q q => q6 σ H _ q⟩
/-- what isinstance says -/
theorem isX_any (hc : G.exc ce = some (.ref Dc)) : ∀ {x : List KS} {cus : List Value} {b : Bool}, Paired (fun ks cu => Below G ks cu) x cus → isX ce x = some b → PySem.W.kitAny G.K (.ref Dc) cus = some b
  | [], _, b, .nil, h => by cases h; rfl
  | ks :: r, _, b, .cons hb hr, h => by
    unfold isX at h
    cases h1 : ks.lookup ce with
    | none => rw [h1] at h; cases h
    | some b1 =>
      cases h2 : isX ce r with
      | none => rw [h1, h2] at h; cases h
      | some b2 =>
        rw [h1, h2] at h
        cases h
        obtain ⟨Da, e1, _, e3, _⟩ := hb ce b1 h1
        rw [hc] at e1
        cases e1
        unfold PySem.W.kitAny
        rw [e3]
        cases b1 with
        | true => rfl
        | false => exact isX_any hc hr h2
theorem xi_ok (g : Good G C Wx lev X c) (K : Caught G ce Dc oe) (hi : ixOf c.N n = some i) (hv : c.vis n = true) (hn : okName n = true) {e : Expr} {x : List KS} {b : Bool} (h : xiE c n e = some x) (hx : isX ce x = some b) :
    isStar e = false ∧ PE (X.suite a ((a, oe) :: pn)) e (tXi G i a (.bl b)) := by
  unfold xiE at h
  split at h
  · rename_i f fp y yp t cp
    by_cases k : (decide (f = ("isinstance" : Str)) && c.blt f && decide (y = n)) = true
    · rw [if_pos k] at h
      simp only [Bool.and_eq_true, decide_eq_true_eq] at k
      obtain ⟨⟨rfl, k2⟩, rfl⟩ := k
      obtain ⟨h1, hm⟩ := blt_of g k2 (by decide +kernel)
      obtain ⟨n1, n2, n3⟩ := okName_of hn
      have var : PE (X.suite a ((a, oe) :: pn)) (.Name y yp) (tVar i) := pe_var (by show X.N[i]? = _; rw [g.hN]; exact ixOf_get hi) (g.vis y hv) n1 n2
      have CE : ExcC (X.suite a ((a, oe) :: pn)).K Dc := by show ExcC X.K Dc; rw [g.hK]; exact K.ok
      split at h
      · rename_i xn xp
        obtain ⟨ks, hk, rfl⟩ := Option.map_eq_some_iff.mp h
        obtain ⟨cv, cu, p1, p2, p3, p4⟩ := cls_at (a := a) (pn := (a, oe) :: pn) g hk
        have ka := isX_any K.cls (.cons p2 .nil) hx
        refine ⟨rfl, (pe_callB (call_isE CE K.z K.f) (g.glb _ h1) hm boot_isinstance (pa_cons var (pa_cons p4 pa_nil (star_cons p3)) (star_cons rfl)) (by decide) (by decide) (star_cons rfl) (by rw [star_cons p3]; try rfl)).im fun σ H Q q => ?_⟩
        obtain ⟨q1, φ, S, R, q2⟩ := q
        refine ⟨.ref a, q1, cv, cu, b, rfl, fun u r => p1.eq r, ?_, q2 H (Ext.refl _ _) R⟩
        show PySem.W.kitOne X.K (.ref Dc) cu = some b
        rw [g.hK]
        unfold PySem.W.kitAny at ka
        cases z : PySem.W.kitOne G.K (.ref Dc) cu with
        | none => rw [z] at ka; cases ka
        | some kb =>
          rw [z] at ka
          cases kb with
          | true => cases ka; rfl
          | false => cases ka; rfl
      · rename_i es ek ep
        by_cases hl : es.length ≤ 100
        · rw [if_pos hl] at h
          obtain ⟨cvs, cus, t, q1, q2, q3, q4, q5, q6⟩ := clss_at (a := a) (pn := (a, oe) :: pn) g h
          have ka := isX_any K.cls q2 hx
          refine ⟨rfl, (pe_callB (call_isET CE K.z K.f) (g.glb _ h1) hm boot_isinstance (pa_cons var (pa_cons (pe_tup (pos := ep) (x1 := ek) q4) pa_nil rfl) (star_cons rfl)) (by decide) (by decide) (star_cons rfl) rfl).im fun σ H Q q => ?_⟩
          obtain ⟨z1, φ, S, R, z2⟩ := q
          refine ⟨.ref a, z1, q6 σ H _ ⟨?_, fun tp htp => ?_⟩⟩
          · rw [q5]
            exact Nat.le_trans hl (by decide)
          · refine ⟨tp, cvs, cus, b, rfl, upd_same, q1, by show PySem.W.kitAny X.K _ _ = _; rw [g.hK]; exact ka, ?_⟩
            exact z2 _ (Ext.fresh R htp _) (R.fresh htp _)
        · rw [if_neg hl] at h; cases h
      · cases h
    · rw [if_neg k] at h; cases h
  · cases h
theorem xis_ok (g : Good G C Wx lev X c) (K : Caught G ce Dc oe) (hi : ixOf c.N n = some i) (hv : c.vis n = true) (hn : okName n = true) : ∀ {es : List Expr} {xs : List (List KS)} {bs : List Bool}, mapO (xiE c n) es = some xs → mapO (isX ce) xs = some bs →
    PA (X.suite a ((a, oe) :: pn)) es (tXs G i a (bs.map V.bl))
  | [], xs, bs, h, hx => by
    rw [mapO_nil h] at hx
    rw [mapO_nil hx]
    refine pa_nil.im fun σ H Q q => ?_
    obtain ⟨_, φ, S, R, q2⟩ := q
    exact q2 H (Ext.refl _ _) R
  | e :: es, xs, bs, h, hx => by
    obtain ⟨x, xr, h1, h2, rfl⟩ := mapO_cons h
    obtain ⟨b, br, k1, k2, rfl⟩ := mapO_cons hx
    obtain ⟨p1, p2⟩ := xi_ok (a := a) (pn := pn) g K hi hv hn h1 k1
    refine (pa_cons p2 (xis_ok g K hi hv hn h2 k2) (star_cons p1)).im fun σ H Q q => ?_
    obtain ⟨q1, φ, S, R, q2⟩ := q
    refine ⟨q1, φ, S, R, fun H' e' R' => ⟨q1, φ, S, R', fun H'' e'' R'' => ?_⟩⟩
    exact q2 H'' (e'.trans e'') R''
/-- a statement of a suite -/
def tX1 (G : Gb) (i ce : Nat) (a : Addr) (x : Sx) : TS := fun D σ H => σ[i]? = some (some (.ref a)) ∧ ∃ φ ρ S ρ' S', Rel G φ H S ∧ Sl G φ H ρ σ ∧ exSx ce ρ S x = .ok .nx ρ' S' ∧
  ∀ σ' H' φ', Ext φ H φ' H' → Rel G φ' H' S' → Sl G φ' H' ρ' σ' → σ'[i]? = some (some (.ref a)) → D.nx σ' H'
theorem rps_bl {φ : List Addr} {H : Hp} : ∀ bs : List Bool, Rps G φ H (bs.map Mi.D.bl) (bs.map V.bl)
  | [] => by unfold Rps; rfl
  | b :: r => by
    rw [List.map_cons, List.map_cons]
    unfold Rps
    exact ⟨.bl b, _, rfl, by unfold Rp; rfl, rps_bl r⟩
theorem sx_ok (g : Good G C Wx lev X c) (K : Caught G ce Dc oe) (hi : ixOf c.N n = some i) (hv : c.vis n = true) (hn : okName n = true) {st : Stmt} {x : Sx} (h : sxE c n st = some x) (hx : ∃ ρ S ρ' S', exSx ce ρ S x = .ok .nx ρ' S') :
    PS (X.suite a ((a, oe) :: pn)) st (tX1 G i ce a x) := by
  unfold sxE at h
  split at h
  · rename_i y yp es ep sp
    by_cases k : (c.loc y && !decide (y = n)) = true
    · rw [if_pos k] at h
      simp only [Bool.and_eq_true, Bool.not_eq_true', decide_eq_false_iff_not] at k
      obtain ⟨k1, k2⟩ := k
      split at h
      · rename_i j xs hj hxs
        cases h
        have hne := ixOf_ne hi hj k2
        obtain ⟨ρ, S, ρ', S', hx⟩ := hx
        cases hb : mapO (isX ce) xs with
        | none => unfold exSx at hx; dsimp only at hx; rw [hb] at hx; cases hx
        | some bs =>
          obtain ⟨l1, l2⟩ := g.loc y k1
          have pg : PG (X.suite a ((a, oe) :: pn)) (.Name y yp) (gName j) := pg_name (by show X.N.Nodup; rw [g.hN]; exact g.nd) (by show X.N[j]? = _; rw [g.hN]; exact ixOf_get hj) l1 l2
          refine (ps_asg (pe_lst (pos := ep) (xis_ok (a := a) (pn := pn) g K hi hv hn hxs hb)) pg rfl rfl).im fun D σ H q => ?_
          obtain ⟨q1, φ, ρ1, S1, ρ2, S2, R, sl, he, q2⟩ := q
          unfold exSx at he
          dsimp only at he
          rw [hb] at he
          dsimp only at he
          by_cases hz : bs.length ≤ sizeLine
          · rw [if_pos hz] at he
            cases he
            refine ⟨q1, φ, S1, R, fun H' e' R' => ⟨by rw [List.length_map]; exact hz, fun p hp => ?_⟩⟩
            have E := Ext.fresh R' hp (.lst (bs.map V.bl))
            have nφ := R'.unk hp
            have RF := (R'.fresh hp (.lst (bs.map V.bl))).more (o := .lst (bs.map Mi.D.bl)) nφ ⟨_, upd_same, rps_bl bs⟩
            have kp : Keep φ (upd H' p (.lst (bs.map V.bl))) (φ ++ [p]) (upd H' p (.lst (bs.map V.bl))) := ⟨fun m b hm => by rw [List.getElem?_append_left (List.getElem?_eq_some_iff.mp hm).1]; exact hm, fun _ _ z => z, fun _ _ _ z => z⟩
            have EF : Ext φ H (φ ++ [p]) (upd H' p (.lst (bs.map V.bl))) := by
              refine ⟨List.prefix_append _ _, (e'.trans E).keep, fun z hz => ?_⟩
              rcases List.mem_append.mp hz with w | w
              · exact .inl w
              · rw [List.mem_singleton.mp w]
                exact .inr (e'.fr R' p hp)
            refine q2 _ _ (φ ++ [p]) EF RF ?_ (by rw [List.getElem?_set_ne hne]; exact q1)
            refine ((sl.mono (e'.toKeep R)).mono (E.toKeep R')).mono kp |>.set j ?_
            unfold Rp
            exact ⟨p, rfl, by rw [← R.len]; simp⟩
          · rw [if_neg hz] at he; cases he
      · cases h
    · rw [if_neg k] at h; cases h
  · rename_i y yp m ap ea cp sp
    by_cases k : (decide (m = ("append" : Str)) && c.vis y && okName y && !decide (y = n) && ap.endLine == cp.line) = true
    · rw [if_pos k] at h
      simp only [Bool.and_eq_true, Bool.not_eq_true', decide_eq_false_iff_not, decide_eq_true_eq] at k
      obtain ⟨⟨⟨⟨rfl, k2⟩, k3⟩, k4⟩, k5⟩ := k
      split at h
      · rename_i j xx hj hxx
        cases h
        obtain ⟨ρ, S, ρ', S', hx⟩ := hx
        cases hb : isX ce xx with
        | none => unfold exSx at hx; dsimp only at hx; rw [hb] at hx; cases hx
        | some b =>
          obtain ⟨m1, m2, m3⟩ := okName_of k3
          have var : PE (X.suite a ((a, oe) :: pn)) (.Name y yp) (tVar j) := pe_var (by show X.N[j]? = _; rw [g.hN]; exact ixOf_get hj) (g.vis y k2) m1 m2
          obtain ⟨p1, p2⟩ := xi_ok (a := a) (pn := pn) g K hi hv hn hxx hb
          have hfew : ((backTo cp (starEach [ea] (X.suite a ((a, oe) :: pn)).env)).all (fun x => !x.1) && (backToKw cp (keywordEach [] (X.suite a ((a, oe) :: pn)).env)).all (fun x => x.1.isSome) && decide ([ea].length + ([] : List Keyword).length + (if ([] : List Keyword).isEmpty then 0 else 1) < 30)) = true := by
            rw [star_cons p1]; try rfl
          refine (ps_expr (pe_bm PySem.F.plainAttrs_list PySem.F.slot_list_append PySem.F.type_list_append mt_append var (pa_cons p2 pa_nil (star_cons p1)) rfl hfew k5 (star_cons p1) rfl) rfl).im fun D σ H q => ?_
          obtain ⟨q1, φ, ρ1, S1, ρ2, S2, R, sl, he, q2⟩ := q
          unfold exSx at he
          dsimp only at he
          rw [hb] at he
          cases hr : ρ1[j]? with
          | none => simp only [hr] at he; cases he
          | some o =>
            cases o with
            | none => simp only [hr] at he; cases he
            | some d =>
              simp only [hr] at he
              cases d with
              | ref nn =>
                dsimp only at he
                cases hs : S1[nn]? with
                | none => simp only [hs] at he; cases he
                | some oo =>
                  simp only [hs] at he
                  cases oo with
                  | lst ds =>
                    dsimp only at he
                    by_cases hz : ds.length < sizeLine
                    · rw [if_pos hz] at he
                      cases he
                      obtain ⟨v, v1, v2⟩ := sl.2 j _ hr
                      unfold Rp at v2
                      obtain ⟨p, rfl, hp⟩ := v2
                      obtain ⟨vs, w1, w2⟩ := R.obj nn p _ hp hs
                      refine ⟨.ref p, v1, .inl ⟨rfl, vs, SqL.of w1⟩, q1, φ, S1, R, fun H' e' R' => ?_⟩
                      obtain ⟨vs', u1, u2⟩ := R'.obj nn p _ hp hs
                      refine ⟨p, vs', .bl b, rfl, rfl, u1, by rw [← u2.len]; exact hz, ?_⟩
                      have kp := keep_write (u := .lst (vs' ++ [.bl b])) R' hp
                      have E := Ext.write (u := .lst (vs' ++ [.bl b])) R' hp
                      refine q2 σ _ φ (e'.trans E) (R'.write hp ⟨_, upd_same, ?_⟩) ((sl.mono (e'.toKeep R)).mono kp) q1
                      exact Rps.snoc (Rps.mono kp _ _ u2) (by unfold Rp; rfl)
                    · rw [if_neg hz] at he; cases he
                  | _ => cases he
              | _ => cases he
      · cases h
    · rw [if_neg k] at h; cases h
  · cases h
end
end Mi

/-! Mi, part J: the translation of statements, and that it tells the truth. -/
namespace Mi
open PySem L2 PyProof.Rows RT RZ

/-! ### the translation -/
def isComp : Expr → Bool
  | .ListComp _ _ _ _ => true | .SetComp _ _ _ _ => true | .DictComp _ _ _ _ _ => true | _ => false
def isTup : Expr → Bool
  | .Tuple _ _ _ => true | _ => false
/-- the name is stored ahead of the block's end -/
def swB (c : Ct) (y : Str) (py pos : Pos) (sc : Scope) : Bool := decide (c.sc.names.lookup y = some .local) && py.line == pos.line && !(sc.names.any fun (n, k) => n == y && (k == .local || k == .cell))
def isSub : Expr → Bool
  | .Subscript _ i _ => !isSlice i
  | _ => false
/-- x, y = a, b: the stores are swapped -/
def parB (c : Ct) (x y : Str) (px py : Pos) (a b : Expr) : Bool :=
  decide (c.sc.names.lookup x = some .local) && decide (c.sc.names.lookup y = some .local) && (py.line == px.line) && !(x == y) && !isStar a && !isStar b && !([a, b].all (foldedForSure 8)) && !([a, b].all (constantsAlone 8))
def parStep (n : Nat) (c : Ct) (tg e : Expr) : Option Stm := match tg, e with
  | .Tuple [.Name x px, .Name y py] _ _, .Tuple [a, b] _ _ => if parB c x y px py a b = true then match ixOf c.N x, ixOf c.N y, cE n c a, cE n c b with
      | some i, some j, some a, some b => if i = j then none else some (.par i j a b)
      | _, _, _, _ => none
    else none
  | _, _ => none
def rseStep (c : Ct) (e : Expr) : Option Stm := match e with
  | .Call (.Name x _) [.Constant (.str _) _ _] [] _ => if (c.glb x && okName x) = true then match c.gl.lookup x with
      | some (.exc k _) => some (.rse k)
      | _ => none
    else none
  | _ => none
/-- the body of a try -/
abbrev Ct.body (c : Ct) (m : Bool) : Ct := ⟨c.N, c.gl, c.sc, m, c.blk, false⟩
/-- try .. except X: raise Y(..) else: ..; try .. except X as n: .. -/
def tryStep (rec : Ct → List Stmt → Option (List Stm)) (c : Ct) (body : List Stmt) (hd : ExceptHandler) (els : List Stmt) : Option Stm := match hd with
  | .ExceptHandler (some (.Name x _)) none [.Raise (some e) none _] _ => if (!c.m && c.top) = true then match hndKs c x, rseStep c e, rec (c.body true) body, rec c els with
      | some ks, some (.rse k), some b, some e => some (.tryR b ks k e)
      | _, _, _, _ => none
    else none
  | .ExceptHandler (some (.Name x _)) (some n) (s :: su) _ => if (!c.m && decide (c.sc.names.lookup n = some .local) && okName n && els.isEmpty) = true then match hndKs c x, ixOf c.N n, mapO (sxE c n) (s :: su), rec (c.body false) body with
      | some ks, some i, some su, some b => some (.tryA b ks i su)
      | _, _, _, _ => none
    else none
  | _ => none
def sStep (n : Nat) (rec : Ct → List Stmt → Option (List Stm)) (c : Ct) : Stmt → Option Stm
  | .Assign [tg] e _ => match tg with
    | .Subscript o i _ => if isSlice i = true then none else match cE n c o, cE n c i, cE n c e with
      | some o, some i, some e => some (.setIx o i e)
      | _, _, _ => none
    | tg => if isTup tg && isTup e then parStep n c tg e else match tgE c tg, cE n c e with
      | some t, some e => some (.set t e)
      | _, _ => none
  | .AugAssign (.Name x _) op e _ => if c.loc x = true then match ixOf c.N x, op, cE n c e with
      | some i, .Add, some e => some (.aug i .add e)
      | some i, .Sub, some e => some (.aug i .sub e)
      | _, _, _ => none
    else none
  | .Expr e _ => match e with
    | .Constant (.str _) _ _ => some .pass
    | e => if isComp e = true then none else (cE n c e).map .exp
  | .Return (some e) _ => (cE n c e).map .ret
  | .Return none _ => some (.ret (.c .non))
  | .If t a b _ => match cE n c t, rec c a, rec c b with
    | some t, some a, some b => some (.iff t a b)
    | _, _, _ => none
  | .For tg iter body [] _ => if isSet iter = true then none else match tgE c tg, cI n c iter, rec c body with
    | some t, some (k, is), some b => if tupT k tg = true then some (.for_ t k is b) else none
    | _, _, _ => none
  | .While t body [] _ => match cE n c t, rec c body with
    | some t, some b => some (.whl t b)
    | _, _ => none
  | .Raise (some e) none _ => rseStep c e
  | .Try body [hd] els [] _ => tryStep rec c body hd els
  | .Pass _ => some .pass
  | .Break _ => some .brk
  | .Continue _ => some .cnt
  | _ => none
def cSs (n : Nat) : Nat → Ct → List Stmt → Option (List Stm)
  | 0 => fun _ _ => none
  | m + 1 => fun c l => mapO (sStep n (cSs n m) c) l

section
variable {C : Calls}
theorem ex_set {t : Tg} {e : Ex} : exS C (.set t e) = setA t (evD C e) := by funext ρ S; rw [exS]; try rfl
theorem ex_setIx {o i e : Ex} : exS C (.setIx o i e) = fun ρ S => (evD C e ρ S).st ρ fun d S => (evK C o ρ S).st ρ fun x S => (evK C i ρ S).st ρ fun y S => match setItem x y d S with
    | some S => .ok .nx ρ S
    | none => .bad := by funext ρ S; rw [exS]; try rfl
theorem ex_exp {e : Ex} : exS C (.exp e) = fun ρ S => (evK C e ρ S).st ρ fun _ S => .ok .nx ρ S := by funext ρ S; rw [exS]
theorem ex_ret {e : Ex} : exS C (.ret e) = fun ρ S => (evD C e ρ S).st ρ fun d S => .ok (.rt d) ρ S := by funext ρ S; rw [exS]
theorem ex_iff {c : Ex} {a b : List Stm} : exS C (.iff c a b) = fun ρ S => (evB C c ρ S).st ρ fun k S => if k = true then exSs C a ρ S else exSs C b ρ S := by funext ρ S; rw [exS]
theorem ex_for {t : Tg} {k : IK} {is : List Ex} {b : List Stm} : exS C (.for_ t k is b) = fun ρ S => (itA C k is ρ S).st ρ fun I S => forL I.live (bodyA t (exSs C b)) I.items ρ S := by
  funext ρ S
  rw [exS]
  unfold itA
  cases evWs C is ρ S with
  | ok ws S1 =>
    show _ = (itsA k ws S1).st ρ _
    unfold itsA
    show (match its k ws S1 with | some I => _ | none => _) = _
    cases its k ws S1 with
    | none => rfl
    | some I => rfl
  | ex c fs S => rfl
  | bad => rfl
theorem ex_whl {c : Ex} {b : List Stm} : exS C (.whl c b) = fun ρ S => whileR (evB C c) (exSs C b) ρ S := by funext ρ S; rw [exS]
theorem ex_brk : exS C .brk = fun ρ S => .ok .brk ρ S := by funext ρ S; rw [exS]
theorem ex_cnt : exS C .cnt = fun ρ S => .ok .cnt ρ S := by funext ρ S; rw [exS]
theorem ex_pass : exS C .pass = fun ρ S => .ok .nx ρ S := by funext ρ S; rw [exS]
theorem ex_aug {i : Nat} {o : P2} {e : Ex} : exS C (.aug i o e) = fun ρ S => match ρ[i]? with
    | some (some x) => (evK C e ρ S).st ρ fun y S => match augV o x y with
      | some d => .ok .nx (ρ.set i (some d)) S
      | none => .bad
    | _ => .bad := by funext ρ S; rw [exS]; try rfl
theorem ex_par {i j : Nat} {a b : Ex} : exS C (.par i j a b) = fun ρ S => (evDs C [a, b] ρ S).st ρ fun ds S => parS i j ds ρ S := by funext ρ S; rw [exS]
theorem ex_rse {k : Nat} : exS C (.rse k) = fun ρ S => .ex k [] ρ S := by funext ρ S; rw [exS]
theorem ex_thru {b e : List Stm} : exS C (.thru b e) = fun ρ S => (exSs C b ρ S).nox.sq fun ρ S => exSs C e ρ S := by funext ρ S; rw [exS]
theorem ex_tryR {b : List Stm} {ks : KS} {k : Nat} {e : List Stm} : exS C (.tryR b ks k e) = fun ρ S => (exSs C b ρ S).els (fun ρ S => exSs C e ρ S) fun r => r.catR ks k := by funext ρ S; rw [exS]
theorem ex_tryA {b : List Stm} {ks : KS} {i : Nat} {su : List Sx} : exS C (.tryA b ks i su) = fun ρ S => (exSs C b ρ S).catA ks i su := by funext ρ S; rw [exS]
theorem ex_ss0 : exSs C [] = fun ρ S => .ok .nx ρ S := by funext ρ S; rw [exSs]
theorem ex_ss {s : Stm} {r : List Stm} : exSs C (s :: r) = fun ρ S => (exS C s ρ S).sq fun ρ S => exSs C r ρ S := by funext ρ S; rw [exSs]
end

/-! ### it tells the truth -/
structure GoodS (G : Gb) (C : Calls) (Wx : WX) (lev : Nat) (X : Cx) (c : Ct) : Prop extends Good G C Wx lev X c where
  sc : X.env.scope = c.sc
  kind : c.sc.kind = .function
  own : PassesOwn (model X.prog X.w) X.A X.env X.xe
  hb : c.blk = false
  opa : c.top = true → ∀ hd : Option Value, PassesOwnAt (model X.prog X.w) (X.A.mark hd) X.A X.env X.xe
def SS (G : Gb) (C : Calls) (lev : Nat) (rec : Ct → List Stmt → Option (List Stm)) : Prop := ∀ {Wx : WX} {X : Cx} {c : Ct} {l : List Stmt} {x : List Stm}, GoodS G C Wx lev X c → rec c l = some x → PSs X l (tS G Wx (exSs C x))
section
variable {G : Gb} {C : Calls} {lev n : Nat} {rec : Ct → List Stmt → Option (List Stm)} {Wx : WX} {X : Cx} {c : Ct} {x : Stm} {pos : Pos} {D : Ends}
theorem sw_no {e : Expr} {t : Option Expr} {l : Nat} {env : PySem.Env} (h : isComp e = false) : swapsWith e t l env = pure false := by
  cases e <;> first | rfl | cases h
theorem sw_val {elt : Expr} {gs : List Comprehension} {sc : Scope} {pos py : Pos} {y : Str} {l : Nat} (g : GoodS G C Wx lev X c) : swapsWith (.ListComp elt gs sc pos) (some (.Name y py)) l X.env = pure (swB c y py pos sc) := by
  have hb : X.env.blockKind = .function := by unfold Env.blockKind; rw [g.sc, g.kind]; try rfl
  unfold swapsWith swB
  have hk : X.env.kindOf y = c.sc.names.lookup y := by unfold Env.kindOf; rw [g.sc]
  simp only [hb, hk, Expr.pos]
  have e : (c.sc.names.lookup y == some NameKind.local) = decide (c.sc.names.lookup y = some NameKind.local) := by
    by_cases q : c.sc.names.lookup y = some NameKind.local
    · rw [q]; try rfl
    · rw [decide_eq_false q]; simpa using q
  rw [← e]
  try rfl
theorem t_exp {e : Expr} {y : Ex} (g : GoodS G C Wx lev X c) (h : cE n c e = some y) (hc : isComp e = false) : PS X (.Expr e pos) (tS G Wx (exS C (.exp y))) := by
  rw [ex_exp]
  exact k_exp (s_all n g.toGood h).1 (sw_no hc)
theorem t_aug {y : Str} {py : Pos} {op : Operator} {e : Expr} (g : GoodS G C Wx lev X c) (h : sStep n rec c (.AugAssign (.Name y py) op e pos) = some x) : PS X (.AugAssign (.Name y py) op e pos) (tS G Wx (exS C x)) := by
  dsimp only [sStep] at h
  by_cases hl : c.loc y = true
  · rw [if_pos hl] at h
    obtain ⟨l1, l2⟩ := g.loc y hl
    have hnd : X.N.Nodup := by rw [g.hN]; exact g.nd
    split at h
    · rename_i i xe hi he
      cases h
      rw [ex_aug]
      exact (ps_aug hnd (by rw [g.hN]; exact ixOf_get hi) l1 (s_all n g.toGood he).1 ip_add l2).im fun _ _ _ q => aug_im augAdd q
    · rename_i i xe hi he
      cases h
      rw [ex_aug]
      exact (ps_aug hnd (by rw [g.hN]; exact ixOf_get hi) l1 (s_all n g.toGood he).1 ip_sub l2).im fun _ _ _ q => aug_im augSub q
    · cases h
  · rw [if_neg hl] at h; cases h

/-! ### o[i] = v -/
/-- the empty dict's keys may be tuples -/
theorem Inv.retype {pins : List (Addr × Obj)} {σ : L2.St} {H : Hp} {s : Shared} {a : Addr} (I : Inv X pins σ H s) (h : H a = some (.dK [])) : Inv X pins σ (upd H a (.dT [])) s := by
  obtain ⟨_, hd, vs, kv, o, es, ep, h1, h2, h3, h4⟩ := (show ObjOk X.prog X.w H s.heap a (.dK []) from I.hok a _ h)
  cases kv
  have he : es.toList = [] := by
    obtain ⟨_, p, _⟩ := h4
    generalize es.toList = l at p
    cases p
    rfl
  have q := I.write (x := a) (e := a) (o := .dT []) (h' := s.heap) (t' := s.toks) (by rw [h]; trivial) (.inl rfl) (fun _ _ _ e => e) ⟨o, h1⟩ ⟨Nat.zero_le _, hd, [], .nil, o, es, ep, h1, h2, h3, he, List.nodup_nil⟩
  exact q
def rIx (G : Gb) : TSet := fun o i v H Q => ∃ φ w1 w2 d S S', Rel G φ H S ∧ RpW G φ H w1 o ∧ RpW G φ H w2 i ∧ Rp G φ H d v ∧ setItem w1 w2 d S = some S' ∧ ∀ H', Ext φ H φ H' → Rel G φ H' S' → Q H'
theorem set_mi (hu : X.A.units + 64 < cLine) : PSet X (rIx G) := by
  intro pins s σ H o i v ov iv u Q I ro ri rv h
  obtain ⟨φ, w1, w2, d, S, S', R, r1, r2, rd, h, hQ⟩ := h
  have hu1 : X.A.units + 1 < cLine := by omega
  unfold Mi.setItem at h
  split at h
  · rename_i n
    unfold RpW Rp at r1
    obtain ⟨a, rfl, ha⟩ := r1
    split at h
    · rename_i ds hs
      split at h
      · rename_i k
        obtain ⟨j, hj, rfl⟩ := Option.map_eq_some_iff.mp h
        obtain ⟨vs, h1, h2⟩ := R.obj n a _ ha hs
        have e := rp_int r2
        subst e
        refine set_list pins s σ H _ _ v ov iv u Q I ro ri rv ⟨a, vs, k, j, rfl, rfl, h1, by rw [← h2.len]; exact hj, ?_⟩
        have kp := keep_write (u := .lst (vs.set j v)) R ha
        exact hQ _ (Ext.write R ha) (R.write ha ⟨_, upd_same, Rps.set (Rp.mono kp _ _ rd) j (Rps.mono kp _ _ h2)⟩)
      · cases h
    · rename_i o ho hs
      split at h
      · rename_i kd
        obtain ⟨o', ho', rfl⟩ := Option.map_eq_some_iff.mp h
        have r2 : Rp G φ H kd i := r2
        cases o with
        | lst ds => exact (ho ds rfl).elim
        | ins c fs => cases ho'
        | dk kvs =>
          obtain ⟨vs, h1, h2⟩ := R.obj n a _ ha hs
          unfold putO at ho'
          dsimp only at ho'
          cases hk : kd.key with
          | some k =>
            simp only [hk] at ho'
            by_cases hl : kvs.length < sizeLine
            · rw [if_pos hl] at ho'
              cases ho'
              have e := key_v hk r2
              subst e
              have kp := keep_write (u := .dK (putK vs k v)) R ha
              refine set_dict hu1 pins s σ H _ _ v ov iv u Q I ro ri rv ⟨a, _, rfl, DPut.k h1 (by rw [← h2.length]; exact hl), ?_⟩
              exact hQ _ (Ext.write R ha) (R.write ha ⟨_, upd_same, RpKV.mono kp _ _ (h2.put rd)⟩)
            · rw [if_neg hl] at ho'; cases ho'
          | none =>
            simp only [hk] at ho'
            cases hkt : kd.keyT with
            | none => simp only [hkt] at ho'; cases ho'
            | some k =>
              simp only [hkt] at ho'
              by_cases he : kvs.isEmpty = true
              · rw [if_pos he] at ho'
                cases ho'
                have e : kvs = [] := by simpa using he
                subst e
                have e : vs = [] := h2
                subst e
                obtain ⟨b, rfl, hb⟩ := keyT_v hkt r2
                have I2 := Inv.retype I h1
                have kp1 := keep_write (u := .dT []) R ha
                have hb2 : upd H a (.dT []) b = some (.tup (k.map kV)) := by
                  rw [upd_ne]
                  · exact hb
                  · rintro rfl; rw [h1] at hb; cases hb
                refine set_dict hu1 pins s σ _ _ _ v ov iv u Q I2 ro ri rv ⟨a, _, rfl, DPut.t (kvs := []) upd_same hb2 (by decide), ?_⟩
                have eu : upd (upd H a (.dT [])) a (.dT (putK [] k v)) = upd H a (.dT (putK [] k v)) := upd_upd
                rw [eu]
                have kp := keep_write (u := .dT (putK [] k v)) R ha
                exact hQ _ (Ext.write R ha) (R.write ha ⟨_, upd_same, v, [], rfl, Rp.mono kp _ _ rd, rfl⟩)
              · rw [if_neg he] at ho'; cases ho'
        | dt kvs =>
          obtain ⟨vs, h1, h2⟩ := R.obj n a _ ha hs
          unfold putO at ho'
          dsimp only at ho'
          cases hkt : kd.keyT with
          | none => simp only [hkt] at ho'; cases ho'
          | some k =>
            simp only [hkt] at ho'
            by_cases hl : kvs.length < sizeLine
            · rw [if_pos hl] at ho'
              cases ho'
              obtain ⟨b, rfl, hb⟩ := keyT_v hkt r2
              have kp := keep_write (u := .dT (putK vs k v)) R ha
              refine set_dict hu1 pins s σ H _ _ v ov iv u Q I ro ri rv ⟨a, _, rfl, DPut.t h1 hb (by rw [← h2.length]; exact hl), ?_⟩
              exact hQ _ (Ext.write R ha) (R.write ha ⟨_, upd_same, RpKV.mono kp _ _ (h2.put rd)⟩)
            · rw [if_neg hl] at ho'; cases ho'
      · cases h
    · cases h
  · cases h

/-! ### name = .., a, b = .., o[i] = .. -/
theorem t_ix {o i e : Expr} {tpos : Pos} {xo xi xe : Ex} (g : GoodS G C Wx lev X c) (ho : cE n c o = some xo) (hi : cE n c i = some xi) (he : cE n c e = some xe) (hs : isSlice i = false) :
    PS X (.Assign [.Subscript o i tpos] e pos) (tS G Wx (exS C (.setIx xo xi xe))) := by
  have hsw : swapsWithSole [.Subscript o i tpos] e pos.line X.env = pure false := by cases e <;> rfl
  have hw : swappedStores [.Subscript o i tpos] e X.env = pure none := by cases e <;> rfl
  have hg : PG X (.Subscript o i tpos) (gSub (tK G Wx (evK C xo)) (tK G Wx (evK C xi)) (rIx G)) := pg_sub (s_all n g.toGood ho).1 (s_all n g.toGood hi).1 (set_mi g.hu) (by intro _; cases i <;> first | rfl | cases hs)
  refine (ps_asg (k_D (s_all n g.toGood he).1) hg hsw hw).im fun D σ H q => ?_
  rw [ex_setIx] at q
  refine tS.bd (F := fun d ρ S => (evK C xo ρ S).st ρ fun x S => (evK C xi ρ S).st ρ fun y S => match Mi.setItem x y d S with
    | some S => .ok .nx ρ S
    | none => .bad) q fun φ ρ S v φ1 H1 d S1 R sl e R1 l h => ?_
  refine tS.next (L := RlW G) (F := fun x S => (evK C xi ρ S).st ρ fun y S => match Mi.setItem x y d S with
    | some S => .ok .nx ρ S
    | none => .bad) R sl e R1 h fun vo H2 φ2 xo S2 e2 R2 l2 h2 => ?_
  refine tS.next (L := RlW G) (F := fun y S => match Mi.setItem xo y d S with
    | some S => .ok .nx ρ S
    | none => .bad) R sl (e.trans e2) R2 h2 fun vi H3 φ3 xi S3 e3 R3 l3 h3 => ?_
  cases qi : Mi.setItem xo xi d S3 with
  | none => simp only [qi] at h3; exact h3.elim
  | some S4 =>
    simp only [qi] at h3
    refine ⟨φ3, xo, xi, d, S3, S4, R3, RpW.mono e3 R2 l2.1, l3.1, Rp.mono ((e2.trans e3).toKeep R1) _ _ l, qi, fun H4 e4 R4 => ?_⟩
    exact h3 σ H4 φ3 (((e.trans e2).trans e3).trans e4) R4 (sl.mono ((((e.trans e2).trans e3).trans e4).toKeep R))
theorem t_set {tg e : Expr} {t : Tg} {xe : Ex} (g : GoodS G C Wx lev X c) (ht : tgE c tg = some t) (he : cE n c e = some xe) (hh : (isTup tg && isTup e) = false) : PS X (.Assign [tg] e pos) (tS G Wx (exS C (.set t xe))) := by
  have hg := s_tg g.toGood ht
  have h3 : (assignEach [tg] X.env).map (·.2) = [assign tg X.env] := by
    unfold tgE at ht
    split at ht <;> first | rfl | cases ht
  have plain : swapsWithSole [tg] e pos.line X.env = pure false → swappedStores [tg] e X.env = pure none → PS X (.Assign [tg] e pos) (tS G Wx (exS C (.set t xe))) := by
    intro h1 h2
    rw [ex_set]
    exact (ps_asg (k_D (s_all n g.toGood he).1) hg h1 h2 (h1 := h3)).im fun _ _ _ q => set_im q
  have hw : swappedStores [tg] e X.env = pure none := by
    unfold tgE at ht
    split at ht
    · cases e <;> rfl
    · cases e <;> first | rfl | cases hh
    · cases ht
  by_cases hc : isComp e = false
  · exact plain (sw_no hc) hw
  · unfold tgE at ht
    split at ht
    · rename_i y py
      cases e <;> try exact absurd rfl hc
      · rename_i elt gs sc lpos
        have sv : swapsWithSole [.Name y py] (.ListComp elt gs sc lpos) pos.line X.env = pure (swB c y py lpos sc) := sw_val (l := pos.line) g
        cases hb : swB c y py lpos sc with
        | false => rw [hb] at sv; exact plain sv hw
        | true =>
          rw [hb] at sv
          unfold swB at hb
          simp only [Bool.and_eq_true, decide_eq_true_eq] at hb
          have hyl : X.env.scope.names.lookup y = some .local := by rw [g.sc]; exact hb.1.1
          by_cases hl : c.loc y = true
          · rw [if_pos hl] at ht
            obtain ⟨i, hi, rfl⟩ := Option.map_eq_some_iff.mp ht
            cases n with
            | zero => cases he
            | succ m =>
              have he : eStep (cE m) c (.ListComp elt gs sc lpos) = some xe := he
              dsimp only [eStep] at he
              split at he
              · obtain ⟨t2, k, is, cs, z, own, rfl, ht2, hI, B, p1, p2, p3, BM, hF, hown⟩ := comp_parts (s_all m) g.toGood he
                refine (k_setX g.calm (by rw [g.hN]; exact g.nd) (g.at_ g.hb) (by rw [g.hN]; exact ixOf_get hi) hyl sv hI B BM hF hown).im fun D σ H q => ?_
                rw [ex_set] at q
                show tK G Wx _ σ H _
                rw [← ev_comp]
                have q := set_imK q
                rw [g.hb] at q
                exact q
              · cases he
          · rw [if_neg hl] at ht; cases ht
      · cases n with
        | zero => cases he
        | succ n => cases he
      · cases n with
        | zero => cases he
        | succ n => cases he
    · refine plain ?_ hw
      cases e <;> rfl
    · cases ht

theorem t_par {tg e : Expr} (g : GoodS G C Wx lev X c) (h : parStep n c tg e = some x) : PS X (.Assign [tg] e pos) (tS G Wx (exS C x)) := by
  unfold parStep at h
  split at h
  · rename_i x1 px y1 py k1 p1 a b k2 p2
    by_cases hp : parB c x1 y1 px py a b = true
    · rw [if_pos hp] at h
      split at h
      · rename_i i j xa xb hi hj ha hb
        by_cases hij : i = j
        · rw [if_pos hij] at h; cases h
        · rw [if_neg hij] at h
          cases h
          unfold parB at hp
          simp only [Bool.and_eq_true, Bool.not_eq_true', decide_eq_true_eq] at hp
          obtain ⟨⟨⟨⟨⟨⟨⟨h1, h2⟩, h3⟩, h4⟩, h5⟩, h6⟩, h7⟩, h8⟩ := hp
          have e1 : X.env.scope.names.lookup x1 = some .local := by rw [g.sc]; exact h1
          have e2 : X.env.scope.names.lookup y1 = some .local := by rw [g.sc]; exact h2
          have hbk : X.env.blockKind = .function := by unfold Env.blockKind; rw [g.sc, g.kind]; try rfl
          have k1' : X.env.kindOf x1 = some .local := e1
          have k2' : X.env.kindOf y1 = some .local := e2
          have hne : (y1 == x1) = false := by
            rw [Bool.eq_false_iff]
            intro z
            have z : y1 = x1 := by simpa using z
            rw [z] at h4
            simp at h4
          have hw : swappedStores [.Tuple [.Name x1 px, .Name y1 py] k1 p1] (.Tuple [a, b] k2 p2) X.env = pure (some [x1, y1]) := by
            unfold swappedStores
            simp only [pure_bind, hbk]
            rw [if_neg (by simp)]
            rw [if_neg (by
              rw [Bool.not_eq_true]
              simp only [List.any_cons, List.any_nil, Bool.or_eq_false_iff]
              first
                | exact ⟨h5, h6⟩
                | exact ⟨h5, h6, trivial⟩)]
            have hn : ([Expr.Name x1 px, Expr.Name y1 py].filterMap fun
              | .Name id pos => if (X.env.kindOf id == some .local && pos.line == (([Expr.Name x1 px, Expr.Name y1 py].head?.map (·.pos.line)).getD 0)) = true then some id else none
              | _ => none) = [x1, y1] := by
              simp only [List.filterMap_cons, List.filterMap_nil, List.head?_cons, Option.map_some, Option.getD_some, Expr.pos, k1', k2', h3, beq_self_eq_true, Bool.and_self, if_true]
              try rfl
            have he : ([x1, y1].eraseDups.length != [x1, y1].length) = false := by
              simp [List.eraseDups_cons, hne]
            generalize hg : ([Expr.Name x1 px, Expr.Name y1 py].filterMap _) = l
            have hl : l = [x1, y1] := by rw [← hg]; exact hn
            subst hl
            rw [if_neg (by rw [he]; simp), if_neg (by rw [h7]; simp), if_neg (by rw [h8]; simp)]
          rw [ex_par]
          have hA : PA X [a, b] (tDs G Wx (evDs C [xa, xb])) := by
            rw [ev_ds, ev_ds, ev_ds0]
            exact ka_cons (k_D (s_all n g.toGood ha).1) (ka_cons (k_D (s_all n g.toGood hb).1) ka_nil (star_cons h6)) (star_cons h5)
          refine (ps_par g.calm (by rw [g.hN]; exact g.nd) (by rw [g.hN]; exact ixOf_get hi) (by rw [g.hN]; exact ixOf_get hj) hij e1 e2 hA hw).im fun D σ H q => ?_
          refine tS.bd (F := fun ds ρ S => parS i j ds ρ S) q fun φ ρ S vs φ1 H1 ds S1 R sl e R1 l h => ?_
          have l : Rps G φ1 H1 ds vs := l
          unfold parS at h
          split at h
          · rename_i d1 d2
            unfold Rps at l
            obtain ⟨v1, t, rfl, r1, l⟩ := l
            unfold Rps at l
            obtain ⟨v2, t2, rfl, r2, l⟩ := l
            unfold Rps at l
            subst l
            exact ⟨v1, v2, rfl, h _ H1 φ1 e R1 (((sl.mono (e.toKeep R)).set i r1).set j r2)⟩
          · exact h.elim
      · cases h
    · rw [if_neg hp] at h; cases h
  · cases h
theorem rse_of {e : Expr} (h : rseStep c e = some x) : ∃ y py m j mp cp k ks, e = .Call (.Name y py) [.Constant (.str m) j mp] [] cp ∧ c.glb y = true ∧ okName y = true ∧ c.gl.lookup y = some (.exc k ks) ∧ x = .rse k := by
  unfold rseStep at h
  split at h
  · rename_i y py m j mp cp
    by_cases hk : (c.glb y && okName y) = true
    · rw [if_pos hk] at h
      obtain ⟨k1, k2⟩ := Bool.and_eq_true_iff.mp hk
      split at h
      · rename_i k ks hl
        cases h
        exact ⟨y, py, m, j, mp, cp, k, ks, rfl, k1, k2, hl, rfl⟩
      · cases h
    · rw [if_neg hk] at h; cases h
  · cases h
theorem t_rse {e : Expr} (g : GoodS G C Wx lev X c) (h : rseStep c e = some x) : PS X (.Raise (some e) none pos) (tS G Wx (exS C x)) := by
  obtain ⟨y, py, m, j, mp, cp, k, ks, rfl, k1, k2, hl, rfl⟩ := rse_of h
  rw [ex_rse]
  obtain ⟨Ca, bmB, B, ni, ii, F, q, gC, kC, r1, r2, hx, _⟩ := (g.exc y k ks hl).ex
  have tk := (g.at_ g.hb).tk
  have fin : ∀ D σ H, tS G Wx (fun ρ S => .ex k [] ρ S) D σ H → Wx (.ref Ca) none σ H := fun D σ H t => by
    obtain ⟨φ, ρ, S, R, sl, t⟩ := t
    exact t _ _ σ H φ (Ext.refl _ _) R sl ⟨hx, .inl ⟨rfl, rfl⟩⟩
  cases hm : c.m with
  | true =>
    rw [hm] at tk
    exact (L2N.ps_raise g.calm tk (L2N.pmk_own F q gC kC (raises_own r1 r2) (g.glb y k1) (okName_of k2).1)).im fun D σ H t => fin D σ H t
  | false =>
    rw [hm] at tk
    exact (L2.ps_raise g.calm tk (L2.pmk_own F q gC kC (raises_own r1 r2) (g.glb y k1) (okName_of k2).1)).im fun D σ H t => fin D σ H t
/-- the body of a try -/
theorem GoodS.body (g : GoodS G C Wx lev X c) {m : Bool} {W : WX} {pn : List (Addr × Obj)} {xe : Value → Shared → Prop} (tk : TakesM m (X.tr pn xe) W) (own : PassesOwn (model X.prog X.w) X.A X.env xe) : GoodS G C W lev (X.tr pn xe) (c.body m) :=
  { hK := g.hK, hN := g.hN, nd := g.nd, vis := g.vis, glb := g.glb, loc := g.loc, cf := g.cf, calm := g.calm, hu := g.hu, room := g.room
    fns := fun x i m' h => ⟨(g.fns x i m' h).ex⟩
    cst := g.cst, blt := g.blt
    exc := fun x k ks h => ⟨(g.exc x k ks h).ex⟩
    bex := g.bex
    kls := g.kls
    pas := fun σ pins H s e s' I cx => by
      cases m with
      | true => exact tk e s' (L2N.XE.of_call I (fun _ _ _ h => h) cx)
      | false => exact tk e s' (L2.XE.of_call I (fun _ _ _ h => h) cx)
    at_ := fun _ => ⟨(g.at_ g.hb).stk, (g.at_ g.hb).frm, tk⟩
    sc := g.sc, kind := g.kind, own := own, hb := g.hb
    opa := fun z => by cases z }
/-- the class that a clause names -/
theorem hnd_at (g : GoodS G C Wx lev X c) {y : Str} {ks : KS} (h : hndKs c y = some ks) : ∃ Ca : Addr, Names X y (.ref Ca) ∧ Below G ks (.ref Ca) := by
  unfold hndKs at h
  by_cases k : (c.glb y && okName y) = true
  · rw [if_pos k] at h
    obtain ⟨k1, k2⟩ := Bool.and_eq_true_iff.mp k
    split at h
    · rename_i kk ks' hl
      cases h
      obtain ⟨Ca, _, _, _, _, _, _, gC, _, _, _, _, hb⟩ := (g.exc y kk _ hl).ex
      exact ⟨Ca, ⟨g.glb y k1, (okName_of k2).1, .inl gC⟩, hb⟩
    · cases h
  · rw [if_neg k] at h; cases h
theorem t_tryR {body els : List Stmt} {y : Str} {e : Expr} {np rpos hpos : Pos} {xb xe : List Stm} {ks : KS} {k : Nat} (ih : SS G C lev rec) (g : GoodS G C Wx lev X c) (hm : c.m = false) (htop : c.top = true) (hk : hndKs c y = some ks) (hr : rseStep c e = some (.rse k)) (hb : rec (c.body true) body = some xb) (he : rec c els = some xe) :
    PS X (.Try body [.ExceptHandler (some (.Name y np)) none [.Raise (some e) none rpos] hpos] els [] pos) (tS G Wx (exS C (.tryR xb ks k xe))) := by
  obtain ⟨Cy, hnm, hbel⟩ := hnd_at g hk
  obtain ⟨z, py, m, j, mp, cp, k', ks', rfl, k1, k2, hl, hke⟩ := rse_of hr
  cases hke
  obtain ⟨Ca, bmB, B, ni, ii, F, q, gC, kC, r1, r2, hx, _⟩ := (g.exc z k ks' hl).ex
  have A := g.at_ g.hb
  have tk := A.tk
  rw [hm] at tk
  rw [ex_tryR]
  refine (ps_try_hotE (Wout := Wx) (tb := fun W => tS G W (exSs C xb)) (ts := fun _ _ _ _ σ H => Wx (.ref Ca) none σ H) (ih g he) A.stk A.frm hnm (g.opa htop) tk (fun W pn xe tk' own => ih (g.body (m := true) tk' own) hb)
    (fun a oe cls d pn hz hf tkS hot => pss_one (L2H.ps_raiseH hot tkS (L2N.pmk_own (X := L2H.suiteX X a ((a, oe) :: pn)) F q gC kC (raises_own r1 r2) (g.glb z k1) (okName_of k2).1)))).im fun D σ H q => ?_
  obtain ⟨φ, ρ, S, R, sl, h⟩ := q
  dsimp only at h
  refine ⟨φ, ρ, S, R, sl, ?_⟩
  cases q : exSs C xb ρ S with
  | bad => rw [q] at h; exact h
  | ok f ρ1 S1 =>
    rw [q] at h
    cases f with
    | nx => exact fun σ' H' φ' e R' sl' => tS.go e R' sl' h
    | brk => exact h
    | cnt => exact h
    | rt d => exact h
  | ex ce fs ρ1 S1 =>
    rw [q] at h
    have h : PostS G Wx φ H (match ks.lookup ce with
      | some true => .ex k [] ρ1 S1
      | some false => .ex ce fs ρ1 S1
      | none => .bad) D := h
    intro cls dx σ' H' φ' e' R' sl' xx
    cases hlk : ks.lookup ce with
    | none => rw [hlk] at h; exact h.elim
    | some b =>
      obtain ⟨Da, e1, e2, _, _⟩ := hbel ce b hlk
      have ec : cls = .ref Da := Option.some.inj (xx.1.symm.trans e1)
      refine ⟨b, by rw [ec, g.hK]; exact e2, fun hbt a _ => ?_, fun hbf => ?_⟩
      · rw [hbt] at hlk
        rw [hlk] at h
        exact h _ _ σ' H' φ' e' R' sl' ⟨hx, .inl ⟨rfl, rfl⟩⟩
      · rw [hbf] at hlk
        rw [hlk] at h
        exact h cls dx σ' H' φ' e' R' sl' xx
theorem exSx_or {ce : Nat} {ρ : Env} {S : Store} {x : Sx} : exSx ce ρ S x = .bad ∨ ∃ ρ' S', exSx ce ρ S x = .ok .nx ρ' S' := by
  cases x with
  | lis j xs =>
    unfold exSx
    dsimp only
    split
    · split
      · exact .inr ⟨_, _, rfl⟩
      · exact .inl rfl
    · exact .inl rfl
  | app j x =>
    unfold exSx
    dsimp only
    split
    · split
      · split
        · exact .inr ⟨_, _, rfl⟩
        · exact .inl rfl
      · exact .inl rfl
    · exact .inl rfl
/-- a suite -/
def tXL (G : Gb) (i ce : Nat) (a : Addr) (su : List Sx) : TS := fun D σ H => σ[i]? = some (some (.ref a)) ∧ ∃ φ ρ S, Rel G φ H S ∧ Sl G φ H ρ σ ∧ PostS G WxF φ H (exSxs ce su ρ S) D
theorem sxs_ok {n : Str} {i ce : Nat} {a Dc : Addr} {oe : Obj} {pn : List (Addr × Obj)} (g : Good G C Wx lev X c) (K : Caught G ce Dc oe) (hi : ixOf c.N n = some i) (hv : c.vis n = true) (hn : okName n = true) : ∀ {l : List Stmt} {su : List Sx}, mapO (sxE c n) l = some su → PSs (X.suite a ((a, oe) :: pn)) l (tXL G i ce a su)
  | [], su, h => by
    rw [mapO_nil h]
    refine pss_nil.im fun D σ H q => ?_
    obtain ⟨_, φ, ρ, S, R, sl, q⟩ := q
    exact q σ H φ (Ext.refl _ _) R sl
  | st :: l, su, h => by
    obtain ⟨x, r, h1, h2, rfl⟩ := mapO_cons h
    refine ⟨fun pins s σ H D I q => ?_⟩
    obtain ⟨q1, φ, ρ, S, R, sl, q2⟩ := q
    have q2 : PostS G WxF φ H ((exSx ce ρ S x).sq fun ρ S => exSxs ce r ρ S) D := q2
    rcases exSx_or (ce := ce) (ρ := ρ) (S := S) (x := x) with z | ⟨ρ', S', z⟩
    · rw [z] at q2; exact q2.elim
    · refine (pss_cons (sx_ok g K hi hv hn h1 ⟨ρ, S, ρ', S', z⟩) (sxs_ok g K hi hv hn h2)).run pins s σ H D I ⟨q1, φ, ρ, S, ρ', S', R, sl, z, fun σ' H' φ' e R' sl' w => ?_⟩
      rw [z] at q2
      exact ⟨w, φ', ρ', S', R', sl', PostS.sh (S1 := S') q2 e⟩
theorem Sl.hide {φ : List Addr} {H : Hp} {ρ : Env} {σ : L2.St} (sl : Sl G φ H ρ σ) (i : Nat) (v : Option V) : Sl G φ H (ρ.set i none) (σ.set i v) := by
  refine ⟨by rw [List.length_set, List.length_set]; exact sl.1, fun j d h => ?_⟩
  by_cases e : i = j
  · subst e
    by_cases hl : i < ρ.length
    · rw [List.getElem?_set_self hl] at h; cases h
    · rw [List.getElem?_eq_none (by rw [List.length_set]; omega)] at h; cases h
  · rw [List.getElem?_set_ne e] at h ⊢
    exact sl.2 j d h
theorem exSxs_or {ce : Nat} : ∀ {su : List Sx} {ρ : Env} {S : Store}, exSxs ce su ρ S = .bad ∨ ∃ ρ' S', exSxs ce su ρ S = .ok .nx ρ' S'
  | [], ρ, S => .inr ⟨ρ, S, rfl⟩
  | x :: r, ρ, S => by
    show ((exSx ce ρ S x).sq fun ρ S => exSxs ce r ρ S) = .bad ∨ ∃ ρ' S', ((exSx ce ρ S x).sq fun ρ S => exSxs ce r ρ S) = .ok .nx ρ' S'
    rcases exSx_or (ce := ce) (ρ := ρ) (S := S) (x := x) with z | ⟨ρ1, S1, z⟩
    · rw [z]; exact .inl rfl
    · rw [z]; exact exSxs_or (su := r) (ρ := ρ1) (S := S1)
theorem t_tryA {body : List Stmt} {y n : Str} {s0 : Stmt} {st : List Stmt} {np hpos : Pos} {xb : List Stm} {ks : KS} {i : Nat} {su : List Sx} (ih : SS G C lev rec) (g : GoodS G C Wx lev X c) (hm : c.m = false) (hn : c.sc.names.lookup n = some .local) (hok : okName n = true) (hk : hndKs c y = some ks) (hi : ixOf c.N n = some i) (hsu : mapO (sxE c n) (s0 :: st) = some su) (hb : rec (c.body false) body = some xb) :
    PS X (.Try body [.ExceptHandler (some (.Name y np)) (some n) (s0 :: st) hpos] [] [] pos) (tS G Wx (exS C (.tryA xb ks i su))) := by
  obtain ⟨Cy, hnm, hbel⟩ := hnd_at g hk
  have A := g.at_ g.hb
  have tk := A.tk
  rw [hm] at tk
  have hv : c.vis n = true := by unfold Ct.vis; rw [hn]
  rw [ex_tryA]
  refine (L2.ps_try_as (i := i) (Wout := Wx) (tb := fun W => tS G W (exSs C xb)) (ts := fun a cls d D σ H => ∃ ce Dc, cls = .ref Dc ∧ d = none ∧ G.exc ce = some (.ref Dc) ∧ ExcC G.K Dc ∧ (i < σ.length → σ[i]? = some (some (.ref a))) ∧ ∃ φ ρ S, Rel G φ H S ∧ Sl G φ H ρ σ ∧ PostS G WxF φ H (exSxs ce su ρ S) D) A.stk A.frm (by rw [g.hN]; exact g.nd) (by rw [g.hN]; exact ixOf_get hi) (by show X.env.scope.names.lookup n = _; rw [g.sc]; exact hn) hnm tk (fun W pn xe tk' own => ih (g.body (m := false) tk' own) hb)
    (fun a oe cls d pn hz hf => ⟨fun pins s σ H D I q => ?_⟩)).im fun D σ H q => ?_
  · obtain ⟨ce, Dc, rfl, rfl, e1, e2, q0, q⟩ := q
    have hlen : i < σ.length := by
      rw [I.len]
      show i < X.N.length
      rw [g.hN]
      exact (List.getElem?_eq_some_iff.mp (ixOf_get hi)).1
    exact (sxs_ok g.toGood ⟨e1, e2, hz, hf⟩ hi hv hok hsu).run pins s σ H D I ⟨q0 hlen, q⟩
  · obtain ⟨φ, ρ, S, R, sl, h⟩ := q
    dsimp only at h
    refine ⟨φ, ρ, S, R, sl, ?_⟩
    cases q : exSs C xb ρ S with
    | bad => rw [q] at h; exact h
    | ok f ρ1 S1 => rw [q] at h; cases f <;> exact h
    | ex ce fs ρ1 S1 =>
      rw [q] at h
      have h : PostS G Wx φ H (match ks.lookup ce with
        | some true => if fs.isEmpty = true then (exSxs ce su (ρ1.set i none) S1).gone i else .bad
        | some false => .ex ce fs ρ1 S1
        | none => .bad) D := h
      intro cls dx σ' H' φ' e' R' sl' xx
      cases hlk : ks.lookup ce with
      | none => rw [hlk] at h; exact h.elim
      | some b =>
        obtain ⟨Da, e1, e2, _, e4⟩ := hbel ce b hlk
        have ec : cls = .ref Da := Option.some.inj (xx.1.symm.trans e1)
        refine ⟨b, by rw [ec, g.hK]; exact e2, fun hbt a ha => ?_, fun hbf => ?_⟩
        · rw [hbt] at hlk
          rw [hlk] at h
          have h : PostS G Wx φ H (if fs.isEmpty = true then (exSxs ce su (ρ1.set i none) S1).gone i else .bad) D := h
          by_cases hfs : fs.isEmpty = true
          · rw [if_pos hfs] at h
            have hfs : fs = [] := by simpa using hfs
            have hd : dx = none := by
              rcases xx.2 with ⟨_, w⟩ | ⟨w, _⟩
              · exact w
              · exact absurd hfs w
            refine ⟨ce, Da, ec, hd, e1, e4, fun hil => List.getElem?_set_self (by rw [List.length_set] at hil; exact hil), φ', ρ1.set i none, S1, R', sl'.hide i _, ?_⟩
            rcases exSxs_or (ce := ce) (su := su) (ρ := ρ1.set i none) (S := S1) with w | ⟨ρ2, S2, w⟩
            · rw [w] at h; exact h.elim
            · rw [w] at h ⊢
              intro σ2 H2 φ2 e3 R2 sl2
              exact h _ H2 φ2 (e'.trans e3) R2 (sl2.unset i)
          · rw [if_neg hfs] at h; exact h.elim
        · rw [hbf] at hlk
          rw [hlk] at h
          exact h cls dx σ' H' φ' e' R' sl' xx
theorem ts_step {m : Nat} {st : Stmt} (ih : SS G C lev rec) (g : GoodS G C Wx lev X c) (h : sStep n rec c st = some x) : PS X st (tS G Wx (exS C x)) := by
  cases st with
  | Assign tgs e pos =>
    cases tgs with
    | nil => cases h
    | cons tg r =>
      cases r with
      | cons _ _ => cases h
      | nil =>
        have plain : ((if (isTup tg && isTup e) = true then parStep n c tg e else match tgE c tg, cE n c e with
          | some t, some e => some (.set t e)
          | _, _ => none) = some x) → PS X (.Assign [tg] e pos) (tS G Wx (exS C x)) := by
          intro h
          by_cases hh : (isTup tg && isTup e) = true
          · rw [if_pos hh] at h; exact t_par g h
          · rw [if_neg hh] at h
            split at h
            · rename_i t xe ht he
              cases h
              exact t_set g ht he (by simpa using hh)
            · cases h
        cases tg with
        | Subscript o i tpos =>
          have h : (if isSlice i = true then none else match cE n c o, cE n c i, cE n c e with
            | some o, some i, some e => some (Stm.setIx o i e)
            | _, _, _ => none) = some x := h
          by_cases hs : isSlice i = true
          · rw [if_pos hs] at h; cases h
          · rw [if_neg hs] at h
            split at h
            · rename_i xo xi xe ho hi he
              cases h
              exact t_ix g ho hi he (by simpa using hs)
            · cases h
        | _ => exact plain h
  | AugAssign tg op e pos =>
    cases tg with
    | Name y py => exact t_aug (rec := rec) g h
    | _ => cases h
  | Expr e pos =>
    have go : ((if isComp e = true then none else (cE n c e).map Stm.exp) = some x) → PS X (.Expr e pos) (tS G Wx (exS C x)) := by
      intro h
      by_cases hc : isComp e = true
      · rw [if_pos hc] at h; cases h
      · rw [if_neg hc] at h
        obtain ⟨y, hy, rfl⟩ := Option.map_eq_some_iff.mp h
        exact t_exp g hy (by simpa using hc)
    cases e with
    | Constant k kd cpos =>
      cases k with
      | str z =>
        cases h
        rw [ex_pass]
        exact k_doc
      | _ => exact go h
    | _ => exact go h
  | Return o pos =>
    cases o with
    | none =>
      cases h
      refine (ps_retN (pos := pos)).im fun D σ H q => ?_
      rw [ex_ret] at q
      obtain ⟨φ, ρ, S, R, sl, q⟩ := q
      have q : PostS G Wx φ H (((evK C (.c .non) ρ S).bd toD).st ρ fun d S => .ok (.rt d) ρ S) D := q
      rw [ev_c] at q
      exact q .non H φ (Ext.refl _ _) R (by unfold Rp; rfl)
    | some e =>
      obtain ⟨y, hy, rfl⟩ := Option.map_eq_some_iff.mp (show (cE n c e).map Stm.ret = some x from h)
      rw [ex_ret]
      exact k_ret (k_D (s_all n g.toGood hy).1)
  | If t a b pos =>
    have h : (match cE n c t, rec c a, rec c b with
      | some t, some a, some b => some (Stm.iff t a b)
      | _, _, _ => none) = some x := h
    split at h
    · rename_i xt xa xb ht ha hb
      cases h
      rw [ex_iff]
      exact k_if (s_all n g.toGood ht).2 (ih g ha) (ih g hb)
    · cases h
  | For tg iter body els pos =>
    cases els with
    | cons _ _ => cases h
    | nil =>
      have h : (if isSet iter = true then none else match tgE c tg, cI n c iter, rec c body with
        | some t, some (k, is), some b => if tupT k tg = true then some (Stm.for_ t k is b) else none
        | _, _, _ => none) = some x := h
      by_cases hs : isSet iter = true
      · rw [if_pos hs] at h; cases h
      · rw [if_neg hs] at h
        split at h
        · rename_i t k is b ht hi hb
          by_cases hk : tupT k tg = true
          · rw [if_pos hk] at h
            cases h
            rw [ex_for]
            exact k_for g.own g.calm (s_it (s_all n) g.toGood hi hk) (s_tg g.toGood ht) (ih g hb) (fold_ok (by simpa using hs))
          · rw [if_neg hk] at h; cases h
        · cases h
  | While t body els pos =>
    cases els with
    | cons _ _ => cases h
    | nil =>
      have h : (match cE n c t, rec c body with
        | some t, some b => some (Stm.whl t b)
        | _, _ => none) = some x := h
      split at h
      · rename_i xt xb ht hb
        cases h
        rw [ex_whl]
        exact k_whl g.own (s_all n g.toGood ht).2 (ih g hb)
      · cases h
  | Raise e cz pos =>
    cases e with
    | none => cases h
    | some e =>
      cases cz with
      | some _ => cases h
      | none => exact t_rse g h
  | Try body hds els fin pos =>
    cases hds with
    | nil => cases h
    | cons hd hds =>
      cases hds with
      | cons _ _ => cases h
      | nil =>
        cases fin with
        | cons _ _ => cases h
        | nil =>
          have h : tryStep rec c body hd els = some x := h
          unfold tryStep at h
          split at h
          · by_cases k : (!c.m && c.top) = true
            · rw [if_pos k] at h
              rw [Bool.and_eq_true, Bool.not_eq_true'] at k
              split at h
              · rename_i h1 h2 h3 h4
                cases h
                exact t_tryR ih g k.1 k.2 h1 h2 h3 h4
              · cases h
            · rw [if_neg k] at h; cases h
          · rename_i nn su0 su1 _ _
            by_cases k : (!c.m && decide (c.sc.names.lookup nn = some .local) && okName nn && els.isEmpty) = true
            · rw [if_pos k] at h
              simp only [Bool.and_eq_true, Bool.not_eq_true', decide_eq_true_eq] at k
              obtain ⟨⟨⟨k1, k2⟩, k3⟩, k4⟩ := k
              have k4 : els = [] := by simpa using k4
              split at h
              · rename_i h1 h2 h3 h4
                cases h
                rw [k4]
                exact t_tryA ih g k1 k2 k3 h1 h2 h3 h4
              · cases h
            · rw [if_neg k] at h; cases h
          · cases h
  | Pass pos => cases h; rw [ex_pass]; exact k_pass
  | Break pos => cases h; rw [ex_brk]; exact k_brk
  | Continue pos => cases h; rw [ex_cnt]; exact k_cnt
  | _ => cases h
theorem ss_step {l : List Stmt} {xs : List Stm} (ih : SS G C lev rec) (g : GoodS G C Wx lev X c) (h : mapO (sStep n rec c) l = some xs) : PSs X l (tS G Wx (exSs C xs)) := by
  induction l generalizing xs with
  | nil => rw [mapO_nil h, ex_ss0]; exact k_nil
  | cons st l ihl =>
    obtain ⟨y, ys, h1, h2, rfl⟩ := mapO_cons h
    rw [ex_ss]
    exact k_cons (ts_step (m := 0) ih g h1) (ihl h2)
theorem ss_all : ∀ m : Nat, SS G C lev (cSs n m)
  | 0 => fun _ h => by cases h
  | m + 1 => fun g h => ss_step (ss_all m) g h
end
end Mi

/-! Mi, part K: a call's end; the defs. -/
namespace Mi
open PySem L2 PyProof.Rows RT RZ

section
variable {G : Gb} {φ φ' : List Addr} {H : Hp}
theorem get_back (p : φ <+: φ') {n : Nat} {a : Addr} (hn : n < φ.length) (h : φ'[n]? = some a) : φ[n]? = some a := by
  obtain ⟨t, rfl⟩ := p
  rw [List.getElem?_append_left hn] at h
  exact h
mutual
theorem Rp.back (p : φ <+: φ') : ∀ (d : Mi.D) (v : V), d.und φ.length = true → Rp G φ' H d v → Rp G φ H d v
  | .non, _, _, h => by unfold Rp at h ⊢; exact h
  | .bl _, _, _, h => by unfold Rp at h ⊢; exact h
  | .int _, _, _, h => by unfold Rp at h ⊢; exact h
  | .str _, _, _, h => by unfold Rp at h ⊢; exact h
  | .tup ds, _, u, h => by
    unfold Rp at h ⊢
    unfold D.und at u
    obtain ⟨a, vs, e, ha, hr⟩ := h
    exact ⟨a, vs, e, ha, Rps.back p ds vs u hr⟩
  | .ls ds, _, u, h => by
    unfold Rp at h ⊢
    unfold D.und at u
    obtain ⟨a, vs, e, ha, hr⟩ := h
    exact ⟨a, vs, e, ha, Rps.back p ds vs u hr⟩
  | .kt ds, _, u, h => by
    unfold Rp at h ⊢
    unfold D.und at u
    obtain ⟨a, vs, e, ha, hr⟩ := h
    exact ⟨a, vs, e, ha, Rps.back p ds vs u hr⟩
  | .ref n, _, u, h => by
    unfold Rp at h ⊢
    unfold D.und at u
    obtain ⟨a, e, ha⟩ := h
    exact ⟨a, e, get_back p (of_decide_eq_true u) ha⟩
theorem Rps.back (p : φ <+: φ') : ∀ (ds : List Mi.D) (vs : List V), D.unds φ.length ds = true → Rps G φ' H ds vs → Rps G φ H ds vs
  | [], _, _, h => by unfold Rps at h ⊢; exact h
  | d :: ds, _, u, h => by
    unfold Rps at h ⊢
    unfold D.unds at u
    rw [Bool.and_eq_true] at u
    obtain ⟨v, r, e, h1, h2⟩ := h
    exact ⟨v, r, e, Rp.back p d v u.1 h1, Rps.back p ds r u.2 h2⟩
end
theorem RpKV.back {κ : Type} (p : φ <+: φ') : ∀ {kvs : List (κ × Mi.D)} {vs : List (κ × V)}, D.unds φ.length (kvs.map (·.2)) = true → RpKV G φ' H kvs vs → RpKV G φ H kvs vs
  | [], _, _, h => h
  | q :: r, _, u, h => by
    rw [List.map_cons] at u
    unfold D.unds at u
    rw [Bool.and_eq_true] at u
    obtain ⟨v, t, e, h1, h2⟩ := h
    exact ⟨v, t, e, Rp.back p _ v u.1 h1, RpKV.back p u.2 h2⟩
theorem RpO.back (p : φ <+: φ') {o : O} {a : Addr} (u : o.und φ.length = true) (h : RpO G φ' H o a) : RpO G φ H o a := by
  cases o with
  | lst ds => obtain ⟨vs, h1, h2⟩ := h; exact ⟨vs, h1, Rps.back p _ _ u h2⟩
  | dk ds => obtain ⟨vs, h1, h2⟩ := h; exact ⟨vs, h1, RpKV.back p u h2⟩
  | dt ds => obtain ⟨vs, h1, h2⟩ := h; exact ⟨vs, h1, RpKV.back p u h2⟩
  | ins c ds => obtain ⟨C, dx, vs, h0, h1, h2⟩ := h; exact ⟨C, dx, vs, h0, h1, RpKV.back p u h2⟩
mutual
theorem Rp.und : ∀ (d : Mi.D) (v : V), Rp G φ H d v → d.und φ.length = true
  | .non, _, _ => by unfold D.und; rfl
  | .bl _, _, _ => by unfold D.und; rfl
  | .int _, _, _ => by unfold D.und; rfl
  | .str _, _, _ => by unfold D.und; rfl
  | .tup ds, _, h => by
    unfold Rp at h
    unfold D.und
    obtain ⟨a, vs, e, ha, hr⟩ := h
    exact Rps.und ds vs hr
  | .ls ds, _, h => by
    unfold Rp at h
    unfold D.und
    obtain ⟨a, vs, e, ha, hr⟩ := h
    exact Rps.und ds vs hr
  | .kt ds, _, h => by
    unfold Rp at h
    unfold D.und
    obtain ⟨a, vs, e, ha, hr⟩ := h
    exact Rps.und ds vs hr
  | .ref n, _, h => by
    unfold Rp at h
    unfold D.und
    obtain ⟨a, e, ha⟩ := h
    exact decide_eq_true (List.getElem?_eq_some_iff.mp ha).1
theorem Rps.und : ∀ (ds : List Mi.D) (vs : List V), Rps G φ H ds vs → D.unds φ.length ds = true
  | [], _, _ => by unfold D.unds; rfl
  | d :: ds, _, h => by
    unfold Rps at h
    unfold D.unds
    obtain ⟨v, r, e, h1, h2⟩ := h
    rw [Rp.und d v h1, Rps.und ds r h2]
    try rfl
end
theorem RpKV.und {κ : Type} : ∀ {kvs : List (κ × Mi.D)} {vs : List (κ × V)}, RpKV G φ H kvs vs → D.unds φ.length (kvs.map (·.2)) = true
  | [], _, _ => by unfold D.unds; rfl
  | q :: r, _, h => by
    obtain ⟨v, t, e, h1, h2⟩ := h
    rw [List.map_cons]
    unfold D.unds
    rw [Rp.und _ v h1, RpKV.und h2]
    try rfl
theorem RpO.und {o : O} {a : Addr} (h : RpO G φ H o a) : o.und φ.length = true := by
  cases o with
  | lst ds => obtain ⟨vs, h1, h2⟩ := h; exact Rps.und _ _ h2
  | dk ds => obtain ⟨vs, h1, h2⟩ := h; exact RpKV.und h2
  | dt ds => obtain ⟨vs, h1, h2⟩ := h; exact RpKV.und h2
  | ins c ds => obtain ⟨C, dx, vs, h0, h1, h2⟩ := h; exact RpKV.und h2
theorem Rel.back {H' : Hp} {S S' : Store} (R : Rel G φ H S) (e : Ext φ H φ' H') (R' : Rel G φ' H' S') (k : keeps S S') : Rel G φ H' (S'.take S.length) := by
  have hl : S.length ≤ S'.length := by
    rw [← R.len, ← R'.len]
    obtain ⟨t, ht⟩ := e.pre
    rw [← ht, List.length_append]
    omega
  refine ⟨by rw [List.length_take, R.len]; omega, R.nd, fun n a o h1 h2 => ?_⟩
  have hn : n < S.length := by rw [← R.len]; exact (List.getElem?_eq_some_iff.mp h1).1
  rw [List.getElem?_take_of_lt hn] at h2
  have q := R'.obj n a o (e.get h1) h2
  refine RpO.back e.pre ?_ q
  rcases k n o hn h2 with z | z
  · exact RpO.und (R.obj n a o h1 z)
  · rw [R.len]; exact z
theorem Ext.back {H' : Hp} (e : Ext φ H φ' H') : Ext φ H φ H' := ⟨List.prefix_refl _, e.keep, fun _ h => .inl h⟩
theorem pack_post {S S' : Store} {d : Mi.D} {xk : XK} {Q : VK} (R : Rel G φ H S) (h : Post G (RlD G) φ H (pack S d S') xk Q) {v : V} {H' : Hp} (e : Ext φ H φ' H') (R' : Rel G φ' H' S') (r : Rp G φ' H' d v) : Q v H' := by
  unfold pack at h
  by_cases k : keeps S S'
  · rw [if_pos k] at h
    by_cases u : d.und S.length = true
    · rw [if_pos u] at h
      exact h v H' φ e.back (R.back e R' k) (Rp.back e.pre d v (by rw [R.len]; exact u) r)
    · rw [if_neg u] at h
      have keep : Post G (RlD G) φ H (.ok d S') xk Q → Q v H' := fun h => h v H' φ' e R' r
      cases d with
      | ref m =>
        dsimp only at h
        cases hm : S'[m]? with
        | none => rw [hm] at h; exact keep h
        | some o =>
          rw [hm] at h
          dsimp only at h
          by_cases uo : o.und S.length = true
          · rw [if_pos uo] at h
            unfold Rp at r
            obtain ⟨a, rfl, ha⟩ := r
            have hge : S.length ≤ m := by
              by_cases q : m < S.length
              · exact absurd (by unfold D.und; exact decide_eq_true q) u
              · omega
            have na : a ∉ φ := fun hmem => by
              obtain ⟨i, hi, ei⟩ := List.getElem_of_mem hmem
              have e1 : φ'[i]? = some a := e.get (by rw [List.getElem?_eq_getElem hi, ei])
              obtain ⟨hi', ei'⟩ := List.getElem?_eq_some_iff.mp e1
              obtain ⟨hm', em'⟩ := List.getElem?_eq_some_iff.mp ha
              have z : i = m := (List.getElem?_inj hi' R'.nd).mp (e1.trans ha.symm)
              rw [R.len] at hi
              omega
            have q := R'.obj m a o ha hm
            have q := RpO.back e.pre (by rw [R.len]; exact uo) q
            refine h _ H' (φ ++ [a]) ⟨List.prefix_append _ _, e.keep, fun x hx => ?_⟩ ((R.back e R' k).more na q) ?_
            · rcases List.mem_append.mp hx with z | z
              · exact .inl z
              · simp at z; subst z
                exact e.new x (List.mem_of_getElem? ha)
            · show Rp G _ _ (.ref S.length) _
              unfold Rp
              exact ⟨a, rfl, by rw [← R.len]; simp⟩
          · rw [if_neg uo] at h; exact keep h
      | _ => exact keep h
  · rw [if_neg k] at h
    exact h v H' φ' e R' r
mutual
theorem Rp.sh {k : Nat} (hk : φ.length = k) : ∀ (d : Mi.D) (v : V), Rp G φ' H d v → Rp G (φ ++ φ') H (d.sh k) v
  | .non, _, h => by unfold D.sh; unfold Rp at h ⊢; exact h
  | .bl _, _, h => by unfold D.sh; unfold Rp at h ⊢; exact h
  | .int _, _, h => by unfold D.sh; unfold Rp at h ⊢; exact h
  | .str _, _, h => by unfold D.sh; unfold Rp at h ⊢; exact h
  | .tup ds, _, h => by
    unfold D.sh; unfold Rp at h ⊢
    obtain ⟨a, vs, e, ha, hr⟩ := h
    exact ⟨a, vs, e, ha, Rps.sh hk ds vs hr⟩
  | .ls ds, _, h => by
    unfold D.sh; unfold Rp at h ⊢
    obtain ⟨a, vs, e, ha, hr⟩ := h
    exact ⟨a, vs, e, ha, Rps.sh hk ds vs hr⟩
  | .kt ds, _, h => by
    unfold D.sh; unfold Rp at h ⊢
    obtain ⟨a, vs, e, ha, hr⟩ := h
    exact ⟨a, vs, e, ha, Rps.sh hk ds vs hr⟩
  | .ref n, _, h => by
    unfold D.sh; unfold Rp at h ⊢
    obtain ⟨a, e, ha⟩ := h
    refine ⟨a, e, ?_⟩
    rw [List.getElem?_append_right (by omega), ← hk, Nat.add_sub_cancel_left]
    exact ha
theorem Rps.sh {k : Nat} (hk : φ.length = k) : ∀ (ds : List Mi.D) (vs : List V), Rps G φ' H ds vs → Rps G (φ ++ φ') H (D.shs k ds) vs
  | [], _, h => by unfold D.shs; unfold Rps at h ⊢; exact h
  | d :: ds, _, h => by
    unfold D.shs; unfold Rps at h ⊢
    obtain ⟨v, r, e, h1, h2⟩ := h
    exact ⟨v, r, e, Rp.sh hk d v h1, Rps.sh hk ds r h2⟩
end
theorem RpKV.sh {κ : Type} {k : Nat} (hk : φ.length = k) : ∀ {kvs : List (κ × Mi.D)} {vs : List (κ × V)}, RpKV G φ' H kvs vs → RpKV G (φ ++ φ') H (kvs.map fun p => (p.1, p.2.sh k)) vs
  | [], _, h => h
  | q :: r, _, h => by
    obtain ⟨v, t, e, h1, h2⟩ := h
    exact ⟨v, t, e, Rp.sh hk _ v h1, RpKV.sh hk h2⟩
theorem RpO.sh {k : Nat} (hk : φ.length = k) {o : O} {a : Addr} (h : RpO G φ' H o a) : RpO G (φ ++ φ') H (o.sh k) a := by
  cases o with
  | lst ds => obtain ⟨vs, h1, h2⟩ := h; exact ⟨vs, h1, Rps.sh hk _ _ h2⟩
  | dk ds => obtain ⟨vs, h1, h2⟩ := h; exact ⟨vs, h1, RpKV.sh hk h2⟩
  | dt ds => obtain ⟨vs, h1, h2⟩ := h; exact ⟨vs, h1, RpKV.sh hk h2⟩
  | ins c ds => obtain ⟨C, dx, vs, h0, h1, h2⟩ := h; exact ⟨C, dx, vs, h0, h1, RpKV.sh hk h2⟩
theorem rel0 {G : Gb} {H : Hp} : Rel G [] H [] := ⟨rfl, List.nodup_nil, fun n a o h _ => by simp at h⟩
/-- over what stands, from what was told over nothing -/
theorem Rel.up {H' : Hp} {S S' : Store} (R : Rel G φ H S) (e : Ext [] H φ' H') (R' : Rel G φ' H' S') : Ext φ H (φ ++ φ') H' ∧ Rel G (φ ++ φ') H' (S ++ S'.map (O.sh S.length)) := by
  have ho : ∀ a ∈ φ, a ∉ φ' := fun a h1 h2 => by
    obtain ⟨o, h3, _⟩ := R.at h1
    rcases e.new a h2 with z | z
    · cases z
    · rw [h3] at z; cases z
  have kp : Keep φ H (φ ++ φ') H' := ⟨fun n a h => by rw [List.getElem?_append_left (List.getElem?_eq_some_iff.mp h).1]; exact h, fun a xs h => e.keep a _ h List.not_mem_nil, fun a o u h => e.keep a _ h List.not_mem_nil⟩
  refine ⟨⟨List.prefix_append _ _, fun a o h _ => e.keep a o h List.not_mem_nil, fun a h => ?_⟩, ⟨?_, ?_, fun n a o h1 h2 => ?_⟩⟩
  · rcases List.mem_append.mp h with z | z
    · exact .inl z
    · rcases e.new a z with w | w
      · cases w
      · exact .inr w
  · rw [List.length_append, List.length_append, List.length_map, R.len, R'.len]
  · exact List.nodup_append.mpr ⟨R.nd, R'.nd, fun a h1 b h2 hab => ho a h1 (hab ▸ h2)⟩
  · by_cases hn : n < φ.length
    · rw [List.getElem?_append_left hn] at h1
      rw [List.getElem?_append_left (by rw [← R.len]; exact hn)] at h2
      obtain ⟨u, hu, _⟩ := R.at (List.mem_of_getElem? h1)
      exact (R.obj n a o h1 h2).mono kp ((e.keep a u hu List.not_mem_nil).trans hu.symm)
    · rw [List.getElem?_append_right (by omega)] at h1
      rw [List.getElem?_append_right (by rw [← R.len]; omega), List.getElem?_map] at h2
      obtain ⟨o', h3, rfl⟩ := Option.map_eq_some_iff.mp h2
      rw [← R.len] at h3 ⊢
      exact RpO.sh rfl (R'.obj _ a o' h1 h3)
theorem up_post {S : Store} {r : R Mi.D} {xk : XK} {Q : VK} (R : Rel G φ H S) (h : Post G (RlD G) φ H (r.up S) xk Q) : Post G (RlD G) [] H r xk Q := by
  cases r with
  | bad => exact h
  | ok d S' =>
    intro v H' φ' e R' q
    obtain ⟨e2, R2⟩ := R.up e R'
    exact h v H' _ e2 R2 (Rp.sh R.len d v q)
  | ex c fs S' =>
    intro cls dx H' φ' e R' x
    obtain ⟨e2, R2⟩ := R.up e R'
    cases fs with
    | nil =>
      have h : Post G (RlD G) φ H (.ex c [] S) xk Q := h
      refine h cls dx H' φ ⟨List.prefix_refl _, e2.keep, fun a z => .inl z⟩ ⟨R.len, R.nd, fun n a o h1 h2 => ?_⟩ ⟨x.1, .inl ⟨rfl, ?_⟩⟩
      · obtain ⟨u, hu, _⟩ := R.at (List.mem_of_getElem? h1)
        exact (R.obj n a o h1 h2).mono ⟨fun _ _ z => z, fun a xs h => e.keep a _ h List.not_mem_nil, fun a o u h => e.keep a _ h List.not_mem_nil⟩ ((e.keep a u hu List.not_mem_nil).trans hu.symm)
      · rcases x.2 with ⟨_, z⟩ | ⟨z, _⟩
        · exact z
        · exact absurd rfl z
    | cons f r =>
      refine h cls dx H' _ e2 R2 ⟨x.1, ?_⟩
      rcases x.2 with ⟨z, _⟩ | ⟨_, d, vs, h1, h2, h3, h4⟩
      · cases z
      · refine .inr ⟨by simp, d, vs, h1, h2, fun hm => ?_, RpKV.sh R.len h4⟩
        rcases List.mem_append.mp hm with w | w
        · obtain ⟨u, hu, hi⟩ := R.at w
          rw [e.keep d u hu List.not_mem_nil] at h2
          cases h2
          cases hi
        · exact h3 w
end

/-! ### the defs -/
/-- a look at the names of a def's scope -/
def scC (N P : List Str) (sc : Scope) : Bool :=
  decide (sc.kind = .function) && !sc.isCoroutine && !sc.isGenerator && decide N.Nodup && decide (N.take P.length = P) && P.all (fun x => decide (sc.names.lookup x = some .local) || decide (sc.names.lookup x = some .cell)) && sc.names.all (fun y => !decide (y.2 = .free))
theorem fnScope_by {N P : List Str} {sc : Scope} (h : scC N P sc = true) : FnScope N P sc := by
  unfold scC at h
  simp only [Bool.and_eq_true, Bool.not_eq_true', decide_eq_true_eq, List.all_eq_true, Bool.or_eq_true, decide_eq_false_iff_not] at h
  obtain ⟨⟨⟨⟨⟨⟨h1, h2⟩, h3⟩, h4⟩, h5⟩, h6⟩, h7⟩ := h
  exact ⟨h1, h2, h3, h4, h5, h6, h7⟩
/-- what is known of a def of the table -/
structure DefOk (G : Gb) (tab : Nat → Option Fn) (gl : List (Str × Gl)) (x : Str) (i : Nat) (m : Bool) (f : Addr) (fd : FuncData) (ps : List Str) : Prop where
  ex : ∃ (st : Stmt) (N : List Str) (F : Fn), L2.Fun G.K x x st f fd ∧ scC N ps (defScope st) = true ∧ cSs 100 100 ⟨N, gl, defScope st, m, false, true⟩ (defBody st) = some F.body ∧ tab i = some F ∧ F.np = ps.length ∧ F.nl = N.length
/-- what is known of the text's top -/
structure TopOk (G : Gb) (tab : Nat → Option Fn) (gl : List (Str × Gl)) (mg : Str → Option Value) : Prop where
  fns : ∀ x i m, gl.lookup x = some (.fn i m) → ∃ f fd ps, mg x = some (.ref f) ∧ PySem.W.keepIn G.K (.ref f) = true ∧ Binds G.K fd ps [] ∧ DefOk G tab gl x i m f fd ps
  cst : ∀ x d, gl.lookup x = some (.cst d) → ∃ v u, mg x = some u ∧ L2.RelV v u ∧ ∀ φ H, Rp G φ H d v
  blt : ∀ x ∈ bltNames, gl.lookup x = none → mg x = none
  exc : ∀ x k ks, gl.lookup x = some (.exc k ks) → ∃ (C : Addr) (bmB : List Value) (B newId initId : String), PySem.ExcBaseFacts B newId initId bmB ∧ PySem.W.excIn G.K C bmB newId = true ∧ mg x = some (.ref C) ∧ PySem.W.keepIn G.K (.ref C) = true ∧ PySem.W.subIn G.K (.ref C) (.type "BaseException") = some true ∧ PySem.W.typeIn G.K (.ref C) = some (.type "type") ∧ G.exc k = some (.ref C) ∧ Below G ks (.ref C)
  bex : ∀ x n ks, gl.lookup x = some (.bex n ks) → mg x = none ∧ bootBuiltins x = some (.type n) ∧ Below G ks (.type n)
  kls : ∀ x ks, gl.lookup x = some (.kls ks) → ∃ C : Addr, mg x = some (.ref C) ∧ Below G ks (.ref C)
section
variable {G : Gb} {tab : Nat → Option Fn} {gl : List (Str × Gl)} {mg : Str → Option Value} {P : Program} {w : World} {base : Heap}
theorem sl_start {φ : List Addr} {H : Hp} {ds : List Mi.D} {vs : List V} {N : List Str} (r : Rps G φ H ds vs) : Sl G φ H (ds.map some ++ List.replicate (N.length - ds.length) none) (L2.start N vs) := by
  unfold L2.start
  rw [r.len]
  refine ⟨by simp [r.len], fun i d h => ?_⟩
  by_cases hi : i < ds.length
  · rw [List.getElem?_append_left (by simpa using hi), List.getElem?_map] at h
    obtain ⟨d', h1, h2⟩ := Option.map_eq_some_iff.mp h
    cases h2
    obtain ⟨v, h3, h4⟩ := r.get h1
    refine ⟨v, ?_, h4⟩
    rw [List.getElem?_append_left (by rw [List.length_map, ← r.len]; exact hi), List.getElem?_map, h3]
    try rfl
  · rw [List.getElem?_append_right (by simpa using hi), List.getElem?_replicate] at h
    split at h <;> cases h
theorem takesM_of {m : Bool} {N : List Str} {qual : Str} {scope : Scope} {f : Addr} {cd : Value} {A : Around} {outer : List PySem.Env} {s : Shared} {H : Hp} {E : XK} {K : PySem.W.Frag} : TakesM m (cxOf (CXm m P w) P w K mg base N qual scope f cd A outer s H E) (fun cls d _ H => E cls d H) := by
  cases m with
  | true => exact L2N.takes_of rfl rfl rfl rfl
  | false => exact L2.takes_of rfl rfl rfl rfl
theorem passM_of {m : Bool} {X : Cx} {E : XK} (tk : TakesM m X (fun cls d _ H => E cls d H)) (σ : L2.St) : PassesAt (CXm m X.prog X.w) X σ (fun cl d H => E cl d H) := by
  cases m with
  | true => exact fun pins H s e s' I cx => L2N.passes_call (W := fun cls d _ H => E cls d H) (E := E) tk (fun cls d σ H h => h) pins σ H s e s' I cx
  | false => exact fun pins H s e s' I cx => L2.passes_call (W := fun cls d _ H => E cls d H) (E := E) tk (fun cls d σ H h => h) pins σ H s e s' I cx
theorem def_ok (T : TopOk G tab gl mg) : ∀ (n : Nat) (x : Str) (i : Nat) (m : Bool) (f : Addr) (fd : FuncData) (ps : List Str), DefOk G tab gl x i m f fd ps → FnOk P w G.K mg base (CXm m P w) (3 * n) f fd ps (spI G (run tab n) i)
  | 0, x, i, m, f, fd, ps, _ => ⟨fun vs H Q E ⟨φ, S, ds, _, _, h⟩ => by unfold run at h; exact h.elim, fun A outer s H args us vs Q E _ _ _ _ ⟨φ, S, ds, _, _, h⟩ => by unfold run at h; exact h.elim⟩
  | n + 1, x, i, m, f, fd, ps, D => by
    obtain ⟨st, N, F, hF, hsc, htr, htab, hnp, hnl⟩ := D.ex
    obtain ⟨oc, od, kV, doc, pm, an, cdv, ct, osl, rfl, lk, hcd⟩ := hF.ex
    have Sc := fnScope_by hsc
    -- what a run of it is
    have key : ∀ vs H Q E, spI G (run tab (n + 1)) i vs H Q E → vs.length = ps.length ∧ ∃ φ S ds, Rel G φ H S ∧ Rps G φ H ds vs ∧ ds.length = F.np ∧ Post G (RlD G) φ H (core (run tab n) F ds S) E Q := by
      intro vs H Q E h
      obtain ⟨φ, S, ds, R, r, h⟩ := h
      unfold run at h
      rw [htab] at h
      dsimp only at h
      by_cases hl : ds.length = F.np
      · rw [if_pos hl] at h
        by_cases hfr : (F.fr && Mi.D.unds 0 ds) = true
        · rw [if_pos hfr] at h
          exact ⟨by rw [← r.len, hl, hnp], [], [], ds, rel0, Rps.back List.nil_prefix ds vs (Bool.and_eq_true_iff.mp hfr).2 r, hl, up_post R h⟩
        · rw [if_neg hfr] at h
          exact ⟨by rw [← r.len, hl, hnp], φ, S, ds, R, r, hl, h⟩
      · rw [if_neg hl] at h; exact h.elim
    refine fn_of lk hcd Sc (fun vs H Q E h => (key vs H Q E h).1) fun A outer s H vs Q E hr h => ?_
    obtain ⟨_, φ, S, ds, R, r, hl, h⟩ := key vs H Q E h
    unfold core at h
    have tk : TakesM m (cxOf (CXm m P w) P w G.K mg base N x (defScope st) f cdv A outer s H E) (fun cls d _ H => E cls d H) := takesM_of
    have g : GoodS G (run tab n) (fun cls d _ H => E cls d H) (3 * n) (cxOf (CXm m P w) P w G.K mg base N x (defScope st) f cdv A outer s H E) ⟨N, gl, defScope st, m, false, true⟩ :=
      { hK := rfl
        hN := rfl
        nd := Sc.nd
        vis := fun y hy => by
          unfold Ct.vis at hy
          have hy : (match (defScope st).names.lookup y with | some .local => true | some .cell => true | some .free => true | _ => false) = true := hy
          show (defScope st).names.lookup y = _ ∨ (defScope st).names.lookup y = _ ∨ (defScope st).names.lookup y = _
          split at hy
          · exact .inl (by assumption)
          · exact .inr (.inl (by assumption))
          · exact .inr (.inr (by assumption))
          · cases hy
        glb := fun y hy => show (defScope st).names.lookup y = some .globalImplicit from of_decide_eq_true hy
        loc := fun y hy => by
          unfold Ct.loc at hy
          have hy : (match (defScope st).names.lookup y with | some .local => true | some .cell => true | _ => false) = true := hy
          refine ⟨?_, .inl rfl⟩
          show (defScope st).names.lookup y = _ ∨ (defScope st).names.lookup y = _
          split at hy
          · exact .inl (by assumption)
          · exact .inr (by assumption)
          · cases hy
        cf := fun y h => h
        calm := rfl
        hu := by
          have := hr.un
          show (A.deeper (envOfC x (defScope st) s.heap.objs.size f cdv)).units + 64 < cLine
          omega
        room := hr
        fns := fun y j m' hj => by
          obtain ⟨f2, fd2, ps2, h1, h2, h3, h4⟩ := T.fns y j m' hj
          exact ⟨f2, fd2, ps2, h1, h2, h3, def_ok T n y j m' f2 fd2 ps2 h4⟩
        cst := T.cst
        blt := T.blt
        exc := fun y k ks hk => ⟨T.exc y k ks hk⟩
        bex := T.bex
        kls := T.kls
        at_ := fun _ => ⟨rfl, rfl, tk⟩
        hb := rfl
        opa := fun _ hd => L2H.passesAt_of rfl hd
        pas := passM_of tk
        sc := rfl
        kind := Sc.kind
        own := passes_of rfl }
    refine ⟨_, ss_all 100 g htr, φ, _, S, R, sl_start r, ?_⟩
    rw [← hnl, hl]
    cases q : exSs (run tab n) F.body (ds.map some ++ List.replicate (F.nl - F.np) none) S with
    | bad => rw [q] at h; exact h.elim
    | ex c fs ρ' S' =>
      rw [q] at h
      exact fun cls dx σ' H' φ' e R' sl x => h cls dx H' φ' e R' x
    | ok fl ρ' S' =>
      rw [q] at h
      cases fl with
      | nx => exact fun σ' H' φ' e R' sl => pack_post R h e R' (by unfold Rp; rfl)
      | rt d => exact fun v H' φ' e R' r' => pack_post R h e R' r'
      | brk => exact h.elim
      | cnt => exact h.elim
end
end Mi

/-! Mi, part P: the law's end. -/
namespace Mi
open PySem L2 PyProof.Rows RT RZ
/-- the own exceptions' classes, by their names -/
def gbX (xs : List Str) (K : PySem.W.Frag) : Gb := ⟨K, fun _ => none, fun k => match xs[k]? with
  | some x => (match PySem.W.nsIn K mainGlobals x with
    | some (some v) => some v
    | _ => none)
  | none => none⟩
theorem ints_rps {G : Gb} {φ : List Addr} {H : Hp} : ∀ ns : List Int, Rps G φ H (ns.map Mi.D.int) (ns.map V.int)
  | [] => by show Rps G φ H [] []; unfold Rps; rfl
  | n :: ns => by
    rw [List.map_cons, List.map_cons]
    unfold Rps
    exact ⟨.int n, _, rfl, by unfold Rp; rfl, ints_rps ns⟩
theorem lis_of {K : PySem.W.Frag} {H : Hp} {a : Addr} {xs : List V} (hO : Only H) (h : SqL K H a xs) : LisA K H a xs := by
  rcases h with (h | ⟨o, h⟩) | h
  · rcases hO a with z | ⟨o, ys, z⟩
    · rw [z] at h; cases h
    · rw [z] at h; cases h
  · exact .inl ⟨o, h⟩
  · exact .inr h
/-- what is known of a row of the table of globals -/
def TopQ (G : Gb) (tab : Nat → Option Fn) (gl : List (Str × Gl)) (mg : Str → Option Value) (p : Str × Gl) : Prop := match p.2 with
  | .fn i m => ∃ f fd ps, mg p.1 = some (.ref f) ∧ PySem.W.keepIn G.K (.ref f) = true ∧ Binds G.K fd ps [] ∧ DefOk G tab gl p.1 i m f fd ps
  | .cst d => ∃ v u, mg p.1 = some u ∧ L2.RelV v u ∧ ∀ φ H, Rp G φ H d v
  | .exc k ks => ∃ (C : Addr) (bmB : List Value) (B newId initId : String), PySem.ExcBaseFacts B newId initId bmB ∧ PySem.W.excIn G.K C bmB newId = true ∧ mg p.1 = some (.ref C) ∧ PySem.W.keepIn G.K (.ref C) = true ∧ PySem.W.subIn G.K (.ref C) (.type "BaseException") = some true ∧ PySem.W.typeIn G.K (.ref C) = some (.type "type") ∧ G.exc k = some (.ref C) ∧ Below G ks (.ref C)
  | .bex n ks => mg p.1 = none ∧ bootBuiltins p.1 = some (.type n) ∧ Below G ks (.type n)
  | .kls ks => ∃ C : Addr, mg p.1 = some (.ref C) ∧ Below G ks (.ref C)
/-- the classes below, one by one -/
theorem below_of {G : Gb} {cv : Value} : ∀ {ks : KS}, (∀ q ∈ ks, ∃ Da : Addr, G.exc q.1 = some (.ref Da) ∧ PySem.W.exmOne G.K (.ref Da) cv = some q.2 ∧ PySem.W.kitOne G.K (.ref Da) cv = some q.2 ∧ ExcC G.K Da) → Below G ks cv :=
  fun h ce b hl => h (ce, b) (by
    clear h
    rename_i ks
    induction ks with
    | nil => cases hl
    | cons q r ih =>
      obtain ⟨y, w⟩ := q
      rw [List.lookup_cons] at hl
      cases e : ce == y with
      | true =>
        rw [e] at hl
        cases hl
        have q : ce = y := by simpa using e
        subst q
        exact List.mem_cons_self
      | false =>
        rw [e] at hl
        exact List.mem_cons_of_mem _ (ih hl))
theorem lookup_mem {α : Type} {x : Str} {v : α} : ∀ {l : List (Str × α)}, l.lookup x = some v → (x, v) ∈ l
  | [], h => by cases h
  | (y, w) :: r, h => by
    rw [List.lookup_cons] at h
    cases e : x == y with
    | true =>
      rw [e] at h
      cases h
      have q : x = y := by simpa using e
      subst q
      exact List.mem_cons_self
    | false =>
      rw [e] at h
      exact List.mem_cons_of_mem _ (lookup_mem h)
theorem topOk_of {G : Gb} {tab : Nat → Option Fn} {gl : List (Str × Gl)} {mg : Str → Option Value} (h : ∀ p ∈ gl, TopQ G tab gl mg p) (hb : ∀ x ∈ bltNames, mg x = none) : TopOk G tab gl mg :=
  ⟨fun x i m hi => h _ (lookup_mem hi), fun x d hd => h _ (lookup_mem hd), fun x hx _ => hb x hx, fun x k ks hk => h _ (lookup_mem hk), fun x n ks hk => h _ (lookup_mem hk), fun x ks hk => h _ (lookup_mem hk)⟩
/-- a law of the given script, from what run tells -/
theorem walk_mi {l : PySem.W.OpenLaw} {n k i : Nat} {q : Program} {loose : List Str} {XP : (Str → Option Value) → Heap → Prop} {YP : World → Heap → Prop} {d : DefRec} {K : Params → PySem.W.Frag} {tab : Nat → Option Fn} {gl : List (Str × Gl)} {x y : Str} {xs : List Str}
    (hn : l.most = some n) (hn2 : n ≤ sizeLine) (hdf : d.params.defaults = []) (hr : Room (3 * k) callerA)
    (hY : ∀ (w : World) (h : Heap), YP w h → (K w.params).In h)
    (F : ∀ (w : World) (mg : Str → Option Value) (fa : Addr) (h : Heap), (K w.params).In h → h.Ns mainGlobals mg → mg d.name = some (.ref fa) →
      ∃ fd : FuncData, (∀ (s : Shared) (u : Value), BindsTo s fd ⟨[u], []⟩ [(x, u)]) ∧ TopOk (gbX xs (K w.params)) tab gl mg ∧ DefOk (gbX xs (K w.params)) tab gl y i false fa fd [x])
    (hlaw : ∀ ns : List Int, ns.length ≤ n → ∃ S, run tab k i [.ls (ns.map Mi.D.int)] [] = .ok (.bl true) S) :
    PySem.W.WalkO q loose XP YP l.row.toRowW d [] (fun f vs => PySem.call f vs) := by
  refine L2.walk_of (n := n) (k := 3 * k) (x := x) (K := K) (CX := fun w => L2.CX l.prog w) (sp := fun w => spI (gbX xs (K w.params)) (run tab k) i) hn hn2 hdf hr hY (fun w mg fa h KX G hmg => ?_) (fun w H a ns hl hO hS => ?_) fun w H s e s' h => ?_
  · obtain ⟨fd, hb, T, D⟩ := F w mg fa h KX G hmg
    exact ⟨fd, hb, fun base _ _ => def_ok T k y i false fa fd [x] D⟩
  · obtain ⟨S, hrun⟩ := hlaw ns hl
    refine ⟨[], [], [.ls (ns.map Mi.D.int)], rel0, ?_, ?_⟩
    · unfold Rps
      refine ⟨.ref a, [], rfl, ?_, ?_⟩
      · unfold Rp
        exact ⟨a, ns.map V.int, rfl, lis_of hO hS, ints_rps ns⟩
      · unfold Rps; rfl
    · rw [hrun]
      intro v H' φ' _ _ r
      have r : Rp (gbX xs (K w.params)) φ' H' (.bl true) v := r
      unfold Rp at r
      exact r
  · obtain ⟨_, _, _, _, _, _, _, _, _, _, _, _, hF⟩ := h
    exact hF.elim
end Mi

/-! Mi, part Q: reckoning with run. -/
namespace Mi
open PySem
abbrev CF := Nat → List D → Store → R D
/-- a call's end -/
noncomputable def fin (S : Store) (r : RS) : R D := match r with
  | .ok (.rt d) _ S' => pack S d S'
  | .ok .nx _ S' => pack S .non S'
  | .ok _ _ _ => .bad
  | .ex c fs _ S' => .ex c fs S'
  | .bad => .bad
theorem run_fin {tab : Nat → Option Fn} {n i : Nat} {F : Fn} {ds : List D} {S : Store} (h : tab i = some F) (hl : ds.length = F.np) (hf : F.fr = false) : run tab (n + 1) i ds S = fin S (exSs (run tab n) F.body (ds.map some ++ List.replicate (F.nl - F.np) none) S) := by
  unfold run
  rw [h]
  dsimp only
  rw [if_pos hl, hf]
  try rfl
theorem run_up {tab : Nat → Option Fn} {n i : Nat} {F : Fn} {ds : List D} {S : Store} {r : R D} (h : tab i = some F) (hl : ds.length = F.np) (hf : (F.fr && D.unds 0 ds) = true) (hr : core (run tab n) F ds [] = r) : run tab (n + 1) i ds S = r.up S := by
  unfold run
  rw [h]
  dsimp only
  rw [if_pos hl, if_pos hf, hr]
theorem run_ref {tab : Nat → Option Fn} {n i : Nat} {F : Fn} {ds : List D} {S : Store} (h : tab i = some F) (hl : ds.length = F.np) (hf : D.unds 0 ds = false) : run tab (n + 1) i ds S = fin S (exSs (run tab n) F.body (ds.map some ++ List.replicate (F.nl - F.np) none) S) := by
  unfold run
  rw [h]
  dsimp only
  rw [if_pos hl, hf, Bool.and_false]
  try rfl
theorem keeps_refl (S : Store) : keeps S S := fun i o _ h => .inl h
theorem keeps_app (S T : Store) : keeps S (S ++ T) := fun i o h e => .inl (by rw [List.getElem?_append_left h] at e; exact e)
theorem pack_app {S T : Store} {d : D} (h : d.und S.length = true) : pack S d (S ++ T) = .ok d S := by
  unfold pack
  rw [if_pos (keeps_app S T), if_pos h, List.take_left]
theorem pack_same {S : Store} {d : D} (h : d.und S.length = true) : pack S d S = .ok d S := by
  have := pack_app (T := []) h
  rwa [List.append_nil] at this
/-- one place that stood is written, with what knows nothing new -/
theorem pack_set {S T : Store} {d : D} {k : Nat} {o : O} (hk : k < S.length) (ho : o.und S.length = true) (h : d.und S.length = true) : pack S d ((S.set k o) ++ T) = .ok d (S.set k o) := by
  unfold pack
  have hkp : keeps S (S.set k o ++ T) := fun i u hi e => by
    rw [List.getElem?_append_left (by rw [List.length_set]; exact hi)] at e
    by_cases z : k = i
    · subst z
      rw [List.getElem?_set_self hk] at e
      cases e
      exact .inr ho
    · rw [List.getElem?_set_ne z] at e
      exact .inl e
  have ht : (S.set k o ++ T).take S.length = S.set k o := by
    rw [List.take_append_of_le_length (by rw [List.length_set]; exact Nat.le_refl _), List.take_of_length_le (by rw [List.length_set]; exact Nat.le_refl _)]
  rw [if_pos hkp, if_pos h, ht]
/-- a new object that knows nothing new is handed out -/
theorem pack_new {S : Store} {o : O} (ho : o.und S.length = true) : pack S (.ref S.length) (S ++ [o]) = .ok (.ref S.length) (S ++ [o]) := by
  unfold pack
  rw [if_pos (keeps_app S [o]), if_neg (by unfold D.und; simp)]
  dsimp only
  rw [List.getElem?_append_right (Nat.le_refl _), Nat.sub_self]
  show (if o.und S.length = true then _ else _) = _
  rw [if_pos ho, List.take_left]

@[simp] theorem und_int {k : Nat} {i : Int} : D.und k (.int i) = true := by unfold D.und; rfl
@[simp] theorem und_str {k : Nat} {i : Str} : D.und k (.str i) = true := by unfold D.und; rfl
@[simp] theorem und_bl {k : Nat} {i : Bool} : D.und k (.bl i) = true := by unfold D.und; rfl
@[simp] theorem und_non {k : Nat} : D.und k .non = true := by unfold D.und; rfl
@[simp] theorem und_tup {k : Nat} {ds : List D} : D.und k (.tup ds) = D.unds k ds := by rw [D.und]
@[simp] theorem unds_nil {k : Nat} : D.unds k [] = true := by unfold D.unds; rfl
@[simp] theorem unds_cons {k : Nat} {d : D} {r : List D} : D.unds k (d :: r) = (D.und k d && D.unds k r) := by rw [D.unds]
@[simp] theorem und_ref {k n : Nat} : D.und k (.ref n) = decide (n < k) := by rw [D.und]

/-! ### operations -/
section
variable {S : Store}
@[simp] theorem py_int {i : Int} : W.py S (.val (.int i)) = some (.int i) := rfl
@[simp] theorem py_str {x : Str} : W.py S (.val (.str x)) = some (.str x) := rfl
@[simp] theorem py_bl {b : Bool} : W.py S (.val (.bl b)) = some (.bool b) := rfl
@[simp] theorem py_non : W.py S (.val .non) = some .none := rfl
theorem eq_ii {i j : Int} : p2 .eq (.val (.int i)) (.val (.int j)) S = .ok (.val (.bl (decide (i = j)))) S := by
  show vv (.bl (i == j)) S = _
  by_cases h : i = j
  · subst h; simp [vv]
  · rw [decide_eq_false h]; have : (i == j) = false := by simpa using h
    rw [this]; try rfl
theorem ne_ii {i j : Int} : p2 .ne (.val (.int i)) (.val (.int j)) S = .ok (.val (.bl (!decide (i = j)))) S := by
  show vv (.bl (!(i == j))) S = _
  by_cases h : i = j
  · subst h; simp [vv]
  · rw [decide_eq_false h]; have : (i == j) = false := by simpa using h
    rw [this]; try rfl
theorem eq_ss {i j : Str} : p2 .eq (.val (.str i)) (.val (.str j)) S = .ok (.val (.bl (decide (i = j)))) S := by
  show vv (.bl (strEq i j)) S = _
  rw [strEq_eq]
  by_cases h : i = j
  · subst h; simp [vv]
  · rw [decide_eq_false h]; have : (i == j) = false := by simpa using h
    rw [this]; try rfl
theorem ne_ss {i j : Str} : p2 .ne (.val (.str i)) (.val (.str j)) S = .ok (.val (.bl (!decide (i = j)))) S := by
  show vv (.bl (!(strEq i j))) S = _
  rw [strEq_eq]
  by_cases h : i = j
  · subst h; simp [vv]
  · rw [decide_eq_false h]; have : (i == j) = false := by simpa using h
    rw [this]; try rfl
theorem lt_ii {i j : Int} : p2 .lt (.val (.int i)) (.val (.int j)) S = .ok (.val (.bl (decide (i < j)))) S := by
  have e : W.dataLt (.int i) (.int j) = decide (i < j) := by simp [W.dataLt, W.keyToks, PyProof.Rows.lex_cons, PyProof.Rows.itemLt, PyProof.Rows.lexLt]
  show ob (some (W.dataLt (.int i) (.int j))) S = _
  rw [e]; try rfl
theorem lt_ss {i j : Str} : p2 .lt (.val (.str i)) (.val (.str j)) S = .ok (.val (.bl (decide (i.cps.toList < j.cps.toList)))) S := by
  have e : W.dataLt (.str i) (.str j) = decide (i.cps.toList < j.cps.toList) := by simp [W.dataLt, W.keyToks, PyProof.Rows.lex_cons, PyProof.Rows.itemLt, PyProof.Rows.lexLt]
  show ob (some (W.dataLt (.str i) (.str j))) S = _
  rw [e]; try rfl
end
end Mi

/-! Mi, part R: reckoning with texts as lists of signs, with loops. -/
namespace Mi
open PySem
abbrev tx (l : List Nat) : D := .str (SX.S l)
theorem tx_inj {a b : List Nat} (h : tx a = tx b) : a = b := SX.S_inj (by injection h)
theorem S_surj (z : Str) : ∃ l : List Nat, z = SX.S l := ⟨_, (SX.S_tl z).symm⟩
theorem S_eqP {a b : List Nat} : (SX.S a = SX.S b) = (a = b) := propext ⟨SX.S_inj, fun h => by rw [h]⟩
def rp1 (y z : Nat) (l : List Nat) : List Nat := l.map fun c => if c = y then z else c
theorem replL_one {y z : Nat} : ∀ l : List Nat, StrLaws.replL [y] [z] l = rp1 y z l
  | [] => StrLaws.replL_nil
  | c :: r => by
    by_cases h : c = y
    · rw [StrLaws.replL_hit (by simp) (by simp [h])]
      show [z] ++ StrLaws.replL [y] [z] r = _
      rw [replL_one r]
      unfold rp1
      rw [List.map_cons, if_pos h]; try rfl
    · rw [StrLaws.replL_miss (by simp [h]), replL_one r]
      unfold rp1
      rw [List.map_cons, if_neg h]
section
variable {S : Store} {a b l : List Nat} {c : Nat}
theorem len_tx (h : l.length ≤ sizeLine) : p1 .len (.val (tx l)) S = .ok (.val (.int l.length)) S := by
  show (if (SX.S l).length ≤ sizeLine then vv (.int (SX.S l).length) S else .bad) = _
  rw [SX.S_len, if_pos h]; try rfl
theorem add_tx (h : a.length + b.length ≤ sizeLine) : p2 .add (.val (tx a)) (.val (tx b)) S = .ok (.val (tx (a ++ b))) S := by
  show (if (SX.S a).length + (SX.S b).length ≤ sizeLine then vv (.str (SX.S a ++ SX.S b)) S else .bad) = _
  rw [SX.S_len, SX.S_len, if_pos h, SX.S_cat]; try rfl
theorem eq_tx : p2 .eq (.val (tx a)) (.val (tx b)) S = .ok (.val (.bl (decide (a = b)))) S := by
  rw [eq_ss]; simp only [S_eqP]
theorem ne_tx : p2 .ne (.val (tx a)) (.val (tx b)) S = .ok (.val (.bl (!decide (a = b)))) S := by
  rw [ne_ss]; simp only [S_eqP]
theorem ix_tx {i : Int} (h : L2.atI l i = some c) (hz : l.length ≤ sizeLine) : p2 .ix (.val (tx l)) (.val (.int i)) S = .ok (.val (tx [c])) S := by
  show (match L2.atI l i with | some c => if (SX.S l).length ≤ sizeLine then vv (.str ⟨#[c]⟩) S else .bad | none => .bad) = _
  rw [h, SX.S_len]
  show (if l.length ≤ sizeLine then _ else _) = _
  rw [if_pos hz]; try rfl
theorem in_tx : p2 .inn (.val (tx [c])) (.val (tx l)) S = .ok (.val (.bl (decide (c ∈ l)))) S := by
  show ob (some (strIn (SX.S [c]) (SX.S l))) S = _
  rw [strIn_eq, SX.in_one]; try rfl
theorem nin_tx : p2 .nin (.val (tx [c])) (.val (tx l)) S = .ok (.val (.bl (!decide (c ∈ l)))) S := by
  show ob ((some (strIn (SX.S [c]) (SX.S l))).map (!·)) S = _
  rw [strIn_eq, SX.in_one]; try rfl
theorem cut_tx {lo hi : Option Int} (hz : l.length ≤ sizeLine) : cutW (.val (tx l)) lo hi S = .ok (.val (tx (cutD l lo hi))) S := by
  show (if (SX.S l).length ≤ sizeLine then vv (.str (L2.cutS (SX.S l) lo hi)) S else .bad) = _
  rw [SX.S_len, if_pos hz]; try rfl
theorem ord_tx : p1 .ord (.val (tx [c])) S = .ok (.val (.int c)) S := rfl
theorem split_tx (hc : c < 256) (hz : a.length + 2 ≤ sizeLine) : p2 .split (.val (tx a)) (.val (tx [c])) S = .ok (.lis ((TL.spl [c] 0 [] a).map tx)) S := by
  show (if ((SX.S [c]).length == 0) = false ∧ (SX.S a).length + 2 ≤ sizeLine then R.ok (W.lis ((Txt.split (SX.S a) (SX.S [c])).map D.str)) S else .bad) = _
  rw [SX.S_len, SX.S_len, if_pos ⟨rfl, hz⟩, SX.split_S (by simp) (by simpa using hc), List.map_map]; try rfl
theorem strsOf_tx : ∀ ys : List (List Nat), strsOf (ys.map tx) = some (ys.map SX.S)
  | [] => rfl
  | y :: ys => by rw [List.map_cons, strsOf, strsOf_tx ys]; try rfl
theorem joinL_nil : ∀ ys : List (List Nat), TL.joinL [] ys = ys.flatten
  | [] => rfl
  | [p] => by simp [TL.joinL]
  | p :: q :: r => by
    show p ++ ([] ++ TL.joinL [] (q :: r)) = _
    rw [joinL_nil (q :: r)]; simp
theorem join_tx {ys : List (List Nat)} (hz : ys.flatten.length ≤ 16777216) : p2 .join (.val (tx [])) (.lis (ys.map tx)) S = .ok (.val (tx ys.flatten)) S := by
  show (match strsOf (ys.map tx) with | some ys => if joinFits (SX.S []) ys = true then vv (.str (Txt.join (SX.S []) ys)) S else .bad | none => .bad) = _
  rw [strsOf_tx]
  show (if joinFits (SX.S []) (ys.map SX.S) = true then _ else _) = _
  rw [if_pos]
  · rw [SX.join_S, joinL_nil]; try rfl
  · unfold joinFits
    refine decide_eq_true ?_
    rw [SX.lens, SX.S_len]
    rw [List.length_flatten] at hz
    simp only [List.length_nil, Nat.mul_zero, Nat.add_zero]
    exact hz
theorem repl_S {y z : Nat} : Txt.replace (SX.S a) (SX.S [y]) (SX.S [z]) = SX.S (rp1 y z a) := by
  refine TL.ext_tl ?_
  show (Txt.replace (SX.S a) (SX.S [y]) (SX.S [z])).cps.toList = rp1 y z a
  rw [StrLaws.replace_list (by show 1 ≤ (SX.S [y]).length; rw [SX.S_len]; simp)]
  exact replL_one a
theorem replC_tx {y z : Nat} {i j : Int} {lo : Option Int} (hz : a.length ≤ 1000000) : replC (.val (tx a)) lo (.val (.int i)) (.val (.int j)) (SX.S [y]) (SX.S [z]) S = .ok (.val (tx (rp1 y z (cutD a lo (some (i + j)))))) S := by
  have hl : (cutD a lo (some (i + j))).length ≤ a.length := by
    unfold cutD
    rw [List.length_take, List.length_drop]; omega
  show (cutW (.val (tx a)) lo (some (i + j)) S).bd (fun x S => replW (SX.S [y]) (SX.S [z]) x S) = _
  rw [cut_tx (Nat.le_trans hz (by decide))]
  show (if (SX.S _).length + ((SX.S _).length + 1) * (SX.S [z]).length ≤ 16777216 then vv (.str (Txt.replace (SX.S _) (SX.S [y]) (SX.S [z]))) S else .bad) = _
  rw [SX.S_len, SX.S_len, if_pos (by simp; omega), repl_S]; try rfl
theorem int_tx (h : a.all (fun c => decide (48 ≤ c) && decide (c ≤ 57)) = true) (hne : a ≠ []) (hl : a.length ≤ 640) : p1 .int_ (.val (tx a)) S = .ok (.val (.int ((NumText.digitsVal a : Nat) : Int))) S := by
  show (match intText? (SX.S a) with | some n => if (SX.S a).length ≤ 640 then vv (.int n) S else .bad | none => .bad) = _
  rw [SX.int_S h hne (by omega), SX.S_len]
  show (if a.length ≤ 640 then _ else _) = _
  rw [if_pos hl]; try rfl
theorem log_ok {n : Nat} (h : n < 2 ^ 1000) : ((n : Int)).natAbs.log2 < 1920 := by
  show n.log2 < 1920
  by_cases z : n = 0
  · subst z; decide
  · exact Nat.lt_of_lt_of_le ((Nat.log2_lt z).mpr h) (by decide)
theorem str_tx {n : Nat} (h : n < 2 ^ 1000) : p1 .str_ (.val (.int n)) S = .ok (.val (tx (TL.numL n))) S := by
  show (if ((n : Int)).natAbs.log2 < 1920 then vv (.str (Str.ofString (toString (n : Int)))) S else .bad) = _
  rw [if_pos (log_ok h), SX.num_S]; try rfl
theorem fmt_int {n : Nat} (h : n < 2 ^ 1000) : p1 .fmt (.val (.int n)) S = .ok (.val (tx (TL.numL n))) S := by
  show (if ((n : Int)).natAbs.log2 < 1920 then vv (.str (Str.ofString (toString (n : Int)))) S else .bad) = _
  rw [if_pos (log_ok h), SX.num_S]; try rfl
theorem fmt_tx (h : a.length ≤ sizeLine) : p1 .fmt (.val (tx a)) S = .ok (.val (tx a)) S := by
  show (if (SX.S a).length ≤ sizeLine then vv (tx a) S else .bad) = _
  rw [SX.S_len, if_pos h]; try rfl
theorem its_tx : its .it [.val (tx l)] S = some ⟨l.map fun c => tx [c], []⟩ := rfl
end

/-! ### numbers -/
section
variable {S : Store} {i j : Int}
theorem mod_ok (h : 0 < j) : p2 .mod (.val (.int i)) (.val (.int j)) S = .ok (.val (.int (i % j))) S := by
  show (if 0 < j then _ else _) = _
  rw [if_pos h]; try rfl
theorem fdiv_ok (h : 0 < j) (h2 : j < 2 ^ 128) : p2 .fdiv (.val (.int i)) (.val (.int j)) S = .ok (.val (.int (i / j))) S := by
  show (if divFits j = true then _ else _) = _
  rw [if_pos]
  · rfl
  · unfold divFits
    refine decide_eq_true ⟨h, ?_⟩
    have : j.natAbs < 2 ^ 128 := by omega
    exact Nat.lt_trans (Nat.log2_lt (by omega) |>.mpr this) (by decide)
theorem mul_ok (h : i.natAbs < 2 ^ 200) (h2 : j.natAbs < 2 ^ 200) : p2 .mul (.val (.int i)) (.val (.int j)) S = .ok (.val (.int (i * j))) S := by
  show (if mulFits i j = true then _ else _) = _
  rw [if_pos]
  · rfl
  · unfold mulFits
    have lg : ∀ n : Nat, n < 2 ^ 200 → n.log2 < 200 := fun n hn => by
      by_cases z : n = 0
      · subst z; decide
      · exact (Nat.log2_lt z).mpr hn
    have := lg _ h
    have := lg _ h2
    exact decide_eq_true (by omega)
theorem pow_ok (h : 0 ≤ j ∧ j ≤ 1000000 ∧ i.natAbs < 2 ^ 64) : p2 .pow (.val (.int i)) (.val (.int j)) S = .ok (.val (.int (i ^ j.toNat))) S := by
  show (if 0 ≤ j ∧ j ≤ 1000000 ∧ i.natAbs < 2 ^ 64 then _ else _) = _
  rw [if_pos h]; try rfl
theorem add_ok : p2 .add (.val (.int i)) (.val (.int j)) S = .ok (.val (.int (i + j))) S := rfl
theorem sub_ok : p2 .sub (.val (.int i)) (.val (.int j)) S = .ok (.val (.int (i - j))) S := rfl
theorem neg_ok : p1 .neg (.val (.int i)) S = .ok (.val (.int (-i))) S := rfl
theorem max_ok : p2 .max_ (.val (.int i)) (.val (.int j)) S = .ok (.val (.int (if j > i then j else i))) S := rfl
theorem dataLt_ii : W.dataLt (.int i) (.int j) = decide (i < j) := by simp [W.dataLt, W.keyToks, PyProof.Rows.lex_cons, PyProof.Rows.itemLt, PyProof.Rows.lexLt]
theorem gt_ii : p2 .gt (.val (.int i)) (.val (.int j)) S = .ok (.val (.bl (decide (j < i)))) S := by
  show ob (some (W.dataLt (.int j) (.int i))) S = _
  rw [dataLt_ii]; try rfl
theorem le_ii : p2 .le (.val (.int i)) (.val (.int j)) S = .ok (.val (.bl (decide (i ≤ j)))) S := by
  show ob (some (!W.dataLt (.int j) (.int i))) S = _
  rw [dataLt_ii]
  have : (!decide (j < i)) = decide (i ≤ j) := by
    by_cases h : j < i
    · simp [h]
    · simp [h]; omega
  rw [this]; try rfl
theorem ge_ii : p2 .ge (.val (.int i)) (.val (.int j)) S = .ok (.val (.bl (decide (j ≤ i)))) S := by
  show ob (some (!W.dataLt (.int i) (.int j))) S = _
  rw [dataLt_ii]
  have : (!decide (i < j)) = decide (j ≤ i) := by
    by_cases h : i < j
    · simp [h]
    · simp [h]; omega
  rw [this]; try rfl
end

/-! ### lists at a place -/
section
variable {S : Store} {k : Nat} {ds : List D}
theorem seq_at (hS : S[k]? = some (.lst ds)) : W.seq S (.val (.ref k)) = some (false, ds) := by
  show (match S[k]? with | some (.lst ds) => _ | _ => _) = _
  rw [hS]
theorem its_at (hS : S[k]? = some (.lst ds)) : its .it [.val (.ref k)] S = some ⟨ds, [(k, ds)]⟩ := by
  unfold its
  dsimp only
  rw [seq_at hS]
  try rfl
theorem live_at (hS : S[k]? = some (.lst ds)) : isLive [(k, ds)] S := fun p hp => by rw [List.mem_singleton.mp hp]; exact hS
theorem ix_at {i : Int} {d : D} (hS : S[k]? = some (.lst ds)) (h : L2.atI ds i = some d) : p2 .ix (.val (.ref k)) (.val (.int i)) S = .ok (.val d) S := by
  show (match W.seq S (.val (.ref k)) with | some (_, ds) => _ | none => _) = _
  rw [seq_at hS]
  show (match L2.atI ds i with | some d => vv d S | none => .bad) = _
  rw [h]; try rfl
theorem ix_lis {i : Int} {d : D} (h : L2.atI ds i = some d) : p2 .ix (.lis ds) (.val (.int i)) S = .ok (.val d) S := by
  show (match L2.atI ds i with | some d => vv d S | none => .bad) = _
  rw [h]; try rfl
theorem ix_tup {i : Int} {d : D} (h : L2.atI ds i = some d) : p2 .ix (.val (.tup ds)) (.val (.int i)) S = .ok (.val d) S := by
  show (match L2.atI ds i with | some d => vv d S | none => .bad) = _
  rw [h]; try rfl
theorem len_at (hS : S[k]? = some (.lst ds)) : p1 .len (.val (.ref k)) S = .ok (.val (.int ds.length)) S := by
  show (match W.seq S (.val (.ref k)) with | some (_, ds) => vv (.int ds.length) S | none => .bad) = _
  rw [seq_at hS]; try rfl
theorem len_lis : p1 .len (.lis ds) S = .ok (.val (.int ds.length)) S := rfl
theorem len_tup : p1 .len (.val (.tup ds)) S = .ok (.val (.int ds.length)) S := rfl
theorem isLst_at (hS : S[k]? = some (.lst ds)) : isLst S (.val (.ref k)) = true := by
  show (match S[k]? with | some (.lst _) => true | _ => false) = true
  rw [hS]
theorem isK_at (hS : S[k]? = some (.lst ds)) : MK.list.is S (.val (.ref k)) = true := by
  show (match S[k]? with | some (.lst _) => true | _ => false) = true
  rw [hS]
theorem app_at {w : D} (hS : S[k]? = some (.lst ds)) (hz : ds.length < sizeLine) : p2 .append (.val (.ref k)) (.val w) S = .ok (.val .non) (S.set k (.lst (ds ++ [w]))) := by
  show (match S[k]? with | some (.lst ds) => if ds.length < sizeLine then vv .non (S.set k (.lst (ds ++ [w]))) else .bad | _ => .bad) = _
  rw [hS]
  show (if ds.length < sizeLine then _ else _) = _
  rw [if_pos hz]; try rfl
theorem app_lis {es : List D} (hS : S[k]? = some (.lst ds)) (hz : ds.length < sizeLine) : p2 .append (.val (.ref k)) (.lis es) S = .ok (.val .non) ((S.set k (.lst (ds ++ [.ref S.length]))) ++ [.lst es]) := by
  have hk : k < S.length := (List.getElem?_eq_some_iff.mp hS).1
  show (match (S ++ [O.lst es])[k]? with | some (.lst ds) => if ds.length < sizeLine then vv .non ((S ++ [O.lst es]).set k (.lst (ds ++ [D.ref S.length]))) else .bad | _ => .bad) = _
  rw [List.getElem?_append_left hk, hS]
  show (if ds.length < sizeLine then _ else _) = _
  rw [if_pos hz, List.set_append_left _ _ hk]; try rfl
theorem ext_lis {es : List D} (hS : S[k]? = some (.lst ds)) (hz : ds.length + es.length ≤ sizeLine) : p2 .extend (.val (.ref k)) (.lis es) S = .ok (.val .non) (S.set k (.lst (ds ++ es))) := by
  show (match S[k]? with | some (.lst ds) => (match W.seq S (.lis es) with | some (_, es) => if (isLst S (.lis es) && decide (ds.length + es.length ≤ sizeLine)) = true then vv .non (S.set k (.lst (ds ++ es))) else .bad | _ => .bad) | _ => .bad) = _
  rw [hS]
  show (if (true && decide (ds.length + es.length ≤ sizeLine)) = true then _ else _) = _
  rw [if_pos (by simpa using hz)]; try rfl
theorem ext_at {m : Nat} {es : List D} (hS : S[k]? = some (.lst ds)) (hm : S[m]? = some (.lst es)) (hz : ds.length + es.length ≤ sizeLine) : p2 .extend (.val (.ref k)) (.val (.ref m)) S = .ok (.val .non) (S.set k (.lst (ds ++ es))) := by
  have hq := seq_at hm
  have hl := isLst_at hm
  show (match S[k]? with | some (.lst ds) => (match W.seq S (.val (.ref m)) with | some (b, es) => if ((b || isLst S (.val (.ref m))) && decide (ds.length + es.length ≤ sizeLine)) = true then vv .non (S.set k (.lst (ds ++ es))) else .bad | _ => .bad) | _ => .bad) = _
  rw [hS]
  dsimp only
  rw [hq]
  dsimp only
  rw [Bool.false_or, hl, if_pos (by simpa using hz)]; try rfl
/-- a list gets a tuple's items -/
theorem ext_tup {es : List D} (hS : S[k]? = some (.lst ds)) (hz : ds.length + es.length ≤ sizeLine) : p2 .extend (.val (.ref k)) (.val (.tup es)) S = .ok (.val .non) (S.set k (.lst (ds ++ es))) := by
  show (match S[k]? with | some (.lst ds) => (match W.seq S (.val (.tup es)) with | some (b, es) => if ((b || isLst S (.val (.tup es))) && decide (ds.length + es.length ≤ sizeLine)) = true then vv .non (S.set k (.lst (ds ++ es))) else .bad | _ => .bad) | _ => .bad) = _
  rw [hS]
  show (if (true && decide (ds.length + es.length ≤ sizeLine)) = true then _ else _) = _
  rw [if_pos (by simpa using hz)]; try rfl
/-- a list times a whole number -/
theorem rep_lis {xs : List D} {n : Int} (h0 : fits62 n = true) (h : xs.length * n.toNat ≤ sizeLine) : p2 .mul (.lis xs) (.val (.int n)) S = .ok (.lis (List.replicate n.toNat xs).flatten) S := by
  show (if (true && fits62 n && decide (xs.length * n.toNat ≤ sizeLine)) = true then _ else _) = _
  rw [if_pos (by simp [h0, h])]
theorem add_lis {xs ys : List D} (h : xs.length + ys.length ≤ sizeLine) : p2 .add (.lis xs) (.lis ys) S = .ok (.lis (xs ++ ys)) S := by
  show (if (true && true && decide (xs.length + ys.length ≤ sizeLine)) = true then _ else _) = _
  rw [if_pos (by simpa using h)]
theorem add_at {xs : List D} (hS : S[k]? = some (.lst ds)) (h : ds.length + xs.length ≤ sizeLine) : p2 .add (.val (.ref k)) (.lis xs) S = .ok (.lis (ds ++ xs)) S := by
  have hq := seq_at hS
  have hl := isLst_at hS
  show (match W.seq S (.val (.ref k)), W.seq S (.lis xs) with
      | some (false, xs'), some (false, ys) => if (isLst S (.val (.ref k)) && isLst S (.lis xs) && decide (xs'.length + ys.length ≤ sizeLine)) = true then R.ok (W.lis (xs' ++ ys)) S else .bad
      | some (true, xs'), some (true, ys) => if (!xs'.isEmpty && !ys.isEmpty && decide (xs'.length + ys.length ≤ sizeLine)) = true then vv (.tup (xs' ++ ys)) S else .bad
      | _, _ => .bad) = _
  rw [hq, hl]
  show (if (true && true && decide (ds.length + xs.length ≤ sizeLine)) = true then _ else _) = _
  rw [if_pos (by simpa using h)]
theorem lis_add_at {xs : List D} (hS : S[k]? = some (.lst ds)) (h : xs.length + ds.length ≤ sizeLine) : p2 .add (.lis xs) (.val (.ref k)) S = .ok (.lis (xs ++ ds)) S := by
  have hq := seq_at hS
  have hl := isLst_at hS
  show (match W.seq S (.lis xs), W.seq S (.val (.ref k)) with
      | some (false, xs'), some (false, ys) => if (isLst S (.lis xs) && isLst S (.val (.ref k)) && decide (xs'.length + ys.length ≤ sizeLine)) = true then R.ok (W.lis (xs' ++ ys)) S else .bad
      | some (true, xs'), some (true, ys) => if (!xs'.isEmpty && !ys.isEmpty && decide (xs'.length + ys.length ≤ sizeLine)) = true then vv (.tup (xs' ++ ys)) S else .bad
      | _, _ => .bad) = _
  rw [hq, hl]
  show (if (true && true && decide (xs.length + ds.length ≤ sizeLine)) = true then _ else _) = _
  rw [if_pos (by simpa using h)]
theorem setItem_at {i : Int} {d : D} {j : Nat} (hS : S[k]? = some (.lst ds)) (h : L2.ixN ds.length i = some j) : setItem (.val (.ref k)) (.val (.int i)) d S = some (S.set k (.lst (ds.set j d))) := by
  unfold setItem
  simp only [hS, h]
  try rfl
theorem list_at (hS : S[k]? = some (.lst ds)) : p1 .list_ (.val (.ref k)) S = .ok (.lis ds) S := by
  show (match W.seq S (.val (.ref k)) with | some (_, ds) => R.ok (W.lis ds) S | none => .bad) = _
  rw [seq_at hS]
theorem pop_at {d : D} (hS : S[k]? = some (.lst (ds ++ [d]))) : p1 .pop (.val (.ref k)) S = .ok (.val d) (S.set k (.lst ds)) := by
  show (match S[k]? with | some (.lst ds) => (match ds.getLast? with | some d => R.ok (W.val d) (S.set k (.lst ds.dropLast)) | none => .bad) | _ => .bad) = _
  rw [hS]; simp
theorem all_lis {bs : List Bool} : p1 .all_ (.lis (bs.map D.bl)) S = .ok (.val (.bl (bs.all id))) S := by
  have : ∀ bs : List Bool, blsOf (bs.map D.bl) = some bs := by
    intro bs
    induction bs with
    | nil => rfl
    | cons b r ih => rw [List.map_cons, blsOf, ih]; try rfl
  show (match blsOf (bs.map D.bl) with | some bs => vv (.bl (bs.all id)) S | none => .bad) = _
  rw [this]; try rfl
theorem cut_at {lo hi : Option Int} (hS : S[k]? = some (.lst ds)) : cutW (.val (.ref k)) lo hi S = .ok (.lis (cutD ds lo hi)) S := by
  show (match W.seq S (.val (.ref k)) with | some (true, ds) => _ | some (false, ds) => _ | none => _) = _
  rw [seq_at hS]
theorem cut_ls {lo hi : Option Int} : cutW (.val (.ls ds)) lo hi S = .ok (.lis (cutD ds lo hi)) S := rfl
end
theorem ixN_at {i : Int} {n : Nat} (h : 0 ≤ i) (h2 : i < (n : Int)) : L2.ixN n i = some i.toNat := by
  unfold L2.ixN
  rw [if_pos h, if_pos (by omega)]
theorem atI_at {α : Type} {l : List α} {i : Int} {x : α} (h : 0 ≤ i) (h2 : l[i.toNat]? = some x) : L2.atI l i = some x := by
  have hl : i.toNat < l.length := (List.getElem?_eq_some_iff.mp h2).1
  unfold L2.atI
  rw [ixN_at h (by omega)]
  exact h2
theorem at_map {α : Type} {f : α → D} {l : List α} {r : Int} (h : 0 ≤ r) (h2 : r < (l.length : Int)) : ∃ x ∈ l, L2.atI (l.map f) r = some (f x) := by
  have hi : r.toNat < l.length := by omega
  exact ⟨l[r.toNat], List.getElem_mem hi, atI_at h (by rw [List.getElem?_map, List.getElem?_eq_getElem hi]; try rfl)⟩
theorem cutD_map {α β : Type} (f : α → β) (xs : List α) (lo hi : Option Int) : cutD (xs.map f) lo hi = (cutD xs lo hi).map f := by
  unfold cutD
  rw [List.length_map, List.map_take, List.map_drop]
theorem cutD_le {α : Type} (xs : List α) (lo hi : Option Int) : (cutD xs lo hi).length ≤ xs.length := by
  unfold cutD
  rw [List.length_take, List.length_drop]
  omega
theorem cutD_nat {α : Type} (xs : List α) (a b : Nat) : cutD xs (some (a : Int)) (some (b : Int)) = (xs.drop a).take (b - a) := by
  unfold cutD
  rw [HT.sIx_nat, HT.sIx_nat]
  by_cases h : a ≤ xs.length
  · rw [Nat.min_eq_left h]
    by_cases h2 : b ≤ xs.length
    · rw [Nat.min_eq_left h2]
    · rw [Nat.min_eq_right (by omega), List.take_of_length_le (by rw [List.length_drop]; omega), List.take_of_length_le (by rw [List.length_drop]; omega)]
  · rw [Nat.min_eq_right (show xs.length ≤ a by omega), List.drop_eq_nil_of_le (Nat.le_refl _), List.drop_eq_nil_of_le (show xs.length ≤ a by omega), List.take_nil, List.take_nil]
theorem cutD_from {α : Type} (xs : List α) (a : Nat) : cutD xs (some (a : Int)) none = xs.drop a := by
  unfold cutD
  rw [HT.sIx_nat, HT.sIx_none]
  by_cases h : a ≤ xs.length
  · rw [Nat.min_eq_left h, List.take_of_length_le (by rw [List.length_drop]; omega)]
  · rw [Nat.min_eq_right (by omega), List.drop_eq_nil_of_le (Nat.le_refl _), List.drop_eq_nil_of_le (by omega), List.take_nil]
theorem cutD_to {α : Type} (xs : List α) (b : Nat) : cutD xs none (some (b : Int)) = xs.take b := by
  unfold cutD
  rw [HT.sIx_nat, HT.sIx_none, List.drop_zero, Nat.sub_zero]
  by_cases h : b ≤ xs.length
  · rw [Nat.min_eq_left h]
  · rw [Nat.min_eq_right (by omega), List.take_of_length_le (Nat.le_refl _), List.take_of_length_le (by omega)]

/-! ### loops -/
@[simp] theorem isLive_nil {S : Store} : isLive [] S := fun p hp => by cases hp
theorem forL_nx {live : List (Nat × List D)} {turn : D → Env → Store → RS} {d : D} {r : List D} {ρ ρ' : Env} {S S' : Store} (h : isLive live S) (ht : turn d ρ S = .ok .nx ρ' S') : forL live turn (d :: r) ρ S = forL live turn r ρ' S' := by
  rw [forL, if_pos h, ht]
theorem forL_rt {live : List (Nat × List D)} {turn : D → Env → Store → RS} {d x : D} {r : List D} {ρ ρ' : Env} {S S' : Store} (h : isLive live S) (ht : turn d ρ S = .ok (.rt x) ρ' S') : forL live turn (d :: r) ρ S = .ok (.rt x) ρ' S' := by
  rw [forL, if_pos h, ht]
theorem forL_end {live : List (Nat × List D)} {turn : D → Env → Store → RS} {ρ : Env} {S : Store} (h : isLive live S) : forL live turn [] ρ S = .ok .nx ρ S := by
  rw [forL, if_pos h]
/-- a loop that goes from state to state -/
theorem forL_fold {α : Type} {live : List (Nat × List D)} {S : Store} (hl : isLive live S) {turn : D → Env → Store → RS} (E : α → Env) (step : α → D → α) : ∀ (ds : List D) (s : α), (∀ d ∈ ds, ∀ s, turn d (E s) S = .ok .nx (E (step s d)) S) → forL live turn ds (E s) S = .ok .nx (E (ds.foldl step s)) S
  | [], s, _ => forL_end hl
  | d :: r, s, h => by
    rw [forL_nx hl (h d List.mem_cons_self s), List.foldl_cons]
    exact forL_fold hl E step r (step s d) fun e he => h e (List.mem_cons_of_mem _ he)
/-- the same with an invariant of the states -/
theorem forL_foldI {α : Type} {live : List (Nat × List D)} {S : Store} (hl : isLive live S) {turn : D → Env → Store → RS} (E : α → Env) (step : α → D → α) (I : α → Prop) : ∀ (ds : List D) (s : α), I s → (∀ d ∈ ds, ∀ s, I s → turn d (E s) S = .ok .nx (E (step s d)) S ∧ I (step s d)) → forL live turn ds (E s) S = .ok .nx (E (ds.foldl step s)) S ∧ I (ds.foldl step s)
  | [], s, hI, _ => ⟨forL_end hl, hI⟩
  | d :: r, s, hI, h => by
    obtain ⟨h1, h2⟩ := h d List.mem_cons_self s hI
    rw [forL_nx hl h1, List.foldl_cons]
    exact forL_foldI hl E step I r (step s d) h2 fun e he => h e (List.mem_cons_of_mem _ he)
/-- a loop whose turns leave the store and the rest of the names -/
theorem forL_inv {live : List (Nat × List D)} {S : Store} (hl : isLive live S) {turn : D → Env → Store → RS} {I : Env → Prop} : ∀ (ds : List D) (ρ : Env), (∀ d ∈ ds, ∀ ρ, I ρ → ∃ ρ', turn d ρ S = .ok .nx ρ' S ∧ I ρ') → I ρ → ∃ ρ', forL live turn ds ρ S = .ok .nx ρ' S ∧ I ρ'
  | [], ρ, _, h => ⟨ρ, forL_end hl, h⟩
  | d :: r, ρ, ht, h => by
    obtain ⟨ρ1, h1, h2⟩ := ht d List.mem_cons_self ρ h
    obtain ⟨ρ2, h3, h4⟩ := forL_inv hl r ρ1 (fun e he => ht e (List.mem_cons_of_mem _ he)) h2
    exact ⟨ρ2, by rw [forL_nx hl h1, h3], h4⟩
/-- .. with a store that grows or changes: the invariant speaks of both -/
theorem forL_invS {live : List (Nat × List D)} {turn : D → Env → Store → RS} {I : List D → Env → Store → Prop} (hl : ∀ l ρ S, I l ρ S → isLive live S) : ∀ (ds : List D) (ρ : Env) (S : Store), (∀ d r ρ S, I (d :: r) ρ S → ∃ ρ' S', turn d ρ S = .ok .nx ρ' S' ∧ I r ρ' S') → I ds ρ S → ∃ ρ' S', forL live turn ds ρ S = .ok .nx ρ' S' ∧ I [] ρ' S'
  | [], ρ, S, _, h => ⟨ρ, S, forL_end (hl _ _ _ h), h⟩
  | d :: r, ρ, S, ht, h => by
    obtain ⟨ρ1, S1, h1, h2⟩ := ht d r ρ S h
    obtain ⟨ρ2, S2, h3, h4⟩ := forL_invS hl r ρ1 S1 ht h2
    exact ⟨ρ2, S2, by rw [forL_nx (hl _ _ _ h) h1, h3], h4⟩
theorem whileF_more {c : Env → Store → R Bool} {b : Env → Store → RS} : ∀ {n m : Nat} {ρ : Env} {S : Store} {r : RS}, n ≤ m → whileF c b n ρ S = some r → whileF c b m ρ S = some r
  | 0, m, ρ, S, r, _, h => by rw [whileF] at h; cases h
  | n + 1, 0, ρ, S, r, hm, h => absurd hm (by omega)
  | n + 1, m + 1, ρ, S, r, hm, h => by
    rw [whileF] at h ⊢
    cases hc : c ρ S with
    | bad => simp only [hc] at h ⊢; exact h
    | ex k fs S1 => simp only [hc] at h ⊢; exact h
    | ok k S1 =>
      simp only [hc] at h ⊢
      cases k with
      | false => exact h
      | true =>
        dsimp only at h ⊢
        cases hb : b ρ S1 with
        | bad => simp only [hb] at h ⊢; exact h
        | ex k fs ρ1 S1 => simp only [hb] at h ⊢; exact h
        | ok f ρ1 S2 =>
          cases f with
          | nx => simp only [hb] at h ⊢; exact whileF_more (by omega) h
          | cnt => simp only [hb] at h ⊢; exact whileF_more (by omega) h
          | brk => simp only [hb] at h ⊢; exact h
          | rt d => simp only [hb] at h ⊢; exact h
theorem whileF_go {c : Env → Store → R Bool} {b : Env → Store → RS} {n : Nat} {ρ ρ' : Env} {S S1 S2 : Store} {r : RS} (hc : c ρ S = .ok true S1) (hb : b ρ S1 = .ok .nx ρ' S2) (h : whileF c b n ρ' S2 = some r) : whileF c b (n + 1) ρ S = some r := by
  rw [whileF, hc]
  dsimp only
  rw [hb]
  exact h
theorem whileF_end {c : Env → Store → R Bool} {b : Env → Store → RS} {n : Nat} {ρ : Env} {S S1 : Store} (hc : c ρ S = .ok false S1) : whileF c b (n + 1) ρ S = some (.ok .nx ρ S1) := by
  rw [whileF, hc]
theorem whileF_rt {c : Env → Store → R Bool} {b : Env → Store → RS} {n : Nat} {ρ ρ' : Env} {S S1 S2 : Store} {d : D} (hc : c ρ S = .ok true S1) (hb : b ρ S1 = .ok (.rt d) ρ' S2) : whileF c b (n + 1) ρ S = some (.ok (.rt d) ρ' S2) := by
  rw [whileF, hc]
  dsimp only
  rw [hb]

/-! ### comprehensions -/
theorem compL_pure {live : List (Nat × List D)} {S : Store} (hl : isLive live S) {turn : D → Store → R (Option D)} {f : D → D} : ∀ (ds acc : List D), (∀ d ∈ ds, turn d S = .ok (some (f d)) S) → acc.length + ds.length ≤ sizeLine → compL live turn ds S acc = .ok (acc ++ ds.map f) S
  | [], acc, _, _ => by rw [compL, if_pos hl, List.map_nil, List.append_nil]
  | d :: r, acc, h, hz => by
    rw [List.length_cons] at hz
    rw [compL, if_pos hl, h d List.mem_cons_self]
    show (if acc.length < sizeLine then compL live turn r S (acc ++ [f d]) else .bad) = _
    rw [if_pos (by omega), compL_pure hl r (acc ++ [f d]) (fun e he => h e (List.mem_cons_of_mem _ he)) (by rw [List.length_append]; simp; omega)]
    simp
theorem comp_pure {C : CF} {ρ : Env} {S S' : Store} {i : Nat} {k : IK} {is : List Ex} {e : Ex} {own : List Nat} {x : Bool} {ws : List W} {I : Its} {f : D → D} (h1 : evWs C is ρ S = .ok ws S') (h2 : its k ws S' = some I) (hl : isLive I.live S') (hz : I.items.length ≤ sizeLine)
    (ht : ∀ d ∈ I.items, evD C e ((wipeD ρ own).set i (some d)) S' = .ok (f d) S') : evK C (.comp x (.nm i) k is [] e own) ρ S = .ok (.lis (I.items.map f)) S' := by
  rw [evK, h1]
  show (match its k ws S' with
    | some I => (compL I.live (fun d S => match bindTg (.nm i) d (wipeD ρ own) with
        | some ρ' => ((evCs C [] ρ' S).noxB x).bd fun b S => if b = true then (((evK C e ρ' S).bd toD).noxB x).bd fun d S => .ok (some d) S else .ok none S
        | none => .bad) I.items S' []).bd fun ds S => .ok (W.lis ds) S
    | none => .bad) = _
  rw [h2]
  dsimp only
  rw [compL_pure (f := f) hl I.items [] (fun d hd => ?_) (by simpa using hz), List.nil_append]
  · rfl
  · show (((evCs C [] ((wipeD ρ own).set i (some d)) S').noxB x).bd fun b S => if b = true then (((evK C e ((wipeD ρ own).set i (some d)) S).bd toD).noxB x).bd fun d S => .ok (some d) S else .ok none S) = _
    have := ht d hd
    unfold evD at this
    rw [evCs, R.noxB_ok]
    show ((((evK C e ((wipeD ρ own).set i (some d)) S').bd toD).noxB x).bd fun d S => R.ok (some d) S) = _
    rw [this, R.noxB_ok]
    try rfl
theorem compL_filter {live : List (Nat × List D)} {S : Store} (hl : isLive live S) {turn : D → Store → R (Option D)} {g : D → Option D} : ∀ (ds acc : List D), (∀ d ∈ ds, turn d S = .ok (g d) S) → acc.length + ds.length ≤ sizeLine → compL live turn ds S acc = .ok (acc ++ ds.filterMap g) S
  | [], acc, _, _ => by rw [compL, if_pos hl, List.filterMap_nil, List.append_nil]
  | d :: r, acc, h, hz => by
    rw [List.length_cons] at hz
    rw [compL, if_pos hl, h d List.mem_cons_self]
    cases hg : g d with
    | none =>
      show compL live turn r S acc = _
      rw [compL_filter hl r acc (fun e he => h e (List.mem_cons_of_mem _ he)) (by omega), List.filterMap_cons, hg]
    | some y =>
      show (if acc.length < sizeLine then compL live turn r S (acc ++ [y]) else .bad) = _
      rw [if_pos (by omega), compL_filter hl r (acc ++ [y]) (fun e he => h e (List.mem_cons_of_mem _ he)) (by rw [List.length_append]; simp; omega), List.filterMap_cons, hg]
      simp
theorem comp_filter {C : CF} {ρ : Env} {S S' : Store} {i : Nat} {k : IK} {is : List Ex} {c e : Ex} {own : List Nat} {x : Bool} {ws : List W} {I : Its} {p : D → Bool} {f : D → D} (h1 : evWs C is ρ S = .ok ws S') (h2 : its k ws S' = some I) (hl : isLive I.live S') (hz : I.items.length ≤ sizeLine)
    (hc : ∀ d ∈ I.items, evB C c ((wipeD ρ own).set i (some d)) S' = .ok (p d) S') (ht : ∀ d ∈ I.items, p d = true → evD C e ((wipeD ρ own).set i (some d)) S' = .ok (f d) S') : evK C (.comp x (.nm i) k is [c] e own) ρ S = .ok (.lis ((I.items.filter p).map f)) S' := by
  rw [evK, h1]
  show (match its k ws S' with
    | some I => (compL I.live (fun d S => match bindTg (.nm i) d (wipeD ρ own) with
        | some ρ' => ((evCs C [c] ρ' S).noxB x).bd fun b S => if b = true then (((evK C e ρ' S).bd toD).noxB x).bd fun d S => .ok (some d) S else .ok none S
        | none => .bad) I.items S' []).bd fun ds S => .ok (W.lis ds) S
    | none => .bad) = _
  rw [h2]
  dsimp only
  rw [compL_filter (g := fun d => if p d = true then some (f d) else none) hl I.items [] (fun d hd => ?_) (by simpa using hz), List.nil_append]
  · show R.ok _ _ = _
    congr 2
    generalize I.items = l
    clear hc ht
    induction l with
    | nil => rfl
    | cons d r ih =>
      rw [List.filterMap_cons, List.filter_cons]
      by_cases h : p d = true
      · simp only [h, if_true, List.map_cons, ih]
      · simp only [h, if_false, ih]; simp [ih]
  · show (((evCs C [c] ((wipeD ρ own).set i (some d)) S').noxB x).bd fun b S => if b = true then (((evK C e ((wipeD ρ own).set i (some d)) S).bd toD).noxB x).bd fun d S => .ok (some d) S else .ok none S) = _
    have hc := hc d hd
    have ht := ht d hd
    unfold evB at hc
    unfold evD at ht
    rw [evCs, hc]
    cases hp : p d with
    | false =>
      show ((R.noxB (R.ok false S') x).bd fun b S => if b = true then (((evK C e ((wipeD ρ own).set i (some d)) S).bd toD).noxB x).bd fun d S => .ok (some d) S else .ok none S) = _
      rw [R.noxB_ok]; try rfl
    | true =>
      show (((evCs C [] ((wipeD ρ own).set i (some d)) S').noxB x).bd fun b S => if b = true then (((evK C e ((wipeD ρ own).set i (some d)) S).bd toD).noxB x).bd fun d S => .ok (some d) S else .ok none S) = _
      rw [evCs, R.noxB_ok]
      show ((((evK C e ((wipeD ρ own).set i (some d)) S').bd toD).noxB x).bd fun d S => R.ok (some d) S) = _
      rw [ht hp, R.noxB_ok]
      try rfl
/-! ### loops over mapped lists -/
theorem forL_foldM {α β : Type} {live : List (Nat × List D)} {S : Store} (hl : isLive live S) {turn : D → Env → Store → RS} {g : β → D} (E : α → Env) (step : α → β → α) : ∀ (bs : List β) (s : α), (∀ b ∈ bs, ∀ s, turn (g b) (E s) S = .ok .nx (E (step s b)) S) → forL live turn (bs.map g) (E s) S = .ok .nx (E (bs.foldl step s)) S
  | [], s, _ => forL_end hl
  | b :: r, s, h => by
    rw [List.map_cons, forL_nx hl (h b List.mem_cons_self s), List.foldl_cons]
    exact forL_foldM hl E step r (step s b) fun e he => h e (List.mem_cons_of_mem _ he)
theorem forL_foldMI {α β : Type} {live : List (Nat × List D)} {S : Store} (hl : isLive live S) {turn : D → Env → Store → RS} {g : β → D} (E : α → Env) (step : α → β → α) (I : α → Prop) : ∀ (bs : List β) (s : α), I s → (∀ b ∈ bs, ∀ s, I s → turn (g b) (E s) S = .ok .nx (E (step s b)) S ∧ I (step s b)) → forL live turn (bs.map g) (E s) S = .ok .nx (E (bs.foldl step s)) S ∧ I (bs.foldl step s)
  | [], s, hI, _ => ⟨forL_end hl, hI⟩
  | b :: r, s, hI, h => by
    obtain ⟨h1, h2⟩ := h b List.mem_cons_self s hI
    rw [List.map_cons, forL_nx hl h1, List.foldl_cons]
    exact forL_foldMI hl E step I r (step s b) h2 fun e he => h e (List.mem_cons_of_mem _ he)
/-- a loop whose names and store are told by a state -/
theorem forL_J {α β : Type} {live : List (Nat × List D)} {turn : D → Env → Store → RS} {g : β → D} (step : α → β → α) (J : List β → α → Env → Store → Prop) (hl : ∀ l s ρ S, J l s ρ S → isLive live S)
    (ht : ∀ b r s ρ S, J (b :: r) s ρ S → ∃ ρ' S', turn (g b) ρ S = .ok .nx ρ' S' ∧ J r (step s b) ρ' S') : ∀ (bs : List β) (s : α) (ρ : Env) (S : Store), J bs s ρ S → ∃ ρ' S', forL live turn (bs.map g) ρ S = .ok .nx ρ' S' ∧ J [] (bs.foldl step s) ρ' S'
  | [], s, ρ, S, h => ⟨ρ, S, forL_end (hl _ _ _ _ h), h⟩
  | b :: r, s, ρ, S, h => by
    obtain ⟨ρ1, S1, h1, h2⟩ := ht b r s ρ S h
    obtain ⟨ρ2, S2, h3, h4⟩ := forL_J step J hl ht r (step s b) ρ1 S1 h2
    exact ⟨ρ2, S2, by rw [List.map_cons, forL_nx (hl _ _ _ _ h) h1, h3], h4⟩
/-- the starts 0, c, 2 c, .. below n -/
def stn (c n : Nat) : List Nat := (List.range (steps 0 n c)).map fun i => i * c
abbrev dn (n : Nat) : D := .int (n : Nat)
theorem its_r3 {S : Store} {c n : Nat} (hc : 0 < c) (hc2 : c < 1000000) (hn : n ≤ 2 ^ 40) : its .rng3 [.val (.int 0), .val (.int n), .val (.int c)] S = some ⟨(stn c n).map dn, []⟩ := by
  unfold its
  dsimp only
  rw [if_pos]
  · unfold stn intsD
    rw [List.map_map]
    congr 2
    refine List.map_congr_left fun i _ => ?_
    show D.int (0 + (i : Int) * c) = D.int ((i * c : Nat) : Int)
    congr 1
    rw [Int.zero_add, Int.natCast_mul]
  · unfold fits62
    simp only [Bool.and_eq_true, decide_eq_true_eq]
    omega
theorem steps_le {n c : Nat} (hc : 0 < c) : steps 0 n c ≤ n := by
  unfold steps
  split
  · have h : ((n : Int) - 0 - 1) / c ≤ (n : Int) - 1 := by
      have := Int.ediv_le_self (a := (n : Int) - 1) (b := c) (by omega)
      simpa using this
    omega
  · omega
theorem stn_len {n c : Nat} (hc : 0 < c) : (stn c n).length ≤ n := by
  unfold stn
  rw [List.length_map, List.length_range]
  exact steps_le hc
theorem cut_n {S : Store} {l : List Nat} {a : Nat} {c : Int} (hc : 0 ≤ c) (hz : l.length ≤ sizeLine) : cutW (.val (tx l)) (some (a : Int)) (some ((a : Int) + c)) S = .ok (.val (tx ((l.drop a).take c.toNat))) S := by
  rw [show (a : Int) + c = ((a + c.toNat : Nat) : Int) by omega, cut_tx hz, cutD_nat, Nat.add_sub_cancel_left]
@[simp] theorem unds_ints {k : Nat} : ∀ l : List Int, D.unds k (l.map D.int) = true
  | [] => by simp
  | x :: r => by rw [List.map_cons, unds_cons, und_int, unds_ints r]; try rfl
@[simp] theorem unds_tx {k : Nat} : ∀ l : List (List Nat), D.unds k (l.map tx) = true
  | [] => by simp
  | x :: r => by rw [List.map_cons, unds_cons, und_str, unds_tx r]; try rfl
theorem at_new {S : Store} {o : O} : (S ++ [o])[S.length]? = some o := by simp
theorem set_new {S : Store} {o o' : O} : (S ++ [o]).set S.length o' = S ++ [o'] := by
  rw [List.set_append_right _ _ (Nat.le_refl _), Nat.sub_self]; try rfl
/-! ### steps -/
section
variable {C : CF} {ρ ρ' : Env} {S S' S'' : Store}
@[simp] theorem e_c {d : D} : evK C (.c d) ρ S = .ok (.val d) S := by rw [evK]; try rfl
theorem e_v0 {i : Nat} : evK C (.v i) ρ S = (match ρ[i]? with | some (some d) => vv d S | _ => .bad) := by rw [evK]; try rfl
@[simp] theorem e_v {i : Nat} {d : D} (h : ρ[i]? = some (some d)) : evK C (.v i) ρ S = .ok (.val d) S := by rw [e_v0, h]; try rfl
@[simp] theorem e_p1 {o : P1} {a : Ex} : evK C (.p1 o a) ρ S = (evK C a ρ S).bd fun x S => p1 o x S := by rw [evK]
@[simp] theorem e_p2 {o : P2} {a b : Ex} : evK C (.p2 o a b) ρ S = (evK C a ρ S).bd fun x S => (evK C b ρ S).bd fun y S => p2 o x y S := by rw [evK]
@[simp] theorem e_isi {ts : List Ty} {a : Ex} : evK C (.isi ts a) ρ S = (evK C a ρ S).bd fun x S => isiW ts x S := by rw [evK]
@[simp] theorem e_and {a b : Ex} : evK C (.and_ a b) ρ S = ((evK C a ρ S).bd toB).bd fun c S => if c = true then evK C b ρ S else vv (.bl false) S := by rw [evK]
@[simp] theorem e_or {a b : Ex} : evK C (.or_ a b) ρ S = ((evK C a ρ S).bd toB).bd fun c S => if c = true then vv (.bl true) S else evK C b ρ S := by rw [evK]
@[simp] theorem e_not {a : Ex} : evK C (.not_ a) ρ S = ((evK C a ρ S).bd toB).bd fun c S => vv (.bl (!c)) S := by rw [evK]
@[simp] theorem e_ite {c a b : Ex} : evK C (.ite c a b) ρ S = ((evK C c ρ S).bd toB).bd fun k S => if k = true then evK C a ρ S else evK C b ρ S := by rw [evK]
@[simp] theorem e_tup {es : List Ex} : evK C (.tup es) ρ S = (evDs C es ρ S).bd fun ds S => if ds.length ≤ sizeLine then vv (.tup ds) S else .bad := by rw [evK]
@[simp] theorem e_disp {es : List Ex} : evK C (.disp es) ρ S = (evDs C es ρ S).bd fun ds S => if ds.length ≤ sizeLine then .ok (.lis ds) S else .bad := by rw [evK]
@[simp] theorem e_sl {a : Ex} {lo hi : List Ex} : evK C (.sl a lo hi) ρ S = (evK C a ρ S).bd fun x S => ((evWs C lo ρ S).bd partI).bd fun l S => ((evWs C hi ρ S).bd partI).bd fun h S => cutW x l h S := by rw [evK]
@[simp] theorem e_call {f : Nat} {es : List Ex} : evK C (.call f es) ρ S = (evDs C es ρ S).bd fun ds S => (C f ds S).bd fun d S => vv d S := by rw [evK]
@[simp] theorem e_m0 {k : MK} {o : P1} {a : Ex} : evK C (.m0 k o a) ρ S = (evK C a ρ S).bd fun x S => if k.is S x = true then p1 o x S else .bad := by rw [evK]
@[simp] theorem e_m1 {k : MK} {o : P2} {a b : Ex} : evK C (.m1 k o a b) ρ S = (evK C a ρ S).bd fun x S => if k.is S x = true then (evK C b ρ S).bd fun y S => p2 o x y S else .bad := by rw [evK]
@[simp] theorem e_repl {a v w : Ex} {lo : List Ex} {y z : Str} : evK C (.repl a lo v w y z) ρ S = (evK C a ρ S).bd fun x S => ((evWs C lo ρ S).bd partI).bd fun l S => (evK C v ρ S).bd fun p S => (evK C w ρ S).bd fun q S => replC x l p q y z S := by rw [evK]
@[simp] theorem e_fst {es : List Ex} : evK C (.fst es) ρ S = evJ C es ρ S Str.empty := by rw [evK]
@[simp] theorem e_j0 {acc : Str} : evJ C [] ρ S acc = .ok (.val (.str acc)) S := by rw [evJ]; try rfl
@[simp] theorem e_ds0 : evDs C [] ρ S = .ok [] S := by rw [evDs]
@[simp] theorem e_ds {e : Ex} {r : List Ex} : evDs C (e :: r) ρ S = ((evK C e ρ S).bd toD).bd fun d S => (evDs C r ρ S).bd fun ds S => .ok (d :: ds) S := by rw [evDs]
@[simp] theorem e_ws0 : evWs C [] ρ S = .ok [] S := by rw [evWs]
@[simp] theorem e_ws {e : Ex} {r : List Ex} : evWs C (e :: r) ρ S = (evK C e ρ S).bd fun d S => (evWs C r ρ S).bd fun ds S => .ok (d :: ds) S := by rw [evWs]
@[simp] theorem e_D {e : Ex} : evD C e ρ S = (evK C e ρ S).bd toD := rfl
@[simp] theorem e_B {e : Ex} : evB C e ρ S = (evK C e ρ S).bd toB := rfl
@[simp] theorem bd_ok' {α β : Type} {a : α} {f : α → Store → R β} : (R.ok a S).bd f = f a S := rfl
@[simp] theorem toD_val {d : D} : toD (.val d) S = .ok d S := rfl
@[simp] theorem toD_lis {ds : List D} : toD (.lis ds) S = .ok (.ref S.length) (S ++ [.lst ds]) := rfl
@[simp] theorem toB_bl {b : Bool} : toB (.val (.bl b)) S = .ok b S := rfl
@[simp] theorem vv_ok' {d : D} : vv d S = .ok (.val d) S := rfl
@[simp] theorem partI0 : partI [] S = .ok none S := rfl
@[simp] theorem partI1 {i : Int} : partI [.val (.int i)] S = .ok (some i) S := rfl
theorem x_nil : exSs C [] ρ S = .ok .nx ρ S := by rw [exSs]
theorem x_set {i : Nat} {e : Ex} {r : List Stm} {d : D} (h : evD C e ρ S = .ok d S') : exSs C (.set (.nm i) e :: r) ρ S = exSs C r (ρ.set i (some d)) S' := by
  rw [exSs, exS, h]; try rfl
theorem x_tp {is : List Nat} {e : Ex} {r : List Stm} {ds : List D} (h : evD C e ρ S = .ok (.tup ds) S') (h2 : bindTs is ds ρ = some ρ') : exSs C (.set (.tp is) e :: r) ρ S = exSs C r ρ' S' := by
  rw [exSs, exS, h]
  show (match bindTs is ds ρ with | some ρ => RS.ok .nx ρ S' | none => .bad).sq _ = _
  rw [h2]; try rfl
theorem x_exp {e : Ex} {r : List Stm} {w : W} (h : evK C e ρ S = .ok w S') : exSs C (.exp e :: r) ρ S = exSs C r ρ S' := by
  rw [exSs, exS, h]; try rfl
theorem x_ret {e : Ex} {r : List Stm} {d : D} (h : evD C e ρ S = .ok d S') : exSs C (.ret e :: r) ρ S = .ok (.rt d) ρ S' := by
  rw [exSs, exS, h]; try rfl
theorem x_ix {o i e : Ex} {r : List Stm} {d : D} {S1 S2 S3 S4 : Store} {w v : W} (h : evD C e ρ S = .ok d S1) (h2 : evK C o ρ S1 = .ok w S2) (h3 : evK C i ρ S2 = .ok v S3) (h4 : setItem w v d S3 = some S4) : exSs C (.setIx o i e :: r) ρ S = exSs C r ρ S4 := by
  rw [exSs, exS, h]
  show (((evK C o ρ S1).st ρ fun x S => (evK C i ρ S).st ρ fun y S => match setItem x y d S with
    | some S => .ok .nx ρ S
    | none => .bad) : RS).sq _ = _
  rw [h2]
  show (((evK C i ρ S2).st ρ fun y S => match setItem w y d S with
    | some S => .ok .nx ρ S
    | none => .bad) : RS).sq _ = _
  rw [h3]
  show ((match setItem w v d S3 with
    | some S => .ok .nx ρ S
    | none => .bad) : RS).sq _ = _
  rw [h4]; try rfl
theorem x_ift {c : Ex} {a b r : List Stm} (h : evB C c ρ S = .ok true S') : exSs C (.iff c a b :: r) ρ S = (exSs C a ρ S').sq fun ρ S => exSs C r ρ S := by
  rw [exSs, exS, h]; try rfl
theorem x_iff {c : Ex} {a b r : List Stm} (h : evB C c ρ S = .ok false S') : exSs C (.iff c a b :: r) ρ S = (exSs C b ρ S').sq fun ρ S => exSs C r ρ S := by
  rw [exSs, exS, h]; try rfl
theorem y_set {i : Nat} {e : Ex} {r : List Stm} (d : D) (h : evD C e ρ S = .ok d S) : exSs C (.set (.nm i) e :: r) ρ S = exSs C r (ρ.set i (some d)) S := x_set h
theorem y_tp {is : List Nat} {e : Ex} {r : List Stm} (ds : List D) (h : evD C e ρ S = .ok (.tup ds) S) (h2 : bindTs is ds ρ = some ρ') : exSs C (.set (.tp is) e :: r) ρ S = exSs C r ρ' S := x_tp h h2
theorem y_exp {e : Ex} {r : List Stm} (w : W) (h : evK C e ρ S = .ok w S) : exSs C (.exp e :: r) ρ S = exSs C r ρ S := x_exp h
theorem y_ret {e : Ex} {r : List Stm} {d : D} (h : evD C e ρ S = .ok d S) : exSs C (.ret e :: r) ρ S = .ok (.rt d) ρ S := x_ret h
/-- an if without else, not taken -/
theorem x_if0 {c : Ex} {a r : List Stm} (h : evB C c ρ S = .ok false S') : exSs C (.iff c a [] :: r) ρ S = exSs C r ρ S' := by
  rw [x_iff h, x_nil]; try rfl
/-- an if that returns -/
theorem x_if1 {c e : Ex} {b r : List Stm} {d : D} (h : evB C c ρ S = .ok true S') (h2 : evD C e ρ S' = .ok d S'') : exSs C (.iff c [.ret e] b :: r) ρ S = .ok (.rt d) ρ S'' := by
  rw [x_ift h, x_ret h2]; try rfl
theorem y_if0 {c : Ex} {a r : List Stm} (h : evB C c ρ S = .ok false S) : exSs C (.iff c a [] :: r) ρ S = exSs C r ρ S := x_if0 h
theorem y_ift {c : Ex} {a b r : List Stm} (h : evB C c ρ S = .ok true S) : exSs C (.iff c a b :: r) ρ S = (exSs C a ρ S).sq fun ρ S => exSs C r ρ S := x_ift h
theorem y_iff {c : Ex} {a b r : List Stm} (h : evB C c ρ S = .ok false S) : exSs C (.iff c a b :: r) ρ S = (exSs C b ρ S).sq fun ρ S => exSs C r ρ S := x_iff h
theorem y_if1 {c e : Ex} {b r : List Stm} {d : D} (h : evB C c ρ S = .ok true S) (h2 : evD C e ρ S = .ok d S) : exSs C (.iff c [.ret e] b :: r) ρ S = .ok (.rt d) ρ S := x_if1 h h2
theorem x_for {i : Nat} {k : IK} {is : List Ex} {b r : List Stm} {ws : List W} {I : Its} (h : evWs C is ρ S = .ok ws S') (h2 : its k ws S' = some I) (h3 : forL I.live (fun d ρ S => exSs C b (ρ.set i (some d)) S) I.items ρ S' = .ok .nx ρ' S'') : exSs C (.for_ (.nm i) k is b :: r) ρ S = exSs C r ρ' S'' := by
  rw [exSs, exS, h]
  show ((match its k ws S' with
    | some I => forL I.live (fun d ρ S => exSs C b (ρ.set i (some d)) S) I.items ρ S'
    | none => .bad) : RS).sq _ = _
  rw [h2]
  dsimp only
  rw [h3]; try rfl
theorem x_forR {i : Nat} {k : IK} {is : List Ex} {b r : List Stm} {ws : List W} {I : Its} {d : D} (h : evWs C is ρ S = .ok ws S') (h2 : its k ws S' = some I) (h3 : forL I.live (fun d ρ S => exSs C b (ρ.set i (some d)) S) I.items ρ S' = .ok (.rt d) ρ' S'') : exSs C (.for_ (.nm i) k is b :: r) ρ S = .ok (.rt d) ρ' S'' := by
  rw [exSs, exS, h]
  show ((match its k ws S' with
    | some I => forL I.live (fun d ρ S => exSs C b (ρ.set i (some d)) S) I.items ρ S'
    | none => .bad) : RS).sq _ = _
  rw [h2]
  dsimp only
  rw [h3]; try rfl
theorem x_whl {c : Ex} {b r : List Stm} {n : Nat} (h : whileF (evB C c) (exSs C b) n ρ S = some (.ok .nx ρ' S')) : exSs C (.whl c b :: r) ρ S = exSs C r ρ' S' := by
  rw [exSs, exS, whileR_of h]; try rfl
theorem x_whlR {c : Ex} {b r : List Stm} {n : Nat} {d : D} (h : whileF (evB C c) (exSs C b) n ρ S = some (.ok (.rt d) ρ' S')) : exSs C (.whl c b :: r) ρ S = .ok (.rt d) ρ' S' := by
  rw [exSs, exS, whileR_of h]; try rfl
theorem x_aug {i : Nat} {o : P2} {e : Ex} {r : List Stm} {x d : D} {w : W} (h : ρ[i]? = some (some x)) (h2 : evK C e ρ S = .ok w S') (h3 : augV o x w = some d) : exSs C (.aug i o e :: r) ρ S = exSs C r (ρ.set i (some d)) S' := by
  rw [exSs, exS, h]
  show (((evK C e ρ S).st ρ fun y S => match augV o x y with
      | some d => .ok .nx (ρ.set i (some d)) S
      | none => .bad) : RS).sq _ = _
  rw [h2]
  show ((match augV o x w with
      | some d => .ok .nx (ρ.set i (some d)) S'
      | none => .bad) : RS).sq _ = _
  rw [h3]; try rfl
theorem r_run {tab : Nat → Option Fn} {n i : Nat} {F : Fn} {ds : List D} {d : D} {r : R D} (h : tab i = some F) (hl : ds.length = F.np) (hf : F.fr = false) (hx : ∃ ρ', exSs (run tab n) F.body (ds.map some ++ List.replicate (F.nl - F.np) none) S = .ok (.rt d) ρ' S') (hp : pack S d S' = r) : run tab (n + 1) i ds S = r := by
  obtain ⟨_, hx⟩ := hx
  rw [run_fin h hl hf, hx]; exact hp
theorem r_runN {tab : Nat → Option Fn} {n i : Nat} {F : Fn} {ds : List D} {r : R D} (h : tab i = some F) (hl : ds.length = F.np) (hf : F.fr = false) (hx : ∃ ρ', exSs (run tab n) F.body (ds.map some ++ List.replicate (F.nl - F.np) none) S = .ok .nx ρ' S') (hp : pack S .non S' = r) : run tab (n + 1) i ds S = r := by
  obtain ⟨_, hx⟩ := hx
  rw [run_fin h hl hf, hx]; exact hp
end
/-- a new object behind others that nobody knows -/
theorem pack_fresh {S T : Store} {m : Nat} {o : O} (hm : S.length ≤ m) (hT : (S ++ T)[m]? = some o) (ho : o.und S.length = true) : pack S (.ref m) (S ++ T) = .ok (.ref S.length) (S ++ [o]) := by
  unfold pack
  rw [if_pos (keeps_app S T), if_neg (by unfold D.und; simp; exact hm)]
  dsimp only
  rw [hT]
  show (if o.und S.length = true then _ else _) = _
  rw [if_pos ho, List.take_left]
theorem fold_snoc {α β : Type} (f : α → β) : ∀ (bs : List α) (acc : List β), bs.foldl (fun s a => s ++ [f a]) acc = acc ++ bs.map f
  | [], acc => by simp
  | b :: r, acc => by rw [List.foldl_cons, fold_snoc f r]; simp
/-- a part of an f-string -/
theorem y_j {C : CF} {ρ : Env} {S : Store} {e : Ex} {r : List Ex} {a y : List Nat} (h : evK C e ρ S = .ok (.val (tx y)) S) (hz : (a ++ y).length ≤ sizeLine) : evJ C (e :: r) ρ S (SX.S a) = evJ C r ρ S (SX.S (a ++ y)) := by
  rw [evJ, h]
  show (if (SX.S a ++ SX.S y).length ≤ sizeLine then evJ C r ρ S (SX.S a ++ SX.S y) else .bad) = _
  rw [SX.S_cat, SX.S_len, if_pos hz]
/-- it returns -/
abbrev Rt (r : RS) (d : D) (S' : Store) : Prop := ∃ ρ', r = .ok (.rt d) ρ' S'
theorem Rt.go {a b : RS} {d : D} {S' : Store} (h : a = b) (k : Rt b d S') : Rt a d S' := by rw [h]; exact k
theorem Rt.fin {a : RS} {d : D} {ρ : Env} {S' : Store} (h : a = .ok (.rt d) ρ S') : Rt a d S' := ⟨ρ, h⟩
end Mi

/-! Mi, part V: the defs as Lean functions, to be reckoned with in the kernel. -/
namespace Mi
open PySem L2
noncomputable def p1_neg (w : W) (S : Store) : R W := match w with
    | .val (.int i) => vv (.int (-i)) S
    | _ => .bad
theorem e_p1_neg : p1 .neg = p1_neg := rfl
noncomputable def p1_isN (w : W) (S : Store) : R W := match w with
    | .val .non => vv (.bl true) S
    | _ => vv (.bl false) S
theorem e_p1_isN : p1 .isN = p1_isN := rfl
noncomputable def p1_notN (w : W) (S : Store) : R W := match w with
    | .val .non => vv (.bl false) S
    | _ => vv (.bl true) S
theorem e_p1_notN : p1 .notN = p1_notN := rfl
noncomputable def p1_len (w : W) (S : Store) : R W := match w with
    | .val (.str x) => if x.length ≤ sizeLine then vv (.int x.length) S else .bad
    | w => match w.seq S with
      | some (_, ds) => vv (.int ds.length) S
      | none => .bad
theorem e_p1_len : p1 .len = p1_len := rfl
noncomputable def p1_int_ (w : W) (S : Store) : R W := match w with
    | .val (.int i) => vv (.int i) S
    | .val (.bl b) => vv (.int (if b then 1 else 0)) S
    | .val (.str x) => match PySem.intText? x with
      | some n => if x.length ≤ 640 then vv (.int n) S else .bad
      | none => .bad
    | _ => .bad
theorem e_p1_int_ : p1 .int_ = p1_int_ := rfl
noncomputable def p1_all_ (w : W) (S : Store) : R W := match w.seq S with
    | some (false, ds) => match blsOf ds with
      | some bs => vv (.bl (bs.all id)) S
      | none => .bad
    | _ => .bad
theorem e_p1_all_ : p1 .all_ = p1_all_ := rfl
noncomputable def p1_sum (w : W) (S : Store) : R W := match w.seq S with
    | some (false, ds) => match intsOf ds with
      | some ns => vv (.int ns.sum) S
      | none => .bad
    | _ => .bad
theorem e_p1_sum : p1 .sum = p1_sum := rfl
noncomputable def p1_abs (w : W) (S : Store) : R W := match w with
    | .val (.int i) => vv (.int (if i < 0 then -i else i)) S
    | _ => .bad
theorem e_p1_abs : p1 .abs = p1_abs := rfl
noncomputable def p1_fmt (w : W) (S : Store) : R W := match w with
    | .val (.str x) => if x.length ≤ sizeLine then vv (.str x) S else .bad
    | .val (.int i) => if i.natAbs.log2 < 1920 then vv (.str (toString i)) S else .bad
    | _ => .bad
theorem e_p1_fmt : p1 .fmt = p1_fmt := rfl
noncomputable def p1_ord (w : W) (S : Store) : R W := match w with
    | .val (.str x) => if x.length = 1 then vv (.int (x.cps.getD 0 0 : Nat)) S else .bad
    | _ => .bad
theorem e_p1_ord : p1 .ord = p1_ord := rfl
noncomputable def p1_str_ (w : W) (S : Store) : R W := match w with
    | .val (.int i) => if i.natAbs.log2 < 1920 then vv (.str (toString i)) S else .bad
    | _ => .bad
theorem e_p1_str_ : p1 .str_ = p1_str_ := rfl
noncomputable def p1_tuple_ (w : W) (S : Store) : R W := match w.seq S with
    | some (_, ds) => match w with
      | .val (.kt _) => .bad
      | _ => vv (.tup ds) S
    | none => .bad
theorem e_p1_tuple_ : p1 .tuple_ = p1_tuple_ := rfl
noncomputable def p1_list_ (w : W) (S : Store) : R W := match w.seq S with
    | some (_, ds) => .ok (.lis ds) S
    | none => .bad
theorem e_p1_list_ : p1 .list_ = p1_list_ := rfl
noncomputable def p1_pop (w : W) (S : Store) : R W := match w with
    | .val (.ref n) => match S[n]? with
      | some (.lst ds) => match ds.getLast? with
        | some d => .ok (.val d) (S.set n (.lst ds.dropLast))
        | none => .bad
      | _ => .bad
    | _ => .bad
theorem e_p1_pop : p1 .pop = p1_pop := rfl
noncomputable def p1_dict_ (w : W) (S : Store) : R W := match w.seq S with
    | some (false, ds) => match dictOf ds with
      | some o => .ok (.val (.ref S.length)) (S ++ [o])
      | none => .bad
    | _ => .bad
theorem e_p1_dict_ : p1 .dict_ = p1_dict_ := rfl
noncomputable def p2_lzip (x y : W) (S : Store) : R W := lzipW x y S
theorem e_p2_lzip : p2 .lzip = p2_lzip := rfl
noncomputable def p2_add (x y : W) (S : Store) : R W := match x, y with
    | .val (.int i), .val (.int j) => vv (.int (i + j)) S
    | .val (.str a), .val (.str b) => if a.length + b.length ≤ sizeLine then vv (.str (a ++ b)) S else .bad
    | x, y => match x.seq S, y.seq S with
      | some (false, xs), some (false, ys) => if (isLst S x && isLst S y && decide (xs.length + ys.length ≤ sizeLine)) = true then .ok (.lis (xs ++ ys)) S else .bad
      | some (true, xs), some (true, ys) => if (!xs.isEmpty && !ys.isEmpty && decide (xs.length + ys.length ≤ sizeLine)) = true then vv (.tup (xs ++ ys)) S else .bad
      | _, _ => .bad
theorem e_p2_add : p2 .add = p2_add := rfl
noncomputable def p2_sub (x y : W) (S : Store) : R W := match x, y with
    | .val (.int i), .val (.int j) => vv (.int (i - j)) S
    | _, _ => .bad
theorem e_p2_sub : p2 .sub = p2_sub := rfl
noncomputable def p2_mul (x y : W) (S : Store) : R W := match x, y with
    | .val (.int i), .val (.int j) => if mulFits i j = true then vv (.int (i * j)) S else .bad
    | .val (.str a), .val (.int j) => if 0 ≤ j ∧ j ≤ 1000 ∧ a.length ≤ 1000 then vv (.str (Txt.mul a j)) S else .bad
    | x, .val (.int j) => match x.seq S with
      | some (false, ds) => if (isLst S x && fits62 j && decide (ds.length * j.toNat ≤ sizeLine)) = true then .ok (.lis (List.replicate j.toNat ds).flatten) S else .bad
      | _ => .bad
    | _, _ => .bad
theorem e_p2_mul : p2 .mul = p2_mul := rfl
noncomputable def p2_fdiv (x y : W) (S : Store) : R W := match x, y with
    | .val (.int i), .val (.int j) => if divFits j = true then vv (.int (i / j)) S else .bad
    | _, _ => .bad
theorem e_p2_fdiv : p2 .fdiv = p2_fdiv := rfl
noncomputable def p2_mod (x y : W) (S : Store) : R W := match x, y with
    | .val (.int i), .val (.int j) => if 0 < j then vv (.int (i % j)) S else .bad
    | _, _ => .bad
theorem e_p2_mod : p2 .mod = p2_mod := rfl
noncomputable def p2_pow (x y : W) (S : Store) : R W := match x, y with
    | .val (.int i), .val (.int j) => if 0 ≤ j ∧ j ≤ 1000000 ∧ i.natAbs < 2 ^ 64 then vv (.int (i ^ j.toNat)) S else .bad
    | _, _ => .bad
theorem e_p2_pow : p2 .pow = p2_pow := rfl
noncomputable def p2_eq (x y : W) (S : Store) : R W := ob (eqW x y S) S
theorem e_p2_eq : p2 .eq = p2_eq := rfl
noncomputable def p2_ne (x y : W) (S : Store) : R W := ob ((eqW x y S).map (!·)) S
theorem e_p2_ne : p2 .ne = p2_ne := rfl
noncomputable def p2_lt (x y : W) (S : Store) : R W := match x.py S, y.py S with
    | some a, some b => ob (cmpD .lt a b) S
    | _, _ => .bad
theorem e_p2_lt : p2 .lt = p2_lt := rfl
noncomputable def p2_le (x y : W) (S : Store) : R W := match x.py S, y.py S with
    | some a, some b => ob (cmpD .le a b) S
    | _, _ => .bad
theorem e_p2_le : p2 .le = p2_le := rfl
noncomputable def p2_gt (x y : W) (S : Store) : R W := match x.py S, y.py S with
    | some a, some b => ob (cmpD .gt a b) S
    | _, _ => .bad
theorem e_p2_gt : p2 .gt = p2_gt := rfl
noncomputable def p2_ge (x y : W) (S : Store) : R W := match x.py S, y.py S with
    | some a, some b => ob (cmpD .ge a b) S
    | _, _ => .bad
theorem e_p2_ge : p2 .ge = p2_ge := rfl
noncomputable def p2_inn (x y : W) (S : Store) : R W := ob (isIn x y S) S
theorem e_p2_inn : p2 .inn = p2_inn := rfl
noncomputable def p2_nin (x y : W) (S : Store) : R W := ob ((isIn x y S).map (!·)) S
theorem e_p2_nin : p2 .nin = p2_nin := rfl
noncomputable def p2_ix (x y : W) (S : Store) : R W := match x with
    | .val (.str z) => match y with
      | .val (.int i) => match atI z.cps.toList i with
        | some c => if z.length ≤ sizeLine then vv (.str ⟨#[c]⟩) S else .bad
        | none => .bad
      | _ => .bad
    | x => match x.seq S with
      | some (_, ds) => match y with
        | .val (.int i) => match atI ds i with
          | some d => vv d S
          | none => .bad
        | _ => .bad
      | none => match x, y with
        | .val (.ref n), .val k => match look S n k with
          | some (some d) => vv d S
          | _ => .bad
        | _, _ => .bad
theorem e_p2_ix : p2 .ix = p2_ix := rfl
noncomputable def p2_append (x y : W) (S : Store) : R W := (toD y S).bd fun d S => match x with
    | .val (.ref n) => match S[n]? with
      | some (.lst ds) => if ds.length < sizeLine then vv .non (S.set n (.lst (ds ++ [d]))) else .bad
      | _ => .bad
    | _ => .bad
theorem e_p2_append : p2 .append = p2_append := rfl
noncomputable def p2_extend (x y : W) (S : Store) : R W := match x with
    | .val (.ref n) => match S[n]? with
      | some (.lst ds) => match y.seq S with
        | some (b, es) => if ((b || isLst S y) && decide (ds.length + es.length ≤ sizeLine)) = true then vv .non (S.set n (.lst (ds ++ es))) else .bad
        | _ => .bad
      | _ => .bad
    | _ => .bad
theorem e_p2_extend : p2 .extend = p2_extend := rfl
noncomputable def p2_join (x y : W) (S : Store) : R W := match x with
    | .val (.str a) => match y.seq S with
      | some (_, ds) => match strsOf ds with
        | some ys => if joinFits a ys = true then vv (.str (Txt.join a ys)) S else .bad
        | none => .bad
      | none => .bad
    | _ => .bad
theorem e_p2_join : p2 .join = p2_join := rfl
noncomputable def p2_max_ (x y : W) (S : Store) : R W := match x, y with
    | .val (.int i), .val (.int j) => vv (.int (if j > i then j else i)) S
    | _, _ => .bad
theorem e_p2_max_ : p2 .max_ = p2_max_ := rfl
noncomputable def p2_min_ (x y : W) (S : Store) : R W := match x, y with
    | .val (.int i), .val (.int j) => vv (.int (if j < i then j else i)) S
    | _, _ => .bad
theorem e_p2_min_ : p2 .min_ = p2_min_ := rfl
noncomputable def p2_split (x y : W) (S : Store) : R W := match x, y with
    | .val (.str a), .val (.str b) => if (b.length == 0) = false ∧ a.length + 2 ≤ sizeLine then .ok (.lis ((Txt.split a b).map .str)) S else .bad
    | _, _ => .bad
theorem e_p2_split : p2 .split = p2_split := rfl

/-! ### quick ways -/
section
variable {α : Type}
noncomputable def nthF (n : Nat) : List α → Option α := Nat.rec (motive := fun _ => List α → Option α) (fun l => List.casesOn l none fun a _ => some a) (fun _ ih l => List.casesOn l none fun _ r => ih r) n
theorem nthF_eq : ∀ (n : Nat) (l : List α), l[n]? = nthF n l
  | 0, [] => rfl
  | 0, _ :: _ => rfl
  | n + 1, [] => rfl
  | n + 1, _ :: r => by rw [List.getElem?_cons_succ, nthF_eq n r]; try rfl
noncomputable def lenF (l : List α) : Nat := List.rec (motive := fun _ => Nat) 0 (fun _ _ ih => Nat.add ih 1) l
theorem lenF_eq : ∀ l : List α, l.length = lenF l
  | [] => rfl
  | _ :: r => by rw [List.length_cons, lenF_eq r]; try rfl
noncomputable def setF (n : Nat) (v : α) : List α → List α := Nat.rec (motive := fun _ => List α → List α) (fun l => List.casesOn l [] fun _ r => v :: r) (fun _ ih l => List.casesOn l [] fun a r => a :: ih r) n
theorem setF_eq : ∀ (n : Nat) (v : α) (l : List α), l.set n v = setF n v l
  | 0, _, [] => rfl
  | 0, _, _ :: _ => rfl
  | n + 1, _, [] => rfl
  | n + 1, v, a :: r => by rw [List.set_cons_succ, setF_eq n v r]; try rfl
noncomputable def appF (l m : List α) : List α := List.rec (motive := fun _ => List α) m (fun a _ ih => a :: ih) l
theorem appF_eq : ∀ l m : List α, l ++ m = appF l m
  | [], _ => rfl
  | a :: r, m => by rw [List.cons_append, appF_eq r m]; try rfl
noncomputable def atF (l : List α) (i : Int) : Option α := Int.casesOn i (fun n => nthF n l) fun n => cond (Nat.ble (Nat.succ n) (lenF l)) (nthF (Nat.sub (lenF l) (Nat.succ n)) l) none
theorem atF_eq (l : List α) (i : Int) : atI l i = atF l i := by
  unfold atI ixN
  cases i with
  | ofNat n =>
    show _ = nthF n l
    rw [← nthF_eq, if_pos (by simp)]
    by_cases h : n < l.length
    · rw [if_pos (by simpa using h)]; try rfl
    · rw [if_neg (by simpa using h), List.getElem?_eq_none (by omega)]; try rfl
  | negSucc n =>
    show _ = cond (Nat.ble (Nat.succ n) (lenF l)) (nthF (Nat.sub (lenF l) (Nat.succ n)) l) none
    rw [if_neg (by simp), ← lenF_eq, ← nthF_eq]
    by_cases h : n + 1 ≤ l.length
    · rw [if_pos (by omega), show Nat.ble (Nat.succ n) l.length = true from Nat.ble_eq.mpr h]
      show l[(Int.negSucc n + (l.length : Int)).toNat]? = l[l.length - (n + 1)]?
      congr 1
      omega
    · rw [if_neg (by omega)]
      cases q : Nat.ble (Nat.succ n) l.length
      · rfl
      · exact absurd (Nat.ble_eq.mp q) h
end
noncomputable def sameF (a : List Nat) : List Nat → Bool := List.rec (motive := fun _ => List Nat → Bool) (fun b => List.casesOn b true fun _ _ => false) (fun x _ ih b => List.casesOn b false fun y t => cond (Nat.beq x y) (ih t) false) a
theorem sameF_eq : ∀ a b : List Nat, sameN a b = sameF a b
  | [], [] => rfl
  | [], _ :: _ => rfl
  | _ :: _, [] => rfl
  | x :: a, y :: b => by
    unfold sameN
    rw [sameF_eq a b]
    show _ = cond (Nat.beq x y) (sameF a b) false
    cases Nat.beq x y <;> rfl
noncomputable def hasF (c : Nat) (l : List Nat) : Bool := List.rec (motive := fun _ => Bool) false (fun a _ ih => cond (Nat.beq a c) true ih) l
theorem hasF_eq {c : Nat} : ∀ l : List Nat, hasN c l = hasF c l
  | [] => rfl
  | a :: r => by
    unfold hasN
    rw [hasF_eq r]
    show _ = cond (Nat.beq a c) true (hasF c r)
    cases Nat.beq a c <;> rfl
def ltF (i j : Int) : Bool := Int.casesOn i (fun a => Int.casesOn j (fun b => Nat.ble (Nat.succ a) b) fun _ => false) fun a => Int.casesOn j (fun _ => true) fun b => Nat.ble (Nat.succ b) a
theorem ltF_eq (i j : Int) : decide (i < j) = ltF i j := by
  have key : ∀ {p : Prop} [Decidable p] {b : Bool}, (p ↔ b = true) → decide p = b := fun h => by
    rename_i p _ b
    cases b with
    | true => exact decide_eq_true (h.mpr rfl)
    | false => exact decide_eq_false fun z => by cases h.mp z
  cases i with
  | ofNat a =>
    cases j with
    | ofNat b =>
      refine key ?_
      show _ ↔ Nat.ble (Nat.succ a) b = true
      rw [Nat.ble_eq]
      show Int.ofNat a < Int.ofNat b ↔ a < b
      constructor
      · intro h; exact Int.ofNat_lt.mp h
      · intro h; exact Int.ofNat_lt.mpr h
    | negSucc b =>
      refine key ?_
      show _ ↔ false = true
      constructor
      · intro h; simp at h; omega
      · intro h; cases h
  | negSucc a =>
    cases j with
    | ofNat b =>
      refine key ?_
      show _ ↔ true = true
      constructor
      · intro _; rfl
      · intro _; simp; omega
    | negSucc b =>
      refine key ?_
      show _ ↔ Nat.ble (Nat.succ b) a = true
      rw [Nat.ble_eq]
      constructor
      · intro h; omega
      · intro h; omega
theorem leB {m n : Nat} {α : Type} {x y : α} : (if m ≤ n then x else y) = cond (Nat.ble m n) x y := by
  cases q : Nat.ble m n
  · rw [if_neg fun h => by rw [Nat.ble_eq.mpr h] at q; cases q]; try rfl
  · rw [if_pos (Nat.ble_eq.mp q)]; try rfl
/-! ### the operations by these -/
theorem dl_ii {i j : Int} : W.dataLt (.int i) (.int j) = decide (i < j) := by simp [W.dataLt, W.keyToks, PyProof.Rows.lex_cons, PyProof.Rows.itemLt, PyProof.Rows.lexLt]
noncomputable def f_lt (x y : W) (S : Store) : R W := match x, y with
  | .val (.int i), .val (.int j) => vv (.bl (ltF i j)) S
  | x, y => p2_lt x y S
noncomputable def f_gt (x y : W) (S : Store) : R W := match x, y with
  | .val (.int i), .val (.int j) => vv (.bl (ltF j i)) S
  | x, y => p2_gt x y S
noncomputable def f_le (x y : W) (S : Store) : R W := match x, y with
  | .val (.int i), .val (.int j) => vv (.bl (!ltF j i)) S
  | x, y => p2_le x y S
noncomputable def f_ge (x y : W) (S : Store) : R W := match x, y with
  | .val (.int i), .val (.int j) => vv (.bl (!ltF i j)) S
  | x, y => p2_ge x y S
theorem e_f_lt : p2 .lt = f_lt := by
  funext x y S
  unfold f_lt
  split
  · rename_i i j
    show ob (some (W.dataLt (.int i) (.int j))) S = _
    rw [dl_ii, ltF_eq]; try rfl
  · rfl
theorem e_f_gt : p2 .gt = f_gt := by
  funext x y S
  unfold f_gt
  split
  · rename_i i j
    show ob (some (W.dataLt (.int j) (.int i))) S = _
    rw [dl_ii, ltF_eq]; try rfl
  · rfl
theorem e_f_le : p2 .le = f_le := by
  funext x y S
  unfold f_le
  split
  · rename_i i j
    show ob (some (!W.dataLt (.int j) (.int i))) S = _
    rw [dl_ii, ltF_eq]; try rfl
  · rfl
theorem e_f_ge : p2 .ge = f_ge := by
  funext x y S
  unfold f_ge
  split
  · rename_i i j
    show ob (some (!W.dataLt (.int i) (.int j))) S = _
    rw [dl_ii, ltF_eq]; try rfl
  · rfl
noncomputable def f_eq (x y : W) (S : Store) : R W := match x, y with
  | .val (.str a), .val (.str b) => .ok (.val (.bl (sameF a.cps.toList b.cps.toList))) S
  | x, y => p2_eq x y S
theorem e_f_eq : p2 .eq = f_eq := by
  funext x y S
  unfold f_eq
  split
  · rename_i a b
    rw [← sameF_eq]; try rfl
  · rfl
noncomputable def f_ne (x y : W) (S : Store) : R W := match x, y with
  | .val (.str a), .val (.str b) => .ok (.val (.bl (!sameF a.cps.toList b.cps.toList))) S
  | x, y => p2_ne x y S
theorem e_f_ne : p2 .ne = f_ne := by
  funext x y S
  unfold f_ne
  split
  · rename_i a b
    rw [← sameF_eq]; try rfl
  · rfl
noncomputable def inF (z t : Str) : Bool := match z.cps.toList with
  | [c] => hasF c t.cps.toList
  | _ => !(Builtin.Str.occurrences t z 0 t.length 1).isEmpty
theorem inF_eq (z t : Str) : strIn z t = inF z t := by
  unfold strIn inF
  simp only [hasF_eq]
  try rfl
noncomputable def f_in (x y : W) (S : Store) : R W := match x, y with
  | .val (.str a), .val (.str b) => .ok (.val (.bl (inF a b))) S
  | x, y => p2_inn x y S
theorem e_f_in : p2 .inn = f_in := by
  funext x y S
  unfold f_in
  split
  · rename_i a b
    rw [← inF_eq]; try rfl
  · rfl
noncomputable def f_nin (x y : W) (S : Store) : R W := match x, y with
  | .val (.str a), .val (.str b) => .ok (.val (.bl (!inF a b))) S
  | x, y => p2_nin x y S
theorem e_f_nin : p2 .nin = f_nin := by
  funext x y S
  unfold f_nin
  split
  · rename_i a b
    rw [← inF_eq]; try rfl
  · rfl
noncomputable def f_len (x : W) (S : Store) : R W := match x with
  | .val (.str x) => cond (Nat.ble (lenF x.cps.toList) sizeLine) (.ok (.val (.int (Int.ofNat (lenF x.cps.toList)))) S) .bad
  | x => p1_len x S
theorem e_f_len : p1 .len = f_len := by
  funext x S
  unfold f_len
  split
  · rename_i a
    rw [← lenF_eq, ← leB]; try rfl
  · rfl
noncomputable def f_add (x y : W) (S : Store) : R W := match x, y with
  | .val (.str a), .val (.str b) => cond (Nat.ble (Nat.add (lenF a.cps.toList) (lenF b.cps.toList)) sizeLine) (.ok (.val (.str (SX.S (appF a.cps.toList b.cps.toList)))) S) .bad
  | x, y => p2_add x y S
theorem e_f_add : p2 .add = f_add := by
  funext x y S
  unfold f_add
  split
  · rename_i a b
    rw [← lenF_eq, ← lenF_eq, ← appF_eq, ← SX.S_cat, SX.S_tl, SX.S_tl]
    show _ = cond (Nat.ble (a.length + b.length) sizeLine) _ _
    rw [← leB]; try rfl
  · rfl
noncomputable def f_ix (x y : W) (S : Store) : R W := match x, y with
  | .val (.str z), .val (.int i) => match atF z.cps.toList i with
    | some c => cond (Nat.ble (lenF z.cps.toList) sizeLine) (.ok (.val (.str (SX.S [c]))) S) .bad
    | none => .bad
  | .val (.ref n), .val (.int i) => match nthF n S with
    | some (.lst ds) => match atF ds i with
      | some d => .ok (.val d) S
      | none => .bad
    | _ => p2_ix x y S
  | x, y => p2_ix x y S
theorem e_f_ix : p2 .ix = f_ix := by
  funext x y S
  unfold f_ix
  split
  · rename_i z i
    rw [← atF_eq, ← lenF_eq]
    show (match atI z.cps.toList i with
        | some c => if z.length ≤ sizeLine then vv (.str ⟨#[c]⟩) S else .bad
        | none => .bad) = _
    cases atI z.cps.toList i with
    | none => rfl
    | some c =>
      dsimp only
      rw [leB]; try rfl
  · rename_i n i
    rw [← nthF_eq]
    split
    · rename_i ds h
      show (match W.seq S (.val (.ref n)) with
        | some (_, ds) => (match atI ds i with | some d => vv d S | none => .bad)
        | none => _) = _
      have : W.seq S (.val (.ref n)) = some (false, ds) := by
        show (match S[n]? with | some (.lst ds) => some (false, ds) | _ => none) = _
        rw [h]
      rw [this, ← atF_eq]
      try rfl
    · rfl
  · rfl
noncomputable def getF (i : Nat) (ρ : Env) (S : Store) : R W := match nthF i ρ with
  | some (some d) => .ok (.val d) S
  | _ => .bad
theorem e_get {C : CF} {i : Nat} {ρ : Env} {S : Store} : evK C (.v i) ρ S = getF i ρ S := by
  rw [evK, nthF_eq]; try rfl
noncomputable def bindF (i : Nat) (d : D) (ρ : Env) : Option Env := some (setF i (some d) ρ)
theorem e_bind {i : Nat} {d : D} {ρ : Env} : bindTg (.nm i) d ρ = bindF i d ρ := by
  unfold bindF
  rw [← setF_eq]; try rfl
noncomputable def f_set (o i : W) (d : D) (S : Store) : Option Store := match o, i with
  | .val (.ref n), .val (.int k) => match nthF n S with
    | some (.lst ds) => match k with
      | .ofNat j => cond (Nat.ble (Nat.succ j) (lenF ds)) (some (setF n (.lst (setF j d ds)) S)) none
      | .negSucc j => cond (Nat.ble (Nat.succ j) (lenF ds)) (some (setF n (.lst (setF (Nat.sub (lenF ds) (Nat.succ j)) d ds)) S)) none
    | _ => setItem o i d S
  | o, i => setItem o i d S
theorem e_set : setItem = f_set := by
  funext o i d S
  unfold f_set
  split
  · rename_i n k
    rw [← nthF_eq]
    split
    · rename_i ds h
      have e : setItem (.val (.ref n)) (.val (.int k)) d S = (ixN ds.length k).map fun j => S.set n (.lst (ds.set j d)) := by
        unfold setItem
        simp only [h]
      rw [e]
      cases k with
      | ofNat j =>
        dsimp only
        rw [← lenF_eq, ← setF_eq, ← setF_eq]
        unfold ixN
        rw [if_pos (by simp)]
        by_cases q : j < ds.length
        · rw [if_pos (by simpa using q), show Nat.ble (Nat.succ j) ds.length = true from Nat.ble_eq.mpr q]; try rfl
        · rw [if_neg (by simpa using q)]
          cases z : Nat.ble (Nat.succ j) ds.length
          · rfl
          · exact absurd (Nat.ble_eq.mp z) q
      | negSucc j =>
        dsimp only
        rw [← lenF_eq, ← setF_eq, ← setF_eq]
        unfold ixN
        rw [if_neg (by simp)]
        by_cases q : j + 1 ≤ ds.length
        · rw [if_pos (by omega), show Nat.ble (Nat.succ j) ds.length = true from Nat.ble_eq.mpr q]
          show some _ = some _
          congr 4
          show (Int.negSucc j + (ds.length : Int)).toNat = ds.length - (j + 1)
          omega
        · rw [if_neg (by omega)]
          cases z : Nat.ble (Nat.succ j) ds.length
          · rfl
          · exact absurd (Nat.ble_eq.mp z) q
    · rfl
  · rfl
noncomputable def loopF (turn : D → Env → Store → RS) (l : List D) : Env → Store → RS := List.rec (motive := fun _ => Env → Store → RS) (fun ρ S => .ok .nx ρ S) (fun d _ ih ρ S => match turn d ρ S with
  | .ok .nx ρ S => ih ρ S
  | .ok .cnt ρ S => ih ρ S
  | .ok .brk ρ S => .ok .nx ρ S
  | .ok (.rt d) ρ S => .ok (.rt d) ρ S
  | .ex c fs ρ S => .ex c fs ρ S
  | .bad => .bad) l
theorem loopF_eq {turn : D → Env → Store → RS} : ∀ (l : List D) (ρ : Env) (S : Store), forL [] turn l ρ S = loopF turn l ρ S
  | [], ρ, S => by rw [forL, if_pos isLive_nil]; try rfl
  | d :: r, ρ, S => by
    rw [forL, if_pos isLive_nil]
    show _ = (match turn d ρ S with
      | .ok .nx ρ S => loopF turn r ρ S
      | .ok .cnt ρ S => loopF turn r ρ S
      | .ok .brk ρ S => .ok .nx ρ S
      | .ok (.rt d) ρ S => .ok (.rt d) ρ S
      | .ex c fs ρ S => .ex c fs ρ S
      | .bad => .bad)
    cases turn d ρ S with
    | ok f ρ' S' =>
      cases f with
      | nx => exact loopF_eq r _ _
      | cnt => exact loopF_eq r _ _
      | brk => rfl
      | rt d => rfl
    | ex c fs ρ S => rfl
    | bad => rfl
noncomputable def f_for (live : List (Nat × List D)) (turn : D → Env → Store → RS) (l : List D) (ρ : Env) (S : Store) : RS := match live with
  | [] => loopF turn l ρ S
  | live => forL live turn l ρ S
theorem e_for : forL = f_for := by
  funext live turn l ρ S
  unfold f_for
  split
  · exact loopF_eq l ρ S
  · rfl
theorem if_cond {α : Type} {b : Bool} {x y : α} : (if b = true then x else y) = cond b x y := by cases b <;> rfl

/-! ### a table of functions -/
structure Gn where
  np : Nat
  nl : Nat
  code : CF → Env → Store → RS
  fr : Bool
/-- a def's text as a function -/
abbrev Gof (b : List Stm) : Type := {f : CF → Env → Store → RS // ∀ C ρ S, exSs C b ρ S = f C ρ S}
noncomputable def coreG (C : CF) (F : Gn) (ds : List D) (S : Store) : R D := fin S (F.code C (ds.map some ++ List.replicate (F.nl - F.np) none) S)
noncomputable def runG (tab : Nat → Option Gn) : Nat → Nat → List D → Store → R D
  | 0, _, _, _ => .bad
  | n + 1, f, ds, S => match tab f with
    | none => .bad
    | some F => cond (Nat.beq ds.length F.np) (cond (F.fr && D.unds 0 ds) ((coreG (runG tab n) F ds []).up S) (coreG (runG tab n) F ds S)) .bad
def isG (o : Option Fn) (p : Option Gn) : Prop := match o, p with
  | some F, some Q => F.np = Q.np ∧ F.nl = Q.nl ∧ F.fr = Q.fr ∧ ∀ C ρ S, exSs C F.body ρ S = Q.code C ρ S
  | none, none => True
  | _, _ => False
theorem runG_eq {tab : Nat → Option Fn} {tg : Nat → Option Gn} (h : ∀ i, isG (tab i) (tg i)) : ∀ n, run tab n = runG tg n
  | 0 => rfl
  | n + 1 => by
    funext f ds S
    have ih := runG_eq h n
    have hf := h f
    unfold run runG
    cases q : tab f with
    | none =>
      cases p : tg f with
      | none => rfl
      | some Q => rw [q, p] at hf; exact hf.elim
    | some F =>
      cases p : tg f with
      | none => rw [q, p] at hf; exact hf.elim
      | some Q =>
        rw [q, p] at hf
        obtain ⟨h1, h2, h3, h4⟩ := hf
        have hc : ∀ S, core (run tab n) F ds S = coreG (runG tg n) Q ds S := fun S => by
          unfold core coreG
          rw [h1, h2, h4, ih]
          try rfl
        dsimp only
        rw [if_cond, hc, hc, h3, h1]
        by_cases z : ds.length = Q.np
        · rw [if_pos z, z, show Nat.beq Q.np Q.np = true from Nat.beq_refl _]; try rfl
        · rw [if_neg z]
          have : Nat.beq ds.length Q.np = false := by
            cases q : Nat.beq ds.length Q.np
            · rfl
            · exact absurd (Nat.eq_of_beq_eq_true q) z
          rw [this]; try rfl
end Mi

/-! Mi, part W: the classes of exceptions, one below another. -/
namespace Mi
open PySem L2 PyProof.Rows
section
variable {K : PySem.W.Frag}
/-- a class of the text that is asked for -/
structure OwnC (K : PySem.W.Frag) (C : Addr) : Prop where
  hd : PySem.W.hasDictIn K C = true
  ty : PySem.W.typeIn K (.ref C) = some (.type "type")
  bs : PySem.W.subIn K (.ref C) (.type "BaseException") = some true
theorem kit_own {t : Value} {C : Addr} {b : Bool} (o : OwnC K C) (hs : PySem.W.subIn K t t = some true) (h : PySem.W.subIn K t (.ref C) = some b) : PySem.W.kitOne K t (.ref C) = some b := by
  unfold PySem.W.kitOne
  by_cases e : (t == Value.ref C) = true
  · rw [if_pos e]
    have e' : t = Value.ref C := beq_iff_eq.mp e
    rw [← e', hs] at h
    exact h
  · rw [if_neg e]
    obtain ⟨cd, hc, _⟩ := PySem.W.any_some o.hd
    have e2 : ((PySem.W.clsIn K C).isSome && PySem.W.typeIn K (.ref C) == some (.type "type")) = true := by rw [hc, o.ty] <;> rfl
    show (if ((PySem.W.clsIn K C).isSome && PySem.W.typeIn K (.ref C) == some (.type "type")) = true then PySem.W.subIn K t (.ref C) else none) = some b
    rw [if_pos e2]
    exact h
theorem exm_own {t : Value} {C : Addr} {b : Bool} (o : OwnC K C) (h : PySem.W.subIn K t (.ref C) = some b) : PySem.W.exmOne K t (.ref C) = some b := PySem.W.exm_ref o.bs o.hd o.ty h
theorem kit_VE {D : Addr} {b : Bool} (h : PySem.W.subIn K (.ref D) (.type "ValueError") = some b) : PySem.W.kitOne K (.ref D) (.type "ValueError") = some b := by
  have e : (Value.ref D == Value.type "ValueError") = false := rfl
  unfold PySem.W.kitOne
  rw [e, if_neg Bool.false_ne_true]
  show (if PySem.W.kitMeta "ValueError" = true then PySem.W.subIn K (.ref D) (.type "ValueError") else none) = some b
  rw [if_pos (by decide +kernel)]
  exact h
theorem exm_VE' {D : Addr} {b : Bool} (h : PySem.W.subIn K (.ref D) (.type "ValueError") = some b) : PySem.W.exmOne K (.ref D) (.type "ValueError") = some b := by
  have q : PySem.W.subIn K (.type "ValueError") (.type "BaseException") = some true := by kernel_rfl
  unfold PySem.W.exmOne
  rw [q]
  show (if PySem.W.kitMeta "ValueError" = true then PySem.W.subIn K (.ref D) (.type "ValueError") else none) = some b
  rw [if_pos (by decide +kernel)]
  exact h
end
end Mi

/-! the defs of the law in the small language -/
namespace Mi.L
open PySem L2 Mi
def top (i : Nat) : Stmt := PySem.Challenge.pw_papervault_k87_steps_refused.main.body.getD i (.Pass ⟨0, 0, 0, 0⟩)
def glT : List (Str × Mi.Gl) := ("is_name", .fn 0 true) :: ("is_value", .fn 1 true) :: ("words_in", .fn 2 true) :: ("number_of", .fn 3 true) :: ("value_of", .fn 4 true) :: ("word_at", .fn 5 true) :: ("need_word", .fn 6 true) :: ("name_at", .fn 7 true) :: ("column_at", .fn 8 true) :: ("test_at", .fn 9 true) :: ("group_at", .fn 10 true) :: ("condition_at", .fn 11 true) :: ("read_condition", .fn 12 true) :: ("what_at", .fn 13 true) :: ("second_at", .fn 14 true) :: ("rising_at", .fn 15 true) :: ("first_at", .fn 16 true) :: ("columns_in", .fn 17 true) :: ("columns_asked", .fn 18 true) :: ("tables_asked", .fn 19 true) :: ("read_question", .fn 20 true) :: ("need_many", .fn 21 true) :: ("table_of", .fn 22 true) :: ("column_of", .fn 23 true) :: ("columns_within", .fn 24 true) :: ("condition_behind", .fn 25 true) :: ("changing", .fn 26 true) :: ("step_in", .fn 27 true) :: ("read_step", .fn 28 false) :: ("_law_cell_at", .fn 29 true) :: ("_law_take", .fn 30 true) :: ("_law_name", .fn 31 true) :: ("_law_bad_makes", .fn 32 true) :: ("_law_bad_rows", .fn 33 true) :: ("_law_bad_sets", .fn 34 true) :: ("_law_refused", .fn 35 false) :: ("law", .fn 36 false) :: ("LETTERS", .cst (.str (SX.S [97, 98, 99, 100, 101, 102, 103, 104, 105, 106, 107, 108, 109, 110, 111, 112, 113, 114, 115, 116, 117, 118, 119, 120, 121, 122]))) :: ("SIGNS_names", .cst (.str (SX.S [32, 33, 34, 35, 36, 38, 40, 41, 42, 43, 44, 45, 46, 47, 48, 49, 50, 51, 52, 53, 54, 55, 56, 57, 58, 60, 61, 62, 63, 64, 65, 66, 67, 68, 69, 70, 71, 72, 73, 74, 75, 76, 77, 78, 79, 80, 81, 82, 83, 84, 85, 86, 87, 88, 89, 90, 91, 92, 93, 94, 95, 96, 97, 98, 99, 100, 101, 102, 103, 104, 105, 106, 107, 108, 109, 110, 111, 112, 113, 114, 115, 116, 117, 118, 119, 120, 121, 122, 123, 124, 125, 126]))) :: ("MOST_LETTERS", .cst (.int 8)) :: ("MOST_SIGNS", .cst (.int 20)) :: ("MOST", .cst (.int 1000000000000)) :: ("QUOTE", .cst (.str (SX.S [39]))) :: ("FIGURES", .cst (.str (SX.S [48, 49, 50, 51, 52, 53, 54, 55, 56, 57]))) :: ("MOST_FIGURES", .cst (.int 13)) :: ("SIGNS_questions", .cst (.kt [(.str (SX.S [61])), (.str (SX.S [35])), (.str (SX.S [60])), (.str (SX.S [62])), (.str (SX.S [60, 61])), (.str (SX.S [62, 61]))])) :: ("OF_ONE", .cst (.kt [(.str (SX.S [115, 117, 109])), (.str (SX.S [108, 101, 97, 115, 116])), (.str (SX.S [109, 111, 115, 116])), (.str (SX.S [103, 114, 111, 117, 112, 115]))])) :: ("DEEPEST", .cst (.int 5)) :: ("MOST_COLUMNS", .cst (.int 12)) :: ("MOST_FIRST", .cst (.int 1000)) :: ("NoQuestion", .exc 0 [(0, true), (1, false)]) :: ("NoStep", .exc 1 [(0, false), (1, true)]) :: ("VaultError", .exc 2 [(0, true), (1, true)]) :: ("BadThing", .kls [(0, false), (1, false)]) :: ("Clash", .kls [(0, false), (1, false)]) :: ("NoColumn", .kls [(0, false), (1, false)]) :: ("NoName", .kls [(0, false), (1, false)]) :: ("NoPaper", .kls [(0, false), (1, false)]) :: ("NoPlan", .kls [(0, false), (1, false)]) :: ("NoRow", .kls [(0, false), (1, false)]) :: ("NoTable", .kls [(0, false), (1, false)]) :: ("NotSo", .kls [(0, false), (1, false)]) :: ("ValueError", .bex "ValueError" [(0, true), (1, true)]) :: []
def exT : List Str := ["NoQuestion", "NoStep", "VaultError"]
abbrev s0 : Stmt := top 19
def N0 : List Str := ["thing", "sign"]
def P0 : List Str := ["thing"]
def b0_0 : List Stm := [.iff (.p2 .nin (.v 1) (.c (.str (SX.S [97, 98, 99, 100, 101, 102, 103, 104, 105, 106, 107, 108, 109, 110, 111, 112, 113, 114, 115, 116, 117, 118, 119, 120, 121, 122])))) [.ret (.c (.bl false))] []]
/-- is_name -/
def b0 : List Stm := [.iff (.or_ (.not_ (.isi [.str] (.v 0))) (.or_ (.p2 .lt (.p1 .len (.v 0)) (.c (.int 1))) (.p2 .gt (.p1 .len (.v 0)) (.c (.int 8))))) [.ret (.c (.bl false))] [], .for_ (.nm 1) .it [(.v 0)] b0_0, .ret (.c (.bl true))]
theorem c0 : cSs 100 100 ⟨N0, glT, defScope s0, true, false, true⟩ (defBody s0) = some b0 := by kernel_rfl
theorem sc0 : scC N0 P0 (defScope s0) = true := by decide +kernel
abbrev s1 : Stmt := top 20
def N1 : List Str := ["thing", "sign"]
def P1 : List Str := ["thing"]
def b1_0 : List Stm := [.iff (.p2 .nin (.v 1) (.c (.str (SX.S [32, 33, 34, 35, 36, 38, 40, 41, 42, 43, 44, 45, 46, 47, 48, 49, 50, 51, 52, 53, 54, 55, 56, 57, 58, 60, 61, 62, 63, 64, 65, 66, 67, 68, 69, 70, 71, 72, 73, 74, 75, 76, 77, 78, 79, 80, 81, 82, 83, 84, 85, 86, 87, 88, 89, 90, 91, 92, 93, 94, 95, 96, 97, 98, 99, 100, 101, 102, 103, 104, 105, 106, 107, 108, 109, 110, 111, 112, 113, 114, 115, 116, 117, 118, 119, 120, 121, 122, 123, 124, 125, 126])))) [.ret (.c (.bl false))] []]
/-- is_value -/
def b1 : List Stm := [.iff (.isi [.bool] (.v 0)) [.ret (.c (.bl false))] [], .iff (.isi [.int] (.v 0)) [.ret (.ch .le .le (.p2 .sub (.c (.int 0)) (.c (.int 1000000000000))) (.v 0) (.c (.int 1000000000000)))] [], .iff (.or_ (.not_ (.isi [.str] (.v 0))) (.p2 .gt (.p1 .len (.v 0)) (.c (.int 20)))) [.ret (.c (.bl false))] [], .for_ (.nm 1) .it [(.v 0)] b1_0, .ret (.c (.bl true))]
theorem c1 : cSs 100 100 ⟨N1, glT, defScope s1, true, false, true⟩ (defBody s1) = some b1 := by kernel_rfl
theorem sc1 : scC N1 P1 (defScope s1) = true := by decide +kernel
abbrev s2 : Stmt := top 25
def N2 : List Str := ["text", "words", "quoted", "closed", "sign"]
def P2 : List Str := ["text"]
def b2_0 : List Stm := [.iff (.and_ (.p2 .eq (.v 4) (.c (.str (SX.S [32])))) (.not_ (.v 2))) [.exp (.m1 .list .append (.v 1) (.c (.str (SX.S [])))), .set (.nm 3) (.c (.bl false))] [.iff (.or_ (.v 3) (.and_ (.p2 .eq (.v 4) (.c (.str (SX.S [39])))) (.and_ (.not_ (.v 2)) (.p2 .ne (.p2 .ix (.v 1) (.p1 .neg (.c (.int 1)))) (.c (.str (SX.S []))))))) [.rse 0] [.setIx (.v 1) (.p1 .neg (.c (.int 1))) (.p2 .add (.p2 .ix (.v 1) (.p1 .neg (.c (.int 1)))) (.v 4)), .iff (.p2 .eq (.v 4) (.c (.str (SX.S [39])))) [.set (.nm 3) (.v 2), .set (.nm 2) (.not_ (.v 2))] []]]]
/-- words_in -/
def b2 : List Stm := [.iff (.not_ (.isi [.str] (.v 0))) [.rse 0] [], .set (.nm 1) (.disp [(.c (.str (SX.S [])))]), .set (.nm 2) (.c (.bl false)), .set (.nm 3) (.c (.bl false)), .for_ (.nm 4) .it [(.v 0)] b2_0, .iff (.or_ (.v 2) (.p2 .inn (.c (.str (SX.S []))) (.v 1))) [.rse 0] [], .ret (.v 1)]
theorem c2 : cSs 100 100 ⟨N2, glT, defScope s2, true, false, true⟩ (defBody s2) = some b2 := by kernel_rfl
theorem sc2 : scC N2 P2 (defScope s2) = true := by decide +kernel
abbrev s3 : Stmt := top 26
def N3 : List Str := ["word", "figures", "figure"]
def P3 : List Str := ["word"]
def b3_0 : List Stm := [.iff (.p2 .nin (.v 2) (.c (.str (SX.S [48, 49, 50, 51, 52, 53, 54, 55, 56, 57])))) [.ret (.c .non)] []]
/-- number_of -/
def b3 : List Stm := [.set (.nm 1) (.v 0), .iff (.p2 .eq (.sl (.v 0) [] [(.c (.int 1))]) (.c (.str (SX.S [45])))) [.set (.nm 1) (.sl (.v 0) [(.c (.int 1))] [])] [], .iff (.or_ (.p2 .lt (.p1 .len (.v 1)) (.c (.int 1))) (.or_ (.p2 .gt (.p1 .len (.v 1)) (.c (.int 13))) (.and_ (.p2 .eq (.p2 .ix (.v 1) (.c (.int 0))) (.c (.str (SX.S [48])))) (.p2 .ne (.v 0) (.c (.str (SX.S [48]))))))) [.ret (.c .non)] [], .for_ (.nm 2) .it [(.v 1)] b3_0, .ret (.p1 .int_ (.v 0))]
theorem c3 : cSs 100 100 ⟨N3, glT, defScope s3, true, false, true⟩ (defBody s3) = some b3 := by kernel_rfl
theorem sc3 : scC N3 P3 (defScope s3) = true := by decide +kernel
abbrev s4 : Stmt := top 27
def N4 : List Str := ["word", "value"]
def P4 : List Str := ["word"]
/-- value_of -/
def b4 : List Stm := [.set (.nm 1) (.call 3 [(.v 0)]), .iff (.and_ (.p2 .gt (.p1 .len (.v 0)) (.c (.int 1))) (.and_ (.p2 .eq (.p2 .ix (.v 0) (.c (.int 0))) (.c (.str (SX.S [39])))) (.p2 .eq (.p2 .ix (.v 0) (.p1 .neg (.c (.int 1)))) (.c (.str (SX.S [39])))))) [.set (.nm 1) (.sl (.v 0) [(.c (.int 1))] [(.p1 .neg (.c (.int 1)))])] [], .iff (.or_ (.p1 .isN (.v 1)) (.not_ (.call 1 [(.v 1)]))) [.rse 0] [], .ret (.v 1)]
theorem c4 : cSs 100 100 ⟨N4, glT, defScope s4, true, false, true⟩ (defBody s4) = some b4 := by kernel_rfl
theorem sc4 : scC N4 P4 (defScope s4) = true := by decide +kernel
abbrev s5 : Stmt := top 34
def N5 : List Str := ["words", "at"]
def P5 : List Str := ["words", "at"]
/-- word_at -/
def b5 : List Stm := [.iff (.p2 .ge (.v 1) (.p1 .len (.v 0))) [.rse 0] [], .ret (.p2 .ix (.v 0) (.v 1))]
theorem c5 : cSs 100 100 ⟨N5, glT, defScope s5, true, false, true⟩ (defBody s5) = some b5 := by kernel_rfl
theorem sc5 : scC N5 P5 (defScope s5) = true := by decide +kernel
abbrev s6 : Stmt := top 35
def N6 : List Str := ["words", "at", "wanted"]
def P6 : List Str := ["words", "at", "wanted"]
/-- need_word -/
def b6 : List Stm := [.iff (.p2 .ne (.call 5 [(.v 0), (.v 1)]) (.v 2)) [.rse 0] []]
theorem c6 : cSs 100 100 ⟨N6, glT, defScope s6, true, false, true⟩ (defBody s6) = some b6 := by kernel_rfl
theorem sc6 : scC N6 P6 (defScope s6) = true := by decide +kernel
abbrev s7 : Stmt := top 36
def N7 : List Str := ["words", "at"]
def P7 : List Str := ["words", "at"]
/-- name_at -/
def b7 : List Stm := [.iff (.not_ (.call 0 [(.call 5 [(.v 0), (.v 1)])])) [.rse 0] [], .ret (.p2 .ix (.v 0) (.v 1))]
theorem c7 : cSs 100 100 ⟨N7, glT, defScope s7, true, false, true⟩ (defBody s7) = some b7 := by kernel_rfl
theorem sc7 : scC N7 P7 (defScope s7) = true := by decide +kernel
abbrev s8 : Stmt := top 37
def N8 : List Str := ["words", "at", "parts"]
def P8 : List Str := ["words", "at"]
/-- column_at -/
def b8 : List Stm := [.set (.nm 2) (.m1 .str .split (.call 5 [(.v 0), (.v 1)]) (.c (.str (SX.S [46])))), .iff (.or_ (.p2 .ne (.p1 .len (.v 2)) (.c (.int 2))) (.or_ (.not_ (.call 0 [(.p2 .ix (.v 2) (.c (.int 0)))])) (.not_ (.call 0 [(.p2 .ix (.v 2) (.c (.int 1)))])))) [.rse 0] [], .ret (.p1 .tuple_ (.v 2))]
theorem c8 : cSs 100 100 ⟨N8, glT, defScope s8, true, false, true⟩ (defBody s8) = some b8 := by kernel_rfl
theorem sc8 : scC N8 P8 (defScope s8) = true := by decide +kernel
abbrev s9 : Stmt := top 38
def N9 : List Str := ["words", "at", "column", "sign", "right"]
def P9 : List Str := ["words", "at"]
/-- test_at -/
def b9 : List Stm := [.set (.nm 2) (.call 8 [(.v 0), (.v 1)]), .set (.nm 3) (.call 5 [(.v 0), (.p2 .add (.v 1) (.c (.int 1)))]), .iff (.p2 .nin (.v 3) (.c (.kt [(.str (SX.S [61])), (.str (SX.S [35])), (.str (SX.S [60])), (.str (SX.S [62])), (.str (SX.S [60, 61])), (.str (SX.S [62, 61]))]))) [.rse 0] [], .set (.nm 4) (.call 5 [(.v 0), (.p2 .add (.v 1) (.c (.int 2)))]), .iff (.p2 .inn (.p2 .ix (.v 4) (.c (.int 0))) (.c (.str (SX.S [39, 45, 48, 49, 50, 51, 52, 53, 54, 55, 56, 57])))) [.ret (.tup [(.tup [(.c (.str (SX.S [116, 101, 115, 116]))), (.v 2), (.v 3), (.tup [(.c (.str (SX.S [118, 97, 108, 117, 101]))), (.call 4 [(.v 4)])])]), (.p2 .add (.v 1) (.c (.int 3)))])] [], .ret (.tup [(.tup [(.c (.str (SX.S [116, 101, 115, 116]))), (.v 2), (.v 3), (.tup [(.c (.str (SX.S [99, 111, 108, 117, 109, 110]))), (.call 8 [(.v 0), (.p2 .add (.v 1) (.c (.int 2)))])])]), (.p2 .add (.v 1) (.c (.int 3)))])]
theorem c9 : cSs 100 100 ⟨N9, glT, defScope s9, true, false, true⟩ (defBody s9) = some b9 := by kernel_rfl
theorem sc9 : scC N9 P9 (defScope s9) = true := by decide +kernel
abbrev s10 : Stmt := top 39
def N10 : List Str := ["words", "at", "deep", "kind", "parts", "joint", "part"]
def P10 : List Str := ["words", "at", "deep"]
def b10_0 : List Stm := [.set (.tp [6, 1]) (.call 11 [(.v 0), (.v 1), (.v 2)]), .exp (.m1 .list .append (.v 4) (.v 6)), .set (.nm 5) (.call 5 [(.v 0), (.v 1)]), .iff (.or_ (.p2 .nin (.v 5) (.tup [(.c (.str (SX.S [41]))), (.c (.str (SX.S [97, 110, 100]))), (.c (.str (SX.S [111, 114])))])) (.and_ (.p2 .ne (.v 5) (.c (.str (SX.S [41])))) (.p2 .nin (.v 3) (.tup [(.c (.str (SX.S []))), (.v 5)])))) [.rse 0] [], .iff (.p2 .ne (.v 5) (.c (.str (SX.S [41])))) [.set (.nm 3) (.v 5)] [], .aug 1 .add (.c (.int 1))]
/-- group_at -/
def b10 : List Stm := [.set (.nm 3) (.c (.str (SX.S []))), .set (.nm 4) (.disp []), .set (.nm 5) (.c (.str (SX.S []))), .whl (.p2 .ne (.v 5) (.c (.str (SX.S [41])))) b10_0, .iff (.p2 .eq (.v 3) (.c (.str (SX.S [])))) [.rse 0] [], .ret (.tup [(.tup [(.v 3), (.p1 .tuple_ (.v 4))]), (.v 1)])]
theorem c10 : cSs 100 100 ⟨N10, glT, defScope s10, true, false, true⟩ (defBody s10) = some b10 := by kernel_rfl
theorem sc10 : scC N10 P10 (defScope s10) = true := by decide +kernel
abbrev s11 : Stmt := top 40
def N11 : List Str := ["words", "at", "deep", "first", "part", "behind"]
def P11 : List Str := ["words", "at", "deep"]
/-- condition_at -/
def b11 : List Stm := [.iff (.p2 .ge (.v 2) (.c (.int 5))) [.rse 0] [], .set (.nm 3) (.call 5 [(.v 0), (.v 1)]), .iff (.p2 .eq (.v 3) (.c (.str (SX.S [110, 111, 116])))) [.set (.tp [4, 5]) (.call 11 [(.v 0), (.p2 .add (.v 1) (.c (.int 1))), (.p2 .add (.v 2) (.c (.int 1)))]), .ret (.tup [(.tup [(.c (.str (SX.S [110, 111, 116]))), (.v 4)]), (.v 5)])] [], .iff (.p2 .eq (.v 3) (.c (.str (SX.S [40])))) [.ret (.call 10 [(.v 0), (.p2 .add (.v 1) (.c (.int 1))), (.p2 .add (.v 2) (.c (.int 1)))])] [], .ret (.call 9 [(.v 0), (.v 1)])]
theorem c11 : cSs 100 100 ⟨N11, glT, defScope s11, true, false, true⟩ (defBody s11) = some b11 := by kernel_rfl
theorem sc11 : scC N11 P11 (defScope s11) = true := by decide +kernel
abbrev s12 : Stmt := top 41
def N12 : List Str := ["words", "condition", "at"]
def P12 : List Str := ["words"]
/-- read_condition -/
def b12 : List Stm := [.set (.tp [1, 2]) (.call 11 [(.v 0), (.c (.int 0)), (.c (.int 0))]), .iff (.p2 .ne (.v 2) (.p1 .len (.v 0))) [.rse 0] [], .ret (.v 1)]
theorem c12 : cSs 100 100 ⟨N12, glT, defScope s12, true, false, true⟩ (defBody s12) = some b12 := by kernel_rfl
theorem sc12 : scC N12 P12 (defScope s12) = true := by decide +kernel
abbrev s13 : Stmt := top 42
def N13 : List Str := ["words", "first", "columns", "at"]
def P13 : List Str := ["words"]
def b13_0 : List Stm := [.exp (.m1 .list .append (.v 2) (.call 8 [(.v 0), (.v 3)])), .aug 3 .add (.c (.int 1))]
/-- what_at -/
def b13 : List Stm := [.set (.nm 1) (.call 5 [(.v 0), (.c (.int 1))]), .iff (.p2 .inn (.v 1) (.tup [(.c (.str (SX.S [97, 108, 108]))), (.c (.str (SX.S [99, 111, 117, 110, 116])))])) [.ret (.tup [(.tup [(.v 1)]), (.c (.int 2))])] [], .iff (.p2 .inn (.v 1) (.c (.kt [(.str (SX.S [115, 117, 109])), (.str (SX.S [108, 101, 97, 115, 116])), (.str (SX.S [109, 111, 115, 116])), (.str (SX.S [103, 114, 111, 117, 112, 115]))]))) [.ret (.tup [(.tup [(.v 1), (.call 8 [(.v 0), (.c (.int 2))])]), (.c (.int 3))])] [], .set (.nm 2) (.disp []), .set (.nm 3) (.c (.int 1)), .whl (.p2 .ne (.call 5 [(.v 0), (.v 3)]) (.c (.str (SX.S [111, 102])))) b13_0, .iff (.or_ (.p2 .lt (.p1 .len (.v 2)) (.c (.int 1))) (.p2 .gt (.p1 .len (.v 2)) (.c (.int 12)))) [.rse 0] [], .ret (.tup [(.tup [(.c (.str (SX.S [99, 111, 108, 117, 109, 110, 115]))), (.p1 .tuple_ (.v 2))]), (.v 3)])]
theorem c13 : cSs 100 100 ⟨N13, glT, defScope s13, true, false, true⟩ (defBody s13) = some b13 := by kernel_rfl
theorem sc13 : scC N13 P13 (defScope s13) = true := by decide +kernel
abbrev s14 : Stmt := top 43
def N14 : List Str := ["words", "at", "table", "second", "one", "other"]
def P14 : List Str := ["words", "at", "table"]
/-- second_at -/
def b14 : List Stm := [.iff (.or_ (.p2 .ge (.v 1) (.p1 .len (.v 0))) (.p2 .ne (.p2 .ix (.v 0) (.v 1)) (.c (.str (SX.S [97, 110, 100]))))) [.ret (.tup [(.c .non), (.v 1)])] [], .set (.nm 3) (.call 7 [(.v 0), (.p2 .add (.v 1) (.c (.int 1)))]), .exp (.call 6 [(.v 0), (.p2 .add (.v 1) (.c (.int 2))), (.c (.str (SX.S [98, 121])))]), .set (.nm 4) (.call 8 [(.v 0), (.p2 .add (.v 1) (.c (.int 3)))]), .exp (.call 6 [(.v 0), (.p2 .add (.v 1) (.c (.int 4))), (.c (.str (SX.S [61])))]), .set (.nm 5) (.call 8 [(.v 0), (.p2 .add (.v 1) (.c (.int 5)))]), .iff (.or_ (.p2 .eq (.v 3) (.v 2)) (.or_ (.p2 .ne (.p2 .ix (.v 4) (.c (.int 0))) (.v 2)) (.p2 .ne (.p2 .ix (.v 5) (.c (.int 0))) (.v 3)))) [.rse 0] [], .ret (.tup [(.tup [(.v 3), (.v 4), (.v 5)]), (.p2 .add (.v 1) (.c (.int 6)))])]
theorem c14 : cSs 100 100 ⟨N14, glT, defScope s14, true, false, true⟩ (defBody s14) = some b14 := by kernel_rfl
theorem sc14 : scC N14 P14 (defScope s14) = true := by decide +kernel
abbrev s15 : Stmt := top 44
def N15 : List Str := ["words", "at"]
def P15 : List Str := ["words", "at"]
/-- rising_at -/
def b15 : List Stm := [.iff (.or_ (.p2 .ge (.v 1) (.p1 .len (.v 0))) (.p2 .nin (.p2 .ix (.v 0) (.v 1)) (.tup [(.c (.str (SX.S [114, 105, 115, 105, 110, 103]))), (.c (.str (SX.S [102, 97, 108, 108, 105, 110, 103])))]))) [.ret (.tup [(.c .non), (.v 1)])] [], .ret (.tup [(.tup [(.call 8 [(.v 0), (.p2 .add (.v 1) (.c (.int 1)))]), (.p2 .ix (.v 0) (.v 1))]), (.p2 .add (.v 1) (.c (.int 2)))])]
theorem c15 : cSs 100 100 ⟨N15, glT, defScope s15, true, false, true⟩ (defBody s15) = some b15 := by kernel_rfl
theorem sc15 : scC N15 P15 (defScope s15) = true := by decide +kernel
abbrev s16 : Stmt := top 45
def N16 : List Str := ["words", "at", "number"]
def P16 : List Str := ["words", "at"]
/-- first_at -/
def b16 : List Stm := [.iff (.or_ (.p2 .ge (.v 1) (.p1 .len (.v 0))) (.p2 .ne (.p2 .ix (.v 0) (.v 1)) (.c (.str (SX.S [102, 105, 114, 115, 116]))))) [.ret (.tup [(.c .non), (.v 1)])] [], .set (.nm 2) (.call 3 [(.call 5 [(.v 0), (.p2 .add (.v 1) (.c (.int 1)))])]), .iff (.or_ (.p1 .isN (.v 2)) (.or_ (.p2 .lt (.v 2) (.c (.int 0))) (.p2 .gt (.v 2) (.c (.int 1000))))) [.rse 0] [], .ret (.tup [(.v 2), (.p2 .add (.v 1) (.c (.int 2)))])]
theorem c16 : cSs 100 100 ⟨N16, glT, defScope s16, true, false, true⟩ (defBody s16) = some b16 := by kernel_rfl
theorem sc16 : scC N16 P16 (defScope s16) = true := by decide +kernel
abbrev s17 : Stmt := top 46
def N17 : List Str := ["condition", "told", "part"]
def P17 : List Str := ["condition"]
def b17_0 : List Stm := [.exp (.m1 .list .extend (.v 1) (.call 17 [(.v 2)]))]
/-- columns_in -/
def b17 : List Stm := [.iff (.p1 .isN (.v 0)) [.ret (.disp [])] [], .iff (.p2 .eq (.p2 .ix (.v 0) (.c (.int 0))) (.c (.str (SX.S [116, 101, 115, 116])))) [.set (.nm 1) (.disp [(.p2 .ix (.v 0) (.c (.int 1)))]), .iff (.p2 .eq (.p2 .ix (.p2 .ix (.v 0) (.c (.int 3))) (.c (.int 0))) (.c (.str (SX.S [99, 111, 108, 117, 109, 110])))) [.exp (.m1 .list .append (.v 1) (.p2 .ix (.p2 .ix (.v 0) (.c (.int 3))) (.c (.int 1))))] [], .ret (.v 1)] [], .iff (.p2 .eq (.p2 .ix (.v 0) (.c (.int 0))) (.c (.str (SX.S [110, 111, 116])))) [.ret (.call 17 [(.p2 .ix (.v 0) (.c (.int 1)))])] [], .set (.nm 1) (.disp []), .for_ (.nm 2) .it [(.p2 .ix (.v 0) (.c (.int 1)))] b17_0, .ret (.v 1)]
theorem c17 : cSs 100 100 ⟨N17, glT, defScope s17, true, false, true⟩ (defBody s17) = some b17 := by kernel_rfl
theorem sc17 : scC N17 P17 (defScope s17) = true := by decide +kernel
abbrev s18 : Stmt := top 47
def N18 : List Str := ["question", "what", "table", "second", "condition", "rising", "first", "told"]
def P18 : List Str := ["question"]
/-- columns_asked -/
def b18 : List Stm := [.set (.tp [1, 2, 3, 4, 5, 6]) (.v 0), .set (.nm 7) (.disp []), .iff (.p2 .eq (.p2 .ix (.v 1) (.c (.int 0))) (.c (.str (SX.S [99, 111, 108, 117, 109, 110, 115])))) [.exp (.m1 .list .extend (.v 7) (.p2 .ix (.v 1) (.c (.int 1))))] [.iff (.p2 .gt (.p1 .len (.v 1)) (.c (.int 1))) [.exp (.m1 .list .append (.v 7) (.p2 .ix (.v 1) (.c (.int 1))))] []], .iff (.p1 .notN (.v 3)) [.exp (.m1 .list .extend (.v 7) (.sl (.v 3) [(.c (.int 1))] []))] [], .exp (.m1 .list .extend (.v 7) (.call 17 [(.v 4)])), .iff (.p1 .notN (.v 5)) [.exp (.m1 .list .append (.v 7) (.p2 .ix (.v 5) (.c (.int 0))))] [], .ret (.v 7)]
theorem c18 : cSs 100 100 ⟨N18, glT, defScope s18, true, false, true⟩ (defBody s18) = some b18 := by kernel_rfl
theorem sc18 : scC N18 P18 (defScope s18) = true := by decide +kernel
abbrev s19 : Stmt := top 48
def N19 : List Str := ["question"]
def P19 : List Str := ["question"]
/-- tables_asked -/
def b19 : List Stm := [.iff (.p1 .isN (.p2 .ix (.v 0) (.c (.int 2)))) [.ret (.disp [(.p2 .ix (.v 0) (.c (.int 1)))])] [], .ret (.disp [(.p2 .ix (.v 0) (.c (.int 1))), (.p2 .ix (.p2 .ix (.v 0) (.c (.int 2))) (.c (.int 0)))])]
theorem c19 : cSs 100 100 ⟨N19, glT, defScope s19, true, false, true⟩ (defBody s19) = some b19 := by kernel_rfl
theorem sc19 : scC N19 P19 (defScope s19) = true := by decide +kernel
abbrev s20 : Stmt := top 49
def N20 : List Str := ["text", "words", "what", "at", "table", "second", "condition", "rising", "first", "question", "column"]
def P20 : List Str := ["text"]
def b20_0 : List Stm := [.iff (.p2 .nin (.p2 .ix (.v 10) (.c (.int 0))) (.call 19 [(.v 9)])) [.rse 0] []]
/-- read_question -/
def b20 : List Stm := [.set (.nm 1) (.call 2 [(.v 0)]), .exp (.call 6 [(.v 1), (.c (.int 0)), (.c (.str (SX.S [115, 104, 111, 119])))]), .set (.tp [2, 3]) (.call 13 [(.v 1)]), .exp (.call 6 [(.v 1), (.v 3), (.c (.str (SX.S [111, 102])))]), .set (.nm 4) (.call 7 [(.v 1), (.p2 .add (.v 3) (.c (.int 1)))]), .set (.tp [5, 3]) (.call 14 [(.v 1), (.p2 .add (.v 3) (.c (.int 2))), (.v 4)]), .set (.nm 6) (.c .non), .iff (.and_ (.p2 .lt (.v 3) (.p1 .len (.v 1))) (.p2 .eq (.p2 .ix (.v 1) (.v 3)) (.c (.str (SX.S [119, 104, 101, 114, 101]))))) [.set (.tp [6, 3]) (.call 11 [(.v 1), (.p2 .add (.v 3) (.c (.int 1))), (.c (.int 0))])] [], .set (.tp [7, 3]) (.call 15 [(.v 1), (.v 3)]), .set (.tp [8, 3]) (.call 16 [(.v 1), (.v 3)]), .iff (.or_ (.p2 .ne (.v 3) (.p1 .len (.v 1))) (.and_ (.p2 .nin (.p2 .ix (.v 2) (.c (.int 0))) (.tup [(.c (.str (SX.S [97, 108, 108]))), (.c (.str (SX.S [99, 111, 108, 117, 109, 110, 115])))])) (.or_ (.p1 .notN (.v 7)) (.p1 .notN (.v 8))))) [.rse 0] [], .set (.nm 9) (.tup [(.v 2), (.v 4), (.v 5), (.v 6), (.v 7), (.v 8)]), .for_ (.nm 10) .it [(.call 18 [(.v 9)])] b20_0, .ret (.v 9)]
theorem c20 : cSs 100 100 ⟨N20, glT, defScope s20, true, false, true⟩ (defBody s20) = some b20 := by kernel_rfl
theorem sc20 : scC N20 P20 (defScope s20) = true := by decide +kernel
abbrev s21 : Stmt := top 51
def N21 : List Str := ["words", "least", "most"]
def P21 : List Str := ["words", "least", "most"]
/-- need_many -/
def b21 : List Stm := [.iff (.or_ (.p2 .lt (.p1 .len (.v 0)) (.v 1)) (.and_ (.p1 .notN (.v 2)) (.p2 .gt (.p1 .len (.v 0)) (.v 2)))) [.rse 1] []]
theorem c21 : cSs 100 100 ⟨N21, glT, defScope s21, true, false, true⟩ (defBody s21) = some b21 := by kernel_rfl
theorem sc21 : scC N21 P21 (defScope s21) = true := by decide +kernel
abbrev s22 : Stmt := top 52
def N22 : List Str := ["word"]
def P22 : List Str := ["word"]
/-- table_of -/
def b22 : List Stm := [.iff (.not_ (.call 0 [(.v 0)])) [.rse 1] [], .ret (.v 0)]
theorem c22 : cSs 100 100 ⟨N22, glT, defScope s22, true, false, true⟩ (defBody s22) = some b22 := by kernel_rfl
theorem sc22 : scC N22 P22 (defScope s22) = true := by decide +kernel
abbrev s23 : Stmt := top 53
def N23 : List Str := ["word", "parts"]
def P23 : List Str := ["word"]
/-- column_of -/
def b23 : List Stm := [.set (.nm 1) (.m1 .str .split (.v 0) (.c (.str (SX.S [46])))), .iff (.p2 .ne (.p1 .len (.v 1)) (.c (.int 2))) [.rse 1] [], .ret (.tup [(.call 22 [(.p2 .ix (.v 1) (.c (.int 0)))]), (.call 22 [(.p2 .ix (.v 1) (.c (.int 1)))])])]
theorem c23 : cSs 100 100 ⟨N23, glT, defScope s23, true, false, true⟩ (defBody s23) = some b23 := by kernel_rfl
theorem sc23 : scC N23 P23 (defScope s23) = true := by decide +kernel
abbrev s24 : Stmt := top 54
def N24 : List Str := ["condition", "right", "found", "part"]
def P24 : List Str := ["condition"]
def b24_0 : List Stm := [.exp (.m1 .list .extend (.v 2) (.call 24 [(.v 3)]))]
/-- columns_within -/
def b24 : List Stm := [.iff (.p2 .eq (.p2 .ix (.v 0) (.c (.int 0))) (.c (.str (SX.S [110, 111, 116])))) [.ret (.call 24 [(.p2 .ix (.v 0) (.c (.int 1)))])] [], .iff (.p2 .eq (.p2 .ix (.v 0) (.c (.int 0))) (.c (.str (SX.S [116, 101, 115, 116])))) [.set (.nm 1) (.p2 .ix (.v 0) (.c (.int 3))), .ret (.p2 .add (.disp [(.p2 .ix (.v 0) (.c (.int 1)))]) (.p2 .mul (.disp [(.p2 .ix (.v 1) (.c (.int 1)))]) (.p1 .int_ (.p2 .eq (.p2 .ix (.v 1) (.c (.int 0))) (.c (.str (SX.S [99, 111, 108, 117, 109, 110])))))))] [], .set (.nm 2) (.disp []), .for_ (.nm 3) .it [(.p2 .ix (.v 0) (.c (.int 1)))] b24_0, .ret (.v 2)]
theorem c24 : cSs 100 100 ⟨N24, glT, defScope s24, true, false, true⟩ (defBody s24) = some b24 := by kernel_rfl
theorem sc24 : scC N24 P24 (defScope s24) = true := by decide +kernel
abbrev s25 : Stmt := top 55
def N25 : List Str := ["words", "table", "condition", "column"]
def P25 : List Str := ["words", "table"]
def b25_0 : List Stm := [.iff (.p2 .ne (.p2 .ix (.v 3) (.c (.int 0))) (.v 1)) [.rse 1] []]
/-- condition_behind -/
def b25 : List Stm := [.iff (.p2 .eq (.v 0) (.disp [])) [.ret (.c .non)] [], .iff (.p2 .ne (.p2 .ix (.v 0) (.c (.int 0))) (.c (.str (SX.S [119, 104, 101, 114, 101])))) [.rse 1] [], .set (.nm 2) (.call 12 [(.sl (.v 0) [(.c (.int 1))] [])]), .for_ (.nm 3) .it [(.call 24 [(.v 2)])] b25_0, .ret (.v 2)]
theorem c25 : cSs 100 100 ⟨N25, glT, defScope s25, true, false, true⟩ (defBody s25) = some b25 := by kernel_rfl
theorem sc25 : scC N25 P25 (defScope s25) = true := by decide +kernel
abbrev s26 : Stmt := top 56
def N26 : List Str := ["words", "word", "column"]
def P26 : List Str := ["words"]
/-- changing -/
def b26 : List Stm := [.iff (.p2 .eq (.p2 .ix (.v 0) (.c (.int 0))) (.c (.str (SX.S [112, 117, 116])))) [.exp (.call 21 [(.v 0), (.c (.int 3)), (.c .non)]), .ret (.tup [(.c (.str (SX.S [112, 117, 116]))), (.call 22 [(.p2 .ix (.v 0) (.c (.int 1)))]), (.p1 .tuple_ (.comp true (.nm 1) .it [(.sl (.v 0) [(.c (.int 2))] [])] [] (.call 4 [(.v 1)]) [1]))])] [], .iff (.p2 .eq (.p2 .ix (.v 0) (.c (.int 0))) (.c (.str (SX.S [99, 117, 116])))) [.exp (.call 21 [(.v 0), (.c (.int 2)), (.c .non)]), .ret (.tup [(.c (.str (SX.S [99, 117, 116]))), (.call 22 [(.p2 .ix (.v 0) (.c (.int 1)))]), (.call 25 [(.sl (.v 0) [(.c (.int 2))] []), (.p2 .ix (.v 0) (.c (.int 1)))])])] [], .iff (.p2 .eq (.p2 .ix (.v 0) (.c (.int 0))) (.c (.str (SX.S [115, 101, 116])))) [.exp (.call 21 [(.v 0), (.c (.int 4)), (.c .non)]), .set (.nm 2) (.call 23 [(.p2 .ix (.v 0) (.c (.int 1)))]), .iff (.p2 .ne (.p2 .ix (.v 0) (.c (.int 2))) (.c (.str (SX.S [61])))) [.rse 1] [], .ret (.tup [(.c (.str (SX.S [115, 101, 116]))), (.v 2), (.call 4 [(.p2 .ix (.v 0) (.c (.int 3)))]), (.call 25 [(.sl (.v 0) [(.c (.int 4))] []), (.p2 .ix (.v 2) (.c (.int 0)))])])] [], .iff (.or_ (.p2 .ne (.p2 .ix (.v 0) (.c (.int 0))) (.c (.str (SX.S [110, 101, 101, 100])))) (.or_ (.p2 .lt (.p1 .len (.v 0)) (.c (.int 4))) (.p2 .ne (.p2 .ix (.v 0) (.c (.int 2))) (.c (.str (SX.S [105, 115])))))) [.rse 1] [], .ret (.tup [(.c (.str (SX.S [110, 101, 101, 100]))), (.call 4 [(.p2 .ix (.v 0) (.c (.int 1)))]), (.call 20 [(.m1 .str .join (.c (.str (SX.S [32]))) (.sl (.v 0) [(.c (.int 3))] []))])])]
theorem c26 : cSs 100 100 ⟨N26, glT, defScope s26, true, false, true⟩ (defBody s26) = some b26 := by kernel_rfl
theorem sc26 : scC N26 P26 (defScope s26) = true := by decide +kernel
abbrev s27 : Stmt := top 57
def N27 : List Str := ["text", "words", "word"]
def P27 : List Str := ["text"]
/-- step_in -/
def b27 : List Stm := [.set (.nm 1) (.call 2 [(.v 0)]), .iff (.p2 .eq (.p2 .ix (.v 1) (.c (.int 0))) (.c (.str (SX.S [109, 97, 107, 101])))) [.exp (.call 21 [(.v 1), (.c (.int 3)), (.c .non)]), .ret (.tup [(.c (.str (SX.S [109, 97, 107, 101]))), (.call 22 [(.p2 .ix (.v 1) (.c (.int 1)))]), (.p1 .tuple_ (.comp true (.nm 2) .it [(.sl (.v 1) [(.c (.int 2))] [])] [] (.call 22 [(.v 2)]) [2]))])] [], .iff (.p2 .eq (.p2 .ix (.v 1) (.c (.int 0))) (.c (.str (SX.S [100, 114, 111, 112])))) [.exp (.call 21 [(.v 1), (.c (.int 2)), (.c (.int 2))]), .ret (.tup [(.c (.str (SX.S [100, 114, 111, 112]))), (.call 22 [(.p2 .ix (.v 1) (.c (.int 1)))])])] [], .iff (.p2 .inn (.p2 .ix (.v 1) (.c (.int 0))) (.tup [(.c (.str (SX.S [111, 114, 100, 101, 114]))), (.c (.str (SX.S [117, 110, 111, 114, 100, 101, 114])))])) [.exp (.call 21 [(.v 1), (.c (.int 2)), (.c (.int 2))]), .ret (.tup [(.p2 .ix (.v 1) (.c (.int 0))), (.call 23 [(.p2 .ix (.v 1) (.c (.int 1)))])])] [], .ret (.call 26 [(.v 1)])]
theorem c27 : cSs 100 100 ⟨N27, glT, defScope s27, true, false, true⟩ (defBody s27) = some b27 := by kernel_rfl
theorem sc27 : scC N27 P27 (defScope s27) = true := by decide +kernel
abbrev s28 : Stmt := top 58
def N28 : List Str := ["text", "step"]
def P28 : List Str := ["text"]
/-- read_step -/
def b28 : List Stm := [.tryR [.set (.nm 1) (.call 27 [(.v 0)])] [(0, true), (1, false)] 1 [.ret (.v 1)]]
theorem c28 : cSs 100 100 ⟨N28, glT, defScope s28, false, false, true⟩ (defBody s28) = some b28 := by kernel_rfl
theorem sc28 : scC N28 P28 (defScope s28) = true := by decide +kernel
abbrev s29 : Stmt := top 60
def N29 : List Str := ["script", "k"]
def P29 : List Str := ["script", "k"]
/-- _law_cell_at -/
def b29 : List Stm := [.iff (.p2 .lt (.v 1) (.p1 .len (.v 0))) [.ret (.p2 .ix (.v 0) (.v 1))] [], .ret (.c (.int 0))]
theorem c29 : cSs 100 100 ⟨N29, glT, defScope s29, true, false, true⟩ (defBody s29) = some b29 := by kernel_rfl
theorem sc29 : scC N29 P29 (defScope s29) = true := by decide +kernel
abbrev s30 : Stmt := top 61
def N30 : List Str := ["deck", "many", "come", "number"]
def P30 : List Str := ["deck", "many"]
/-- _law_take -/
def b30 : List Stm := [.iff (.p2 .eq (.p2 .ix (.v 0) (.c (.int 1))) (.c (.int 0))) [.set (.nm 2) (.p2 .mod (.p2 .ix (.v 0) (.c (.int 0))) (.v 1)), .setIx (.v 0) (.c (.int 0)) (.p2 .fdiv (.p2 .ix (.v 0) (.c (.int 0))) (.v 1)), .ret (.v 2)] [], .setIx (.v 0) (.c (.int 2)) (.p2 .add (.p2 .ix (.v 0) (.c (.int 2))) (.c (.int 1))), .set (.nm 3) (.p2 .mod (.p2 .add (.p2 .mul (.p2 .mod (.p2 .ix (.v 0) (.c (.int 0))) (.c (.int 2147483647))) (.p2 .add (.p2 .mul (.p2 .ix (.v 0) (.c (.int 2))) (.p2 .ix (.v 0) (.c (.int 2)))) (.c (.int 48271)))) (.p2 .ix (.v 0) (.c (.int 2)))) (.c (.int 2147483629))), .set (.nm 3) (.p2 .mod (.p2 .mul (.v 3) (.v 3)) (.c (.int 2147483587))), .ret (.p2 .mod (.p2 .fdiv (.p2 .mod (.p2 .mul (.v 3) (.c (.int 69621))) (.c (.int 2147483563))) (.c (.int 3))) (.v 1))]
theorem c30 : cSs 100 100 ⟨N30, glT, defScope s30, true, false, true⟩ (defBody s30) = some b30 := by kernel_rfl
theorem sc30 : scC N30 P30 (defScope s30) = true := by decide +kernel
abbrev s31 : Stmt := top 62
def N31 : List Str := ["deck", "some"]
def P31 : List Str := ["deck"]
/-- _law_name -/
def b31 : List Stm := [.set (.nm 1) (.disp [(.c (.str (SX.S [102, 105, 103]))), (.c (.str (SX.S [119, 104, 101, 114, 101]))), (.c (.str (SX.S [111, 102]))), (.c (.str (SX.S [97]))), (.c (.str (SX.S [115, 101, 116]))), (.c (.str (SX.S [105, 115]))), (.c (.str (SX.S [97, 98, 99, 100, 101, 102, 103, 104]))), (.c (.str (SX.S [110, 101, 101, 100]))), (.c (.str (SX.S [115, 104, 111, 119]))), (.c (.str (SX.S [110, 111, 116])))]), .ret (.p2 .ix (.v 1) (.call 30 [(.v 0), (.c (.int 10))]))]
theorem c31 : cSs 100 100 ⟨N31, glT, defScope s31, true, false, true⟩ (defBody s31) = some b31 := by kernel_rfl
theorem sc31 : scC N31 P31 (defScope s31) = true := by decide +kernel
abbrev s32 : Stmt := top 63
def N32 : List Str := ["t", "c", "some"]
def P32 : List Str := ["t", "c"]
/-- _law_bad_makes -/
def b32 : List Stm := [.set (.nm 2) (.disp [(.c (.str (SX.S []))), (.c (.str (SX.S [32]))), (.c (.str (SX.S [109, 97, 107, 101]))), (.p2 .add (.c (.str (SX.S [109, 97, 107, 101, 32]))) (.v 0)), (.p2 .add (.c (.str (SX.S [109, 97, 107, 101, 32, 70, 105, 103, 32]))) (.v 1)), (.p2 .add (.p2 .add (.c (.str (SX.S [109, 97, 107, 101, 32]))) (.v 0)) (.c (.str (SX.S [32, 65])))), (.p2 .add (.p2 .add (.p2 .add (.p2 .add (.p2 .add (.c (.str (SX.S [109, 97, 107, 101, 32]))) (.v 0)) (.c (.str (SX.S [32])))) (.v 0)) (.c (.str (SX.S [46])))) (.v 1))]), .set (.nm 2) (.p2 .add (.v 2) (.disp [(.c (.str (SX.S [109, 97, 107, 101, 32, 39, 120, 39, 32, 97]))), (.p2 .add (.p2 .add (.c (.str (SX.S [109, 97, 107, 101, 32]))) (.v 0)) (.c (.str (SX.S [32, 39, 97, 39])))), (.p2 .add (.p2 .add (.c (.str (SX.S [109, 97, 107, 101, 32]))) (.v 0)) (.c (.str (SX.S [32, 49])))), (.p2 .add (.p2 .add (.p2 .add (.c (.str (SX.S [109, 97, 107, 101, 32]))) (.v 0)) (.c (.str (SX.S [32, 32])))) (.v 1))])), .set (.nm 2) (.p2 .add (.v 2) (.disp [(.p2 .add (.p2 .add (.p2 .add (.p2 .add (.c (.str (SX.S [109, 97, 107, 101, 32]))) (.v 0)) (.c (.str (SX.S [32])))) (.v 1)) (.c (.str (SX.S [32])))), (.c (.str (SX.S [100, 114, 111, 112]))), (.p2 .add (.p2 .add (.p2 .add (.c (.str (SX.S [100, 114, 111, 112, 32]))) (.v 0)) (.c (.str (SX.S [32])))) (.v 0)), (.p2 .add (.p2 .add (.p2 .add (.c (.str (SX.S [100, 114, 111, 112, 32]))) (.v 0)) (.c (.str (SX.S [46])))) (.v 1))])), .set (.nm 2) (.p2 .add (.v 2) (.disp [(.c (.str (SX.S [100, 114, 111, 112, 32, 70, 105, 103]))), (.c (.str (SX.S [100, 114, 111, 112, 32])))])), .set (.nm 2) (.p2 .add (.v 2) (.disp [(.p2 .add (.c (.str (SX.S [111, 114, 100, 101, 114, 32]))) (.v 0)), (.p2 .add (.p2 .add (.c (.str (SX.S [111, 114, 100, 101, 114, 32]))) (.v 0)) (.c (.str (SX.S [46])))), (.p2 .add (.p2 .add (.p2 .add (.p2 .add (.p2 .add (.c (.str (SX.S [111, 114, 100, 101, 114, 32]))) (.v 0)) (.c (.str (SX.S [46])))) (.v 1)) (.c (.str (SX.S [32])))) (.v 1)), (.p2 .add (.c (.str (SX.S [117, 110, 111, 114, 100, 101, 114, 32, 46]))) (.v 1))])), .set (.nm 2) (.p2 .add (.v 2) (.disp [(.p2 .add (.p2 .add (.p2 .add (.p2 .add (.p2 .add (.c (.str (SX.S [117, 110, 111, 114, 100, 101, 114, 32]))) (.v 0)) (.c (.str (SX.S [46])))) (.v 1)) (.c (.str (SX.S [46])))) (.v 1)), (.p2 .add (.p2 .add (.p2 .add (.c (.str (SX.S [77, 97, 107, 101, 32]))) (.v 0)) (.c (.str (SX.S [32])))) (.v 1)), (.v 0), (.p2 .add (.c (.str (SX.S [115, 104, 111, 119, 32, 99, 111, 117, 110, 116, 32, 111, 102, 32]))) (.v 0))])), .ret (.p2 .add (.v 2) (.disp [(.c .non), (.c (.int 7)), (.c (.bl true)), (.disp [(.p2 .add (.c (.str (SX.S [100, 114, 111, 112, 32]))) (.v 0))]), (.tup [(.c (.str (SX.S [100, 114, 111, 112]))), (.v 0)]), (.dict [])]))]
theorem c32 : cSs 100 100 ⟨N32, glT, defScope s32, true, false, true⟩ (defBody s32) = some b32 := by kernel_rfl
theorem sc32 : scC N32 P32 (defScope s32) = true := by decide +kernel
abbrev s33 : Stmt := top 64
def N33 : List Str := ["t", "c", "some", "test"]
def P33 : List Str := ["t", "c"]
/-- _law_bad_rows -/
def b33 : List Stm := [.set (.nm 2) (.disp [(.c (.str (SX.S [112, 117, 116]))), (.p2 .add (.c (.str (SX.S [112, 117, 116, 32]))) (.v 0)), (.p2 .add (.p2 .add (.c (.str (SX.S [112, 117, 116, 32]))) (.v 0)) (.c (.str (SX.S [32, 97])))), (.p2 .add (.p2 .add (.c (.str (SX.S [112, 117, 116, 32]))) (.v 0)) (.c (.str (SX.S [32, 48, 49])))), (.p2 .add (.p2 .add (.c (.str (SX.S [112, 117, 116, 32]))) (.v 0)) (.c (.str (SX.S [32, 45, 48])))), (.p2 .add (.p2 .add (.c (.str (SX.S [112, 117, 116, 32]))) (.v 0)) (.c (.str (SX.S [32, 39, 97]))))]), .set (.nm 2) (.p2 .add (.v 2) (.disp [(.p2 .add (.p2 .add (.c (.str (SX.S [112, 117, 116, 32]))) (.v 0)) (.c (.str (SX.S [32, 39, 97, 59, 98, 39])))), (.p2 .add (.p2 .add (.p2 .add (.p2 .add (.c (.str (SX.S [112, 117, 116, 32]))) (.v 0)) (.c (.str (SX.S [32, 39])))) (.p2 .mul (.c (.str (SX.S [120]))) (.c (.int 21)))) (.c (.str (SX.S [39])))), (.p2 .add (.p2 .add (.c (.str (SX.S [112, 117, 116, 32]))) (.v 0)) (.c (.str (SX.S [32, 49, 48, 48, 48, 48, 48, 48, 48, 48, 48, 48, 48, 49]))))])), .set (.nm 2) (.p2 .add (.v 2) (.disp [(.p2 .add (.p2 .add (.c (.str (SX.S [112, 117, 116, 32]))) (.v 0)) (.c (.str (SX.S [32, 49, 32, 32, 50])))), (.p2 .add (.c (.str (SX.S [112, 117, 116, 32, 49, 32]))) (.v 0)), (.p2 .add (.p2 .add (.c (.str (SX.S [112, 117, 116, 115, 32]))) (.v 0)) (.c (.str (SX.S [32, 49])))), (.c (.str (SX.S [99, 117, 116]))), (.p2 .add (.p2 .add (.c (.str (SX.S [99, 117, 116, 32]))) (.v 0)) (.c (.str (SX.S [32, 119, 104, 101, 114, 101]))))])), .set (.nm 2) (.p2 .add (.v 2) (.disp [(.p2 .add (.p2 .add (.p2 .add (.c (.str (SX.S [99, 117, 116, 32]))) (.v 0)) (.c (.str (SX.S [46])))) (.v 1)), (.p2 .add (.p2 .add (.p2 .add (.p2 .add (.p2 .add (.p2 .add (.c (.str (SX.S [99, 117, 116, 32]))) (.v 0)) (.c (.str (SX.S [32])))) (.v 0)) (.c (.str (SX.S [46])))) (.v 1)) (.c (.str (SX.S [32, 61, 32, 49])))), (.p2 .add (.p2 .add (.p2 .add (.c (.str (SX.S [99, 117, 116, 32]))) (.v 0)) (.c (.str (SX.S [32, 105, 102, 32])))) (.v 0))])), .set (.nm 2) (.p2 .add (.v 2) (.disp [(.p2 .add (.p2 .add (.p2 .add (.p2 .add (.p2 .add (.p2 .add (.c (.str (SX.S [99, 117, 116, 32]))) (.v 0)) (.c (.str (SX.S [32, 119, 104, 101, 114, 101, 32, 120])))) (.v 0)) (.c (.str (SX.S [46])))) (.v 1)) (.c (.str (SX.S [32, 61, 32, 49]))))])), .set (.nm 2) (.p2 .add (.v 2) (.disp [(.p2 .add (.p2 .add (.p2 .add (.p2 .add (.p2 .add (.p2 .add (.p2 .add (.c (.str (SX.S [99, 117, 116, 32]))) (.v 0)) (.c (.str (SX.S [32, 119, 104, 101, 114, 101, 32])))) (.v 0)) (.c (.str (SX.S [46])))) (.v 1)) (.c (.str (SX.S [32, 61, 32, 120, 120, 46])))) (.v 1))])), .set (.nm 3) (.p2 .add (.p2 .add (.p2 .add (.p2 .add (.c (.str (SX.S [32]))) (.v 0)) (.c (.str (SX.S [46])))) (.v 1)) (.c (.str (SX.S [32, 61, 32])))), .ret (.p2 .add (.v 2) (.disp [(.p2 .add (.p2 .add (.p2 .add (.p2 .add (.p2 .add (.p2 .add (.c (.str (SX.S [99, 117, 116, 32]))) (.v 0)) (.c (.str (SX.S [32, 119, 104, 101, 114, 101])))) (.v 3)) (.c (.str (SX.S [49, 32, 97, 110, 100])))) (.v 3)) (.c (.str (SX.S [50]))))]))]
theorem c33 : cSs 100 100 ⟨N33, glT, defScope s33, true, false, true⟩ (defBody s33) = some b33 := by kernel_rfl
theorem sc33 : scC N33 P33 (defScope s33) = true := by decide +kernel
abbrev s34 : Stmt := top 65
def N34 : List Str := ["t", "c", "setting", "some"]
def P34 : List Str := ["t", "c"]
/-- _law_bad_sets -/
def b34 : List Stm := [.set (.nm 2) (.p2 .add (.p2 .add (.p2 .add (.c (.str (SX.S [115, 101, 116, 32]))) (.v 0)) (.c (.str (SX.S [46])))) (.v 1)), .set (.nm 3) (.disp [(.v 2), (.p2 .add (.v 2) (.c (.str (SX.S [32, 49])))), (.p2 .add (.v 2) (.c (.str (SX.S [32, 61, 32])))), (.p2 .add (.p2 .add (.c (.str (SX.S [115, 101, 116, 32]))) (.v 0)) (.c (.str (SX.S [32, 61, 32, 49]))))]), .set (.nm 3) (.p2 .add (.v 3) (.disp [(.p2 .add (.v 2) (.c (.str (SX.S [32, 61, 32, 98])))), (.p2 .add (.v 2) (.c (.str (SX.S [32, 61, 32, 49, 32, 119, 104, 101, 114, 101])))), (.p2 .add (.v 2) (.c (.str (SX.S [32, 61, 32, 49, 32, 50]))))])), .set (.nm 3) (.p2 .add (.v 3) (.disp [(.p2 .add (.p2 .add (.p2 .add (.p2 .add (.p2 .add (.v 2) (.c (.str (SX.S [32, 61, 32, 49, 32, 119, 104, 101, 114, 101, 32, 120])))) (.v 0)) (.c (.str (SX.S [46])))) (.v 1)) (.c (.str (SX.S [32, 61, 32, 49]))))])), .set (.nm 3) (.p2 .add (.v 3) (.disp [(.c (.str (SX.S [110, 101, 101, 100, 32, 49]))), (.c (.str (SX.S [110, 101, 101, 100, 32, 49, 32, 105, 115]))), (.c (.str (SX.S [110, 101, 101, 100, 32, 105, 115, 32, 115, 104, 111, 119])))])), .set (.nm 3) (.p2 .add (.v 3) (.disp [(.p2 .add (.p2 .add (.p2 .add (.c (.str (SX.S [110, 101, 101, 100, 32]))) (.v 1)) (.c (.str (SX.S [32, 105, 115, 32, 115, 104, 111, 119, 32, 99, 111, 117, 110, 116, 32, 111, 102, 32])))) (.v 0)), (.p2 .add (.c (.str (SX.S [110, 101, 101, 100, 32, 49, 32, 115, 104, 111, 119, 32, 99, 111, 117, 110, 116, 32, 111, 102, 32]))) (.v 0))])), .ret (.p2 .add (.v 3) (.disp [(.c (.str (SX.S [110, 101, 101, 100, 32, 49, 32, 105, 115, 32, 115, 104, 111, 119, 32, 99, 111, 117, 110, 116]))), (.p2 .add (.p2 .add (.c (.str (SX.S [110, 101, 101, 100, 32, 49, 32, 105, 115, 32, 115, 104, 111, 119, 32, 99, 111, 117, 110, 116, 32, 111, 102, 32]))) (.v 0)) (.c (.str (SX.S [32, 120]))))]))]
theorem c34 : cSs 100 100 ⟨N34, glT, defScope s34, true, false, true⟩ (defBody s34) = some b34 := by kernel_rfl
theorem sc34 : scC N34 P34 (defScope s34) = true := by decide +kernel
abbrev s35 : Stmt := top 66
def N35 : List Str := ["thing", "kinds", "e"]
def P35 : List Str := ["thing"]
/-- _law_refused -/
def b35 : List Stm := [.set (.nm 1) (.disp []), .tryA [.exp (.call 28 [(.v 0)])] [(0, true), (1, true)] 2 [.lis 1 [[[(0, false), (1, true)]], [[(0, true), (1, true)]]], .app 1 [[(0, false), (1, false)], [(0, false), (1, false)], [(0, false), (1, false)], [(0, false), (1, false)], [(0, false), (1, false)], [(0, false), (1, false)], [(0, true), (1, false)], [(0, false), (1, false)]], .app 1 [[(0, false), (1, false)], [(0, false), (1, false)]]], .ret (.p2 .eq (.v 1) (.disp [(.c (.bl true)), (.c (.bl true)), (.c (.bl false)), (.c (.bl false))]))]
theorem c35 : cSs 100 100 ⟨N35, glT, defScope s35, false, false, true⟩ (defBody s35) = some b35 := by kernel_rfl
theorem sc35 : scC N35 P35 (defScope s35) = true := by decide +kernel
abbrev s36 : Stmt := top 67
def N36 : List Str := ["script", "way", "k", "deck", "t", "c", "some", "at", "thing"]
def P36 : List Str := ["script"]
def b36_0 : List Stm := [.iff (.not_ (.call 35 [(.v 8)])) [.ret (.c (.bl false))] []]
def b36_1 : List Stm := [.set (.nm 3) (.disp [(.call 29 [(.v 0), (.v 2)]), (.v 1), (.c (.int 0))]), .set (.nm 4) (.call 31 [(.v 3)]), .set (.nm 5) (.call 31 [(.v 3)]), .set (.nm 6) (.p2 .add (.call 32 [(.sl (.v 4) [] [(.c (.int 7))]), (.v 5)]) (.call 33 [(.sl (.v 4) [] [(.c (.int 7))]), (.v 5)])), .set (.nm 6) (.p2 .add (.v 6) (.call 34 [(.sl (.v 4) [] [(.c (.int 7))]), (.v 5)])), .set (.nm 7) (.call 30 [(.v 3), (.p1 .len (.v 6))]), .for_ (.nm 8) .it [(.disp [(.p2 .ix (.v 6) (.v 7)), (.p2 .ix (.v 6) (.p2 .mod (.p2 .add (.v 7) (.p2 .mul (.c (.int 29)) (.v 2))) (.p1 .len (.v 6))))])] b36_0, .iff (.or_ (.p2 .ne (.call 28 [(.p2 .add (.p2 .add (.p2 .add (.c (.str (SX.S [109, 97, 107, 101, 32]))) (.v 4)) (.c (.str (SX.S [32])))) (.v 5))]) (.tup [(.c (.str (SX.S [109, 97, 107, 101]))), (.v 4), (.tup [(.v 5)])])) (.p2 .ne (.call 28 [(.p2 .add (.c (.str (SX.S [100, 114, 111, 112, 32]))) (.v 4))]) (.tup [(.c (.str (SX.S [100, 114, 111, 112]))), (.v 4)]))) [.ret (.c (.bl false))] [], .iff (.or_ (.p2 .ne (.call 28 [(.p2 .add (.c (.str (SX.S [99, 117, 116, 32]))) (.v 4))]) (.tup [(.c (.str (SX.S [99, 117, 116]))), (.v 4), (.c .non)])) (.p2 .ne (.call 28 [(.p2 .add (.p2 .add (.p2 .add (.c (.str (SX.S [111, 114, 100, 101, 114, 32]))) (.v 4)) (.c (.str (SX.S [46])))) (.v 5))]) (.tup [(.c (.str (SX.S [111, 114, 100, 101, 114]))), (.tup [(.v 4), (.v 5)])]))) [.ret (.c (.bl false))] []]
/-- law -/
def b36 : List Stm := [.set (.nm 1) (.p2 .mod (.call 29 [(.v 0), (.c (.int 0))]) (.c (.int 2))), .for_ (.nm 2) .rng2 [(.c (.int 1)), (.p2 .max_ (.c (.int 2)) (.p2 .min_ (.p1 .len (.v 0)) (.c (.int 63))))] b36_1, .ret (.c (.bl true))]
theorem c36 : cSs 100 100 ⟨N36, glT, defScope s36, false, false, true⟩ (defBody s36) = some b36 := by kernel_rfl
theorem sc36 : scC N36 P36 (defScope s36) = true := by decide +kernel
def tab : Nat → Option Fn
  | 0 => some ⟨1, 2, b0, false⟩
  | 1 => some ⟨1, 2, b1, false⟩
  | 2 => some ⟨1, 5, b2, false⟩
  | 3 => some ⟨1, 3, b3, false⟩
  | 4 => some ⟨1, 2, b4, false⟩
  | 5 => some ⟨2, 2, b5, false⟩
  | 6 => some ⟨3, 3, b6, false⟩
  | 7 => some ⟨2, 2, b7, false⟩
  | 8 => some ⟨2, 3, b8, false⟩
  | 9 => some ⟨2, 5, b9, false⟩
  | 10 => some ⟨3, 7, b10, false⟩
  | 11 => some ⟨3, 6, b11, false⟩
  | 12 => some ⟨1, 3, b12, false⟩
  | 13 => some ⟨1, 4, b13, false⟩
  | 14 => some ⟨3, 6, b14, false⟩
  | 15 => some ⟨2, 2, b15, false⟩
  | 16 => some ⟨2, 3, b16, false⟩
  | 17 => some ⟨1, 3, b17, false⟩
  | 18 => some ⟨1, 8, b18, false⟩
  | 19 => some ⟨1, 1, b19, false⟩
  | 20 => some ⟨1, 11, b20, false⟩
  | 21 => some ⟨3, 3, b21, false⟩
  | 22 => some ⟨1, 1, b22, false⟩
  | 23 => some ⟨1, 2, b23, false⟩
  | 24 => some ⟨1, 4, b24, false⟩
  | 25 => some ⟨2, 4, b25, false⟩
  | 26 => some ⟨1, 3, b26, false⟩
  | 27 => some ⟨1, 3, b27, false⟩
  | 28 => some ⟨1, 2, b28, true⟩
  | 29 => some ⟨2, 2, b29, false⟩
  | 30 => some ⟨2, 4, b30, false⟩
  | 31 => some ⟨1, 2, b31, false⟩
  | 32 => some ⟨2, 3, b32, true⟩
  | 33 => some ⟨2, 4, b33, true⟩
  | 34 => some ⟨2, 4, b34, true⟩
  | 35 => some ⟨1, 3, b35, false⟩
  | 36 => some ⟨1, 9, b36, false⟩
  | _ => none
end Mi.L

/-! the defs as functions -/
namespace Mi.L
open PySem L2 Mi
noncomputable def g0 : Gof b0 := by
  apply Subtype.mk
  intro C ρ S
  simp only [b0, b0_0, exSs, exS, evK, evD, evB, evDs, evWs, evCs, evJ, R.bd, R.st, RS.sq, RS.els, RS.catR, vv, if_cond, ↓e_get, ↓e_bind, e_for, e_set, e_f_lt, e_f_gt, e_f_le, e_f_ge, e_f_eq, e_f_ne, e_f_in, e_f_nin, e_f_len, e_f_add, e_f_ix, e_p1_neg, e_p1_isN, e_p1_notN, e_p1_int_, e_p1_tuple_, e_p1_list_, e_p1_pop, e_p2_sub, e_p2_mul, e_p2_append, e_p2_extend, e_p2_join, e_p2_split]
  try rfl
noncomputable def g1 : Gof b1 := by
  apply Subtype.mk
  intro C ρ S
  simp only [b1, b1_0, exSs, exS, evK, evD, evB, evDs, evWs, evCs, evJ, R.bd, R.st, RS.sq, RS.els, RS.catR, vv, if_cond, ↓e_get, ↓e_bind, e_for, e_set, e_f_lt, e_f_gt, e_f_le, e_f_ge, e_f_eq, e_f_ne, e_f_in, e_f_nin, e_f_len, e_f_add, e_f_ix, e_p1_neg, e_p1_isN, e_p1_notN, e_p1_int_, e_p1_tuple_, e_p1_list_, e_p1_pop, e_p2_sub, e_p2_mul, e_p2_append, e_p2_extend, e_p2_join, e_p2_split]
  try rfl
noncomputable def g2 : Gof b2 := by
  apply Subtype.mk
  intro C ρ S
  simp only [b2, b2_0, exSs, exS, evK, evD, evB, evDs, evWs, evCs, evJ, R.bd, R.st, RS.sq, RS.els, RS.catR, vv, if_cond, ↓e_get, ↓e_bind, e_for, e_set, e_f_lt, e_f_gt, e_f_le, e_f_ge, e_f_eq, e_f_ne, e_f_in, e_f_nin, e_f_len, e_f_add, e_f_ix, e_p1_neg, e_p1_isN, e_p1_notN, e_p1_int_, e_p1_tuple_, e_p1_list_, e_p1_pop, e_p2_sub, e_p2_mul, e_p2_append, e_p2_extend, e_p2_join, e_p2_split]
  try rfl
noncomputable def g3 : Gof b3 := by
  apply Subtype.mk
  intro C ρ S
  simp only [b3, b3_0, exSs, exS, evK, evD, evB, evDs, evWs, evCs, evJ, R.bd, R.st, RS.sq, RS.els, RS.catR, vv, if_cond, ↓e_get, ↓e_bind, e_for, e_set, e_f_lt, e_f_gt, e_f_le, e_f_ge, e_f_eq, e_f_ne, e_f_in, e_f_nin, e_f_len, e_f_add, e_f_ix, e_p1_neg, e_p1_isN, e_p1_notN, e_p1_int_, e_p1_tuple_, e_p1_list_, e_p1_pop, e_p2_sub, e_p2_mul, e_p2_append, e_p2_extend, e_p2_join, e_p2_split]
  try rfl
noncomputable def g4 : Gof b4 := by
  apply Subtype.mk
  intro C ρ S
  simp only [b4, exSs, exS, evK, evD, evB, evDs, evWs, evCs, evJ, R.bd, R.st, RS.sq, RS.els, RS.catR, vv, if_cond, ↓e_get, ↓e_bind, e_for, e_set, e_f_lt, e_f_gt, e_f_le, e_f_ge, e_f_eq, e_f_ne, e_f_in, e_f_nin, e_f_len, e_f_add, e_f_ix, e_p1_neg, e_p1_isN, e_p1_notN, e_p1_int_, e_p1_tuple_, e_p1_list_, e_p1_pop, e_p2_sub, e_p2_mul, e_p2_append, e_p2_extend, e_p2_join, e_p2_split]
  try rfl
noncomputable def g5 : Gof b5 := by
  apply Subtype.mk
  intro C ρ S
  simp only [b5, exSs, exS, evK, evD, evB, evDs, evWs, evCs, evJ, R.bd, R.st, RS.sq, RS.els, RS.catR, vv, if_cond, ↓e_get, ↓e_bind, e_for, e_set, e_f_lt, e_f_gt, e_f_le, e_f_ge, e_f_eq, e_f_ne, e_f_in, e_f_nin, e_f_len, e_f_add, e_f_ix, e_p1_neg, e_p1_isN, e_p1_notN, e_p1_int_, e_p1_tuple_, e_p1_list_, e_p1_pop, e_p2_sub, e_p2_mul, e_p2_append, e_p2_extend, e_p2_join, e_p2_split]
  try rfl
noncomputable def g6 : Gof b6 := by
  apply Subtype.mk
  intro C ρ S
  simp only [b6, exSs, exS, evK, evD, evB, evDs, evWs, evCs, evJ, R.bd, R.st, RS.sq, RS.els, RS.catR, vv, if_cond, ↓e_get, ↓e_bind, e_for, e_set, e_f_lt, e_f_gt, e_f_le, e_f_ge, e_f_eq, e_f_ne, e_f_in, e_f_nin, e_f_len, e_f_add, e_f_ix, e_p1_neg, e_p1_isN, e_p1_notN, e_p1_int_, e_p1_tuple_, e_p1_list_, e_p1_pop, e_p2_sub, e_p2_mul, e_p2_append, e_p2_extend, e_p2_join, e_p2_split]
  try rfl
noncomputable def g7 : Gof b7 := by
  apply Subtype.mk
  intro C ρ S
  simp only [b7, exSs, exS, evK, evD, evB, evDs, evWs, evCs, evJ, R.bd, R.st, RS.sq, RS.els, RS.catR, vv, if_cond, ↓e_get, ↓e_bind, e_for, e_set, e_f_lt, e_f_gt, e_f_le, e_f_ge, e_f_eq, e_f_ne, e_f_in, e_f_nin, e_f_len, e_f_add, e_f_ix, e_p1_neg, e_p1_isN, e_p1_notN, e_p1_int_, e_p1_tuple_, e_p1_list_, e_p1_pop, e_p2_sub, e_p2_mul, e_p2_append, e_p2_extend, e_p2_join, e_p2_split]
  try rfl
noncomputable def g8 : Gof b8 := by
  apply Subtype.mk
  intro C ρ S
  simp only [b8, exSs, exS, evK, evD, evB, evDs, evWs, evCs, evJ, R.bd, R.st, RS.sq, RS.els, RS.catR, vv, if_cond, ↓e_get, ↓e_bind, e_for, e_set, e_f_lt, e_f_gt, e_f_le, e_f_ge, e_f_eq, e_f_ne, e_f_in, e_f_nin, e_f_len, e_f_add, e_f_ix, e_p1_neg, e_p1_isN, e_p1_notN, e_p1_int_, e_p1_tuple_, e_p1_list_, e_p1_pop, e_p2_sub, e_p2_mul, e_p2_append, e_p2_extend, e_p2_join, e_p2_split]
  try rfl
noncomputable def g9 : Gof b9 := by
  apply Subtype.mk
  intro C ρ S
  simp only [b9, exSs, exS, evK, evD, evB, evDs, evWs, evCs, evJ, R.bd, R.st, RS.sq, RS.els, RS.catR, vv, if_cond, ↓e_get, ↓e_bind, e_for, e_set, e_f_lt, e_f_gt, e_f_le, e_f_ge, e_f_eq, e_f_ne, e_f_in, e_f_nin, e_f_len, e_f_add, e_f_ix, e_p1_neg, e_p1_isN, e_p1_notN, e_p1_int_, e_p1_tuple_, e_p1_list_, e_p1_pop, e_p2_sub, e_p2_mul, e_p2_append, e_p2_extend, e_p2_join, e_p2_split]
  try rfl
noncomputable def g10 : Gof b10 := by
  apply Subtype.mk
  intro C ρ S
  simp only [b10, b10_0, exSs, exS, evK, evD, evB, evDs, evWs, evCs, evJ, R.bd, R.st, RS.sq, RS.els, RS.catR, vv, if_cond, ↓e_get, ↓e_bind, e_for, e_set, e_f_lt, e_f_gt, e_f_le, e_f_ge, e_f_eq, e_f_ne, e_f_in, e_f_nin, e_f_len, e_f_add, e_f_ix, e_p1_neg, e_p1_isN, e_p1_notN, e_p1_int_, e_p1_tuple_, e_p1_list_, e_p1_pop, e_p2_sub, e_p2_mul, e_p2_append, e_p2_extend, e_p2_join, e_p2_split]
  try rfl
noncomputable def g11 : Gof b11 := by
  apply Subtype.mk
  intro C ρ S
  simp only [b11, exSs, exS, evK, evD, evB, evDs, evWs, evCs, evJ, R.bd, R.st, RS.sq, RS.els, RS.catR, vv, if_cond, ↓e_get, ↓e_bind, e_for, e_set, e_f_lt, e_f_gt, e_f_le, e_f_ge, e_f_eq, e_f_ne, e_f_in, e_f_nin, e_f_len, e_f_add, e_f_ix, e_p1_neg, e_p1_isN, e_p1_notN, e_p1_int_, e_p1_tuple_, e_p1_list_, e_p1_pop, e_p2_sub, e_p2_mul, e_p2_append, e_p2_extend, e_p2_join, e_p2_split]
  try rfl
noncomputable def g12 : Gof b12 := by
  apply Subtype.mk
  intro C ρ S
  simp only [b12, exSs, exS, evK, evD, evB, evDs, evWs, evCs, evJ, R.bd, R.st, RS.sq, RS.els, RS.catR, vv, if_cond, ↓e_get, ↓e_bind, e_for, e_set, e_f_lt, e_f_gt, e_f_le, e_f_ge, e_f_eq, e_f_ne, e_f_in, e_f_nin, e_f_len, e_f_add, e_f_ix, e_p1_neg, e_p1_isN, e_p1_notN, e_p1_int_, e_p1_tuple_, e_p1_list_, e_p1_pop, e_p2_sub, e_p2_mul, e_p2_append, e_p2_extend, e_p2_join, e_p2_split]
  try rfl
noncomputable def g13 : Gof b13 := by
  apply Subtype.mk
  intro C ρ S
  simp only [b13, b13_0, exSs, exS, evK, evD, evB, evDs, evWs, evCs, evJ, R.bd, R.st, RS.sq, RS.els, RS.catR, vv, if_cond, ↓e_get, ↓e_bind, e_for, e_set, e_f_lt, e_f_gt, e_f_le, e_f_ge, e_f_eq, e_f_ne, e_f_in, e_f_nin, e_f_len, e_f_add, e_f_ix, e_p1_neg, e_p1_isN, e_p1_notN, e_p1_int_, e_p1_tuple_, e_p1_list_, e_p1_pop, e_p2_sub, e_p2_mul, e_p2_append, e_p2_extend, e_p2_join, e_p2_split]
  try rfl
noncomputable def g14 : Gof b14 := by
  apply Subtype.mk
  intro C ρ S
  simp only [b14, exSs, exS, evK, evD, evB, evDs, evWs, evCs, evJ, R.bd, R.st, RS.sq, RS.els, RS.catR, vv, if_cond, ↓e_get, ↓e_bind, e_for, e_set, e_f_lt, e_f_gt, e_f_le, e_f_ge, e_f_eq, e_f_ne, e_f_in, e_f_nin, e_f_len, e_f_add, e_f_ix, e_p1_neg, e_p1_isN, e_p1_notN, e_p1_int_, e_p1_tuple_, e_p1_list_, e_p1_pop, e_p2_sub, e_p2_mul, e_p2_append, e_p2_extend, e_p2_join, e_p2_split]
  try rfl
noncomputable def g15 : Gof b15 := by
  apply Subtype.mk
  intro C ρ S
  simp only [b15, exSs, exS, evK, evD, evB, evDs, evWs, evCs, evJ, R.bd, R.st, RS.sq, RS.els, RS.catR, vv, if_cond, ↓e_get, ↓e_bind, e_for, e_set, e_f_lt, e_f_gt, e_f_le, e_f_ge, e_f_eq, e_f_ne, e_f_in, e_f_nin, e_f_len, e_f_add, e_f_ix, e_p1_neg, e_p1_isN, e_p1_notN, e_p1_int_, e_p1_tuple_, e_p1_list_, e_p1_pop, e_p2_sub, e_p2_mul, e_p2_append, e_p2_extend, e_p2_join, e_p2_split]
  try rfl
noncomputable def g16 : Gof b16 := by
  apply Subtype.mk
  intro C ρ S
  simp only [b16, exSs, exS, evK, evD, evB, evDs, evWs, evCs, evJ, R.bd, R.st, RS.sq, RS.els, RS.catR, vv, if_cond, ↓e_get, ↓e_bind, e_for, e_set, e_f_lt, e_f_gt, e_f_le, e_f_ge, e_f_eq, e_f_ne, e_f_in, e_f_nin, e_f_len, e_f_add, e_f_ix, e_p1_neg, e_p1_isN, e_p1_notN, e_p1_int_, e_p1_tuple_, e_p1_list_, e_p1_pop, e_p2_sub, e_p2_mul, e_p2_append, e_p2_extend, e_p2_join, e_p2_split]
  try rfl
noncomputable def g17 : Gof b17 := by
  apply Subtype.mk
  intro C ρ S
  simp only [b17, b17_0, exSs, exS, evK, evD, evB, evDs, evWs, evCs, evJ, R.bd, R.st, RS.sq, RS.els, RS.catR, vv, if_cond, ↓e_get, ↓e_bind, e_for, e_set, e_f_lt, e_f_gt, e_f_le, e_f_ge, e_f_eq, e_f_ne, e_f_in, e_f_nin, e_f_len, e_f_add, e_f_ix, e_p1_neg, e_p1_isN, e_p1_notN, e_p1_int_, e_p1_tuple_, e_p1_list_, e_p1_pop, e_p2_sub, e_p2_mul, e_p2_append, e_p2_extend, e_p2_join, e_p2_split]
  try rfl
noncomputable def g18 : Gof b18 := by
  apply Subtype.mk
  intro C ρ S
  simp only [b18, exSs, exS, evK, evD, evB, evDs, evWs, evCs, evJ, R.bd, R.st, RS.sq, RS.els, RS.catR, vv, if_cond, ↓e_get, ↓e_bind, e_for, e_set, e_f_lt, e_f_gt, e_f_le, e_f_ge, e_f_eq, e_f_ne, e_f_in, e_f_nin, e_f_len, e_f_add, e_f_ix, e_p1_neg, e_p1_isN, e_p1_notN, e_p1_int_, e_p1_tuple_, e_p1_list_, e_p1_pop, e_p2_sub, e_p2_mul, e_p2_append, e_p2_extend, e_p2_join, e_p2_split]
  try rfl
noncomputable def g19 : Gof b19 := by
  apply Subtype.mk
  intro C ρ S
  simp only [b19, exSs, exS, evK, evD, evB, evDs, evWs, evCs, evJ, R.bd, R.st, RS.sq, RS.els, RS.catR, vv, if_cond, ↓e_get, ↓e_bind, e_for, e_set, e_f_lt, e_f_gt, e_f_le, e_f_ge, e_f_eq, e_f_ne, e_f_in, e_f_nin, e_f_len, e_f_add, e_f_ix, e_p1_neg, e_p1_isN, e_p1_notN, e_p1_int_, e_p1_tuple_, e_p1_list_, e_p1_pop, e_p2_sub, e_p2_mul, e_p2_append, e_p2_extend, e_p2_join, e_p2_split]
  try rfl
noncomputable def g20 : Gof b20 := by
  apply Subtype.mk
  intro C ρ S
  simp only [b20, b20_0, exSs, exS, evK, evD, evB, evDs, evWs, evCs, evJ, R.bd, R.st, RS.sq, RS.els, RS.catR, vv, if_cond, ↓e_get, ↓e_bind, e_for, e_set, e_f_lt, e_f_gt, e_f_le, e_f_ge, e_f_eq, e_f_ne, e_f_in, e_f_nin, e_f_len, e_f_add, e_f_ix, e_p1_neg, e_p1_isN, e_p1_notN, e_p1_int_, e_p1_tuple_, e_p1_list_, e_p1_pop, e_p2_sub, e_p2_mul, e_p2_append, e_p2_extend, e_p2_join, e_p2_split]
  try rfl
noncomputable def g21 : Gof b21 := by
  apply Subtype.mk
  intro C ρ S
  simp only [b21, exSs, exS, evK, evD, evB, evDs, evWs, evCs, evJ, R.bd, R.st, RS.sq, RS.els, RS.catR, vv, if_cond, ↓e_get, ↓e_bind, e_for, e_set, e_f_lt, e_f_gt, e_f_le, e_f_ge, e_f_eq, e_f_ne, e_f_in, e_f_nin, e_f_len, e_f_add, e_f_ix, e_p1_neg, e_p1_isN, e_p1_notN, e_p1_int_, e_p1_tuple_, e_p1_list_, e_p1_pop, e_p2_sub, e_p2_mul, e_p2_append, e_p2_extend, e_p2_join, e_p2_split]
  try rfl
noncomputable def g22 : Gof b22 := by
  apply Subtype.mk
  intro C ρ S
  simp only [b22, exSs, exS, evK, evD, evB, evDs, evWs, evCs, evJ, R.bd, R.st, RS.sq, RS.els, RS.catR, vv, if_cond, ↓e_get, ↓e_bind, e_for, e_set, e_f_lt, e_f_gt, e_f_le, e_f_ge, e_f_eq, e_f_ne, e_f_in, e_f_nin, e_f_len, e_f_add, e_f_ix, e_p1_neg, e_p1_isN, e_p1_notN, e_p1_int_, e_p1_tuple_, e_p1_list_, e_p1_pop, e_p2_sub, e_p2_mul, e_p2_append, e_p2_extend, e_p2_join, e_p2_split]
  try rfl
noncomputable def g23 : Gof b23 := by
  apply Subtype.mk
  intro C ρ S
  simp only [b23, exSs, exS, evK, evD, evB, evDs, evWs, evCs, evJ, R.bd, R.st, RS.sq, RS.els, RS.catR, vv, if_cond, ↓e_get, ↓e_bind, e_for, e_set, e_f_lt, e_f_gt, e_f_le, e_f_ge, e_f_eq, e_f_ne, e_f_in, e_f_nin, e_f_len, e_f_add, e_f_ix, e_p1_neg, e_p1_isN, e_p1_notN, e_p1_int_, e_p1_tuple_, e_p1_list_, e_p1_pop, e_p2_sub, e_p2_mul, e_p2_append, e_p2_extend, e_p2_join, e_p2_split]
  try rfl
noncomputable def g24 : Gof b24 := by
  apply Subtype.mk
  intro C ρ S
  simp only [b24, b24_0, exSs, exS, evK, evD, evB, evDs, evWs, evCs, evJ, R.bd, R.st, RS.sq, RS.els, RS.catR, vv, if_cond, ↓e_get, ↓e_bind, e_for, e_set, e_f_lt, e_f_gt, e_f_le, e_f_ge, e_f_eq, e_f_ne, e_f_in, e_f_nin, e_f_len, e_f_add, e_f_ix, e_p1_neg, e_p1_isN, e_p1_notN, e_p1_int_, e_p1_tuple_, e_p1_list_, e_p1_pop, e_p2_sub, e_p2_mul, e_p2_append, e_p2_extend, e_p2_join, e_p2_split]
  try rfl
noncomputable def g25 : Gof b25 := by
  apply Subtype.mk
  intro C ρ S
  simp only [b25, b25_0, exSs, exS, evK, evD, evB, evDs, evWs, evCs, evJ, R.bd, R.st, RS.sq, RS.els, RS.catR, vv, if_cond, ↓e_get, ↓e_bind, e_for, e_set, e_f_lt, e_f_gt, e_f_le, e_f_ge, e_f_eq, e_f_ne, e_f_in, e_f_nin, e_f_len, e_f_add, e_f_ix, e_p1_neg, e_p1_isN, e_p1_notN, e_p1_int_, e_p1_tuple_, e_p1_list_, e_p1_pop, e_p2_sub, e_p2_mul, e_p2_append, e_p2_extend, e_p2_join, e_p2_split]
  try rfl
noncomputable def g26 : Gof b26 := by
  apply Subtype.mk
  intro C ρ S
  simp only [b26, exSs, exS, evK, evD, evB, evDs, evWs, evCs, evJ, R.bd, R.st, RS.sq, RS.els, RS.catR, vv, if_cond, ↓e_get, ↓e_bind, e_for, e_set, e_f_lt, e_f_gt, e_f_le, e_f_ge, e_f_eq, e_f_ne, e_f_in, e_f_nin, e_f_len, e_f_add, e_f_ix, e_p1_neg, e_p1_isN, e_p1_notN, e_p1_int_, e_p1_tuple_, e_p1_list_, e_p1_pop, e_p2_sub, e_p2_mul, e_p2_append, e_p2_extend, e_p2_join, e_p2_split]
  try rfl
noncomputable def g27 : Gof b27 := by
  apply Subtype.mk
  intro C ρ S
  simp only [b27, exSs, exS, evK, evD, evB, evDs, evWs, evCs, evJ, R.bd, R.st, RS.sq, RS.els, RS.catR, vv, if_cond, ↓e_get, ↓e_bind, e_for, e_set, e_f_lt, e_f_gt, e_f_le, e_f_ge, e_f_eq, e_f_ne, e_f_in, e_f_nin, e_f_len, e_f_add, e_f_ix, e_p1_neg, e_p1_isN, e_p1_notN, e_p1_int_, e_p1_tuple_, e_p1_list_, e_p1_pop, e_p2_sub, e_p2_mul, e_p2_append, e_p2_extend, e_p2_join, e_p2_split]
  try rfl
noncomputable def g28 : Gof b28 := by
  apply Subtype.mk
  intro C ρ S
  simp only [b28, exSs, exS, evK, evD, evB, evDs, evWs, evCs, evJ, R.bd, R.st, RS.sq, RS.els, RS.catR, vv, if_cond, ↓e_get, ↓e_bind, e_for, e_set, e_f_lt, e_f_gt, e_f_le, e_f_ge, e_f_eq, e_f_ne, e_f_in, e_f_nin, e_f_len, e_f_add, e_f_ix, e_p1_neg, e_p1_isN, e_p1_notN, e_p1_int_, e_p1_tuple_, e_p1_list_, e_p1_pop, e_p2_sub, e_p2_mul, e_p2_append, e_p2_extend, e_p2_join, e_p2_split]
  try rfl
noncomputable def tabG : Nat → Option Gn
  | 0 => some ⟨1, 2, g0.1, false⟩
  | 1 => some ⟨1, 2, g1.1, false⟩
  | 2 => some ⟨1, 5, g2.1, false⟩
  | 3 => some ⟨1, 3, g3.1, false⟩
  | 4 => some ⟨1, 2, g4.1, false⟩
  | 5 => some ⟨2, 2, g5.1, false⟩
  | 6 => some ⟨3, 3, g6.1, false⟩
  | 7 => some ⟨2, 2, g7.1, false⟩
  | 8 => some ⟨2, 3, g8.1, false⟩
  | 9 => some ⟨2, 5, g9.1, false⟩
  | 10 => some ⟨3, 7, g10.1, false⟩
  | 11 => some ⟨3, 6, g11.1, false⟩
  | 12 => some ⟨1, 3, g12.1, false⟩
  | 13 => some ⟨1, 4, g13.1, false⟩
  | 14 => some ⟨3, 6, g14.1, false⟩
  | 15 => some ⟨2, 2, g15.1, false⟩
  | 16 => some ⟨2, 3, g16.1, false⟩
  | 17 => some ⟨1, 3, g17.1, false⟩
  | 18 => some ⟨1, 8, g18.1, false⟩
  | 19 => some ⟨1, 1, g19.1, false⟩
  | 20 => some ⟨1, 11, g20.1, false⟩
  | 21 => some ⟨3, 3, g21.1, false⟩
  | 22 => some ⟨1, 1, g22.1, false⟩
  | 23 => some ⟨1, 2, g23.1, false⟩
  | 24 => some ⟨1, 4, g24.1, false⟩
  | 25 => some ⟨2, 4, g25.1, false⟩
  | 26 => some ⟨1, 3, g26.1, false⟩
  | 27 => some ⟨1, 3, g27.1, false⟩
  | 28 => some ⟨1, 2, g28.1, true⟩
  | 29 => some ⟨2, 2, fun C ρ S => exSs C b29 ρ S, false⟩
  | 30 => some ⟨2, 4, fun C ρ S => exSs C b30 ρ S, false⟩
  | 31 => some ⟨1, 2, fun C ρ S => exSs C b31 ρ S, false⟩
  | 32 => some ⟨2, 3, fun C ρ S => exSs C b32 ρ S, true⟩
  | 33 => some ⟨2, 4, fun C ρ S => exSs C b33 ρ S, true⟩
  | 34 => some ⟨2, 4, fun C ρ S => exSs C b34 ρ S, true⟩
  | 35 => some ⟨1, 3, fun C ρ S => exSs C b35 ρ S, false⟩
  | 36 => some ⟨1, 9, fun C ρ S => exSs C b36 ρ S, false⟩
  | _ => none
theorem tabG_eq : ∀ i, isG (tab i) (tabG i)
  | 0 => ⟨rfl, rfl, rfl, g0.2⟩
  | 1 => ⟨rfl, rfl, rfl, g1.2⟩
  | 2 => ⟨rfl, rfl, rfl, g2.2⟩
  | 3 => ⟨rfl, rfl, rfl, g3.2⟩
  | 4 => ⟨rfl, rfl, rfl, g4.2⟩
  | 5 => ⟨rfl, rfl, rfl, g5.2⟩
  | 6 => ⟨rfl, rfl, rfl, g6.2⟩
  | 7 => ⟨rfl, rfl, rfl, g7.2⟩
  | 8 => ⟨rfl, rfl, rfl, g8.2⟩
  | 9 => ⟨rfl, rfl, rfl, g9.2⟩
  | 10 => ⟨rfl, rfl, rfl, g10.2⟩
  | 11 => ⟨rfl, rfl, rfl, g11.2⟩
  | 12 => ⟨rfl, rfl, rfl, g12.2⟩
  | 13 => ⟨rfl, rfl, rfl, g13.2⟩
  | 14 => ⟨rfl, rfl, rfl, g14.2⟩
  | 15 => ⟨rfl, rfl, rfl, g15.2⟩
  | 16 => ⟨rfl, rfl, rfl, g16.2⟩
  | 17 => ⟨rfl, rfl, rfl, g17.2⟩
  | 18 => ⟨rfl, rfl, rfl, g18.2⟩
  | 19 => ⟨rfl, rfl, rfl, g19.2⟩
  | 20 => ⟨rfl, rfl, rfl, g20.2⟩
  | 21 => ⟨rfl, rfl, rfl, g21.2⟩
  | 22 => ⟨rfl, rfl, rfl, g22.2⟩
  | 23 => ⟨rfl, rfl, rfl, g23.2⟩
  | 24 => ⟨rfl, rfl, rfl, g24.2⟩
  | 25 => ⟨rfl, rfl, rfl, g25.2⟩
  | 26 => ⟨rfl, rfl, rfl, g26.2⟩
  | 27 => ⟨rfl, rfl, rfl, g27.2⟩
  | 28 => ⟨rfl, rfl, rfl, g28.2⟩
  | 29 => ⟨rfl, rfl, rfl, fun _ _ _ => rfl⟩
  | 30 => ⟨rfl, rfl, rfl, fun _ _ _ => rfl⟩
  | 31 => ⟨rfl, rfl, rfl, fun _ _ _ => rfl⟩
  | 32 => ⟨rfl, rfl, rfl, fun _ _ _ => rfl⟩
  | 33 => ⟨rfl, rfl, rfl, fun _ _ _ => rfl⟩
  | 34 => ⟨rfl, rfl, rfl, fun _ _ _ => rfl⟩
  | 35 => ⟨rfl, rfl, rfl, fun _ _ _ => rfl⟩
  | 36 => ⟨rfl, rfl, rfl, fun _ _ _ => rfl⟩
  | _ + 37 => trivial
end Mi.L

/-! the texts, and that each is refused: reckoned in the kernel -/
namespace Mi.L
open PySem Mi
def NM : List (List Nat) := [[102, 105, 103], [119, 104, 101, 114, 101], [111, 102], [97], [115, 101, 116], [105, 115], [97, 98, 99, 100, 101, 102, 103, 104], [110, 101, 101, 100], [115, 104, 111, 119], [110, 111, 116]]
def T7 : List (List Nat) := [[102, 105, 103], [119, 104, 101, 114, 101], [111, 102], [97], [115, 101, 116], [105, 115], [97, 98, 99, 100, 101, 102, 103], [110, 101, 101, 100], [115, 104, 111, 119], [110, 111, 116]]
def bothT (t c : List Nat) : List (List Nat) := [[109, 97, 107, 101, 32] ++ t ++ [32] ++ t ++ [46] ++ c, [109, 97, 107, 101, 32] ++ t ++ [32, 32] ++ c, [109, 97, 107, 101, 32] ++ t ++ [32] ++ c ++ [32], [100, 114, 111, 112, 32] ++ t ++ [46] ++ c, [111, 114, 100, 101, 114, 32] ++ t ++ [46] ++ c ++ [32] ++ c, [117, 110, 111, 114, 100, 101, 114, 32] ++ t ++ [46] ++ c ++ [46] ++ c, [77, 97, 107, 101, 32] ++ t ++ [32] ++ c, [99, 117, 116, 32] ++ t ++ [46] ++ c, [99, 117, 116, 32] ++ t ++ [32] ++ t ++ [46] ++ c ++ [32, 61, 32, 49], [99, 117, 116, 32] ++ t ++ [32, 119, 104, 101, 114, 101, 32, 120] ++ t ++ [46] ++ c ++ [32, 61, 32, 49], [99, 117, 116, 32] ++ t ++ [32, 119, 104, 101, 114, 101, 32] ++ t ++ [46] ++ c ++ [32, 61, 32, 120, 120, 46] ++ c, [99, 117, 116, 32] ++ t ++ [32, 119, 104, 101, 114, 101, 32] ++ t ++ [46] ++ c ++ [32, 61, 32, 49, 32, 97, 110, 100, 32] ++ t ++ [46] ++ c ++ [32, 61, 32, 50], [115, 101, 116, 32] ++ t ++ [46] ++ c, [115, 101, 116, 32] ++ t ++ [46] ++ c ++ [32, 49], [115, 101, 116, 32] ++ t ++ [46] ++ c ++ [32, 61, 32], [115, 101, 116, 32] ++ t ++ [46] ++ c ++ [32, 61, 32, 98], [115, 101, 116, 32] ++ t ++ [46] ++ c ++ [32, 61, 32, 49, 32, 119, 104, 101, 114, 101], [115, 101, 116, 32] ++ t ++ [46] ++ c ++ [32, 61, 32, 49, 32, 50], [115, 101, 116, 32] ++ t ++ [46] ++ c ++ [32, 61, 32, 49, 32, 119, 104, 101, 114, 101, 32, 120] ++ t ++ [46] ++ c ++ [32, 61, 32, 49], [110, 101, 101, 100, 32] ++ c ++ [32, 105, 115, 32, 115, 104, 111, 119, 32, 99, 111, 117, 110, 116, 32, 111, 102, 32] ++ t]
def onlyT (t : List Nat) : List (List Nat) := [[109, 97, 107, 101, 32] ++ t, [109, 97, 107, 101, 32] ++ t ++ [32, 65], [109, 97, 107, 101, 32] ++ t ++ [32, 39, 97, 39], [109, 97, 107, 101, 32] ++ t ++ [32, 49], [100, 114, 111, 112, 32] ++ t ++ [32] ++ t, [111, 114, 100, 101, 114, 32] ++ t, [111, 114, 100, 101, 114, 32] ++ t ++ [46], t, [115, 104, 111, 119, 32, 99, 111, 117, 110, 116, 32, 111, 102, 32] ++ t, [112, 117, 116, 32] ++ t, [112, 117, 116, 32] ++ t ++ [32, 97], [112, 117, 116, 32] ++ t ++ [32, 48, 49], [112, 117, 116, 32] ++ t ++ [32, 45, 48], [112, 117, 116, 32] ++ t ++ [32, 39, 97], [112, 117, 116, 32] ++ t ++ [32, 39, 97, 59, 98, 39], [112, 117, 116, 32] ++ t ++ [32, 39, 120, 120, 120, 120, 120, 120, 120, 120, 120, 120, 120, 120, 120, 120, 120, 120, 120, 120, 120, 120, 120, 39], [112, 117, 116, 32] ++ t ++ [32, 49, 48, 48, 48, 48, 48, 48, 48, 48, 48, 48, 48, 49], [112, 117, 116, 32] ++ t ++ [32, 49, 32, 32, 50], [112, 117, 116, 32, 49, 32] ++ t, [112, 117, 116, 115, 32] ++ t ++ [32, 49], [99, 117, 116, 32] ++ t ++ [32, 119, 104, 101, 114, 101], [99, 117, 116, 32] ++ t ++ [32, 105, 102, 32] ++ t, [115, 101, 116, 32] ++ t ++ [32, 61, 32, 49], [110, 101, 101, 100, 32, 49, 32, 115, 104, 111, 119, 32, 99, 111, 117, 110, 116, 32, 111, 102, 32] ++ t, [110, 101, 101, 100, 32, 49, 32, 105, 115, 32, 115, 104, 111, 119, 32, 99, 111, 117, 110, 116, 32, 111, 102, 32] ++ t ++ [32, 120]]
def onlyC (c : List Nat) : List (List Nat) := [[109, 97, 107, 101, 32, 70, 105, 103, 32] ++ c, [117, 110, 111, 114, 100, 101, 114, 32, 46] ++ c]
def zeroT : List (List Nat) := [[], [32], [109, 97, 107, 101], [109, 97, 107, 101, 32, 39, 120, 39, 32, 97], [100, 114, 111, 112], [100, 114, 111, 112, 32, 70, 105, 103], [100, 114, 111, 112, 32], [112, 117, 116], [99, 117, 116], [110, 101, 101, 100, 32, 49], [110, 101, 101, 100, 32, 49, 32, 105, 115], [110, 101, 101, 100, 32, 105, 115, 32, 115, 104, 111, 119], [110, 101, 101, 100, 32, 49, 32, 105, 115, 32, 115, 104, 111, 119, 32, 99, 111, 117, 110, 116]]
def makesT (t c : List Nat) : List (List Nat) := [[], [32], [109, 97, 107, 101], [109, 97, 107, 101, 32] ++ t, [109, 97, 107, 101, 32, 70, 105, 103, 32] ++ c, [109, 97, 107, 101, 32] ++ t ++ [32, 65], [109, 97, 107, 101, 32] ++ t ++ [32] ++ t ++ [46] ++ c, [109, 97, 107, 101, 32, 39, 120, 39, 32, 97], [109, 97, 107, 101, 32] ++ t ++ [32, 39, 97, 39], [109, 97, 107, 101, 32] ++ t ++ [32, 49], [109, 97, 107, 101, 32] ++ t ++ [32, 32] ++ c, [109, 97, 107, 101, 32] ++ t ++ [32] ++ c ++ [32], [100, 114, 111, 112], [100, 114, 111, 112, 32] ++ t ++ [32] ++ t, [100, 114, 111, 112, 32] ++ t ++ [46] ++ c, [100, 114, 111, 112, 32, 70, 105, 103], [100, 114, 111, 112, 32], [111, 114, 100, 101, 114, 32] ++ t, [111, 114, 100, 101, 114, 32] ++ t ++ [46], [111, 114, 100, 101, 114, 32] ++ t ++ [46] ++ c ++ [32] ++ c, [117, 110, 111, 114, 100, 101, 114, 32, 46] ++ c, [117, 110, 111, 114, 100, 101, 114, 32] ++ t ++ [46] ++ c ++ [46] ++ c, [77, 97, 107, 101, 32] ++ t ++ [32] ++ c, t, [115, 104, 111, 119, 32, 99, 111, 117, 110, 116, 32, 111, 102, 32] ++ t]
def rowsT (t c : List Nat) : List (List Nat) := [[112, 117, 116], [112, 117, 116, 32] ++ t, [112, 117, 116, 32] ++ t ++ [32, 97], [112, 117, 116, 32] ++ t ++ [32, 48, 49], [112, 117, 116, 32] ++ t ++ [32, 45, 48], [112, 117, 116, 32] ++ t ++ [32, 39, 97], [112, 117, 116, 32] ++ t ++ [32, 39, 97, 59, 98, 39], [112, 117, 116, 32] ++ t ++ [32, 39, 120, 120, 120, 120, 120, 120, 120, 120, 120, 120, 120, 120, 120, 120, 120, 120, 120, 120, 120, 120, 120, 39], [112, 117, 116, 32] ++ t ++ [32, 49, 48, 48, 48, 48, 48, 48, 48, 48, 48, 48, 48, 49], [112, 117, 116, 32] ++ t ++ [32, 49, 32, 32, 50], [112, 117, 116, 32, 49, 32] ++ t, [112, 117, 116, 115, 32] ++ t ++ [32, 49], [99, 117, 116], [99, 117, 116, 32] ++ t ++ [32, 119, 104, 101, 114, 101], [99, 117, 116, 32] ++ t ++ [46] ++ c, [99, 117, 116, 32] ++ t ++ [32] ++ t ++ [46] ++ c ++ [32, 61, 32, 49], [99, 117, 116, 32] ++ t ++ [32, 105, 102, 32] ++ t, [99, 117, 116, 32] ++ t ++ [32, 119, 104, 101, 114, 101, 32, 120] ++ t ++ [46] ++ c ++ [32, 61, 32, 49], [99, 117, 116, 32] ++ t ++ [32, 119, 104, 101, 114, 101, 32] ++ t ++ [46] ++ c ++ [32, 61, 32, 120, 120, 46] ++ c, [99, 117, 116, 32] ++ t ++ [32, 119, 104, 101, 114, 101, 32] ++ t ++ [46] ++ c ++ [32, 61, 32, 49, 32, 97, 110, 100, 32] ++ t ++ [46] ++ c ++ [32, 61, 32, 50]]
def setsT (t c : List Nat) : List (List Nat) := [[115, 101, 116, 32] ++ t ++ [46] ++ c, [115, 101, 116, 32] ++ t ++ [46] ++ c ++ [32, 49], [115, 101, 116, 32] ++ t ++ [46] ++ c ++ [32, 61, 32], [115, 101, 116, 32] ++ t ++ [32, 61, 32, 49], [115, 101, 116, 32] ++ t ++ [46] ++ c ++ [32, 61, 32, 98], [115, 101, 116, 32] ++ t ++ [46] ++ c ++ [32, 61, 32, 49, 32, 119, 104, 101, 114, 101], [115, 101, 116, 32] ++ t ++ [46] ++ c ++ [32, 61, 32, 49, 32, 50], [115, 101, 116, 32] ++ t ++ [46] ++ c ++ [32, 61, 32, 49, 32, 119, 104, 101, 114, 101, 32, 120] ++ t ++ [46] ++ c ++ [32, 61, 32, 49], [110, 101, 101, 100, 32, 49], [110, 101, 101, 100, 32, 49, 32, 105, 115], [110, 101, 101, 100, 32, 105, 115, 32, 115, 104, 111, 119], [110, 101, 101, 100, 32] ++ c ++ [32, 105, 115, 32, 115, 104, 111, 119, 32, 99, 111, 117, 110, 116, 32, 111, 102, 32] ++ t, [110, 101, 101, 100, 32, 49, 32, 115, 104, 111, 119, 32, 99, 111, 117, 110, 116, 32, 111, 102, 32] ++ t, [110, 101, 101, 100, 32, 49, 32, 105, 115, 32, 115, 104, 111, 119, 32, 99, 111, 117, 110, 116], [110, 101, 101, 100, 32, 49, 32, 105, 115, 32, 115, 104, 111, 119, 32, 99, 111, 117, 110, 116, 32, 111, 102, 32] ++ t ++ [32, 120]]
def isRef (r : R D) : Bool := match r with
  | .ex c fs _ => Nat.beq c 1 && fs.isEmpty
  | _ => false
theorem isRef_ok {r : R D} (h : isRef r = true) : ∃ S, r = .ex 1 [] S := by
  unfold isRef at h
  split at h
  · rename_i c fs S
    rw [Bool.and_eq_true] at h
    have h1 := Nat.eq_of_beq_eq_true h.1
    have h2 : fs = [] := by simpa using h.2
    subst h1 h2
    exact ⟨S, rfl⟩
  · cases h
noncomputable abbrev F28 : Gn := ⟨1, 2, g28.1, true⟩
/-- a thing that is read, two calls deep -/
noncomputable def rdD (d : D) : R D := coreG (runG tabG 37) F28 [d] []
noncomputable abbrev rf (z : List Nat) : Bool := isRef (rdD (tx z))
theorem rb0 : (NM.all fun c => (bothT [102, 105, 103] c).all rf) = true := by decide +kernel
theorem rb1 : (NM.all fun c => (bothT [119, 104, 101, 114, 101] c).all rf) = true := by decide +kernel
theorem rb2 : (NM.all fun c => (bothT [111, 102] c).all rf) = true := by decide +kernel
theorem rb3 : (NM.all fun c => (bothT [97] c).all rf) = true := by decide +kernel
theorem rb4 : (NM.all fun c => (bothT [115, 101, 116] c).all rf) = true := by decide +kernel
theorem rb5 : (NM.all fun c => (bothT [105, 115] c).all rf) = true := by decide +kernel
theorem rb6 : (NM.all fun c => (bothT [97, 98, 99, 100, 101, 102, 103] c).all rf) = true := by decide +kernel
theorem rb7 : (NM.all fun c => (bothT [110, 101, 101, 100] c).all rf) = true := by decide +kernel
theorem rb8 : (NM.all fun c => (bothT [115, 104, 111, 119] c).all rf) = true := by decide +kernel
theorem rb9 : (NM.all fun c => (bothT [110, 111, 116] c).all rf) = true := by decide +kernel
theorem rt : (T7.all fun t => (onlyT t).all rf) = true := by decide +kernel
theorem rc : (NM.all fun c => (onlyC c).all rf) = true := by decide +kernel
theorem rz : zeroT.all rf = true := by decide +kernel
/-- what is no text -/
theorem ro : (isRef (rdD .non) && isRef (rdD (.int 7)) && isRef (rdD (.bl true))) = true := by decide +kernel
theorem rp : (T7.all fun t => isRef (rdD (.tup [tx [100, 114, 111, 112], tx t]))) = true := by decide +kernel
theorem rb {t c : List Nat} (ht : t ∈ T7) (hc : c ∈ NM) : ∀ z ∈ bothT t c, rf z = true := by
  have go : ∀ {t : List Nat}, (NM.all fun c => (bothT t c).all rf) = true → ∀ z ∈ bothT t c, rf z = true := fun h => List.all_eq_true.mp (List.all_eq_true.mp h c hc)
  unfold T7 at ht
  simp only [List.mem_cons, List.not_mem_nil, or_false] at ht
  rcases ht with rfl | rfl | rfl | rfl | rfl | rfl | rfl | rfl | rfl | rfl
  · exact go rb0
  · exact go rb1
  · exact go rb2
  · exact go rb3
  · exact go rb4
  · exact go rb5
  · exact go rb6
  · exact go rb7
  · exact go rb8
  · exact go rb9
theorem all_ref {t c : List Nat} (ht : t ∈ T7) (hc : c ∈ NM) : (∀ z ∈ makesT t c, rf z = true) ∧ (∀ z ∈ rowsT t c, rf z = true) ∧ ∀ z ∈ setsT t c, rf z = true := by
  have hb := rb ht hc
  have h1 := List.all_eq_true.mp (List.all_eq_true.mp rt t ht)
  have h2 := List.all_eq_true.mp (List.all_eq_true.mp rc c hc)
  have h3 := List.all_eq_true.mp rz
  unfold bothT at hb
  unfold onlyT at h1
  unfold onlyC at h2
  unfold zeroT at h3
  simp only [List.forall_mem_cons] at hb h1 h2 h3
  obtain ⟨b0, b1, b2, b3, b4, b5, b6, b7, b8, b9, b10, b11, b12, b13, b14, b15, b16, b17, b18, b19, _⟩ := hb
  obtain ⟨t0, t1, t2, t3, t4, t5, t6, t7, t8, t9, t10, t11, t12, t13, t14, t15, t16, t17, t18, t19, t20, t21, t22, t23, t24, _⟩ := h1
  obtain ⟨c0, c1, _⟩ := h2
  obtain ⟨z0, z1, z2, z3, z4, z5, z6, z7, z8, z9, z10, z11, z12, _⟩ := h3
  unfold makesT rowsT setsT
  simp only [List.forall_mem_cons]
  exact ⟨⟨z0, z1, z2, t0, c0, t1, b0, z3, t2, t3, b1, b2, z4, t4, b3, z5, z6, t5, t6, b4, c1, b5, b6, t7, t8, fun z hz => absurd hz List.not_mem_nil⟩, ⟨z7, t9, t10, t11, t12, t13, t14, t15, t16, t17, t18, t19, z8, t20, b7, b8, t21, b9, b10, b11, fun z hz => absurd hz List.not_mem_nil⟩, ⟨b12, b13, b14, t22, b15, b16, b17, b18, z9, z10, z11, b19, t23, z12, t24, fun z hz => absurd hz List.not_mem_nil⟩⟩
/-- a thing that is read, one call deep -/
noncomputable def rdG (d : D) : R D := coreG (runG tabG 38) F28 [d] []
def isD (r : R D) (d : D) : Bool := match r with
  | .ok d' [] => D.same d' d
  | _ => false
theorem isD_ok {r : R D} {d : D} (h : isD r d = true) : r = .ok d [] := by
  unfold isD at h
  split at h
  · rw [D.same_ok h]
  · cases h
def okMk (t c : List Nat) : D := .tup [tx [109, 97, 107, 101], tx t, .tup [tx c]]
def okDr (t : List Nat) : D := .tup [tx [100, 114, 111, 112], tx t]
def okCu (t : List Nat) : D := .tup [tx [99, 117, 116], tx t, .non]
def okOr (t c : List Nat) : D := .tup [tx [111, 114, 100, 101, 114], .tup [tx t, tx c]]
theorem gm : (NM.all fun t => NM.all fun c => isD (rdG (tx ([109, 97, 107, 101, 32] ++ t ++ [32] ++ c))) (okMk t c)) = true := by decide +kernel
theorem gd : (NM.all fun t => isD (rdG (tx ([100, 114, 111, 112, 32] ++ t))) (okDr t)) = true := by decide +kernel
theorem gc : (NM.all fun t => isD (rdG (tx ([99, 117, 116, 32] ++ t))) (okCu t)) = true := by decide +kernel
theorem go : (NM.all fun t => NM.all fun c => isD (rdG (tx ([111, 114, 100, 101, 114, 32] ++ t ++ [46] ++ c))) (okOr t c)) = true := by decide +kernel
end Mi.L

namespace Mi.L
open PySem Mi
/-! ### the deck -/
theorem r_take {n : Nat} {S : Store} {k : Nat} {a w c m : Int} (hS : S[k]? = some (.lst [.int a, .int w, .int c])) (hm : 0 < m) (hm2 : m < 2 ^ 60) (hc : 0 ≤ c) (hc2 : c < 2 ^ 40) :
    ∃ r a' c', run tab (n + 1) 30 [.ref k, .int m] S = .ok (.int r) (S.set k (.lst [.int a', .int w, .int c'])) ∧ 0 ≤ r ∧ r < m ∧ c ≤ c' ∧ c' ≤ c + 1 := by
  have hk : k < S.length := (List.getElem?_eq_some_iff.mp hS).1
  have i0 : p2 .ix (.val (.ref k)) (.val (.int 0)) S = .ok (.val (.int a)) S := ix_at hS rfl
  have i1 : p2 .ix (.val (.ref k)) (.val (.int 1)) S = .ok (.val (.int w)) S := ix_at hS rfl
  have i2 : p2 .ix (.val (.ref k)) (.val (.int 2)) S = .ok (.val (.int c)) S := ix_at hS rfl
  have pk : ∀ (r : Int) (ds : List D), D.unds S.length ds = true → pack S (.int r) (S.set k (.lst ds)) = .ok (.int r) (S.set k (.lst ds)) := fun r ds h => by
    have := pack_set (T := []) (d := .int r) (o := .lst ds) hk h und_int
    rwa [List.append_nil] at this
  rw [run_fin (F := ⟨2, 4, b30, false⟩) rfl rfl rfl]
  by_cases hw : w = 0
  · refine ⟨a % m, a / m, c, ?_, Int.emod_nonneg _ (by omega), Int.emod_lt_of_pos _ hm, by omega, by omega⟩
    have s0 : ∀ d, setItem (.val (.ref k)) (.val (.int 0)) d S = some (S.set k (.lst [d, .int w, .int c])) := fun d => setItem_at (j := 0) hS rfl
    simp [b30, exSs, exS, evD, evB, evK, vv, R.bd, R.st, RS.sq, toD, toB, bindTg, fin, i0, i1, i2, eq_ii, mod_ok hm, fdiv_ok hm (by omega : m < 2 ^ 128), hw, s0, pk]
  · have s2 : ∀ d, setItem (.val (.ref k)) (.val (.int 2)) d S = some (S.set k (.lst [.int a, .int w, d])) := fun d => setItem_at (j := 2) hS rfl
    have hS2 : (S.set k (.lst [.int a, .int w, .int (c + 1)]))[k]? = some (.lst [.int a, .int w, .int (c + 1)]) := List.getElem?_set_self hk
    have j0 : p2 .ix (.val (.ref k)) (.val (.int 0)) (S.set k (.lst [.int a, .int w, .int (c + 1)])) = .ok (.val (.int a)) (S.set k (.lst [.int a, .int w, .int (c + 1)])) := ix_at hS2 rfl
    have j2 : p2 .ix (.val (.ref k)) (.val (.int 2)) (S.set k (.lst [.int a, .int w, .int (c + 1)])) = .ok (.val (.int (c + 1))) (S.set k (.lst [.int a, .int w, .int (c + 1)])) := ix_at hS2 rfl
    have q1 : 0 ≤ a % 2147483647 ∧ a % 2147483647 < 2147483647 := ⟨Int.emod_nonneg _ (by decide), Int.emod_lt_of_pos _ (by decide)⟩
    have sq0 : 0 ≤ (c + 1) * (c + 1) := Int.mul_nonneg (by omega) (by omega)
    have sq : (c + 1) * (c + 1) ≤ 2 ^ 41 * 2 ^ 41 := Int.mul_le_mul (by omega) (by omega) (by omega) (by decide)
    have m1 : ∀ T : Store, p2 .mul (.val (.int (c + 1))) (.val (.int (c + 1))) T = .ok (.val (.int ((c + 1) * (c + 1)))) T := fun T => mul_ok (by omega) (by omega)
    have m2 : ∀ T : Store, p2 .mul (.val (.int (a % 2147483647))) (.val (.int ((c + 1) * (c + 1) + 48271))) T = .ok (.val (.int (a % 2147483647 * ((c + 1) * (c + 1) + 48271)))) T := fun T => mul_ok (by omega) (by omega)
    generalize hx : (a % 2147483647 * ((c + 1) * (c + 1) + 48271) + (c + 1)) % 2147483629 = x at *
    have q2 : 0 ≤ x ∧ x < 2147483629 := by rw [← hx]; exact ⟨Int.emod_nonneg _ (by decide), Int.emod_lt_of_pos _ (by decide)⟩
    have m3 : ∀ T : Store, p2 .mul (.val (.int x)) (.val (.int x)) T = .ok (.val (.int (x * x))) T := fun T => mul_ok (by omega) (by omega)
    have q3 : 0 ≤ x * x % 2147483587 ∧ x * x % 2147483587 < 2147483587 := ⟨Int.emod_nonneg _ (by decide), Int.emod_lt_of_pos _ (by decide)⟩
    have m4 : ∀ T : Store, p2 .mul (.val (.int (x * x % 2147483587))) (.val (.int 69621)) T = .ok (.val (.int (x * x % 2147483587 * 69621))) T := fun T => mul_ok (by omega) (by decide)
    refine ⟨x * x % 2147483587 * 69621 % 2147483563 / 3 % m, a, c + 1, ?_, Int.emod_nonneg _ (by omega), Int.emod_lt_of_pos _ hm, by omega, by omega⟩
    simp [b30, exSs, exS, evD, evB, evK, vv, R.bd, R.st, RS.sq, toD, toB, bindTg, fin, i0, i1, i2, j0, j2, eq_ii, mod_ok, fdiv_ok, add_ok, mod_ok hm, hw, s2, pk, m1, m2, m3, m4, hx]
abbrev dko (a w c : Int) : O := .lst [.int a, .int w, .int c]
theorem dko_und {k : Nat} {a w c : Int} : O.und k (dko a w c) = true := by
  show D.unds k [.int a, .int w, .int c] = true
  simp
section
variable {B T : Store} {k : Nat} {a w c : Int} (hk : k < B.length)
include hk
theorem take_at {n : Nat} {m : Int} (hm : 0 < m) (hm2 : m < 2 ^ 60) (hc : 0 ≤ c) (hc2 : c < 2 ^ 40) :
    ∃ r a' c', run tab (n + 1) 30 [.ref k, .int m] (B.set k (dko a w c) ++ T) = .ok (.int r) (B.set k (dko a' w c') ++ T) ∧ 0 ≤ r ∧ r < m ∧ c ≤ c' ∧ c' ≤ c + 1 := by
  have hS : (B.set k (dko a w c) ++ T)[k]? = some (dko a w c) := by
    rw [List.getElem?_append_left (by rw [List.length_set]; exact hk), List.getElem?_set_self hk]
  obtain ⟨r, a', c', h, h1, h2, h3, h4⟩ := r_take (n := n) hS hm hm2 hc hc2
  refine ⟨r, a', c', ?_, h1, h2, h3, h4⟩
  rw [h, List.set_append_left _ _ (by rw [List.length_set]; exact hk), List.set_set]
theorem pack_dk {d : D} {a' c' : Int} (hd : D.und B.length d = true) : pack (B.set k (dko a w c)) d (B.set k (dko a' w c') ++ T) = .ok d (B.set k (dko a' w c')) := by
  have h := pack_set (S := B.set k (dko a w c)) (T := T) (d := d) (k := k) (o := dko a' w c') (by rw [List.length_set]; exact hk) dko_und (by rw [List.length_set]; exact hd)
  rwa [List.set_set] at h
end
theorem r_cell {n m : Nat} {S : Store} {xs : List Int} {i : Nat} (h : i < xs.length) : run tab (n + 1) 29 [.ls (xs.map D.int), .int (i : Nat)] S = .ok (.int (xs[i])) S := by
  have ln : p1 .len (.val (.ls (xs.map D.int))) S = .ok (.val (.int xs.length)) S := by
    show R.ok (W.val (D.int ((xs.map D.int).length : Nat))) S = _
    rw [List.length_map]
  have hlt : ((i : Int) < (xs.length : Int)) := by omega
  have ix : p2 .ix (.val (.ls (xs.map D.int))) (.val (.int (i : Nat))) S = .ok (.val (.int xs[i])) S := by
    show (match L2.atI (xs.map D.int) (i : Int) with | some d => vv d S | none => .bad) = _
    rw [atI_at (x := D.int xs[i]) (by omega) (by rw [Int.toNat_natCast, List.getElem?_map, List.getElem?_eq_getElem h]; try rfl)]
    try rfl
  obtain ⟨L, hL⟩ : ∃ L, L = D.ls (xs.map D.int) := ⟨_, rfl⟩
  rw [← hL] at ln ix ⊢
  refine r_run (F := ⟨2, 2, b29, false⟩) rfl rfl rfl ?_ (pack_same (by simp))
  exact Rt.fin (y_if1 (by simp [ln, lt_ii, hlt]) (by simp [ix]))
theorem r_cell0 {n : Nat} {S : Store} : run tab (n + 1) 29 [.ls [], .int 0] S = .ok (.int 0) S := by
  have ln : p1 .len (.val (.ls [])) S = .ok (.val (.int 0)) S := rfl
  refine r_run (F := ⟨2, 2, b29, false⟩) rfl rfl rfl ?_ (pack_same (by simp))
  exact Rt.go (y_if0 (by simp [ln, lt_ii])) (Rt.fin (y_ret (by simp)))
theorem cell_first {n : Nat} {S : Store} (ns : List Int) : ∃ z, run tab (n + 1) 29 [.ls (ns.map D.int), .int 0] S = .ok (.int z) S := by
  cases ns with
  | nil => exact ⟨0, r_cell0⟩
  | cons x r => exact ⟨_, r_cell (m := 0) (xs := x :: r) (i := 0) (by simp)⟩
def eNM : List Ex := NM.map fun z => .c (tx z)
theorem evNM {C : CF} {ρ : Env} {S : Store} : evDs C eNM ρ S = .ok (NM.map tx) S := by
  simp [eNM, NM]
theorem atNM {r : Int} (h : 0 ≤ r) (h2 : r < 10) : ∃ v ∈ NM, L2.atI (NM.map tx) r = some (tx v) := at_map h (by show r < ((10 : Nat) : Int); omega)
theorem sz10 : (10 : Nat) ≤ sizeLine := by decide
/-- a drawn name -/
theorem r_name {n : Nat} {B : Store} {k : Nat} {a w c : Int} (hk : k < B.length) (hc : 0 ≤ c) (hc2 : c < 2 ^ 40) :
    ∃ v a' c', v ∈ NM ∧ run tab (n + 2) 31 [.ref k] (B.set k (dko a w c)) = .ok (tx v) (B.set k (dko a' w c')) ∧ c ≤ c' ∧ c' ≤ c + 1 := by
  obtain ⟨r, a', c', h1, h2, h3, h4, h5⟩ := take_at (B := B) (T := [.lst (NM.map tx)]) (k := k) (a := a) (w := w) (c := c) hk (n := n) (m := 10) (by decide) (by decide) hc hc2
  obtain ⟨v, hv, hat⟩ := atNM h2 h3
  refine ⟨v, a', c', hv, ?_, h4, h5⟩
  have hkl : (B.set k (dko a w c)).length = B.length := List.length_set
  have hS2 : (B.set k (dko a' w c') ++ [O.lst (NM.map tx)])[B.length]? = some (.lst (NM.map tx)) := by
    rw [List.getElem?_append_right (by rw [List.length_set]; exact Nat.le_refl _), List.length_set, Nat.sub_self]; try rfl
  have ix := ix_at hS2 hat
  refine r_run (F := ⟨1, 2, b31, false⟩) (S' := B.set k (dko a' w c') ++ [O.lst (NM.map tx)]) rfl rfl rfl ?_ (pack_dk hk und_str)
  show Rt (exSs (run tab (n + 1)) (.set (.nm 1) (.disp eNM) :: b31.drop 1) [some (.ref k), none] (B.set k (dko a w c))) _ _
  refine Rt.go (x_set (d := .ref B.length) (S' := B.set k (dko a w c) ++ [.lst (NM.map tx)]) ?_) ?_
  · rw [e_D, e_disp, evNM]
    show ((if (NM.map tx).length ≤ sizeLine then R.ok (W.lis (NM.map tx)) (B.set k (dko a w c)) else .bad).bd toD) = _
    rw [if_pos (by show 10 ≤ sizeLine; exact sz10)]
    show R.ok (D.ref (B.set k (dko a w c)).length) _ = _
    rw [hkl]
  refine Rt.fin (x_ret ?_)
  simp [h1, ix]
end Mi.L

/-! the three lists of texts -/
namespace Mi.L
open PySem Mi
noncomputable def g32 : Gof b32 := by
  apply Subtype.mk
  intro C ρ S
  simp only [b32, exSs, exS, evK, evD, evB, evDs, evWs, evCs, evJ, R.bd, R.st, RS.sq, RS.els, RS.catR, vv, if_cond, ↓e_get, ↓e_bind, e_for, e_set, e_f_lt, e_f_gt, e_f_le, e_f_ge, e_f_eq, e_f_ne, e_f_in, e_f_nin, e_f_len, e_f_add, e_f_ix, e_p1_neg, e_p1_isN, e_p1_notN, e_p1_int_, e_p1_tuple_, e_p1_list_, e_p1_pop, e_p2_sub, e_p2_mul, e_p2_append, e_p2_extend, e_p2_join, e_p2_split]
  try rfl
noncomputable def g33 : Gof b33 := by
  apply Subtype.mk
  intro C ρ S
  simp only [b33, exSs, exS, evK, evD, evB, evDs, evWs, evCs, evJ, R.bd, R.st, RS.sq, RS.els, RS.catR, vv, if_cond, ↓e_get, ↓e_bind, e_for, e_set, e_f_lt, e_f_gt, e_f_le, e_f_ge, e_f_eq, e_f_ne, e_f_in, e_f_nin, e_f_len, e_f_add, e_f_ix, e_p1_neg, e_p1_isN, e_p1_notN, e_p1_int_, e_p1_tuple_, e_p1_list_, e_p1_pop, e_p2_sub, e_p2_mul, e_p2_append, e_p2_extend, e_p2_join, e_p2_split]
  try rfl
noncomputable def g34 : Gof b34 := by
  apply Subtype.mk
  intro C ρ S
  simp only [b34, exSs, exS, evK, evD, evB, evDs, evWs, evCs, evJ, R.bd, R.st, RS.sq, RS.els, RS.catR, vv, if_cond, ↓e_get, ↓e_bind, e_for, e_set, e_f_lt, e_f_gt, e_f_le, e_f_ge, e_f_eq, e_f_ne, e_f_in, e_f_nin, e_f_len, e_f_add, e_f_ix, e_p1_neg, e_p1_isN, e_p1_notN, e_p1_int_, e_p1_tuple_, e_p1_list_, e_p1_pop, e_p2_sub, e_p2_mul, e_p2_append, e_p2_extend, e_p2_join, e_p2_split]
  try rfl
noncomputable def resM (t c : List Nat) : R D := fin [] (g32.1 (run tab 38) [some (tx t), some (tx c), none] [])
noncomputable def resR (t c : List Nat) : R D := fin [] (g33.1 (run tab 38) [some (tx t), some (tx c), none, none] [])
noncomputable def resS (t c : List Nat) : R D := fin [] (g34.1 (run tab 38) [some (tx t), some (tx c), none, none] [])
/-- the first list, with its places -/
def mkL (k : Nat) (t c : List Nat) : List D := (makesT t c).map tx ++ [.non, .int 7, .bl true, .ref (k + 6), .tup [tx [100, 114, 111, 112], tx t], .ref (k + 7)]
def isL (o : Option O) : Bool := match o with
  | some (.lst _) => true
  | _ => false
def isK (o : Option O) : Bool := match o with
  | some (.dk _) => true
  | _ => false
/-- the same value, texts sign by sign -/
noncomputable def simD : D → D → Bool
  | .str a, .str b => sameF a.cps.toList b.cps.toList
  | a, b => D.same a b
noncomputable def simDs : List D → List D → Bool
  | [], [] => true
  | a :: r, b :: t => cond (simD a b) (simDs r t) false
  | _, _ => false
theorem sameF_ok {a b : List Nat} (h : sameF a b = true) : a = b := by
  rw [← sameF_eq, sameN_eq] at h
  exact eq_of_beq h
theorem simD_ok {a b : D} (h : simD a b = true) : a = b := by
  unfold simD at h
  split at h
  · rename_i x y
    have e := sameF_ok h
    have : x = y := by rw [← SX.S_tl x, ← SX.S_tl y, e]
    rw [this]
  · exact D.same_ok h
theorem simDs_ok : ∀ {a b : List D}, simDs a b = true → a = b
  | [], [], _ => rfl
  | [], _ :: _, h => by unfold simDs at h; cases h
  | _ :: _, [], h => by unfold simDs at h; cases h
  | a :: r, b :: t, h => by
    unfold simDs at h
    cases q : simD a b with
    | false => rw [q] at h; cases h
    | true =>
      rw [q] at h
      rw [simD_ok q, simDs_ok h]
noncomputable def isLD (o : Option O) (ds : List D) : Bool := match o with
  | some (.lst es) => simDs es ds
  | _ => false
theorem isLD_ok {o : Option O} {ds : List D} (h : isLD o ds = true) : o = some (.lst ds) := by
  unfold isLD at h
  split at h
  · rw [simDs_ok h]
  · cases h
noncomputable def chM (r : R D) (ds : List D) : Bool := match r with
  | .ok (.ref 8) S => isLD S[8]? ds && isL S[6]? && isK S[7]?
  | _ => false
noncomputable def chR (r : R D) (ds : List D) : Bool := match r with
  | .ok (.ref 0) [.lst es] => simDs es ds
  | _ => false
theorem chM_ok {r : R D} {ds : List D} (h : chM r ds = true) : ∃ S, r = .ok (.ref 8) S ∧ S[8]? = some (.lst ds) ∧ (∃ es, S[6]? = some (.lst es)) ∧ ∃ kv, S[7]? = some (.dk kv) := by
  unfold chM at h
  split at h
  · rename_i S
    rw [Bool.and_eq_true, Bool.and_eq_true] at h
    obtain ⟨⟨h1, h2⟩, h3⟩ := h
    refine ⟨S, rfl, ?_, ?_, ?_⟩
    · exact isLD_ok h1
    · unfold isL at h2
      split at h2
      · exact ⟨_, by assumption⟩
      · cases h2
    · unfold isK at h3
      split at h3
      · exact ⟨_, by assumption⟩
      · cases h3
  · cases h
theorem chR_ok {r : R D} {ds : List D} (h : chR r ds = true) : r = .ok (.ref 0) [.lst ds] := by
  unfold chR at h
  split at h
  · rw [simDs_ok h]
  · cases h
theorem cM : (T7.all fun t => NM.all fun c => chM (resM t c) (mkL 0 t c)) = true := by decide +kernel
theorem cR : (T7.all fun t => NM.all fun c => chR (resR t c) ((rowsT t c).map tx)) = true := by decide +kernel
theorem cS : (T7.all fun t => NM.all fun c => chR (resS t c) ((setsT t c).map tx)) = true := by decide +kernel
theorem shs_tx {k : Nat} : ∀ l : List (List Nat), D.shs k (l.map tx) = l.map tx
  | [] => by unfold D.shs; rfl
  | x :: r => by
    rw [List.map_cons, D.shs, shs_tx r]
    try rfl
theorem shs_app {k : Nat} : ∀ l m : List D, D.shs k (l ++ m) = D.shs k l ++ D.shs k m
  | [], m => by rw [D.shs]; try rfl
  | x :: r, m => by rw [List.cons_append, D.shs, D.shs, shs_app r m]; try rfl
theorem shs_mk {k : Nat} {t c : List Nat} : D.shs k (mkL 0 t c) = mkL k t c := by
  unfold mkL
  rw [shs_app, shs_tx]
  simp [D.shs, D.sh]
section
variable {t c : List Nat} (ht : t ∈ T7) (hc : c ∈ NM)
include ht hc
theorem r_makes (S : Store) : ∃ U, run tab 39 32 [tx t, tx c] S = .ok (.ref (S.length + 8)) (S ++ U) ∧ (S ++ U)[S.length + 8]? = some (.lst (mkL S.length t c)) ∧ (∃ es, (S ++ U)[S.length + 6]? = some (.lst es)) ∧ ∃ kv, (S ++ U)[S.length + 7]? = some (.dk kv) := by
  obtain ⟨U, h1, h2, ⟨es, h3⟩, kv, h4⟩ := chM_ok (List.all_eq_true.mp (List.all_eq_true.mp cM t ht) c hc)
  have at_ : ∀ i, (S ++ U.map (O.sh S.length))[S.length + i]? = U[i]?.map (O.sh S.length) := fun i => by
    rw [List.getElem?_append_right (Nat.le_add_right _ _), Nat.add_sub_cancel_left, List.getElem?_map]
  refine ⟨U.map (O.sh S.length), ?_, ?_, ?_, ?_⟩
  · rw [run_up (F := ⟨2, 3, b32, true⟩) (r := .ok (.ref 8) U) rfl rfl (by simp) (by
      rw [← h1]
      unfold resM
      rw [← g32.2]
      rfl)]
    show R.ok (D.sh S.length (.ref 8)) _ = _
    rw [D.sh]
  · rw [at_, h2]
    show some (O.lst (D.shs S.length (mkL 0 t c))) = _
    rw [shs_mk]
  · rw [at_, h3]; exact ⟨_, rfl⟩
  · rw [at_, h4]; exact ⟨_, rfl⟩
theorem r_rows (S : Store) : run tab 39 33 [tx t, tx c] S = .ok (.ref S.length) (S ++ [.lst ((rowsT t c).map tx)]) := by
  have h1 := chR_ok (List.all_eq_true.mp (List.all_eq_true.mp cR t ht) c hc)
  rw [run_up (F := ⟨2, 4, b33, true⟩) (r := .ok (.ref 0) [.lst ((rowsT t c).map tx)]) rfl rfl (by simp) (by
      rw [← h1]
      unfold resR
      rw [← g33.2]
      rfl)]
  show R.ok (D.sh S.length (.ref 0)) (S ++ [O.lst (D.shs S.length ((rowsT t c).map tx))]) = _
  rw [D.sh, shs_tx]; try rfl
theorem r_sets (S : Store) : run tab 39 34 [tx t, tx c] S = .ok (.ref S.length) (S ++ [.lst ((setsT t c).map tx)]) := by
  have h1 := chR_ok (List.all_eq_true.mp (List.all_eq_true.mp cS t ht) c hc)
  rw [run_up (F := ⟨2, 4, b34, true⟩) (r := .ok (.ref 0) [.lst ((setsT t c).map tx)]) rfl rfl (by simp) (by
      rw [← h1]
      unfold resS
      rw [← g34.2]
      rfl)]
  show R.ok (D.sh S.length (.ref 0)) (S ++ [O.lst (D.shs S.length ((setsT t c).map tx))]) = _
  rw [D.sh, shs_tx]; try rfl
end
end Mi.L

/-! what is refused, asked by the law; the good ones -/
namespace Mi.L
open PySem Mi
theorem rdD_eq (d : D) : core (run tab 37) ⟨1, 2, b28, true⟩ [d] [] = rdD d := by
  unfold rdD coreG core
  rw [runG_eq tabG_eq, g28.2]
  try rfl
theorem rdG_eq (d : D) : core (run tab 38) ⟨1, 2, b28, true⟩ [d] [] = rdG d := by
  unfold rdG coreG core
  rw [runG_eq tabG_eq, g28.2]
  try rfl
theorem r_ref {d : D} (hu : D.unds 0 [d] = true) (h : isRef (rdD d) = true) (S : Store) : run tab 38 28 [d] S = .ex 1 [] S := by
  obtain ⟨S', e⟩ := isRef_ok h
  rw [run_up (F := ⟨1, 2, b28, true⟩) rfl rfl (by show (true && D.unds 0 [d]) = true; rw [hu]; try rfl) (rdD_eq d), e]
  try rfl
theorem r_good {d e : D} (hu : D.unds 0 [d] = true) (he : D.und 0 e = true) (h : isD (rdG d) e = true) (hs : ∀ k, D.sh k e = e) (S : Store) : run tab 39 28 [d] S = .ok e S := by
  have q := isD_ok h
  rw [run_up (F := ⟨1, 2, b28, true⟩) rfl rfl (by show (true && D.unds 0 [d]) = true; rw [hu]; try rfl) (rdG_eq d), q]
  show R.ok (D.sh S.length e) (S ++ []) = _
  rw [hs, List.append_nil]
/-- a list or a dict is no text -/
theorem r_refR {m : Nat} {S : Store} (h : (∃ es, S[m]? = some (.lst es)) ∨ ∃ kv, S[m]? = some (.dk kv)) : run tab 38 28 [.ref m] S = .ex 1 [] S := by
  have i1 : isiW [.str] (.val (.ref m)) S = .ok (.val (.bl false)) S := by
    unfold isiW
    have hp : W.plain S (.val (.ref m)) = true := by
      unfold W.plain
      rcases h with ⟨es, h⟩ | ⟨kv, h⟩ <;> simp only [h]
    rw [if_pos hp]
    try rfl
  have r2 : run tab 36 2 [.ref m] S = .ex 0 [] S := by
    rw [run_fin (F := ⟨1, 5, b2, false⟩) rfl rfl rfl]
    show fin S (exSs (run tab 35) (.iff (.not_ (.isi [.str] (.v 0))) [.rse 0] [] :: b2.drop 1) [some (.ref m), none, none, none, none] S) = _
    rw [y_ift (by simp [i1])]
    rw [exSs, exS]
    try rfl
  have r27 : run tab 37 27 [.ref m] S = .ex 0 [] S := by
    rw [run_fin (F := ⟨1, 3, b27, false⟩) rfl rfl rfl]
    show fin S (exSs (run tab 36) (.set (.nm 1) (.call 2 [(.v 0)]) :: b27.drop 1) [some (.ref m), none, none] S) = _
    rw [exSs, exS]
    have : evD (run tab 36) (.call 2 [(.v 0)]) [some (.ref m), none, none] S = .ex 0 [] S := by
      simp [r2, R.bd]
    rw [this]
    try rfl
  rw [run_ref (F := ⟨1, 2, b28, true⟩) rfl rfl (by simp)]
  show fin S (exSs (run tab 37) [.tryR [.set (.nm 1) (.call 27 [(.v 0)])] [(0, true), (1, false)] 1 [.ret (.v 1)]] [some (.ref m), none] S) = _
  rw [exSs, exS, exSs, exS]
  have : evD (run tab 37) (.call 27 [(.v 0)]) [some (.ref m), none] S = .ex 0 [] S := by
    simp [r27, R.bd]
  rw [this]
  try rfl
def L4 : List D := [.bl true, .bl true, .bl false, .bl false]
theorem eq_self {w1 w2 : W} {p : PyData} {S : Store} (h1 : w1.py S = some p) (h2 : w2.py S = some p) : p2 .eq w1 w2 S = .ok (.val (.bl true)) S := by
  show ob (eqW w1 w2 S) S = _
  rw [eqW_eq, h1, h2]
  show ob (some (PyData.eqv p p)) S = _
  rw [PySem.SeqAt.eqv_refl_plain p (py_ok h1).1]
  try rfl
theorem ne_self {w1 w2 : W} {p : PyData} {S : Store} (h1 : w1.py S = some p) (h2 : w2.py S = some p) : p2 .ne w1 w2 S = .ok (.val (.bl false)) S := by
  show ob ((eqW w1 w2 S).map (!·)) S = _
  rw [eqW_eq, h1, h2]
  show ob (some (!PyData.eqv p p)) S = _
  rw [PySem.SeqAt.eqv_refl_plain p (py_ok h1).1]
  try rfl
theorem eq_four {B : Store} : p2 .eq (.val (.ref B.length)) (.lis L4) (B ++ [.lst L4]) = .ok (.val (.bl true)) (B ++ [.lst L4]) := by
  refine eq_self (p := .list [.bool true, .bool true, .bool false, .bool false]) ?_ rfl
  show (match (B ++ [O.lst L4])[B.length]? with | some (.lst ds) => (mapO (toPy (B ++ [O.lst L4]) 39) ds).map PyData.list | _ => none) = _
  rw [at_new]
  try rfl
def su35 : List Sx := [.lis 1 [[[(0, false), (1, true)]], [[(0, true), (1, true)]]], .app 1 [[(0, false), (1, false)], [(0, false), (1, false)], [(0, false), (1, false)], [(0, false), (1, false)], [(0, false), (1, false)], [(0, false), (1, false)], [(0, true), (1, false)], [(0, false), (1, false)]], .app 1 [[(0, false), (1, false)], [(0, false), (1, false)]]]
theorem suite {d x : D} {B : Store} : exSxs 1 su35 [some d, some x, none] B = .ok .nx [some d, some (.ref B.length), none] (B ++ [.lst L4]) := by
  unfold su35
  rw [exSxs]
  show (exSxs 1 _ [some d, some (.ref B.length), none] (B ++ [.lst [.bl true, .bl true]])) = _
  rw [exSxs]
  have a1 : ∀ (T : List D) (b : Bool) (xs : List KS), isX 1 xs = some b → T.length < sizeLine → exSx 1 [some d, some (.ref B.length), none] (B ++ [.lst T]) (.app 1 xs) = .ok .nx [some d, some (.ref B.length), none] (B ++ [.lst (T ++ [.bl b])]) := fun T b xs hx hT => by
    simp only [exSx, hx, List.getElem?_cons_succ, List.getElem?_cons_zero, at_new, if_pos hT, set_new]
  rw [a1 _ false _ rfl (by decide)]
  show exSxs 1 _ [some d, some (.ref B.length), none] (B ++ [.lst [.bl true, .bl true, .bl false]]) = _
  rw [exSxs, a1 _ false _ rfl (by decide)]
  try rfl
theorem r_refd {d : D} {S : Store} (h : run tab 38 28 [d] (S ++ [.lst []]) = .ex 1 [] (S ++ [.lst []])) : run tab 39 35 [d] S = .ok (.bl true) S := by
  rw [run_fin (F := ⟨1, 3, b35, false⟩) rfl rfl rfl]
  generalize run tab 38 = C at h ⊢
  have hb : b35 = .set (.nm 1) (.disp []) :: .tryA [.exp (.call 28 [(.v 0)])] [(0, true), (1, true)] 2 su35 :: [.ret (.p2 .eq (.v 1) (.disp [(.c (.bl true)), (.c (.bl true)), (.c (.bl false)), (.c (.bl false))]))] := rfl
  show fin S (exSs C b35 [some d, none, none] S) = _
  rw [hb, x_set (d := .ref S.length) (S' := S ++ [.lst []]) (by simp)]
  show fin S (exSs C _ [some d, some (.ref S.length), none] (S ++ [.lst []])) = _
  obtain ⟨B, hB⟩ : ∃ B, B = S ++ [O.lst []] := ⟨_, rfl⟩
  rw [← hB] at h ⊢
  have t : exS C (.tryA [.exp (.call 28 [(.v 0)])] [(0, true), (1, true)] 2 su35) [some d, some (.ref S.length), none] B = .ok .nx [some d, some (.ref B.length), none] (B ++ [.lst L4]) := by
    rw [exS, exSs, exS]
    have : evK C (.call 28 [(.v 0)]) [some d, some (.ref S.length), none] B = .ex 1 [] B := by
      simp [h, R.bd]
    rw [this]
    show (if ([] : List (Str × D)).isEmpty = true then (exSxs 1 su35 [some d, some (.ref S.length), none] B).gone 2 else .bad) = _
    rw [suite]
    try rfl
  have dp : evK C (.disp [(.c (.bl true)), (.c (.bl true)), (.c (.bl false)), (.c (.bl false))]) [some d, some (.ref B.length), none] (B ++ [.lst L4]) = .ok (.lis L4) (B ++ [.lst L4]) := by
    simp only [e_disp, e_ds, e_ds0, e_c, bd_ok', toD_val, List.length_cons, List.length_nil]
    rw [if_pos (by decide)]
    try rfl
  rw [exSs, t]
  show fin S (exSs C [.ret (.p2 .eq (.v 1) (.disp [(.c (.bl true)), (.c (.bl true)), (.c (.bl false)), (.c (.bl false))]))] [some d, some (.ref B.length), none] (B ++ [.lst L4])) = _
  rw [x_ret (d := .bl true) (S' := B ++ [.lst L4]) (by
    simp only [e_D, e_p2, dp, bd_ok', e_v (show ([some d, some (.ref B.length), none] : Env)[1]? = some (some (.ref B.length)) from rfl), eq_four, toD_val])]
  show pack S (.bl true) (B ++ [.lst L4]) = _
  rw [hB, List.append_assoc]
  exact pack_app (by simp)
end Mi.L

/-! a turn of the law -/
namespace Mi.L
open PySem Mi
theorem add_rr {S : Store} {j k : Nat} {ds es : List D} (h1 : S[j]? = some (.lst ds)) (h2 : S[k]? = some (.lst es)) (h : ds.length + es.length ≤ sizeLine) : p2 .add (.val (.ref j)) (.val (.ref k)) S = .ok (.lis (ds ++ es)) S := by
  have hq1 := seq_at h1
  have hl1 := isLst_at h1
  have hq2 := seq_at h2
  have hl2 := isLst_at h2
  show (match W.seq S (.val (.ref j)), W.seq S (.val (.ref k)) with
      | some (false, xs'), some (false, ys) => if (isLst S (.val (.ref j)) && isLst S (.val (.ref k)) && decide (xs'.length + ys.length ≤ sizeLine)) = true then R.ok (W.lis (xs' ++ ys)) S else .bad
      | some (true, xs'), some (true, ys) => if (!xs'.isEmpty && !ys.isEmpty && decide (xs'.length + ys.length ≤ sizeLine)) = true then vv (.tup (xs' ++ ys)) S else .bad
      | _, _ => .bad) = _
  rw [hq1, hl1, hq2, hl2]
  show (if (true && true && decide (ds.length + es.length ≤ sizeLine)) = true then _ else _) = _
  rw [if_pos (by simpa using h)]
abbrev rL (L : D) (w : Int) (i : Nat) (x3 x4 x5 x6 x7 x8 : Option D) : Env := [some L, some (.int w), some (.int (i : Nat)), x3, x4, x5, x6, x7, x8]
theorem turn_core {C : CF} {L : D} {w x a1 c1 r : Int} {i m : Nat} {S S3 S4 S5 S6 S7 S8 S9 : Store} {t c : List Nat} {mk rows sets : List D} {d1 d2 : D} {x3 x4 x5 x6 x7 x8 : Option D}
    (htl : t.length ≤ 8) (hcl : c.length ≤ 8) (hi : i < 64)
    (h29 : C 29 [L, .int (i : Nat)] S = .ok (.int x) S)
    (h31a : C 31 [.ref S.length] (S ++ [dko x w 0]) = .ok (tx t) (S ++ [dko a1 w c1]))
    (h31b : C 31 [.ref S.length] (S ++ [dko a1 w c1]) = .ok (tx c) S3)
    (h32 : C 32 [tx (t.take 7), tx c] S3 = .ok (.ref m) S4)
    (h33 : C 33 [tx (t.take 7), tx c] S4 = .ok (.ref S4.length) S5) (e5 : S5 = S4 ++ [.lst rows]) (hm : S5[m]? = some (.lst mk)) (e6 : S6 = S5 ++ [.lst (mk ++ rows)])
    (h34 : C 34 [tx (t.take 7), tx c] S6 = .ok (.ref S6.length) S7) (e7 : S7 = S6 ++ [.lst sets]) (e8 : S8 = S7 ++ [.lst (mk ++ rows ++ sets)])
    (hz : (mk ++ rows ++ sets).length = 66)
    (h30 : C 30 [.ref S.length, .int 66] S8 = .ok (.int r) S9) (h9 : S9[S7.length]? = some (.lst (mk ++ rows ++ sets)))
    (hd1 : L2.atI (mk ++ rows ++ sets) r = some d1) (hd2 : L2.atI (mk ++ rows ++ sets) ((r + 29 * (i : Nat)) % 66) = some d2)
    (h35a : C 35 [d1] S9 = .ok (.bl true) S9) (h35b : C 35 [d2] S9 = .ok (.bl true) S9)
    (g1 : C 28 [tx ([109, 97, 107, 101, 32] ++ t ++ [32] ++ c)] S9 = .ok (okMk t c) S9) (g2 : C 28 [tx ([100, 114, 111, 112, 32] ++ t)] S9 = .ok (okDr t) S9) (g3 : C 28 [tx ([99, 117, 116, 32] ++ t)] S9 = .ok (okCu t) S9) (g4 : C 28 [tx ([111, 114, 100, 101, 114, 32] ++ t ++ [46] ++ c)] S9 = .ok (okOr t c) S9) :
    exSs C b36_1 (rL L w i x3 x4 x5 x6 x7 x8) S = .ok .nx (rL L w i (some (.ref S.length)) (some (tx t)) (some (tx c)) (some (.ref S7.length)) (some (.int r)) (some d2)) S9 := by
  have big : (66 : Nat) ≤ sizeLine := by decide
  have sl9 : ∀ n : Nat, n ≤ 60 → n ≤ sizeLine := fun n h => Nat.le_trans h (by decide)
  have hlen : (mk ++ rows).length ≤ 66 := by rw [← hz, List.length_append (as := mk ++ rows)]; omega
  -- 1
  have s1 : evD C (.disp [(.call 29 [(.v 0), (.v 2)]), (.v 1), (.c (.int 0))]) (rL L w i x3 x4 x5 x6 x7 x8) S = .ok (.ref S.length) (S ++ [dko x w 0]) := by
    have v0 : evK C (.v 0) (rL L w i x3 x4 x5 x6 x7 x8) S = .ok (.val L) S := e_v rfl
    have v1 : evK C (.v 1) (rL L w i x3 x4 x5 x6 x7 x8) S = .ok (.val (.int w)) S := e_v rfl
    have v2 : evK C (.v 2) (rL L w i x3 x4 x5 x6 x7 x8) S = .ok (.val (.int (i : Nat))) S := e_v rfl
    simp only [e_D, e_disp, e_ds, e_ds0, e_call, e_c, v0, v1, v2, bd_ok', toD_val, h29, vv_ok', List.length_cons, List.length_nil]
    rw [if_pos (sl9 (0 + 1 + 1 + 1) (by omega))]
    simp only [bd_ok', toD_lis]
  -- 2, 3
  have s2 : evD C (.call 31 [(.v 3)]) (rL L w i (some (.ref S.length)) x4 x5 x6 x7 x8) (S ++ [dko x w 0]) = .ok (tx t) (S ++ [dko a1 w c1]) := by
    have v3 : evK C (.v 3) (rL L w i (some (.ref S.length)) x4 x5 x6 x7 x8) (S ++ [dko x w 0]) = .ok (.val (.ref S.length)) (S ++ [dko x w 0]) := e_v rfl
    simp only [e_D, e_call, e_ds, e_ds0, v3, bd_ok', toD_val, h31a, vv_ok']
  have s3 : evD C (.call 31 [(.v 3)]) (rL L w i (some (.ref S.length)) (some (tx t)) x5 x6 x7 x8) (S ++ [dko a1 w c1]) = .ok (tx c) S3 := by
    have v3 : evK C (.v 3) (rL L w i (some (.ref S.length)) (some (tx t)) x5 x6 x7 x8) (S ++ [dko a1 w c1]) = .ok (.val (.ref S.length)) (S ++ [dko a1 w c1]) := e_v rfl
    simp only [e_D, e_call, e_ds, e_ds0, v3, bd_ok', toD_val, h31b, vv_ok']
  have ct : ∀ T : Store, cutW (.val (tx t)) none (some 7) T = .ok (.val (tx (t.take 7))) T := fun T => by
    rw [cut_tx (sl9 _ (by omega)), show cutD t none (some 7) = t.take 7 from cutD_to t 7]
  -- 4
  have s4 : evD C (.p2 .add (.call 32 [(.sl (.v 4) [] [(.c (.int 7))]), (.v 5)]) (.call 33 [(.sl (.v 4) [] [(.c (.int 7))]), (.v 5)])) (rL L w i (some (.ref S.length)) (some (tx t)) (some (tx c)) x6 x7 x8) S3 = .ok (.ref S5.length) S6 := by
    have v4 : ∀ T, evK C (.v 4) (rL L w i (some (.ref S.length)) (some (tx t)) (some (tx c)) x6 x7 x8) T = .ok (.val (tx t)) T := fun T => e_v rfl
    have v5 : ∀ T, evK C (.v 5) (rL L w i (some (.ref S.length)) (some (tx t)) (some (tx c)) x6 x7 x8) T = .ok (.val (tx c)) T := fun T => e_v rfl
    have ad : p2 .add (.val (.ref m)) (.val (.ref S4.length)) S5 = .ok (.lis (mk ++ rows)) S5 := add_rr hm (by rw [e5]; exact at_new) (by rw [← List.length_append]; exact Nat.le_trans hlen big)
    simp only [e_D, e_p2, e_call, e_ds, e_ds0, e_sl, e_ws, e_ws0, e_c, v4, v5, bd_ok', partI0, partI1, ct, toD_val, h32, h33, vv_ok', ad, toD_lis, e6]
  -- 5
  have s5 : evD C (.p2 .add (.v 6) (.call 34 [(.sl (.v 4) [] [(.c (.int 7))]), (.v 5)])) (rL L w i (some (.ref S.length)) (some (tx t)) (some (tx c)) (some (.ref S5.length)) x7 x8) S6 = .ok (.ref S7.length) S8 := by
    have v4 : ∀ T, evK C (.v 4) (rL L w i (some (.ref S.length)) (some (tx t)) (some (tx c)) (some (.ref S5.length)) x7 x8) T = .ok (.val (tx t)) T := fun T => e_v rfl
    have v5 : ∀ T, evK C (.v 5) (rL L w i (some (.ref S.length)) (some (tx t)) (some (tx c)) (some (.ref S5.length)) x7 x8) T = .ok (.val (tx c)) T := fun T => e_v rfl
    have v6 : ∀ T, evK C (.v 6) (rL L w i (some (.ref S.length)) (some (tx t)) (some (tx c)) (some (.ref S5.length)) x7 x8) T = .ok (.val (.ref S5.length)) T := fun T => e_v rfl
    have h6 : S7[S5.length]? = some (.lst (mk ++ rows)) := by
      rw [e7, List.getElem?_append_left (by rw [e6]; simp), e6]; exact at_new
    have ad : p2 .add (.val (.ref S5.length)) (.val (.ref S6.length)) S7 = .ok (.lis (mk ++ rows ++ sets)) S7 := add_rr h6 (by rw [e7]; exact at_new) (by rw [← List.length_append, hz]; exact big)
    simp only [e_D, e_p2, e_call, e_ds, e_ds0, e_sl, e_ws, e_ws0, e_c, v4, v5, v6, bd_ok', partI0, partI1, ct, toD_val, h34, vv_ok', ad, toD_lis, e8]
  -- 6
  have h8 : S8[S7.length]? = some (.lst (mk ++ rows ++ sets)) := by rw [e8]; exact at_new
  have s6 : evD C (.call 30 [(.v 3), (.p1 .len (.v 6))]) (rL L w i (some (.ref S.length)) (some (tx t)) (some (tx c)) (some (.ref S7.length)) x7 x8) S8 = .ok (.int r) S9 := by
    have v3 : ∀ T, evK C (.v 3) (rL L w i (some (.ref S.length)) (some (tx t)) (some (tx c)) (some (.ref S7.length)) x7 x8) T = .ok (.val (.ref S.length)) T := fun T => e_v rfl
    have v6 : ∀ T, evK C (.v 6) (rL L w i (some (.ref S.length)) (some (tx t)) (some (tx c)) (some (.ref S7.length)) x7 x8) T = .ok (.val (.ref S7.length)) T := fun T => e_v rfl
    have ln : p1 .len (.val (.ref S7.length)) S8 = .ok (.val (.int 66)) S8 := by rw [len_at h8, hz]; try rfl
    simp only [e_D, e_p1, e_call, e_ds, e_ds0, v3, v6, ln, bd_ok', toD_val, h30, vv_ok']
  -- 7
  have s7 : evWs C [(.disp [(.p2 .ix (.v 6) (.v 7)), (.p2 .ix (.v 6) (.p2 .mod (.p2 .add (.v 7) (.p2 .mul (.c (.int 29)) (.v 2))) (.p1 .len (.v 6))))])] (rL L w i (some (.ref S.length)) (some (tx t)) (some (tx c)) (some (.ref S7.length)) (some (.int r)) x8) S9 = .ok [.lis [d1, d2]] S9 := by
    have v2 : ∀ T, evK C (.v 2) (rL L w i (some (.ref S.length)) (some (tx t)) (some (tx c)) (some (.ref S7.length)) (some (.int r)) x8) T = .ok (.val (.int (i : Nat))) T := fun T => e_v rfl
    have v6 : ∀ T, evK C (.v 6) (rL L w i (some (.ref S.length)) (some (tx t)) (some (tx c)) (some (.ref S7.length)) (some (.int r)) x8) T = .ok (.val (.ref S7.length)) T := fun T => e_v rfl
    have v7 : ∀ T, evK C (.v 7) (rL L w i (some (.ref S.length)) (some (tx t)) (some (tx c)) (some (.ref S7.length)) (some (.int r)) x8) T = .ok (.val (.int r)) T := fun T => e_v rfl
    have ln : p1 .len (.val (.ref S7.length)) S9 = .ok (.val (.int 66)) S9 := by rw [len_at h9, hz]; try rfl
    have mu : p2 .mul (.val (.int 29)) (.val (.int (i : Nat))) S9 = .ok (.val (.int (29 * (i : Nat)))) S9 := mul_ok (by decide) (by omega)
    simp only [e_ws, e_ws0, e_disp, e_ds, e_ds0, e_p2, e_p1, e_c, v2, v6, v7, ln, mu, add_ok, mod_ok (show (0 : Int) < 66 by decide), ix_at h9 hd1, ix_at h9 hd2, bd_ok', toD_val, List.length_cons, List.length_nil]
    rw [if_pos (sl9 (0 + 1 + 1) (by omega))]
    simp only [bd_ok']
  have tn : ∀ (d : D) (y : Option D), C 35 [d] S9 = .ok (.bl true) S9 → exSs C b36_0 ((rL L w i (some (.ref S.length)) (some (tx t)) (some (tx c)) (some (.ref S7.length)) (some (.int r)) y).set 8 (some d)) S9 = .ok .nx (rL L w i (some (.ref S.length)) (some (tx t)) (some (tx c)) (some (.ref S7.length)) (some (.int r)) (some d)) S9 := fun d y h => by
    show exSs C [.iff (.not_ (.call 35 [(.v 8)])) [.ret (.c (.bl false))] []] (rL L w i (some (.ref S.length)) (some (tx t)) (some (tx c)) (some (.ref S7.length)) (some (.int r)) (some d)) S9 = _
    have v8 : evK C (.v 8) (rL L w i (some (.ref S.length)) (some (tx t)) (some (tx c)) (some (.ref S7.length)) (some (.int r)) (some d)) S9 = .ok (.val d) S9 := e_v rfl
    rw [y_if0 (by simp only [e_B, e_not, e_call, e_ds, e_ds0, v8, bd_ok', toD_val, h, vv_ok', toB_bl, Bool.not_true]), x_nil]
  have lp : forL [] (fun d ρ S => exSs C b36_0 (ρ.set 8 (some d)) S) [d1, d2] (rL L w i (some (.ref S.length)) (some (tx t)) (some (tx c)) (some (.ref S7.length)) (some (.int r)) x8) S9 = .ok .nx (rL L w i (some (.ref S.length)) (some (tx t)) (some (tx c)) (some (.ref S7.length)) (some (.int r)) (some d2)) S9 := by
    rw [forL_nx isLive_nil (tn d1 x8 h35a), forL_nx isLive_nil (tn d2 (some d1) h35b), forL_end isLive_nil]
  -- 8, 9
  obtain ⟨ρ, hρ⟩ : ∃ ρ : Env, ρ = rL L w i (some (.ref S.length)) (some (tx t)) (some (tx c)) (some (.ref S7.length)) (some (.int r)) (some d2) := ⟨_, rfl⟩
  have v4 : ∀ T, evK C (.v 4) ρ T = .ok (.val (tx t)) T := fun T => e_v (by rw [hρ]; try rfl)
  have v5 : ∀ T, evK C (.v 5) ρ T = .ok (.val (tx c)) T := fun T => e_v (by rw [hρ]; try rfl)
  have at_ : ∀ a b : List Nat, a.length + b.length ≤ 60 → p2 .add (.val (tx a)) (.val (tx b)) S9 = .ok (.val (tx (a ++ b))) S9 := fun a b h => add_tx (sl9 _ h)
  have s8 : evB C (.or_ (.p2 .ne (.call 28 [(.p2 .add (.p2 .add (.p2 .add (.c (.str (SX.S [109, 97, 107, 101, 32]))) (.v 4)) (.c (.str (SX.S [32])))) (.v 5))]) (.tup [(.c (.str (SX.S [109, 97, 107, 101]))), (.v 4), (.tup [(.v 5)])])) (.p2 .ne (.call 28 [(.p2 .add (.c (.str (SX.S [100, 114, 111, 112, 32]))) (.v 4))]) (.tup [(.c (.str (SX.S [100, 114, 111, 112]))), (.v 4)]))) ρ S9 = .ok false S9 := by
    have n1 : p2 .ne (.val (okMk t c)) (.val (.tup [.str (SX.S [109, 97, 107, 101]), tx t, .tup [tx c]])) S9 = .ok (.val (.bl false)) S9 := ne_self (p := .tuple [.str (SX.S [109, 97, 107, 101]), .str (SX.S t), .tuple [.str (SX.S c)]]) rfl rfl
    have n2 : p2 .ne (.val (okDr t)) (.val (.tup [.str (SX.S [100, 114, 111, 112]), tx t])) S9 = .ok (.val (.bl false)) S9 := ne_self (p := .tuple [.str (SX.S [100, 114, 111, 112]), .str (SX.S t)]) rfl rfl
    have a1 := at_ [109, 97, 107, 101, 32] t (by simp; omega)
    have a2 := at_ ([109, 97, 107, 101, 32] ++ t) [32] (by simp; omega)
    have a3 := at_ ([109, 97, 107, 101, 32] ++ t ++ [32]) c (by simp; omega)
    have a4 := at_ [100, 114, 111, 112, 32] t (by simp; omega)
    simp only [e_B, e_or, e_p2, e_call, e_ds, e_ds0, e_c, e_tup, v4, v5, bd_ok', a1, a2, a3, a4, toD_val, g1, g2, vv_ok', List.length_cons, List.length_nil, if_pos (sl9 (0 + 1) (by omega)), if_pos (sl9 (0 + 1 + 1) (by omega)), if_pos (sl9 (0 + 1 + 1 + 1) (by omega)), n1, n2, toB_bl, Bool.false_eq_true, if_false]
  have s9 : evB C (.or_ (.p2 .ne (.call 28 [(.p2 .add (.c (.str (SX.S [99, 117, 116, 32]))) (.v 4))]) (.tup [(.c (.str (SX.S [99, 117, 116]))), (.v 4), (.c .non)])) (.p2 .ne (.call 28 [(.p2 .add (.p2 .add (.p2 .add (.c (.str (SX.S [111, 114, 100, 101, 114, 32]))) (.v 4)) (.c (.str (SX.S [46])))) (.v 5))]) (.tup [(.c (.str (SX.S [111, 114, 100, 101, 114]))), (.tup [(.v 4), (.v 5)])]))) ρ S9 = .ok false S9 := by
    have n1 : p2 .ne (.val (okOr t c)) (.val (.tup [.str (SX.S [111, 114, 100, 101, 114]), .tup [tx t, tx c]])) S9 = .ok (.val (.bl false)) S9 := ne_self (p := .tuple [.str (SX.S [111, 114, 100, 101, 114]), .tuple [.str (SX.S t), .str (SX.S c)]]) rfl rfl
    have n2 : p2 .ne (.val (okCu t)) (.val (.tup [.str (SX.S [99, 117, 116]), tx t, .non])) S9 = .ok (.val (.bl false)) S9 := ne_self (p := .tuple [.str (SX.S [99, 117, 116]), .str (SX.S t), .none]) rfl rfl
    have a1 := at_ [111, 114, 100, 101, 114, 32] t (by simp; omega)
    have a2 := at_ ([111, 114, 100, 101, 114, 32] ++ t) [46] (by simp; omega)
    have a3 := at_ ([111, 114, 100, 101, 114, 32] ++ t ++ [46]) c (by simp; omega)
    have a4 := at_ [99, 117, 116, 32] t (by simp; omega)
    simp only [e_B, e_or, e_p2, e_call, e_ds, e_ds0, e_c, e_tup, v4, v5, bd_ok', a1, a2, a3, a4, toD_val, g3, g4, vv_ok', List.length_cons, List.length_nil, if_pos (sl9 (0 + 1) (by omega)), if_pos (sl9 (0 + 1 + 1) (by omega)), if_pos (sl9 (0 + 1 + 1 + 1) (by omega)), n1, n2, toB_bl, Bool.false_eq_true, if_false]
  rw [show b36_1 = _ :: _ :: _ :: _ :: _ :: _ :: _ :: _ :: _ :: [] from rfl]
  rw [x_set s1]
  refine (x_set s2).trans ?_
  refine (x_set s3).trans ?_
  refine (x_set s4).trans ?_
  refine (x_set s5).trans ?_
  refine (x_set s6).trans ?_
  refine (x_for s7 (I := ⟨[d1, d2], []⟩) rfl lp).trans ?_
  rw [← hρ, y_if0 s8, y_if0 s9, x_nil]
end Mi.L

/-! the law -/
namespace Mi.L
open PySem Mi
theorem t7_mem : ∀ t ∈ NM, t.take 7 ∈ T7 := by decide
theorem nm_len : ∀ t ∈ NM, t.length ≤ 8 := by decide
theorem cell_any {n : Nat} {S : Store} (ns : List Int) (i : Nat) : ∃ z, run tab (n + 1) 29 [.ls (ns.map D.int), .int (i : Nat)] S = .ok (.int z) S := by
  by_cases h : i < ns.length
  · exact ⟨_, r_cell (m := 0) h⟩
  · refine ⟨0, ?_⟩
    have ln : p1 .len (.val (.ls (ns.map D.int))) S = .ok (.val (.int ns.length)) S := by
      show R.ok (W.val (D.int ((ns.map D.int).length : Nat))) S = _
      rw [List.length_map]
    obtain ⟨L, hL⟩ : ∃ L, L = D.ls (ns.map D.int) := ⟨_, rfl⟩
    rw [← hL] at ln ⊢
    refine r_run (F := ⟨2, 2, b29, false⟩) rfl rfl rfl ?_ (pack_same (by simp))
    have hlt : ¬ ((i : Int) < (ns.length : Int)) := by omega
    exact Rt.go (y_if0 (by simp [ln, lt_ii, hlt])) (Rt.fin (y_ret (by simp)))
theorem at_mem {ds : List D} {r : Int} (h : 0 ≤ r) (h2 : r < (ds.length : Int)) : ∃ d ∈ ds, L2.atI ds r = some d := by
  have hi : r.toNat < ds.length := by omega
  exact ⟨ds[r.toNat], List.getElem_mem hi, atI_at h (List.getElem?_eq_getElem hi)⟩
theorem law_turn {S : Store} {ns : List Int} {w : Int} {i : Nat} (hi : i < 64) {x3 x4 x5 x6 x7 x8 : Option D} :
    ∃ y3 y4 y5 y6 y7 y8 S', exSs (run tab 39) b36_1 (rL (.ls (ns.map D.int)) w i x3 x4 x5 x6 x7 x8) S = .ok .nx (rL (.ls (ns.map D.int)) w i y3 y4 y5 y6 y7 y8) S' := by
  obtain ⟨x, h29⟩ := cell_any (n := 38) (S := S) ns i
  have hkB : ∀ o : O, S.length < (S ++ [o]).length := fun o => by simp
  obtain ⟨t, a1, c1, ht, h31a, q1, q2⟩ := r_name (n := 37) (B := S ++ [dko x w 0]) (k := S.length) (a := x) (w := w) (c := 0) (hkB _) (by omega) (by decide)
  rw [set_new, set_new] at h31a
  obtain ⟨c, a2, c2, hc, h31b, q3, q4⟩ := r_name (n := 37) (B := S ++ [dko a1 w c1]) (k := S.length) (a := a1) (w := w) (c := c1) (hkB _) (by omega) (by omega)
  rw [set_new, set_new] at h31b
  have ht7 := t7_mem t ht
  obtain ⟨S3, e3⟩ : ∃ S3, S3 = S ++ [dko a2 w c2] := ⟨_, rfl⟩
  rw [← e3] at h31b
  have l3 : S3.length = S.length + 1 := by rw [e3]; simp
  obtain ⟨U, h32, hm, ⟨es, h6⟩, kv, h7⟩ := r_makes ht7 hc S3
  obtain ⟨S4, e4⟩ : ∃ S4, S4 = S3 ++ U := ⟨_, rfl⟩
  rw [← e4] at h32 hm h6 h7
  have h33 := r_rows ht7 hc S4
  obtain ⟨rows, er⟩ : ∃ rows, rows = (rowsT (t.take 7) c).map tx := ⟨_, rfl⟩
  obtain ⟨sets, es'⟩ : ∃ sets, sets = (setsT (t.take 7) c).map tx := ⟨_, rfl⟩
  obtain ⟨mk, em⟩ : ∃ mk, mk = mkL S3.length (t.take 7) c := ⟨_, rfl⟩
  have hz : (mk ++ rows ++ sets).length = 66 := by rw [em, er, es']; try rfl
  rw [← er] at h33
  rw [← em] at hm
  obtain ⟨S5, e5⟩ : ∃ S5, S5 = S4 ++ [O.lst rows] := ⟨_, rfl⟩
  rw [← e5] at h33
  have lt4 : ∀ {j : Nat} {o : O}, S4[j]? = some o → j < S4.length := fun h => (List.getElem?_eq_some_iff.mp h).1
  have hm5 : S5[S3.length + 8]? = some (.lst mk) := by rw [e5, List.getElem?_append_left (lt4 hm)]; exact hm
  obtain ⟨S6, e6⟩ : ∃ S6, S6 = S5 ++ [O.lst (mk ++ rows)] := ⟨_, rfl⟩
  have h34 := r_sets ht7 hc S6
  rw [← es'] at h34
  obtain ⟨S7, e7⟩ : ∃ S7, S7 = S6 ++ [O.lst sets] := ⟨_, rfl⟩
  rw [← e7] at h34
  obtain ⟨full, ef⟩ : ∃ full, full = mk ++ rows ++ sets := ⟨_, rfl⟩
  obtain ⟨S8, e8⟩ : ∃ S8, S8 = S7 ++ [O.lst full] := ⟨_, rfl⟩
  obtain ⟨V, eV⟩ : ∃ V, S8 = S4 ++ V := ⟨[O.lst rows, O.lst (mk ++ rows), O.lst sets, O.lst full], by rw [e8, e7, e6, e5]; simp⟩
  have in8 : ∀ {j : Nat} {o : O}, S4[j]? = some o → S8[j]? = some o := fun h => by rw [eV, List.getElem?_append_left (lt4 h)]; exact h
  have hS8 : S8[S.length]? = some (.lst [.int a2, .int w, .int c2]) := by
    refine in8 ?_
    rw [e4, List.getElem?_append_left (by omega), e3]
    exact at_new
  obtain ⟨r, a3, c3, h30, r0, r1, _, _⟩ := r_take (n := 38) (m := 66) hS8 (by decide) (by decide) (by omega) (by omega)
  obtain ⟨S9, e9⟩ : ∃ S9, S9 = S8.set S.length (.lst [.int a3, .int w, .int c3]) := ⟨_, rfl⟩
  rw [← e9] at h30
  have l4 : S3.length ≤ S4.length := by rw [e4]; simp
  have l7 : S4.length ≤ S7.length := by rw [e7, e6, e5]; simp only [List.length_append]; omega
  have in9 : ∀ {j : Nat} {o : O}, j ≠ S.length → S8[j]? = some o → S9[j]? = some o := fun hj h => by rw [e9, List.getElem?_set_ne (Ne.symm hj)]; exact h
  have h9 : S9[S7.length]? = some (.lst full) := in9 (by omega) (by rw [e8]; exact at_new)
  obtain ⟨rM, rR, rS⟩ := all_ref ht7 hc
  have hR : ∀ d ∈ full, run tab 39 35 [d] S9 = .ok (.bl true) S9 := fun d hd => by
    have tx_ : ∀ z, rf z = true → run tab 39 35 [tx z] S9 = .ok (.bl true) S9 := fun z hz => r_refd (r_ref (by simp) hz _)
    rw [ef] at hd
    rcases List.mem_append.mp hd with hd | hd
    · rcases List.mem_append.mp hd with hd | hd
      · rw [em] at hd
        unfold mkL at hd
        rcases List.mem_append.mp hd with hd | hd
        · obtain ⟨z, hz, rfl⟩ := List.mem_map.mp hd
          exact tx_ z (rM z hz)
        · have ho := ro
          rw [Bool.and_eq_true, Bool.and_eq_true] at ho
          simp only [List.mem_cons, List.not_mem_nil, or_false] at hd
          rcases hd with rfl | rfl | rfl | rfl | rfl | rfl
          · exact r_refd (r_ref (by simp) ho.1.1 _)
          · exact r_refd (r_ref (by simp) ho.1.2 _)
          · exact r_refd (r_ref (by simp) ho.2 _)
          · have h := in9 (by omega) (in8 h6)
            exact r_refd (r_refR (.inl ⟨es, by rw [List.getElem?_append_left (List.getElem?_eq_some_iff.mp h).1]; exact h⟩))
          · exact r_refd (r_ref (by simp) (List.all_eq_true.mp rp _ ht7) _)
          · have h := in9 (by omega) (in8 h7)
            exact r_refd (r_refR (.inr ⟨kv, by rw [List.getElem?_append_left (List.getElem?_eq_some_iff.mp h).1]; exact h⟩))
      · rw [er] at hd
        obtain ⟨z, hz, rfl⟩ := List.mem_map.mp hd
        exact tx_ z (rR z hz)
    · rw [es'] at hd
      obtain ⟨z, hz, rfl⟩ := List.mem_map.mp hd
      exact tx_ z (rS z hz)
  rw [← ef] at hz
  obtain ⟨d1, m1, hd1⟩ := at_mem (ds := full) r0 (by rw [hz]; exact r1)
  obtain ⟨d2, m2, hd2⟩ := at_mem (ds := full) (r := (r + 29 * (i : Nat)) % 66) (Int.emod_nonneg _ (by decide)) (by rw [hz]; exact Int.emod_lt_of_pos _ (by decide))
  have g1 : run tab 39 28 [tx ([109, 97, 107, 101, 32] ++ t ++ [32] ++ c)] S9 = .ok (okMk t c) S9 := r_good (by simp) (by simp [okMk]) (List.all_eq_true.mp (List.all_eq_true.mp gm t ht) c hc) (fun k => by simp [okMk, D.sh, D.shs]) S9
  have g2 : run tab 39 28 [tx ([100, 114, 111, 112, 32] ++ t)] S9 = .ok (okDr t) S9 := r_good (by simp) (by simp [okDr]) (List.all_eq_true.mp gd t ht) (fun k => by simp [okDr, D.sh, D.shs]) S9
  have g3 : run tab 39 28 [tx ([99, 117, 116, 32] ++ t)] S9 = .ok (okCu t) S9 := r_good (by simp) (by simp [okCu]) (List.all_eq_true.mp gc t ht) (fun k => by simp [okCu, D.sh, D.shs]) S9
  have g4 : run tab 39 28 [tx ([111, 114, 100, 101, 114, 32] ++ t ++ [46] ++ c)] S9 = .ok (okOr t c) S9 := r_good (by simp) (by simp [okOr]) (List.all_eq_true.mp (List.all_eq_true.mp go t ht) c hc) (fun k => by simp [okOr, D.sh, D.shs]) S9
  rw [ef] at h9 hd1 hd2 hz e8
  exact ⟨_, _, _, _, _, _, _, turn_core (nm_len t ht) (nm_len c hc) hi h29 h31a h31b h32 h33 e5 hm5 e6 h34 e7 e8 hz h30 h9 hd1 hd2 (hR d1 m1) (hR d2 m2) g1 g2 g3 g4⟩
theorem law87 (ns : List Int) (hl : ns.length ≤ 63) : ∃ S, run tab 40 36 [.ls (ns.map D.int)] [] = .ok (.bl true) S := by
  obtain ⟨z, hz⟩ := cell_first (n := 38) (S := []) ns
  have turn : ∀ {S : Store} {w : Int} {i : Nat} {x3 x4 x5 x6 x7 x8 : Option D}, i < 64 → ∃ y3 y4 y5 y6 y7 y8 S', exSs (run tab 39) b36_1 (rL (.ls (ns.map D.int)) w i x3 x4 x5 x6 x7 x8) S = .ok .nx (rL (.ls (ns.map D.int)) w i y3 y4 y5 y6 y7 y8) S' := fun h => law_turn h
  obtain ⟨L, hL⟩ : ∃ L, L = D.ls (ns.map D.int) := ⟨_, rfl⟩
  have hln : ∀ S : Store, p1 .len (.val L) S = .ok (.val (.int ns.length)) S := fun S => by
    rw [hL]
    show R.ok (W.val (D.int ((ns.map D.int).length : Nat))) S = _
    rw [List.length_map]
  rw [← hL] at hz turn ⊢
  obtain ⟨m, hm, hm2, hm0⟩ : ∃ m : Int, ((p2 .min_ (.val (.int ns.length)) (.val (.int 63)) []).bd fun y S => p2 .max_ (.val (.int 2)) y S) = .ok (.val (.int m)) [] ∧ m ≤ 63 ∧ 0 ≤ m := by
    refine ⟨if (if (63 : Int) < ns.length then 63 else (ns.length : Int)) > 2 then (if (63 : Int) < ns.length then 63 else (ns.length : Int)) else 2, rfl, ?_⟩
    split <;> split <;> omega
  generalize hC : run tab 39 = C at hz turn
  have lp : ∃ ρ' S', forL [] (fun d ρ S => exSs C b36_1 (ρ.set 2 (some d)) S) (intsD (m - 1).toNat fun i => 1 + (i : Int)) [some L, some (.int (z % 2)), none, none, none, none, none, none, none] [] = .ok .nx ρ' S' ∧ True := by
    have := forL_invS (live := []) (turn := fun d ρ S => exSs C b36_1 (ρ.set 2 (some d)) S) (I := fun l ρ S => (∀ d ∈ l, ∃ i : Nat, d = .int (i : Nat) ∧ i < 64) ∧ ∃ x2 x3 x4 x5 x6 x7 x8, ρ = [some L, some (.int (z % 2)), x2, x3, x4, x5, x6, x7, x8]) (fun _ _ _ _ => isLive_nil) (intsD (m - 1).toNat fun i => 1 + (i : Int)) [some L, some (.int (z % 2)), none, none, none, none, none, none, none] [] ?_ ⟨fun d hd => ?_, _, _, _, _, _, _, _, rfl⟩
    · obtain ⟨ρ', S', h, _⟩ := this
      exact ⟨ρ', S', h, trivial⟩
    · rintro d r ρ S ⟨h1, x2, x3, x4, x5, x6, x7, x8, rfl⟩
      obtain ⟨i, rfl, hi⟩ := h1 d List.mem_cons_self
      obtain ⟨y3, y4, y5, y6, y7, y8, S', h⟩ := turn (S := S) (w := z % 2) (x3 := x3) (x4 := x4) (x5 := x5) (x6 := x6) (x7 := x7) (x8 := x8) hi
      exact ⟨_, _, h, fun e he => h1 e (List.mem_cons_of_mem _ he), _, _, _, _, _, _, _, rfl⟩
    · obtain ⟨j, hj, rfl⟩ := List.mem_map.mp hd
      have hj : j < (m - 1).toNat := by simpa using hj
      exact ⟨1 + j, by show D.int (1 + (j : Int)) = _; congr 1, by omega⟩
  obtain ⟨ρ', S', lp, _⟩ := lp
  refine ⟨[], ?_⟩
  rw [run_fin (F := ⟨1, 9, b36, false⟩) rfl rfl rfl, hC]
  show fin [] (exSs C b36 [some L, none, none, none, none, none, none, none, none] []) = _
  have s1 : evD C (.p2 .mod (.call 29 [(.v 0), (.c (.int 0))]) (.c (.int 2))) [some L, none, none, none, none, none, none, none, none] [] = .ok (.int (z % 2)) [] := by
    have v0 : evK C (.v 0) [some L, none, none, none, none, none, none, none, none] [] = .ok (.val L) [] := e_v rfl
    simp only [e_D, e_p2, e_call, e_ds, e_ds0, e_c, v0, bd_ok', toD_val, hz, vv_ok', mod_ok (show (0 : Int) < 2 by decide)]
  have v0 : ∀ T, evK C (.v 0) [some L, some (.int (z % 2)), none, none, none, none, none, none, none] T = .ok (.val L) T := fun T => e_v rfl
  have s2 : evWs C [(.c (.int 1)), (.p2 .max_ (.c (.int 2)) (.p2 .min_ (.p1 .len (.v 0)) (.c (.int 63))))] [some L, some (.int (z % 2)), none, none, none, none, none, none, none] [] = .ok [.val (.int 1), .val (.int m)] [] := by
    simp only [e_ws, e_ws0, e_c, e_p2, e_p1, v0, bd_ok', hln, hm]
  have it : its .rng2 [.val (.int 1), .val (.int m)] [] = some ⟨intsD (m - 1).toNat fun i => 1 + (i : Int), []⟩ := by
    have f : (fits62 1 && fits62 m) = true := by
      unfold fits62
      simp only [Bool.and_eq_true, decide_eq_true_eq]
      omega
    show (if (fits62 1 && fits62 m) = true then some (⟨intsD (m - 1).toNat fun i => 1 + (i : Int), []⟩ : Its) else none) = _
    rw [if_pos f]
  have fn : exSs C b36 [some L, none, none, none, none, none, none, none, none] [] = .ok (.rt (.bl true)) ρ' S' := by
    rw [show b36 = _ :: _ :: _ :: [] from rfl]
    refine (x_set s1).trans ?_
    refine (x_for s2 it lp).trans ?_
    exact y_ret (by simp)
  rw [fn]
  show pack [] (.bl true) S' = _
  have := pack_app (S := []) (T := S') (d := .bl true) (by simp)
  simpa using this
end Mi.L

namespace Mi.L
open PySem L2 Mi
set_option maxHeartbeats 0 in
theorem top_ok {K : PySem.W.Frag} {h : Heap} {mg : Str → Option Value} {fa f0 f1 f2 f3 f4 f5 f6 f7 f8 f9 f10 f11 f12 f13 f14 f15 f16 f17 f18 f19 f20 f21 f22 f23 f24 f25 f26 f27 f28 f29 f30 f31 f32 f33 f34 f35 f36 : Addr} {od0 an0 od1 an1 od2 an2 od3 an3 od4 an4 od5 an5 od6 an6 od7 an7 od8 an8 od9 an9 od10 an10 od11 an11 od12 an12 od13 an13 od14 an14 od15 an15 od16 an16 od17 an17 od18 an18 od19 an19 od20 an20 od21 an21 od22 an22 od23 an23 od24 an24 od25 an25 od26 an26 od27 an27 od28 an28 od29 an29 od30 an30 od31 an31 od32 an32 od33 an33 od34 an34 od35 an35 od36 an36 : Option Addr} {sl0 sl1 sl2 sl3 sl4 sl5 sl6 sl7 sl8 sl9 sl10 sl11 sl12 sl13 sl14 sl15 sl16 sl17 sl18 sl19 sl20 sl21 sl22 sl23 sl24 sl25 sl26 sl27 sl28 sl29 sl30 sl31 sl32 sl33 sl34 sl35 sl36 : Array (Option Value)} {oc0 kV0 dc0 pm0 cd0 ct0 oc1 kV1 dc1 pm1 cd1 ct1 oc2 kV2 dc2 pm2 cd2 ct2 oc3 kV3 dc3 pm3 cd3 ct3 oc4 kV4 dc4 pm4 cd4 ct4 oc5 kV5 dc5 pm5 cd5 ct5 oc6 kV6 dc6 pm6 cd6 ct6 oc7 kV7 dc7 pm7 cd7 ct7 oc8 kV8 dc8 pm8 cd8 ct8 oc9 kV9 dc9 pm9 cd9 ct9 oc10 kV10 dc10 pm10 cd10 ct10 oc11 kV11 dc11 pm11 cd11 ct11 oc12 kV12 dc12 pm12 cd12 ct12 oc13 kV13 dc13 pm13 cd13 ct13 oc14 kV14 dc14 pm14 cd14 ct14 oc15 kV15 dc15 pm15 cd15 ct15 oc16 kV16 dc16 pm16 cd16 ct16 oc17 kV17 dc17 pm17 cd17 ct17 oc18 kV18 dc18 pm18 cd18 ct18 oc19 kV19 dc19 pm19 cd19 ct19 oc20 kV20 dc20 pm20 cd20 ct20 oc21 kV21 dc21 pm21 cd21 ct21 oc22 kV22 dc22 pm22 cd22 ct22 oc23 kV23 dc23 pm23 cd23 ct23 oc24 kV24 dc24 pm24 cd24 ct24 oc25 kV25 dc25 pm25 cd25 ct25 oc26 kV26 dc26 pm26 cd26 ct26 oc27 kV27 dc27 pm27 cd27 ct27 oc28 kV28 dc28 pm28 cd28 ct28 oc29 kV29 dc29 pm29 cd29 ct29 oc30 kV30 dc30 pm30 cd30 ct30 oc31 kV31 dc31 pm31 cd31 ct31 oc32 kV32 dc32 pm32 cd32 ct32 oc33 kV33 dc33 pm33 cd33 ct33 oc34 kV34 dc34 pm34 cd34 ct34 oc35 kV35 dc35 pm35 cd35 ct35 oc36 kV36 dc36 pm36 cd36 ct36 : Value} {tk0 tk1 tk2 tk3 tk4 tk5 tk6 tk7 tk8_0 tk8_1 tk8_2 tk8_3 tk8_4 tk8_5 tk9_0 tk9_1 tk9_2 tk9_3 tk10 tk11 tk12 : Tok} {g8 g9 X0 X1 X2 Y0 Y1 Y2 Y3 Y4 Y5 Y6 Y7 Y8 : Addr} {gd8 : Option Addr} {gs8 : Array (Option Value)} {gn8 : Nat} {gd9 : Option Addr} {gs9 : Array (Option Value)} {gn9 : Nat} (X : K.In h) (G : h.Ns mainGlobals mg) (hfa : mg "law" = some (.ref fa))
    (a0 : PySem.W.nsIn K mainGlobals "is_name" = some (some (.ref f0))) (l0 : K.lookup f0 = some ⟨oc0, od0, .func (PySem.W.fnOf "is_name" "is_name" (defArgs s0) (defBody s0) (defScope s0) .none kV0 dc0 pm0 an0 cd0 ct0), sl0⟩) (c0 : PySem.W.codeIn K cd0 "is_name" = true) (k0 : PySem.W.keepIn K (.ref f0) = true)
    (a1 : PySem.W.nsIn K mainGlobals "is_value" = some (some (.ref f1))) (l1 : K.lookup f1 = some ⟨oc1, od1, .func (PySem.W.fnOf "is_value" "is_value" (defArgs s1) (defBody s1) (defScope s1) .none kV1 dc1 pm1 an1 cd1 ct1), sl1⟩) (c1 : PySem.W.codeIn K cd1 "is_value" = true) (k1 : PySem.W.keepIn K (.ref f1) = true)
    (a2 : PySem.W.nsIn K mainGlobals "words_in" = some (some (.ref f2))) (l2 : K.lookup f2 = some ⟨oc2, od2, .func (PySem.W.fnOf "words_in" "words_in" (defArgs s2) (defBody s2) (defScope s2) .none kV2 dc2 pm2 an2 cd2 ct2), sl2⟩) (c2 : PySem.W.codeIn K cd2 "words_in" = true) (k2 : PySem.W.keepIn K (.ref f2) = true)
    (a3 : PySem.W.nsIn K mainGlobals "number_of" = some (some (.ref f3))) (l3 : K.lookup f3 = some ⟨oc3, od3, .func (PySem.W.fnOf "number_of" "number_of" (defArgs s3) (defBody s3) (defScope s3) .none kV3 dc3 pm3 an3 cd3 ct3), sl3⟩) (c3 : PySem.W.codeIn K cd3 "number_of" = true) (k3 : PySem.W.keepIn K (.ref f3) = true)
    (a4 : PySem.W.nsIn K mainGlobals "value_of" = some (some (.ref f4))) (l4 : K.lookup f4 = some ⟨oc4, od4, .func (PySem.W.fnOf "value_of" "value_of" (defArgs s4) (defBody s4) (defScope s4) .none kV4 dc4 pm4 an4 cd4 ct4), sl4⟩) (c4 : PySem.W.codeIn K cd4 "value_of" = true) (k4 : PySem.W.keepIn K (.ref f4) = true)
    (a5 : PySem.W.nsIn K mainGlobals "word_at" = some (some (.ref f5))) (l5 : K.lookup f5 = some ⟨oc5, od5, .func (PySem.W.fnOf "word_at" "word_at" (defArgs s5) (defBody s5) (defScope s5) .none kV5 dc5 pm5 an5 cd5 ct5), sl5⟩) (c5 : PySem.W.codeIn K cd5 "word_at" = true) (k5 : PySem.W.keepIn K (.ref f5) = true)
    (a6 : PySem.W.nsIn K mainGlobals "need_word" = some (some (.ref f6))) (l6 : K.lookup f6 = some ⟨oc6, od6, .func (PySem.W.fnOf "need_word" "need_word" (defArgs s6) (defBody s6) (defScope s6) .none kV6 dc6 pm6 an6 cd6 ct6), sl6⟩) (c6 : PySem.W.codeIn K cd6 "need_word" = true) (k6 : PySem.W.keepIn K (.ref f6) = true)
    (a7 : PySem.W.nsIn K mainGlobals "name_at" = some (some (.ref f7))) (l7 : K.lookup f7 = some ⟨oc7, od7, .func (PySem.W.fnOf "name_at" "name_at" (defArgs s7) (defBody s7) (defScope s7) .none kV7 dc7 pm7 an7 cd7 ct7), sl7⟩) (c7 : PySem.W.codeIn K cd7 "name_at" = true) (k7 : PySem.W.keepIn K (.ref f7) = true)
    (a8 : PySem.W.nsIn K mainGlobals "column_at" = some (some (.ref f8))) (l8 : K.lookup f8 = some ⟨oc8, od8, .func (PySem.W.fnOf "column_at" "column_at" (defArgs s8) (defBody s8) (defScope s8) .none kV8 dc8 pm8 an8 cd8 ct8), sl8⟩) (c8 : PySem.W.codeIn K cd8 "column_at" = true) (k8 : PySem.W.keepIn K (.ref f8) = true)
    (a9 : PySem.W.nsIn K mainGlobals "test_at" = some (some (.ref f9))) (l9 : K.lookup f9 = some ⟨oc9, od9, .func (PySem.W.fnOf "test_at" "test_at" (defArgs s9) (defBody s9) (defScope s9) .none kV9 dc9 pm9 an9 cd9 ct9), sl9⟩) (c9 : PySem.W.codeIn K cd9 "test_at" = true) (k9 : PySem.W.keepIn K (.ref f9) = true)
    (a10 : PySem.W.nsIn K mainGlobals "group_at" = some (some (.ref f10))) (l10 : K.lookup f10 = some ⟨oc10, od10, .func (PySem.W.fnOf "group_at" "group_at" (defArgs s10) (defBody s10) (defScope s10) .none kV10 dc10 pm10 an10 cd10 ct10), sl10⟩) (c10 : PySem.W.codeIn K cd10 "group_at" = true) (k10 : PySem.W.keepIn K (.ref f10) = true)
    (a11 : PySem.W.nsIn K mainGlobals "condition_at" = some (some (.ref f11))) (l11 : K.lookup f11 = some ⟨oc11, od11, .func (PySem.W.fnOf "condition_at" "condition_at" (defArgs s11) (defBody s11) (defScope s11) .none kV11 dc11 pm11 an11 cd11 ct11), sl11⟩) (c11 : PySem.W.codeIn K cd11 "condition_at" = true) (k11 : PySem.W.keepIn K (.ref f11) = true)
    (a12 : PySem.W.nsIn K mainGlobals "read_condition" = some (some (.ref f12))) (l12 : K.lookup f12 = some ⟨oc12, od12, .func (PySem.W.fnOf "read_condition" "read_condition" (defArgs s12) (defBody s12) (defScope s12) .none kV12 dc12 pm12 an12 cd12 ct12), sl12⟩) (c12 : PySem.W.codeIn K cd12 "read_condition" = true) (k12 : PySem.W.keepIn K (.ref f12) = true)
    (a13 : PySem.W.nsIn K mainGlobals "what_at" = some (some (.ref f13))) (l13 : K.lookup f13 = some ⟨oc13, od13, .func (PySem.W.fnOf "what_at" "what_at" (defArgs s13) (defBody s13) (defScope s13) .none kV13 dc13 pm13 an13 cd13 ct13), sl13⟩) (c13 : PySem.W.codeIn K cd13 "what_at" = true) (k13 : PySem.W.keepIn K (.ref f13) = true)
    (a14 : PySem.W.nsIn K mainGlobals "second_at" = some (some (.ref f14))) (l14 : K.lookup f14 = some ⟨oc14, od14, .func (PySem.W.fnOf "second_at" "second_at" (defArgs s14) (defBody s14) (defScope s14) .none kV14 dc14 pm14 an14 cd14 ct14), sl14⟩) (c14 : PySem.W.codeIn K cd14 "second_at" = true) (k14 : PySem.W.keepIn K (.ref f14) = true)
    (a15 : PySem.W.nsIn K mainGlobals "rising_at" = some (some (.ref f15))) (l15 : K.lookup f15 = some ⟨oc15, od15, .func (PySem.W.fnOf "rising_at" "rising_at" (defArgs s15) (defBody s15) (defScope s15) .none kV15 dc15 pm15 an15 cd15 ct15), sl15⟩) (c15 : PySem.W.codeIn K cd15 "rising_at" = true) (k15 : PySem.W.keepIn K (.ref f15) = true)
    (a16 : PySem.W.nsIn K mainGlobals "first_at" = some (some (.ref f16))) (l16 : K.lookup f16 = some ⟨oc16, od16, .func (PySem.W.fnOf "first_at" "first_at" (defArgs s16) (defBody s16) (defScope s16) .none kV16 dc16 pm16 an16 cd16 ct16), sl16⟩) (c16 : PySem.W.codeIn K cd16 "first_at" = true) (k16 : PySem.W.keepIn K (.ref f16) = true)
    (a17 : PySem.W.nsIn K mainGlobals "columns_in" = some (some (.ref f17))) (l17 : K.lookup f17 = some ⟨oc17, od17, .func (PySem.W.fnOf "columns_in" "columns_in" (defArgs s17) (defBody s17) (defScope s17) .none kV17 dc17 pm17 an17 cd17 ct17), sl17⟩) (c17 : PySem.W.codeIn K cd17 "columns_in" = true) (k17 : PySem.W.keepIn K (.ref f17) = true)
    (a18 : PySem.W.nsIn K mainGlobals "columns_asked" = some (some (.ref f18))) (l18 : K.lookup f18 = some ⟨oc18, od18, .func (PySem.W.fnOf "columns_asked" "columns_asked" (defArgs s18) (defBody s18) (defScope s18) .none kV18 dc18 pm18 an18 cd18 ct18), sl18⟩) (c18 : PySem.W.codeIn K cd18 "columns_asked" = true) (k18 : PySem.W.keepIn K (.ref f18) = true)
    (a19 : PySem.W.nsIn K mainGlobals "tables_asked" = some (some (.ref f19))) (l19 : K.lookup f19 = some ⟨oc19, od19, .func (PySem.W.fnOf "tables_asked" "tables_asked" (defArgs s19) (defBody s19) (defScope s19) .none kV19 dc19 pm19 an19 cd19 ct19), sl19⟩) (c19 : PySem.W.codeIn K cd19 "tables_asked" = true) (k19 : PySem.W.keepIn K (.ref f19) = true)
    (a20 : PySem.W.nsIn K mainGlobals "read_question" = some (some (.ref f20))) (l20 : K.lookup f20 = some ⟨oc20, od20, .func (PySem.W.fnOf "read_question" "read_question" (defArgs s20) (defBody s20) (defScope s20) .none kV20 dc20 pm20 an20 cd20 ct20), sl20⟩) (c20 : PySem.W.codeIn K cd20 "read_question" = true) (k20 : PySem.W.keepIn K (.ref f20) = true)
    (a21 : PySem.W.nsIn K mainGlobals "need_many" = some (some (.ref f21))) (l21 : K.lookup f21 = some ⟨oc21, od21, .func (PySem.W.fnOf "need_many" "need_many" (defArgs s21) (defBody s21) (defScope s21) .none kV21 dc21 pm21 an21 cd21 ct21), sl21⟩) (c21 : PySem.W.codeIn K cd21 "need_many" = true) (k21 : PySem.W.keepIn K (.ref f21) = true)
    (a22 : PySem.W.nsIn K mainGlobals "table_of" = some (some (.ref f22))) (l22 : K.lookup f22 = some ⟨oc22, od22, .func (PySem.W.fnOf "table_of" "table_of" (defArgs s22) (defBody s22) (defScope s22) .none kV22 dc22 pm22 an22 cd22 ct22), sl22⟩) (c22 : PySem.W.codeIn K cd22 "table_of" = true) (k22 : PySem.W.keepIn K (.ref f22) = true)
    (a23 : PySem.W.nsIn K mainGlobals "column_of" = some (some (.ref f23))) (l23 : K.lookup f23 = some ⟨oc23, od23, .func (PySem.W.fnOf "column_of" "column_of" (defArgs s23) (defBody s23) (defScope s23) .none kV23 dc23 pm23 an23 cd23 ct23), sl23⟩) (c23 : PySem.W.codeIn K cd23 "column_of" = true) (k23 : PySem.W.keepIn K (.ref f23) = true)
    (a24 : PySem.W.nsIn K mainGlobals "columns_within" = some (some (.ref f24))) (l24 : K.lookup f24 = some ⟨oc24, od24, .func (PySem.W.fnOf "columns_within" "columns_within" (defArgs s24) (defBody s24) (defScope s24) .none kV24 dc24 pm24 an24 cd24 ct24), sl24⟩) (c24 : PySem.W.codeIn K cd24 "columns_within" = true) (k24 : PySem.W.keepIn K (.ref f24) = true)
    (a25 : PySem.W.nsIn K mainGlobals "condition_behind" = some (some (.ref f25))) (l25 : K.lookup f25 = some ⟨oc25, od25, .func (PySem.W.fnOf "condition_behind" "condition_behind" (defArgs s25) (defBody s25) (defScope s25) .none kV25 dc25 pm25 an25 cd25 ct25), sl25⟩) (c25 : PySem.W.codeIn K cd25 "condition_behind" = true) (k25 : PySem.W.keepIn K (.ref f25) = true)
    (a26 : PySem.W.nsIn K mainGlobals "changing" = some (some (.ref f26))) (l26 : K.lookup f26 = some ⟨oc26, od26, .func (PySem.W.fnOf "changing" "changing" (defArgs s26) (defBody s26) (defScope s26) .none kV26 dc26 pm26 an26 cd26 ct26), sl26⟩) (c26 : PySem.W.codeIn K cd26 "changing" = true) (k26 : PySem.W.keepIn K (.ref f26) = true)
    (a27 : PySem.W.nsIn K mainGlobals "step_in" = some (some (.ref f27))) (l27 : K.lookup f27 = some ⟨oc27, od27, .func (PySem.W.fnOf "step_in" "step_in" (defArgs s27) (defBody s27) (defScope s27) .none kV27 dc27 pm27 an27 cd27 ct27), sl27⟩) (c27 : PySem.W.codeIn K cd27 "step_in" = true) (k27 : PySem.W.keepIn K (.ref f27) = true)
    (a28 : PySem.W.nsIn K mainGlobals "read_step" = some (some (.ref f28))) (l28 : K.lookup f28 = some ⟨oc28, od28, .func (PySem.W.fnOf "read_step" "read_step" (defArgs s28) (defBody s28) (defScope s28) .none kV28 dc28 pm28 an28 cd28 ct28), sl28⟩) (c28 : PySem.W.codeIn K cd28 "read_step" = true) (k28 : PySem.W.keepIn K (.ref f28) = true)
    (a29 : PySem.W.nsIn K mainGlobals "_law_cell_at" = some (some (.ref f29))) (l29 : K.lookup f29 = some ⟨oc29, od29, .func (PySem.W.fnOf "_law_cell_at" "_law_cell_at" (defArgs s29) (defBody s29) (defScope s29) .none kV29 dc29 pm29 an29 cd29 ct29), sl29⟩) (c29 : PySem.W.codeIn K cd29 "_law_cell_at" = true) (k29 : PySem.W.keepIn K (.ref f29) = true)
    (a30 : PySem.W.nsIn K mainGlobals "_law_take" = some (some (.ref f30))) (l30 : K.lookup f30 = some ⟨oc30, od30, .func (PySem.W.fnOf "_law_take" "_law_take" (defArgs s30) (defBody s30) (defScope s30) .none kV30 dc30 pm30 an30 cd30 ct30), sl30⟩) (c30 : PySem.W.codeIn K cd30 "_law_take" = true) (k30 : PySem.W.keepIn K (.ref f30) = true)
    (a31 : PySem.W.nsIn K mainGlobals "_law_name" = some (some (.ref f31))) (l31 : K.lookup f31 = some ⟨oc31, od31, .func (PySem.W.fnOf "_law_name" "_law_name" (defArgs s31) (defBody s31) (defScope s31) .none kV31 dc31 pm31 an31 cd31 ct31), sl31⟩) (c31 : PySem.W.codeIn K cd31 "_law_name" = true) (k31 : PySem.W.keepIn K (.ref f31) = true)
    (a32 : PySem.W.nsIn K mainGlobals "_law_bad_makes" = some (some (.ref f32))) (l32 : K.lookup f32 = some ⟨oc32, od32, .func (PySem.W.fnOf "_law_bad_makes" "_law_bad_makes" (defArgs s32) (defBody s32) (defScope s32) .none kV32 dc32 pm32 an32 cd32 ct32), sl32⟩) (c32 : PySem.W.codeIn K cd32 "_law_bad_makes" = true) (k32 : PySem.W.keepIn K (.ref f32) = true)
    (a33 : PySem.W.nsIn K mainGlobals "_law_bad_rows" = some (some (.ref f33))) (l33 : K.lookup f33 = some ⟨oc33, od33, .func (PySem.W.fnOf "_law_bad_rows" "_law_bad_rows" (defArgs s33) (defBody s33) (defScope s33) .none kV33 dc33 pm33 an33 cd33 ct33), sl33⟩) (c33 : PySem.W.codeIn K cd33 "_law_bad_rows" = true) (k33 : PySem.W.keepIn K (.ref f33) = true)
    (a34 : PySem.W.nsIn K mainGlobals "_law_bad_sets" = some (some (.ref f34))) (l34 : K.lookup f34 = some ⟨oc34, od34, .func (PySem.W.fnOf "_law_bad_sets" "_law_bad_sets" (defArgs s34) (defBody s34) (defScope s34) .none kV34 dc34 pm34 an34 cd34 ct34), sl34⟩) (c34 : PySem.W.codeIn K cd34 "_law_bad_sets" = true) (k34 : PySem.W.keepIn K (.ref f34) = true)
    (a35 : PySem.W.nsIn K mainGlobals "_law_refused" = some (some (.ref f35))) (l35 : K.lookup f35 = some ⟨oc35, od35, .func (PySem.W.fnOf "_law_refused" "_law_refused" (defArgs s35) (defBody s35) (defScope s35) .none kV35 dc35 pm35 an35 cd35 ct35), sl35⟩) (c35 : PySem.W.codeIn K cd35 "_law_refused" = true) (k35 : PySem.W.keepIn K (.ref f35) = true)
    (a36 : PySem.W.nsIn K mainGlobals "law" = some (some (.ref f36))) (l36 : K.lookup f36 = some ⟨oc36, od36, .func (PySem.W.fnOf "law" "law" (defArgs s36) (defBody s36) (defScope s36) .none kV36 dc36 pm36 an36 cd36 ct36), sl36⟩) (c36 : PySem.W.codeIn K cd36 "law" = true) (k36 : PySem.W.keepIn K (.ref f36) = true)
    (q0 : PySem.W.nsIn K mainGlobals "LETTERS" = some (some (.str "abcdefghijklmnopqrstuvwxyz" tk0)))
    (q1 : PySem.W.nsIn K mainGlobals "SIGNS_names" = some (some (.str " !\"#$&()*+,-./0123456789:<=>?@ABCDEFGHIJKLMNOPQRSTUVWXYZ[\\]^_`abcdefghijklmnopqrstuvwxyz{|}~" tk1)))
    (q2 : PySem.W.nsIn K mainGlobals "MOST_LETTERS" = some (some (.int 8 tk2)))
    (q3 : PySem.W.nsIn K mainGlobals "MOST_SIGNS" = some (some (.int 20 tk3)))
    (q4 : PySem.W.nsIn K mainGlobals "MOST" = some (some (.int 1000000000000 tk4)))
    (q5 : PySem.W.nsIn K mainGlobals "QUOTE" = some (some (.str "'" tk5)))
    (q6 : PySem.W.nsIn K mainGlobals "FIGURES" = some (some (.str "0123456789" tk6)))
    (q7 : PySem.W.nsIn K mainGlobals "MOST_FIGURES" = some (some (.int 13 tk7)))
    (q8 : PySem.W.nsIn K mainGlobals "SIGNS_questions" = some (some (.ref g8))) (ql8 : K.lookup g8 = some ⟨.type "tuple", gd8, .seq #[.str "=" tk8_0, .str "#" tk8_1, .str "<" tk8_2, .str ">" tk8_3, .str "<=" tk8_4, .str ">=" tk8_5] gn8, gs8⟩)
    (q9 : PySem.W.nsIn K mainGlobals "OF_ONE" = some (some (.ref g9))) (ql9 : K.lookup g9 = some ⟨.type "tuple", gd9, .seq #[.str "sum" tk9_0, .str "least" tk9_1, .str "most" tk9_2, .str "groups" tk9_3] gn9, gs9⟩)
    (q10 : PySem.W.nsIn K mainGlobals "DEEPEST" = some (some (.int 5 tk10)))
    (q11 : PySem.W.nsIn K mainGlobals "MOST_COLUMNS" = some (some (.int 12 tk11)))
    (q12 : PySem.W.nsIn K mainGlobals "MOST_FIRST" = some (some (.int 1000 tk12)))
    (e0 : PySem.W.nsIn K mainGlobals "NoQuestion" = some (some (.ref X0))) (ea0 : PySem.W.excIn K X0 [.type "ValueError", .type "Exception", .type "BaseException", .type "object"] "ValueError.__new__" = true) (ek0 : PySem.W.keepIn K (.ref X0) = true) (es0 : PySem.W.subIn K (.ref X0) (.type "BaseException") = some true) (et0 : PySem.W.typeIn K (.ref X0) = some (.type "type")) (eh0 : PySem.W.hasDictIn K X0 = true)
    (e1 : PySem.W.nsIn K mainGlobals "NoStep" = some (some (.ref X1))) (ea1 : PySem.W.excIn K X1 [.type "ValueError", .type "Exception", .type "BaseException", .type "object"] "ValueError.__new__" = true) (ek1 : PySem.W.keepIn K (.ref X1) = true) (es1 : PySem.W.subIn K (.ref X1) (.type "BaseException") = some true) (et1 : PySem.W.typeIn K (.ref X1) = some (.type "type")) (eh1 : PySem.W.hasDictIn K X1 = true)
    (e2 : PySem.W.nsIn K mainGlobals "VaultError" = some (some (.ref X2))) (ea2 : PySem.W.excIn K X2 [.type "ValueError", .type "Exception", .type "BaseException", .type "object"] "ValueError.__new__" = true) (ek2 : PySem.W.keepIn K (.ref X2) = true) (es2 : PySem.W.subIn K (.ref X2) (.type "BaseException") = some true) (et2 : PySem.W.typeIn K (.ref X2) = some (.type "type")) (eh2 : PySem.W.hasDictIn K X2 = true)
    (y0 : PySem.W.nsIn K mainGlobals "BadThing" = some (some (.ref Y0))) (ys0 : PySem.W.subIn K (.ref Y0) (.type "BaseException") = some true) (yt0 : PySem.W.typeIn K (.ref Y0) = some (.type "type")) (yh0 : PySem.W.hasDictIn K Y0 = true)
    (y1 : PySem.W.nsIn K mainGlobals "Clash" = some (some (.ref Y1))) (ys1 : PySem.W.subIn K (.ref Y1) (.type "BaseException") = some true) (yt1 : PySem.W.typeIn K (.ref Y1) = some (.type "type")) (yh1 : PySem.W.hasDictIn K Y1 = true)
    (y2 : PySem.W.nsIn K mainGlobals "NoColumn" = some (some (.ref Y2))) (ys2 : PySem.W.subIn K (.ref Y2) (.type "BaseException") = some true) (yt2 : PySem.W.typeIn K (.ref Y2) = some (.type "type")) (yh2 : PySem.W.hasDictIn K Y2 = true)
    (y3 : PySem.W.nsIn K mainGlobals "NoName" = some (some (.ref Y3))) (ys3 : PySem.W.subIn K (.ref Y3) (.type "BaseException") = some true) (yt3 : PySem.W.typeIn K (.ref Y3) = some (.type "type")) (yh3 : PySem.W.hasDictIn K Y3 = true)
    (y4 : PySem.W.nsIn K mainGlobals "NoPaper" = some (some (.ref Y4))) (ys4 : PySem.W.subIn K (.ref Y4) (.type "BaseException") = some true) (yt4 : PySem.W.typeIn K (.ref Y4) = some (.type "type")) (yh4 : PySem.W.hasDictIn K Y4 = true)
    (y5 : PySem.W.nsIn K mainGlobals "NoPlan" = some (some (.ref Y5))) (ys5 : PySem.W.subIn K (.ref Y5) (.type "BaseException") = some true) (yt5 : PySem.W.typeIn K (.ref Y5) = some (.type "type")) (yh5 : PySem.W.hasDictIn K Y5 = true)
    (y6 : PySem.W.nsIn K mainGlobals "NoRow" = some (some (.ref Y6))) (ys6 : PySem.W.subIn K (.ref Y6) (.type "BaseException") = some true) (yt6 : PySem.W.typeIn K (.ref Y6) = some (.type "type")) (yh6 : PySem.W.hasDictIn K Y6 = true)
    (y7 : PySem.W.nsIn K mainGlobals "NoTable" = some (some (.ref Y7))) (ys7 : PySem.W.subIn K (.ref Y7) (.type "BaseException") = some true) (yt7 : PySem.W.typeIn K (.ref Y7) = some (.type "type")) (yh7 : PySem.W.hasDictIn K Y7 = true)
    (y8 : PySem.W.nsIn K mainGlobals "NotSo" = some (some (.ref Y8))) (ys8 : PySem.W.subIn K (.ref Y8) (.type "BaseException") = some true) (yt8 : PySem.W.typeIn K (.ref Y8) = some (.type "type")) (yh8 : PySem.W.hasDictIn K Y8 = true)
    (u0 : PySem.W.subIn K (.ref X0) (.ref X0) = some true) (ua0 : PySem.W.findIn K (.ref X0) "__getattribute__" = some (some (.builtin "BaseException.__getattribute__"))) (ub0 : PySem.W.findIn K (.ref X0) "__getattr__" = some none) (uc0 : PySem.W.findIn K (.ref X0) "__class__" = some (some (.builtin "object.__class__"))) (ud0 : PySem.W.mroIn K X0 (.type "object") = some true)
    (u1 : PySem.W.subIn K (.ref X1) (.ref X1) = some true) (ua1 : PySem.W.findIn K (.ref X1) "__getattribute__" = some (some (.builtin "BaseException.__getattribute__"))) (ub1 : PySem.W.findIn K (.ref X1) "__getattr__" = some none) (uc1 : PySem.W.findIn K (.ref X1) "__class__" = some (some (.builtin "object.__class__"))) (ud1 : PySem.W.mroIn K X1 (.type "object") = some true)
    (uu : PySem.W.specialIn K (.builtin "object.__class__") "__get__" = some (some (.builtin "getset_descriptor.__get__"))) (ut : PySem.W.takesIn K (.builtin "object.__class__") = some true)
    (xx0_0 : PySem.W.subIn K (.ref X0) (.ref X0) = some true) (xx0_1 : PySem.W.subIn K (.ref X1) (.ref X0) = some false)
    (xx1_0 : PySem.W.subIn K (.ref X0) (.ref X1) = some false) (xx1_1 : PySem.W.subIn K (.ref X1) (.ref X1) = some true)
    (xx2_0 : PySem.W.subIn K (.ref X0) (.ref X2) = some true) (xx2_1 : PySem.W.subIn K (.ref X1) (.ref X2) = some true)
    (yy0_0 : PySem.W.subIn K (.ref X0) (.ref Y0) = some false) (yy0_1 : PySem.W.subIn K (.ref X1) (.ref Y0) = some false)
    (yy1_0 : PySem.W.subIn K (.ref X0) (.ref Y1) = some false) (yy1_1 : PySem.W.subIn K (.ref X1) (.ref Y1) = some false)
    (yy2_0 : PySem.W.subIn K (.ref X0) (.ref Y2) = some false) (yy2_1 : PySem.W.subIn K (.ref X1) (.ref Y2) = some false)
    (yy3_0 : PySem.W.subIn K (.ref X0) (.ref Y3) = some false) (yy3_1 : PySem.W.subIn K (.ref X1) (.ref Y3) = some false)
    (yy4_0 : PySem.W.subIn K (.ref X0) (.ref Y4) = some false) (yy4_1 : PySem.W.subIn K (.ref X1) (.ref Y4) = some false)
    (yy5_0 : PySem.W.subIn K (.ref X0) (.ref Y5) = some false) (yy5_1 : PySem.W.subIn K (.ref X1) (.ref Y5) = some false)
    (yy6_0 : PySem.W.subIn K (.ref X0) (.ref Y6) = some false) (yy6_1 : PySem.W.subIn K (.ref X1) (.ref Y6) = some false)
    (yy7_0 : PySem.W.subIn K (.ref X0) (.ref Y7) = some false) (yy7_1 : PySem.W.subIn K (.ref X1) (.ref Y7) = some false)
    (yy8_0 : PySem.W.subIn K (.ref X0) (.ref Y8) = some false) (yy8_1 : PySem.W.subIn K (.ref X1) (.ref Y8) = some false)
    (bb0_0 : PySem.W.subIn K (.ref X0) (.type "ValueError") = some true) (bb0_1 : PySem.W.subIn K (.ref X1) (.type "ValueError") = some true)
    (z0 : PySem.W.nsIn K mainGlobals "len" = some none)
    (z1 : PySem.W.nsIn K mainGlobals "int" = some none)
    (z2 : PySem.W.nsIn K mainGlobals "ord" = some none)
    (z3 : PySem.W.nsIn K mainGlobals "str" = some none)
    (z4 : PySem.W.nsIn K mainGlobals "tuple" = some none)
    (z5 : PySem.W.nsIn K mainGlobals "list" = some none)
    (z6 : PySem.W.nsIn K mainGlobals "isinstance" = some none)
    (z7 : PySem.W.nsIn K mainGlobals "bool" = some none)
    (z8 : PySem.W.nsIn K mainGlobals "range" = some none)
    (z9 : PySem.W.nsIn K mainGlobals "zip" = some none)
    (z10 : PySem.W.nsIn K mainGlobals "enumerate" = some none)
    (z11 : PySem.W.nsIn K mainGlobals "reversed" = some none)
    (z12 : PySem.W.nsIn K mainGlobals "dict" = some none)
    (z13 : PySem.W.nsIn K mainGlobals "sorted" = some none)
    (z14 : PySem.W.nsIn K mainGlobals "sum" = some none)
    (z15 : PySem.W.nsIn K mainGlobals "all" = some none)
    (z16 : PySem.W.nsIn K mainGlobals "any" = some none)
    (z17 : PySem.W.nsIn K mainGlobals "max" = some none)
    (z18 : PySem.W.nsIn K mainGlobals "min" = some none)
    (z19 : PySem.W.nsIn K mainGlobals "abs" = some none)
    (z20 : PySem.W.nsIn K mainGlobals "set" = some none)
    (z21 : PySem.W.nsIn K mainGlobals "ValueError" = some none)
    : ∃ fd : FuncData, (∀ (s : Shared) (u : Value), BindsTo s fd ⟨[u], []⟩ [("script", u)]) ∧ TopOk (gbX exT K) tab glT mg ∧ DefOk (gbX exT K) tab glT "law" 36 false fa fd ["script"] := by
  have e := hfa.symm.trans (PySem.W.mg_of X G a36)
  cases e
  have F0 := fun_mk (st := s0) l0 c0 k0
  have B0 := F0.binds (ps := P0) fun _ _ _ _ _ _ us hl => match us, hl with | [_], _ => rfl
  have D0 : DefOk (gbX exT K) tab glT "is_name" 0 true _ _ P0 := ⟨s0, N0, _, F0, sc0, Mi.L.c0, rfl, rfl, rfl⟩
  have F1 := fun_mk (st := s1) l1 c1 k1
  have B1 := F1.binds (ps := P1) fun _ _ _ _ _ _ us hl => match us, hl with | [_], _ => rfl
  have D1 : DefOk (gbX exT K) tab glT "is_value" 1 true _ _ P1 := ⟨s1, N1, _, F1, sc1, Mi.L.c1, rfl, rfl, rfl⟩
  have F2 := fun_mk (st := s2) l2 c2 k2
  have B2 := F2.binds (ps := P2) fun _ _ _ _ _ _ us hl => match us, hl with | [_], _ => rfl
  have D2 : DefOk (gbX exT K) tab glT "words_in" 2 true _ _ P2 := ⟨s2, N2, _, F2, sc2, Mi.L.c2, rfl, rfl, rfl⟩
  have F3 := fun_mk (st := s3) l3 c3 k3
  have B3 := F3.binds (ps := P3) fun _ _ _ _ _ _ us hl => match us, hl with | [_], _ => rfl
  have D3 : DefOk (gbX exT K) tab glT "number_of" 3 true _ _ P3 := ⟨s3, N3, _, F3, sc3, Mi.L.c3, rfl, rfl, rfl⟩
  have F4 := fun_mk (st := s4) l4 c4 k4
  have B4 := F4.binds (ps := P4) fun _ _ _ _ _ _ us hl => match us, hl with | [_], _ => rfl
  have D4 : DefOk (gbX exT K) tab glT "value_of" 4 true _ _ P4 := ⟨s4, N4, _, F4, sc4, Mi.L.c4, rfl, rfl, rfl⟩
  have F5 := fun_mk (st := s5) l5 c5 k5
  have B5 := F5.binds (ps := P5) fun _ _ _ _ _ _ us hl => match us, hl with | [_, _], _ => rfl
  have D5 : DefOk (gbX exT K) tab glT "word_at" 5 true _ _ P5 := ⟨s5, N5, _, F5, sc5, Mi.L.c5, rfl, rfl, rfl⟩
  have F6 := fun_mk (st := s6) l6 c6 k6
  have B6 := F6.binds (ps := P6) fun _ _ _ _ _ _ us hl => match us, hl with | [_, _, _], _ => rfl
  have D6 : DefOk (gbX exT K) tab glT "need_word" 6 true _ _ P6 := ⟨s6, N6, _, F6, sc6, Mi.L.c6, rfl, rfl, rfl⟩
  have F7 := fun_mk (st := s7) l7 c7 k7
  have B7 := F7.binds (ps := P7) fun _ _ _ _ _ _ us hl => match us, hl with | [_, _], _ => rfl
  have D7 : DefOk (gbX exT K) tab glT "name_at" 7 true _ _ P7 := ⟨s7, N7, _, F7, sc7, Mi.L.c7, rfl, rfl, rfl⟩
  have F8 := fun_mk (st := s8) l8 c8 k8
  have B8 := F8.binds (ps := P8) fun _ _ _ _ _ _ us hl => match us, hl with | [_, _], _ => rfl
  have D8 : DefOk (gbX exT K) tab glT "column_at" 8 true _ _ P8 := ⟨s8, N8, _, F8, sc8, Mi.L.c8, rfl, rfl, rfl⟩
  have F9 := fun_mk (st := s9) l9 c9 k9
  have B9 := F9.binds (ps := P9) fun _ _ _ _ _ _ us hl => match us, hl with | [_, _], _ => rfl
  have D9 : DefOk (gbX exT K) tab glT "test_at" 9 true _ _ P9 := ⟨s9, N9, _, F9, sc9, Mi.L.c9, rfl, rfl, rfl⟩
  have F10 := fun_mk (st := s10) l10 c10 k10
  have B10 := F10.binds (ps := P10) fun _ _ _ _ _ _ us hl => match us, hl with | [_, _, _], _ => rfl
  have D10 : DefOk (gbX exT K) tab glT "group_at" 10 true _ _ P10 := ⟨s10, N10, _, F10, sc10, Mi.L.c10, rfl, rfl, rfl⟩
  have F11 := fun_mk (st := s11) l11 c11 k11
  have B11 := F11.binds (ps := P11) fun _ _ _ _ _ _ us hl => match us, hl with | [_, _, _], _ => rfl
  have D11 : DefOk (gbX exT K) tab glT "condition_at" 11 true _ _ P11 := ⟨s11, N11, _, F11, sc11, Mi.L.c11, rfl, rfl, rfl⟩
  have F12 := fun_mk (st := s12) l12 c12 k12
  have B12 := F12.binds (ps := P12) fun _ _ _ _ _ _ us hl => match us, hl with | [_], _ => rfl
  have D12 : DefOk (gbX exT K) tab glT "read_condition" 12 true _ _ P12 := ⟨s12, N12, _, F12, sc12, Mi.L.c12, rfl, rfl, rfl⟩
  have F13 := fun_mk (st := s13) l13 c13 k13
  have B13 := F13.binds (ps := P13) fun _ _ _ _ _ _ us hl => match us, hl with | [_], _ => rfl
  have D13 : DefOk (gbX exT K) tab glT "what_at" 13 true _ _ P13 := ⟨s13, N13, _, F13, sc13, Mi.L.c13, rfl, rfl, rfl⟩
  have F14 := fun_mk (st := s14) l14 c14 k14
  have B14 := F14.binds (ps := P14) fun _ _ _ _ _ _ us hl => match us, hl with | [_, _, _], _ => rfl
  have D14 : DefOk (gbX exT K) tab glT "second_at" 14 true _ _ P14 := ⟨s14, N14, _, F14, sc14, Mi.L.c14, rfl, rfl, rfl⟩
  have F15 := fun_mk (st := s15) l15 c15 k15
  have B15 := F15.binds (ps := P15) fun _ _ _ _ _ _ us hl => match us, hl with | [_, _], _ => rfl
  have D15 : DefOk (gbX exT K) tab glT "rising_at" 15 true _ _ P15 := ⟨s15, N15, _, F15, sc15, Mi.L.c15, rfl, rfl, rfl⟩
  have F16 := fun_mk (st := s16) l16 c16 k16
  have B16 := F16.binds (ps := P16) fun _ _ _ _ _ _ us hl => match us, hl with | [_, _], _ => rfl
  have D16 : DefOk (gbX exT K) tab glT "first_at" 16 true _ _ P16 := ⟨s16, N16, _, F16, sc16, Mi.L.c16, rfl, rfl, rfl⟩
  have F17 := fun_mk (st := s17) l17 c17 k17
  have B17 := F17.binds (ps := P17) fun _ _ _ _ _ _ us hl => match us, hl with | [_], _ => rfl
  have D17 : DefOk (gbX exT K) tab glT "columns_in" 17 true _ _ P17 := ⟨s17, N17, _, F17, sc17, Mi.L.c17, rfl, rfl, rfl⟩
  have F18 := fun_mk (st := s18) l18 c18 k18
  have B18 := F18.binds (ps := P18) fun _ _ _ _ _ _ us hl => match us, hl with | [_], _ => rfl
  have D18 : DefOk (gbX exT K) tab glT "columns_asked" 18 true _ _ P18 := ⟨s18, N18, _, F18, sc18, Mi.L.c18, rfl, rfl, rfl⟩
  have F19 := fun_mk (st := s19) l19 c19 k19
  have B19 := F19.binds (ps := P19) fun _ _ _ _ _ _ us hl => match us, hl with | [_], _ => rfl
  have D19 : DefOk (gbX exT K) tab glT "tables_asked" 19 true _ _ P19 := ⟨s19, N19, _, F19, sc19, Mi.L.c19, rfl, rfl, rfl⟩
  have F20 := fun_mk (st := s20) l20 c20 k20
  have B20 := F20.binds (ps := P20) fun _ _ _ _ _ _ us hl => match us, hl with | [_], _ => rfl
  have D20 : DefOk (gbX exT K) tab glT "read_question" 20 true _ _ P20 := ⟨s20, N20, _, F20, sc20, Mi.L.c20, rfl, rfl, rfl⟩
  have F21 := fun_mk (st := s21) l21 c21 k21
  have B21 := F21.binds (ps := P21) fun _ _ _ _ _ _ us hl => match us, hl with | [_, _, _], _ => rfl
  have D21 : DefOk (gbX exT K) tab glT "need_many" 21 true _ _ P21 := ⟨s21, N21, _, F21, sc21, Mi.L.c21, rfl, rfl, rfl⟩
  have F22 := fun_mk (st := s22) l22 c22 k22
  have B22 := F22.binds (ps := P22) fun _ _ _ _ _ _ us hl => match us, hl with | [_], _ => rfl
  have D22 : DefOk (gbX exT K) tab glT "table_of" 22 true _ _ P22 := ⟨s22, N22, _, F22, sc22, Mi.L.c22, rfl, rfl, rfl⟩
  have F23 := fun_mk (st := s23) l23 c23 k23
  have B23 := F23.binds (ps := P23) fun _ _ _ _ _ _ us hl => match us, hl with | [_], _ => rfl
  have D23 : DefOk (gbX exT K) tab glT "column_of" 23 true _ _ P23 := ⟨s23, N23, _, F23, sc23, Mi.L.c23, rfl, rfl, rfl⟩
  have F24 := fun_mk (st := s24) l24 c24 k24
  have B24 := F24.binds (ps := P24) fun _ _ _ _ _ _ us hl => match us, hl with | [_], _ => rfl
  have D24 : DefOk (gbX exT K) tab glT "columns_within" 24 true _ _ P24 := ⟨s24, N24, _, F24, sc24, Mi.L.c24, rfl, rfl, rfl⟩
  have F25 := fun_mk (st := s25) l25 c25 k25
  have B25 := F25.binds (ps := P25) fun _ _ _ _ _ _ us hl => match us, hl with | [_, _], _ => rfl
  have D25 : DefOk (gbX exT K) tab glT "condition_behind" 25 true _ _ P25 := ⟨s25, N25, _, F25, sc25, Mi.L.c25, rfl, rfl, rfl⟩
  have F26 := fun_mk (st := s26) l26 c26 k26
  have B26 := F26.binds (ps := P26) fun _ _ _ _ _ _ us hl => match us, hl with | [_], _ => rfl
  have D26 : DefOk (gbX exT K) tab glT "changing" 26 true _ _ P26 := ⟨s26, N26, _, F26, sc26, Mi.L.c26, rfl, rfl, rfl⟩
  have F27 := fun_mk (st := s27) l27 c27 k27
  have B27 := F27.binds (ps := P27) fun _ _ _ _ _ _ us hl => match us, hl with | [_], _ => rfl
  have D27 : DefOk (gbX exT K) tab glT "step_in" 27 true _ _ P27 := ⟨s27, N27, _, F27, sc27, Mi.L.c27, rfl, rfl, rfl⟩
  have F28 := fun_mk (st := s28) l28 c28 k28
  have B28 := F28.binds (ps := P28) fun _ _ _ _ _ _ us hl => match us, hl with | [_], _ => rfl
  have D28 : DefOk (gbX exT K) tab glT "read_step" 28 false _ _ P28 := ⟨s28, N28, _, F28, sc28, Mi.L.c28, rfl, rfl, rfl⟩
  have F29 := fun_mk (st := s29) l29 c29 k29
  have B29 := F29.binds (ps := P29) fun _ _ _ _ _ _ us hl => match us, hl with | [_, _], _ => rfl
  have D29 : DefOk (gbX exT K) tab glT "_law_cell_at" 29 true _ _ P29 := ⟨s29, N29, _, F29, sc29, Mi.L.c29, rfl, rfl, rfl⟩
  have F30 := fun_mk (st := s30) l30 c30 k30
  have B30 := F30.binds (ps := P30) fun _ _ _ _ _ _ us hl => match us, hl with | [_, _], _ => rfl
  have D30 : DefOk (gbX exT K) tab glT "_law_take" 30 true _ _ P30 := ⟨s30, N30, _, F30, sc30, Mi.L.c30, rfl, rfl, rfl⟩
  have F31 := fun_mk (st := s31) l31 c31 k31
  have B31 := F31.binds (ps := P31) fun _ _ _ _ _ _ us hl => match us, hl with | [_], _ => rfl
  have D31 : DefOk (gbX exT K) tab glT "_law_name" 31 true _ _ P31 := ⟨s31, N31, _, F31, sc31, Mi.L.c31, rfl, rfl, rfl⟩
  have F32 := fun_mk (st := s32) l32 c32 k32
  have B32 := F32.binds (ps := P32) fun _ _ _ _ _ _ us hl => match us, hl with | [_, _], _ => rfl
  have D32 : DefOk (gbX exT K) tab glT "_law_bad_makes" 32 true _ _ P32 := ⟨s32, N32, _, F32, sc32, Mi.L.c32, rfl, rfl, rfl⟩
  have F33 := fun_mk (st := s33) l33 c33 k33
  have B33 := F33.binds (ps := P33) fun _ _ _ _ _ _ us hl => match us, hl with | [_, _], _ => rfl
  have D33 : DefOk (gbX exT K) tab glT "_law_bad_rows" 33 true _ _ P33 := ⟨s33, N33, _, F33, sc33, Mi.L.c33, rfl, rfl, rfl⟩
  have F34 := fun_mk (st := s34) l34 c34 k34
  have B34 := F34.binds (ps := P34) fun _ _ _ _ _ _ us hl => match us, hl with | [_, _], _ => rfl
  have D34 : DefOk (gbX exT K) tab glT "_law_bad_sets" 34 true _ _ P34 := ⟨s34, N34, _, F34, sc34, Mi.L.c34, rfl, rfl, rfl⟩
  have F35 := fun_mk (st := s35) l35 c35 k35
  have B35 := F35.binds (ps := P35) fun _ _ _ _ _ _ us hl => match us, hl with | [_], _ => rfl
  have D35 : DefOk (gbX exT K) tab glT "_law_refused" 35 false _ _ P35 := ⟨s35, N35, _, F35, sc35, Mi.L.c35, rfl, rfl, rfl⟩
  have F36 := fun_mk (st := s36) l36 c36 k36
  have B36 := F36.binds (ps := P36) fun _ _ _ _ _ _ us hl => match us, hl with | [_], _ => rfl
  have D36 : DefOk (gbX exT K) tab glT "law" 36 false _ _ P36 := ⟨s36, N36, _, F36, sc36, Mi.L.c36, rfl, rfl, rfl⟩
  have gx0 : (gbX exT K).exc 0 = some (.ref X0) := by simp only [gbX, exT]; show (match PySem.W.nsIn K mainGlobals "NoQuestion" with | some (some v) => some v | _ => none) = _; rw [e0]
  have ox0 : OwnC K X0 := ⟨eh0, et0, es0⟩
  have gx1 : (gbX exT K).exc 1 = some (.ref X1) := by simp only [gbX, exT]; show (match PySem.W.nsIn K mainGlobals "NoStep" with | some (some v) => some v | _ => none) = _; rw [e1]
  have ox1 : OwnC K X1 := ⟨eh1, et1, es1⟩
  have gx2 : (gbX exT K).exc 2 = some (.ref X2) := by simp only [gbX, exT]; show (match PySem.W.nsIn K mainGlobals "VaultError" with | some (some v) => some v | _ => none) = _; rw [e2]
  have ox2 : OwnC K X2 := ⟨eh2, et2, es2⟩
  have oy0 : OwnC K Y0 := ⟨yh0, yt0, ys0⟩
  have oy1 : OwnC K Y1 := ⟨yh1, yt1, ys1⟩
  have oy2 : OwnC K Y2 := ⟨yh2, yt2, ys2⟩
  have oy3 : OwnC K Y3 := ⟨yh3, yt3, ys3⟩
  have oy4 : OwnC K Y4 := ⟨yh4, yt4, ys4⟩
  have oy5 : OwnC K Y5 := ⟨yh5, yt5, ys5⟩
  have oy6 : OwnC K Y6 := ⟨yh6, yt6, ys6⟩
  have oy7 : OwnC K Y7 := ⟨yh7, yt7, ys7⟩
  have oy8 : OwnC K Y8 := ⟨yh8, yt8, ys8⟩
  have xc0 : L2.ExcC K X0 := ⟨ua0, ub0, es0, eh0, uc0, uu, ut, ud0⟩
  have xc1 : L2.ExcC K X1 := ⟨ua1, ub1, es1, eh1, uc1, uu, ut, ud1⟩
  have wx0 : Below (gbX exT K) [(0, true), (1, false)] (.ref X0) := below_of (List.forall_mem_cons.mpr ⟨⟨X0, gx0, exm_own ox0 xx0_0, kit_own ox0 u0 xx0_0, xc0⟩, List.forall_mem_cons.mpr ⟨⟨X1, gx1, exm_own ox0 xx0_1, kit_own ox0 u1 xx0_1, xc1⟩, fun p hp => absurd hp List.not_mem_nil⟩⟩)
  have wx1 : Below (gbX exT K) [(0, false), (1, true)] (.ref X1) := below_of (List.forall_mem_cons.mpr ⟨⟨X0, gx0, exm_own ox1 xx1_0, kit_own ox1 u0 xx1_0, xc0⟩, List.forall_mem_cons.mpr ⟨⟨X1, gx1, exm_own ox1 xx1_1, kit_own ox1 u1 xx1_1, xc1⟩, fun p hp => absurd hp List.not_mem_nil⟩⟩)
  have wx2 : Below (gbX exT K) [(0, true), (1, true)] (.ref X2) := below_of (List.forall_mem_cons.mpr ⟨⟨X0, gx0, exm_own ox2 xx2_0, kit_own ox2 u0 xx2_0, xc0⟩, List.forall_mem_cons.mpr ⟨⟨X1, gx1, exm_own ox2 xx2_1, kit_own ox2 u1 xx2_1, xc1⟩, fun p hp => absurd hp List.not_mem_nil⟩⟩)
  have wy0 : Below (gbX exT K) [(0, false), (1, false)] (.ref Y0) := below_of (List.forall_mem_cons.mpr ⟨⟨X0, gx0, exm_own oy0 yy0_0, kit_own oy0 u0 yy0_0, xc0⟩, List.forall_mem_cons.mpr ⟨⟨X1, gx1, exm_own oy0 yy0_1, kit_own oy0 u1 yy0_1, xc1⟩, fun p hp => absurd hp List.not_mem_nil⟩⟩)
  have wy1 : Below (gbX exT K) [(0, false), (1, false)] (.ref Y1) := below_of (List.forall_mem_cons.mpr ⟨⟨X0, gx0, exm_own oy1 yy1_0, kit_own oy1 u0 yy1_0, xc0⟩, List.forall_mem_cons.mpr ⟨⟨X1, gx1, exm_own oy1 yy1_1, kit_own oy1 u1 yy1_1, xc1⟩, fun p hp => absurd hp List.not_mem_nil⟩⟩)
  have wy2 : Below (gbX exT K) [(0, false), (1, false)] (.ref Y2) := below_of (List.forall_mem_cons.mpr ⟨⟨X0, gx0, exm_own oy2 yy2_0, kit_own oy2 u0 yy2_0, xc0⟩, List.forall_mem_cons.mpr ⟨⟨X1, gx1, exm_own oy2 yy2_1, kit_own oy2 u1 yy2_1, xc1⟩, fun p hp => absurd hp List.not_mem_nil⟩⟩)
  have wy3 : Below (gbX exT K) [(0, false), (1, false)] (.ref Y3) := below_of (List.forall_mem_cons.mpr ⟨⟨X0, gx0, exm_own oy3 yy3_0, kit_own oy3 u0 yy3_0, xc0⟩, List.forall_mem_cons.mpr ⟨⟨X1, gx1, exm_own oy3 yy3_1, kit_own oy3 u1 yy3_1, xc1⟩, fun p hp => absurd hp List.not_mem_nil⟩⟩)
  have wy4 : Below (gbX exT K) [(0, false), (1, false)] (.ref Y4) := below_of (List.forall_mem_cons.mpr ⟨⟨X0, gx0, exm_own oy4 yy4_0, kit_own oy4 u0 yy4_0, xc0⟩, List.forall_mem_cons.mpr ⟨⟨X1, gx1, exm_own oy4 yy4_1, kit_own oy4 u1 yy4_1, xc1⟩, fun p hp => absurd hp List.not_mem_nil⟩⟩)
  have wy5 : Below (gbX exT K) [(0, false), (1, false)] (.ref Y5) := below_of (List.forall_mem_cons.mpr ⟨⟨X0, gx0, exm_own oy5 yy5_0, kit_own oy5 u0 yy5_0, xc0⟩, List.forall_mem_cons.mpr ⟨⟨X1, gx1, exm_own oy5 yy5_1, kit_own oy5 u1 yy5_1, xc1⟩, fun p hp => absurd hp List.not_mem_nil⟩⟩)
  have wy6 : Below (gbX exT K) [(0, false), (1, false)] (.ref Y6) := below_of (List.forall_mem_cons.mpr ⟨⟨X0, gx0, exm_own oy6 yy6_0, kit_own oy6 u0 yy6_0, xc0⟩, List.forall_mem_cons.mpr ⟨⟨X1, gx1, exm_own oy6 yy6_1, kit_own oy6 u1 yy6_1, xc1⟩, fun p hp => absurd hp List.not_mem_nil⟩⟩)
  have wy7 : Below (gbX exT K) [(0, false), (1, false)] (.ref Y7) := below_of (List.forall_mem_cons.mpr ⟨⟨X0, gx0, exm_own oy7 yy7_0, kit_own oy7 u0 yy7_0, xc0⟩, List.forall_mem_cons.mpr ⟨⟨X1, gx1, exm_own oy7 yy7_1, kit_own oy7 u1 yy7_1, xc1⟩, fun p hp => absurd hp List.not_mem_nil⟩⟩)
  have wy8 : Below (gbX exT K) [(0, false), (1, false)] (.ref Y8) := below_of (List.forall_mem_cons.mpr ⟨⟨X0, gx0, exm_own oy8 yy8_0, kit_own oy8 u0 yy8_0, xc0⟩, List.forall_mem_cons.mpr ⟨⟨X1, gx1, exm_own oy8 yy8_1, kit_own oy8 u1 yy8_1, xc1⟩, fun p hp => absurd hp List.not_mem_nil⟩⟩)
  have wb0 : Below (gbX exT K) [(0, true), (1, true)] (.type "ValueError") := below_of (List.forall_mem_cons.mpr ⟨⟨X0, gx0, exm_VE' bb0_0, kit_VE bb0_0, xc0⟩, List.forall_mem_cons.mpr ⟨⟨X1, gx1, exm_VE' bb0_1, kit_VE bb0_1, xc1⟩, fun p hp => absurd hp List.not_mem_nil⟩⟩)
  refine ⟨_, fun s v => .of_eq rfl, topOk_of ?_ ?_, D36⟩
  · exact List.forall_mem_cons.mpr ⟨⟨_, _, P0, PySem.W.mg_of X G a0, k0, B0, D0⟩, List.forall_mem_cons.mpr ⟨⟨_, _, P1, PySem.W.mg_of X G a1, k1, B1, D1⟩, List.forall_mem_cons.mpr ⟨⟨_, _, P2, PySem.W.mg_of X G a2, k2, B2, D2⟩, List.forall_mem_cons.mpr ⟨⟨_, _, P3, PySem.W.mg_of X G a3, k3, B3, D3⟩, List.forall_mem_cons.mpr ⟨⟨_, _, P4, PySem.W.mg_of X G a4, k4, B4, D4⟩, List.forall_mem_cons.mpr ⟨⟨_, _, P5, PySem.W.mg_of X G a5, k5, B5, D5⟩, List.forall_mem_cons.mpr ⟨⟨_, _, P6, PySem.W.mg_of X G a6, k6, B6, D6⟩, List.forall_mem_cons.mpr ⟨⟨_, _, P7, PySem.W.mg_of X G a7, k7, B7, D7⟩, List.forall_mem_cons.mpr ⟨⟨_, _, P8, PySem.W.mg_of X G a8, k8, B8, D8⟩, List.forall_mem_cons.mpr ⟨⟨_, _, P9, PySem.W.mg_of X G a9, k9, B9, D9⟩, List.forall_mem_cons.mpr ⟨⟨_, _, P10, PySem.W.mg_of X G a10, k10, B10, D10⟩, List.forall_mem_cons.mpr ⟨⟨_, _, P11, PySem.W.mg_of X G a11, k11, B11, D11⟩, List.forall_mem_cons.mpr ⟨⟨_, _, P12, PySem.W.mg_of X G a12, k12, B12, D12⟩, List.forall_mem_cons.mpr ⟨⟨_, _, P13, PySem.W.mg_of X G a13, k13, B13, D13⟩, List.forall_mem_cons.mpr ⟨⟨_, _, P14, PySem.W.mg_of X G a14, k14, B14, D14⟩, List.forall_mem_cons.mpr ⟨⟨_, _, P15, PySem.W.mg_of X G a15, k15, B15, D15⟩, List.forall_mem_cons.mpr ⟨⟨_, _, P16, PySem.W.mg_of X G a16, k16, B16, D16⟩, List.forall_mem_cons.mpr ⟨⟨_, _, P17, PySem.W.mg_of X G a17, k17, B17, D17⟩, List.forall_mem_cons.mpr ⟨⟨_, _, P18, PySem.W.mg_of X G a18, k18, B18, D18⟩, List.forall_mem_cons.mpr ⟨⟨_, _, P19, PySem.W.mg_of X G a19, k19, B19, D19⟩, List.forall_mem_cons.mpr ⟨⟨_, _, P20, PySem.W.mg_of X G a20, k20, B20, D20⟩, List.forall_mem_cons.mpr ⟨⟨_, _, P21, PySem.W.mg_of X G a21, k21, B21, D21⟩, List.forall_mem_cons.mpr ⟨⟨_, _, P22, PySem.W.mg_of X G a22, k22, B22, D22⟩, List.forall_mem_cons.mpr ⟨⟨_, _, P23, PySem.W.mg_of X G a23, k23, B23, D23⟩, List.forall_mem_cons.mpr ⟨⟨_, _, P24, PySem.W.mg_of X G a24, k24, B24, D24⟩, List.forall_mem_cons.mpr ⟨⟨_, _, P25, PySem.W.mg_of X G a25, k25, B25, D25⟩, List.forall_mem_cons.mpr ⟨⟨_, _, P26, PySem.W.mg_of X G a26, k26, B26, D26⟩, List.forall_mem_cons.mpr ⟨⟨_, _, P27, PySem.W.mg_of X G a27, k27, B27, D27⟩, List.forall_mem_cons.mpr ⟨⟨_, _, P28, PySem.W.mg_of X G a28, k28, B28, D28⟩, List.forall_mem_cons.mpr ⟨⟨_, _, P29, PySem.W.mg_of X G a29, k29, B29, D29⟩, List.forall_mem_cons.mpr ⟨⟨_, _, P30, PySem.W.mg_of X G a30, k30, B30, D30⟩, List.forall_mem_cons.mpr ⟨⟨_, _, P31, PySem.W.mg_of X G a31, k31, B31, D31⟩, List.forall_mem_cons.mpr ⟨⟨_, _, P32, PySem.W.mg_of X G a32, k32, B32, D32⟩, List.forall_mem_cons.mpr ⟨⟨_, _, P33, PySem.W.mg_of X G a33, k33, B33, D33⟩, List.forall_mem_cons.mpr ⟨⟨_, _, P34, PySem.W.mg_of X G a34, k34, B34, D34⟩, List.forall_mem_cons.mpr ⟨⟨_, _, P35, PySem.W.mg_of X G a35, k35, B35, D35⟩, List.forall_mem_cons.mpr ⟨⟨_, _, P36, PySem.W.mg_of X G a36, k36, B36, D36⟩, List.forall_mem_cons.mpr ⟨⟨.str "abcdefghijklmnopqrstuvwxyz", _, PySem.W.mg_of X G q0, ⟨_, rfl⟩, fun _ _ => by unfold Rp; rfl⟩, List.forall_mem_cons.mpr ⟨⟨.str " !\"#$&()*+,-./0123456789:<=>?@ABCDEFGHIJKLMNOPQRSTUVWXYZ[\\]^_`abcdefghijklmnopqrstuvwxyz{|}~", _, PySem.W.mg_of X G q1, ⟨_, rfl⟩, fun _ _ => by unfold Rp; rfl⟩, List.forall_mem_cons.mpr ⟨⟨.int 8, _, PySem.W.mg_of X G q2, ⟨_, rfl⟩, fun _ _ => by unfold Rp; rfl⟩, List.forall_mem_cons.mpr ⟨⟨.int 20, _, PySem.W.mg_of X G q3, ⟨_, rfl⟩, fun _ _ => by unfold Rp; rfl⟩, List.forall_mem_cons.mpr ⟨⟨.int 1000000000000, _, PySem.W.mg_of X G q4, ⟨_, rfl⟩, fun _ _ => by unfold Rp; rfl⟩, List.forall_mem_cons.mpr ⟨⟨.str "'", _, PySem.W.mg_of X G q5, ⟨_, rfl⟩, fun _ _ => by unfold Rp; rfl⟩, List.forall_mem_cons.mpr ⟨⟨.str "0123456789", _, PySem.W.mg_of X G q6, ⟨_, rfl⟩, fun _ _ => by unfold Rp; rfl⟩, List.forall_mem_cons.mpr ⟨⟨.int 13, _, PySem.W.mg_of X G q7, ⟨_, rfl⟩, fun _ _ => by unfold Rp; rfl⟩, List.forall_mem_cons.mpr ⟨⟨.ref g8, _, PySem.W.mg_of X G q8, rfl, fun _ _ => by unfold Rp; exact ⟨g8, [.str "=", .str "#", .str "<", .str ">", .str "<=", .str ">="], rfl, ⟨_, _, _, ql8, rfl, rfl, show 6 ≤ sizeLine by decide, (.cons ⟨_, rfl⟩ (.cons ⟨_, rfl⟩ (.cons ⟨_, rfl⟩ (.cons ⟨_, rfl⟩ (.cons ⟨_, rfl⟩ (.cons ⟨_, rfl⟩ .nil))))))⟩, (by unfold Rps; exact ⟨_, _, rfl, by unfold Rp; rfl, (by unfold Rps; exact ⟨_, _, rfl, by unfold Rp; rfl, (by unfold Rps; exact ⟨_, _, rfl, by unfold Rp; rfl, (by unfold Rps; exact ⟨_, _, rfl, by unfold Rp; rfl, (by unfold Rps; exact ⟨_, _, rfl, by unfold Rp; rfl, (by unfold Rps; exact ⟨_, _, rfl, by unfold Rp; rfl, (by unfold Rps; rfl)⟩)⟩)⟩)⟩)⟩)⟩)⟩⟩, List.forall_mem_cons.mpr ⟨⟨.ref g9, _, PySem.W.mg_of X G q9, rfl, fun _ _ => by unfold Rp; exact ⟨g9, [.str "sum", .str "least", .str "most", .str "groups"], rfl, ⟨_, _, _, ql9, rfl, rfl, show 4 ≤ sizeLine by decide, (.cons ⟨_, rfl⟩ (.cons ⟨_, rfl⟩ (.cons ⟨_, rfl⟩ (.cons ⟨_, rfl⟩ .nil))))⟩, (by unfold Rps; exact ⟨_, _, rfl, by unfold Rp; rfl, (by unfold Rps; exact ⟨_, _, rfl, by unfold Rp; rfl, (by unfold Rps; exact ⟨_, _, rfl, by unfold Rp; rfl, (by unfold Rps; exact ⟨_, _, rfl, by unfold Rp; rfl, (by unfold Rps; rfl)⟩)⟩)⟩)⟩)⟩⟩, List.forall_mem_cons.mpr ⟨⟨.int 5, _, PySem.W.mg_of X G q10, ⟨_, rfl⟩, fun _ _ => by unfold Rp; rfl⟩, List.forall_mem_cons.mpr ⟨⟨.int 12, _, PySem.W.mg_of X G q11, ⟨_, rfl⟩, fun _ _ => by unfold Rp; rfl⟩, List.forall_mem_cons.mpr ⟨⟨.int 1000, _, PySem.W.mg_of X G q12, ⟨_, rfl⟩, fun _ _ => by unfold Rp; rfl⟩, List.forall_mem_cons.mpr ⟨⟨X0, _, _, _, _, PySem.F.excBase_ValueError, ea0, PySem.W.mg_of X G e0, ek0, es0, et0, gx0, wx0⟩, List.forall_mem_cons.mpr ⟨⟨X1, _, _, _, _, PySem.F.excBase_ValueError, ea1, PySem.W.mg_of X G e1, ek1, es1, et1, gx1, wx1⟩, List.forall_mem_cons.mpr ⟨⟨X2, _, _, _, _, PySem.F.excBase_ValueError, ea2, PySem.W.mg_of X G e2, ek2, es2, et2, gx2, wx2⟩, List.forall_mem_cons.mpr ⟨⟨Y0, PySem.W.mg_of X G y0, wy0⟩, List.forall_mem_cons.mpr ⟨⟨Y1, PySem.W.mg_of X G y1, wy1⟩, List.forall_mem_cons.mpr ⟨⟨Y2, PySem.W.mg_of X G y2, wy2⟩, List.forall_mem_cons.mpr ⟨⟨Y3, PySem.W.mg_of X G y3, wy3⟩, List.forall_mem_cons.mpr ⟨⟨Y4, PySem.W.mg_of X G y4, wy4⟩, List.forall_mem_cons.mpr ⟨⟨Y5, PySem.W.mg_of X G y5, wy5⟩, List.forall_mem_cons.mpr ⟨⟨Y6, PySem.W.mg_of X G y6, wy6⟩, List.forall_mem_cons.mpr ⟨⟨Y7, PySem.W.mg_of X G y7, wy7⟩, List.forall_mem_cons.mpr ⟨⟨Y8, PySem.W.mg_of X G y8, wy8⟩, List.forall_mem_cons.mpr ⟨⟨PySem.W.mg_none_of X G z21, show bootBuiltins ("ValueError" : Str) = some (.type "ValueError") from by boot_by_name, wb0⟩, fun p hp => absurd hp List.not_mem_nil⟩⟩⟩⟩⟩⟩⟩⟩⟩⟩⟩⟩⟩⟩⟩⟩⟩⟩⟩⟩⟩⟩⟩⟩⟩⟩⟩⟩⟩⟩⟩⟩⟩⟩⟩⟩⟩⟩⟩⟩⟩⟩⟩⟩⟩⟩⟩⟩⟩⟩⟩⟩⟩⟩⟩⟩⟩⟩⟩⟩⟩⟩⟩
  · exact List.forall_mem_cons.mpr ⟨PySem.W.mg_none_of X G z0, List.forall_mem_cons.mpr ⟨PySem.W.mg_none_of X G z1, List.forall_mem_cons.mpr ⟨PySem.W.mg_none_of X G z2, List.forall_mem_cons.mpr ⟨PySem.W.mg_none_of X G z3, List.forall_mem_cons.mpr ⟨PySem.W.mg_none_of X G z4, List.forall_mem_cons.mpr ⟨PySem.W.mg_none_of X G z5, List.forall_mem_cons.mpr ⟨PySem.W.mg_none_of X G z6, List.forall_mem_cons.mpr ⟨PySem.W.mg_none_of X G z7, List.forall_mem_cons.mpr ⟨PySem.W.mg_none_of X G z8, List.forall_mem_cons.mpr ⟨PySem.W.mg_none_of X G z9, List.forall_mem_cons.mpr ⟨PySem.W.mg_none_of X G z10, List.forall_mem_cons.mpr ⟨PySem.W.mg_none_of X G z11, List.forall_mem_cons.mpr ⟨PySem.W.mg_none_of X G z12, List.forall_mem_cons.mpr ⟨PySem.W.mg_none_of X G z13, List.forall_mem_cons.mpr ⟨PySem.W.mg_none_of X G z14, List.forall_mem_cons.mpr ⟨PySem.W.mg_none_of X G z15, List.forall_mem_cons.mpr ⟨PySem.W.mg_none_of X G z16, List.forall_mem_cons.mpr ⟨PySem.W.mg_none_of X G z17, List.forall_mem_cons.mpr ⟨PySem.W.mg_none_of X G z18, List.forall_mem_cons.mpr ⟨PySem.W.mg_none_of X G z19, List.forall_mem_cons.mpr ⟨PySem.W.mg_none_of X G z20, fun p hp => absurd hp List.not_mem_nil⟩⟩⟩⟩⟩⟩⟩⟩⟩⟩⟩⟩⟩⟩⟩⟩⟩⟩⟩⟩⟩
end Mi.L
open PySem PySem.W PyProof.Rows
set_option maxRecDepth 100000 in
set_option maxHeartbeats 0 in
theorem PySem.Challenge.cw_papervault_k87_steps_refused_holds : PySem.Challenge.rw_papervault_k87_steps_refused.Holds := by
  w_on; o_law; k_head; (case hw => w_witness2)
  k_fill
  refine Mi.walk_mi (l := PySem.Challenge.rw_papervault_k87_steps_refused) (n := 63) (k := 40) (i := 36) (tab := Mi.L.tab) (gl := Mi.L.glT) (xs := Mi.L.exT) (x := "script") (y := "law") rfl (by decide) rfl ⟨rfl, by decide, by decide⟩ (fun w h Y => PySem.W.kIn_of Y) ?F ?L
  case F =>
    intro w mg fa h KX G hmg
    refine' Mi.L.top_ok KX G hmg ?a0 ?l0 ?c0 ?k0 ?a1 ?l1 ?c1 ?k1 ?a2 ?l2 ?c2 ?k2 ?a3 ?l3 ?c3 ?k3 ?a4 ?l4 ?c4 ?k4 ?a5 ?l5 ?c5 ?k5 ?a6 ?l6 ?c6 ?k6 ?a7 ?l7 ?c7 ?k7 ?a8 ?l8 ?c8 ?k8 ?a9 ?l9 ?c9 ?k9 ?a10 ?l10 ?c10 ?k10 ?a11 ?l11 ?c11 ?k11 ?a12 ?l12 ?c12 ?k12 ?a13 ?l13 ?c13 ?k13 ?a14 ?l14 ?c14 ?k14 ?a15 ?l15 ?c15 ?k15 ?a16 ?l16 ?c16 ?k16 ?a17 ?l17 ?c17 ?k17 ?a18 ?l18 ?c18 ?k18 ?a19 ?l19 ?c19 ?k19 ?a20 ?l20 ?c20 ?k20 ?a21 ?l21 ?c21 ?k21 ?a22 ?l22 ?c22 ?k22 ?a23 ?l23 ?c23 ?k23 ?a24 ?l24 ?c24 ?k24 ?a25 ?l25 ?c25 ?k25 ?a26 ?l26 ?c26 ?k26 ?a27 ?l27 ?c27 ?k27 ?a28 ?l28 ?c28 ?k28 ?a29 ?l29 ?c29 ?k29 ?a30 ?l30 ?c30 ?k30 ?a31 ?l31 ?c31 ?k31 ?a32 ?l32 ?c32 ?k32 ?a33 ?l33 ?c33 ?k33 ?a34 ?l34 ?c34 ?k34 ?a35 ?l35 ?c35 ?k35 ?a36 ?l36 ?c36 ?k36 ?q0 ?q1 ?q2 ?q3 ?q4 ?q5 ?q6 ?q7 ?q8 ?ql8 ?q9 ?ql9 ?q10 ?q11 ?q12 ?e0 ?ea0 ?ek0 ?es0 ?et0 ?eh0 ?e1 ?ea1 ?ek1 ?es1 ?et1 ?eh1 ?e2 ?ea2 ?ek2 ?es2 ?et2 ?eh2 ?y0 ?ys0 ?yt0 ?yh0 ?y1 ?ys1 ?yt1 ?yh1 ?y2 ?ys2 ?yt2 ?yh2 ?y3 ?ys3 ?yt3 ?yh3 ?y4 ?ys4 ?yt4 ?yh4 ?y5 ?ys5 ?yt5 ?yh5 ?y6 ?ys6 ?yt6 ?yh6 ?y7 ?ys7 ?yt7 ?yh7 ?y8 ?ys8 ?yt8 ?yh8 ?u0 ?ua0 ?ub0 ?uc0 ?ud0 ?u1 ?ua1 ?ub1 ?uc1 ?ud1 ?uu ?ut ?xx0_0 ?xx0_1 ?xx1_0 ?xx1_1 ?xx2_0 ?xx2_1 ?yy0_0 ?yy0_1 ?yy1_0 ?yy1_1 ?yy2_0 ?yy2_1 ?yy3_0 ?yy3_1 ?yy4_0 ?yy4_1 ?yy5_0 ?yy5_1 ?yy6_0 ?yy6_1 ?yy7_0 ?yy7_1 ?yy8_0 ?yy8_1 ?bb0_0 ?bb0_1 ?z0 ?z1 ?z2 ?z3 ?z4 ?z5 ?z6 ?z7 ?z8 ?z9 ?z10 ?z11 ?z12 ?z13 ?z14 ?z15 ?z16 ?z17 ?z18 ?z19 ?z20 ?z21
    (case a0 => k_is); (case l0 => k_is); (case c0 => k_is); (case k0 => k_is)
    (case a1 => k_is); (case l1 => k_is); (case c1 => k_is); (case k1 => k_is)
    (case a2 => k_is); (case l2 => k_is); (case c2 => k_is); (case k2 => k_is)
    (case a3 => k_is); (case l3 => k_is); (case c3 => k_is); (case k3 => k_is)
    (case a4 => k_is); (case l4 => k_is); (case c4 => k_is); (case k4 => k_is)
    (case a5 => k_is); (case l5 => k_is); (case c5 => k_is); (case k5 => k_is)
    (case a6 => k_is); (case l6 => k_is); (case c6 => k_is); (case k6 => k_is)
    (case a7 => k_is); (case l7 => k_is); (case c7 => k_is); (case k7 => k_is)
    (case a8 => k_is); (case l8 => k_is); (case c8 => k_is); (case k8 => k_is)
    (case a9 => k_is); (case l9 => k_is); (case c9 => k_is); (case k9 => k_is)
    (case a10 => k_is); (case l10 => k_is); (case c10 => k_is); (case k10 => k_is)
    (case a11 => k_is); (case l11 => k_is); (case c11 => k_is); (case k11 => k_is)
    (case a12 => k_is); (case l12 => k_is); (case c12 => k_is); (case k12 => k_is)
    (case a13 => k_is); (case l13 => k_is); (case c13 => k_is); (case k13 => k_is)
    (case a14 => k_is); (case l14 => k_is); (case c14 => k_is); (case k14 => k_is)
    (case a15 => k_is); (case l15 => k_is); (case c15 => k_is); (case k15 => k_is)
    (case a16 => k_is); (case l16 => k_is); (case c16 => k_is); (case k16 => k_is)
    (case a17 => k_is); (case l17 => k_is); (case c17 => k_is); (case k17 => k_is)
    (case a18 => k_is); (case l18 => k_is); (case c18 => k_is); (case k18 => k_is)
    (case a19 => k_is); (case l19 => k_is); (case c19 => k_is); (case k19 => k_is)
    (case a20 => k_is); (case l20 => k_is); (case c20 => k_is); (case k20 => k_is)
    (case a21 => k_is); (case l21 => k_is); (case c21 => k_is); (case k21 => k_is)
    (case a22 => k_is); (case l22 => k_is); (case c22 => k_is); (case k22 => k_is)
    (case a23 => k_is); (case l23 => k_is); (case c23 => k_is); (case k23 => k_is)
    (case a24 => k_is); (case l24 => k_is); (case c24 => k_is); (case k24 => k_is)
    (case a25 => k_is); (case l25 => k_is); (case c25 => k_is); (case k25 => k_is)
    (case a26 => k_is); (case l26 => k_is); (case c26 => k_is); (case k26 => k_is)
    (case a27 => k_is); (case l27 => k_is); (case c27 => k_is); (case k27 => k_is)
    (case a28 => k_is); (case l28 => k_is); (case c28 => k_is); (case k28 => k_is)
    (case a29 => k_is); (case l29 => k_is); (case c29 => k_is); (case k29 => k_is)
    (case a30 => k_is); (case l30 => k_is); (case c30 => k_is); (case k30 => k_is)
    (case a31 => k_is); (case l31 => k_is); (case c31 => k_is); (case k31 => k_is)
    (case a32 => k_is); (case l32 => k_is); (case c32 => k_is); (case k32 => k_is)
    (case a33 => k_is); (case l33 => k_is); (case c33 => k_is); (case k33 => k_is)
    (case a34 => k_is); (case l34 => k_is); (case c34 => k_is); (case k34 => k_is)
    (case a35 => k_is); (case l35 => k_is); (case c35 => k_is); (case k35 => k_is)
    (case a36 => k_is); (case l36 => k_is); (case c36 => k_is); (case k36 => k_is)
    (case q0 => k_is)
    (case q1 => k_is)
    (case q2 => k_is)
    (case q3 => k_is)
    (case q4 => k_is)
    (case q5 => k_is)
    (case q6 => k_is)
    (case q7 => k_is)
    (case q8 => k_is); (case ql8 => k_is)
    (case q9 => k_is); (case ql9 => k_is)
    (case q10 => k_is)
    (case q11 => k_is)
    (case q12 => k_is)
    (case e0 => k_is); (case ea0 => k_exc); (case ek0 => k_is); (case es0 => k_is); (case et0 => k_is); (case eh0 => k_is)
    (case e1 => k_is); (case ea1 => k_exc); (case ek1 => k_is); (case es1 => k_is); (case et1 => k_is); (case eh1 => k_is)
    (case e2 => k_is); (case ea2 => k_exc); (case ek2 => k_is); (case es2 => k_is); (case et2 => k_is); (case eh2 => k_is)
    (case y0 => k_is); (case ys0 => k_is); (case yt0 => k_is); (case yh0 => k_is)
    (case y1 => k_is); (case ys1 => k_is); (case yt1 => k_is); (case yh1 => k_is)
    (case y2 => k_is); (case ys2 => k_is); (case yt2 => k_is); (case yh2 => k_is)
    (case y3 => k_is); (case ys3 => k_is); (case yt3 => k_is); (case yh3 => k_is)
    (case y4 => k_is); (case ys4 => k_is); (case yt4 => k_is); (case yh4 => k_is)
    (case y5 => k_is); (case ys5 => k_is); (case yt5 => k_is); (case yh5 => k_is)
    (case y6 => k_is); (case ys6 => k_is); (case yt6 => k_is); (case yh6 => k_is)
    (case y7 => k_is); (case ys7 => k_is); (case yt7 => k_is); (case yh7 => k_is)
    (case y8 => k_is); (case ys8 => k_is); (case yt8 => k_is); (case yh8 => k_is)
    (case u0 => k_is); (case ua0 => k_is); (case ub0 => k_is); (case uc0 => k_is); (case ud0 => k_is)
    (case u1 => k_is); (case ua1 => k_is); (case ub1 => k_is); (case uc1 => k_is); (case ud1 => k_is)
    (case uu => k_is); (case ut => k_is)
    (case xx0_0 => k_is)
    (case xx0_1 => k_is)
    (case xx1_0 => k_is)
    (case xx1_1 => k_is)
    (case xx2_0 => k_is)
    (case xx2_1 => k_is)
    (case yy0_0 => k_is)
    (case yy0_1 => k_is)
    (case yy1_0 => k_is)
    (case yy1_1 => k_is)
    (case yy2_0 => k_is)
    (case yy2_1 => k_is)
    (case yy3_0 => k_is)
    (case yy3_1 => k_is)
    (case yy4_0 => k_is)
    (case yy4_1 => k_is)
    (case yy5_0 => k_is)
    (case yy5_1 => k_is)
    (case yy6_0 => k_is)
    (case yy6_1 => k_is)
    (case yy7_0 => k_is)
    (case yy7_1 => k_is)
    (case yy8_0 => k_is)
    (case yy8_1 => k_is)
    (case bb0_0 => k_is)
    (case bb0_1 => k_is)
    (case z0 => k_is)
    (case z1 => k_is)
    (case z2 => k_is)
    (case z3 => k_is)
    (case z4 => k_is)
    (case z5 => k_is)
    (case z6 => k_is)
    (case z7 => k_is)
    (case z8 => k_is)
    (case z9 => k_is)
    (case z10 => k_is)
    (case z11 => k_is)
    (case z12 => k_is)
    (case z13 => k_is)
    (case z14 => k_is)
    (case z15 => k_is)
    (case z16 => k_is)
    (case z17 => k_is)
    (case z18 => k_is)
    (case z19 => k_is)
    (case z20 => k_is)
    (case z21 => k_is)
  case L => exact fun ns hl => Mi.L.law87 ns hl

