import PyProof.Rows.All
import Wide.All
import OpenK.AllK
import Wide.FinOn
import HandS.ForMost
import HandS.ForExc
import KE.SortData
import KE.KDictKeyed
import HandS.TupAny
import HandS.TupMul
import HandS.Wide
import KE.KDictCopyH
import HandS.IsInst
import KE.GoesNew
import KE.GoesEnum
import HandS.Style
import HandS.WordsExc
import HandS.ExcOwn
import HandS.EndBits
import PySem.Challenge.RW_thinsums_k01_tables
set_option Elab.async false
set_option linter.all false
set_option maxRecDepth 100000
namespace DL
open PySem

/-- a value told by its content: what never changes stands in it whole, what may change is a place of the store -/
inductive AV where
  | non | bl (b : Bool) | int (i : Int) | str (x : Str)
  | tup (xs : List AV) | lst (xs : List AV) | dct (kvs : List (AV × AV))
  | ref (l : Nat) | gl (k : Nat) | scr (xs : List AV)
  deriving Inhabited

mutual
def AV.pd : AV → PyData
  | .non => .none
  | .bl b => .bool b
  | .int i => .int i
  | .str x => .str x
  | .tup xs => .tuple (AV.pds xs)
  | .lst xs => .list (AV.pds xs)
  | .dct _ => .dict []
  | .ref _ => .dict []
  | .gl _ => .dict []
  | .scr _ => .dict []
def AV.pds : List AV → List PyData
  | [] => []
  | x :: xs => x.pd :: AV.pds xs
end
theorem AV.pds_eq : ∀ xs : List AV, AV.pds xs = xs.map AV.pd
  | [] => by simp [AV.pds]
  | x :: xs => by simp [AV.pds, AV.pds_eq xs]

mutual
/-- no place of the store from n on is told in it -/
def AV.rb (n : Nat) : AV → Bool
  | .non => true
  | .bl _ => true
  | .int _ => true
  | .str _ => true
  | .tup xs => AV.rbs n xs
  | .lst xs => AV.rbs n xs
  | .dct kvs => AV.rbd n kvs
  | .ref l => decide (l < n)
  | .gl _ => true
  | .scr xs => AV.rbs n xs
def AV.rbs (n : Nat) : List AV → Bool
  | [] => true
  | x :: xs => x.rb n && AV.rbs n xs
def AV.rbd (n : Nat) : List (AV × AV) → Bool
  | [] => true
  | (k, v) :: r => k.rb n && v.rb n && AV.rbd n r
end

/-- what stands at a place of the store -/
inductive AO where
  | lst (xs : List AV) | dct (kvs : List (AV × AV)) | ins (c : Nat) (fs : List (Nat × AV)) | fz (a : AV)
abbrev Store := List AO
abbrev Env := List (Option AV)
/-- an expression's value: one that others may know, or a new list or dict that nobody knows -/
inductive RV where
  | v (a : AV) | l (xs : List AV) | d (kvs : List (AV × AV))
def RV.av : RV → AV
  | .v a => a
  | .l xs => .lst xs
  | .d kvs => .dct kvs
inductive Res (α : Type) where
  | ok (a : α) (S : Store) | exc (c : Nat) (S : Store) | stop
def Res.bnd {α β : Type} : Res α → (α → Store → Res β) → Res β
  | .ok a S, f => f a S
  | .exc c S, _ => .exc c S
  | .stop, _ => .stop
theorem bnd_ok {α β : Type} (a : α) (S : Store) (f : α → Store → Res β) : (Res.ok a S).bnd f = f a S := rfl
theorem bnd_exc {α β : Type} (c : Nat) (S : Store) (f : α → Store → Res β) : (Res.exc c S).bnd f = .exc c S := rfl
theorem bnd_stop {α β : Type} (f : α → Store → Res β) : (Res.stop : Res α).bnd f = .stop := rfl
def ofOpt {α : Type} (o : Option α) (S : Store) : Res α := match o with
  | some a => .ok a S
  | none => .stop

/-! ### what values are -/
def AO.av? : AO → Option AV
  | .lst xs => some (.lst xs)
  | .dct kvs => some (.dct kvs)
  | .fz a => some a
  | .ins _ _ => none
/-- a place's content as a value (one step) -/
def AV.look (S : Store) : AV → Option AV
  | .ref l => S[l]?.bind AO.av?
  | .scr xs => some (.lst xs)
  | a => some a
def AV.listOf (S : Store) (a : AV) : Option (List AV) := match a.look S with
  | some (.lst xs) => some xs
  | _ => none
/-- a list that is no script -/
def AV.listX (S : Store) (a : AV) : Option (List AV) := match a with
  | .lst xs => some xs
  | .ref l => match S[l]? with
    | some (.lst xs) => some xs
    | some (.fz (.lst xs)) => some xs
    | _ => none
  | _ => none
def AV.seqOf (S : Store) (a : AV) : Option (List AV) := match a.look S with
  | some (.lst xs) => some xs
  | some (.tup xs) => some xs
  | _ => none
def AV.dctOf (S : Store) (a : AV) : Option (List (AV × AV)) := match a.look S with
  | some (.dct kvs) => some kvs
  | _ => none

inductive Ty where | int | bool | str | tuple | list | dict
  deriving DecidableEq
def AV.isTy : AV → Ty → Option Bool
  | .non, _ => some false
  | .bl _, .bool => some true
  | .bl _, .int => some true
  | .bl _, _ => some false
  | .int _, .int => some true
  | .int _, _ => some false
  | .str _, .str => some true
  | .str _, _ => some false
  | .tup _, .tuple => some true
  | .tup _, _ => some false
  | .lst _, .list => some true
  | .lst _, _ => some false
  | .dct _, .dict => some true
  | .dct _, _ => some false
  | .ref _, _ => none
  | .gl _, _ => none
  | .scr _, .list => some true
  | .scr _, _ => some false
def isTy (S : Store) (a : AV) (t : Ty) : Option Bool := (a.look S).bind fun b => b.isTy t

mutual
/-- no place, no def, no dict in it -/
def AV.plain : AV → Bool
  | .non => true
  | .bl _ => true
  | .int _ => true
  | .str _ => true
  | .tup xs => AV.plains xs
  | .lst xs => AV.plains xs
  | .dct _ => false
  | .ref _ => false
  | .gl _ => false
  | .scr _ => false
def AV.plains : List AV → Bool
  | [] => true
  | x :: xs => x.plain && AV.plains xs
end
def AV.eqv (a b : AV) : Bool := PyData.eqv a.pd b.pd
/-- may be held against others by == -/
def AV.cmpOk (a : AV) : Bool := a.plain && SeqAt.shaped a.pd

mutual
def AV.keyT : AV → Option NestedKey
  | .non => some .none
  | .bl b => some (.num (if b then 1 else 0))
  | .int i => some (.num i)
  | .str x => some (.text x)
  | .tup xs => (AV.keyTs xs).map .tup
  | .lst _ => none
  | .dct _ => none
  | .ref _ => none
  | .gl _ => none
  | .scr _ => none
def AV.keyTs : List AV → Option (List NestedKey)
  | [] => some []
  | x :: xs => x.keyT.bind fun k => (AV.keyTs xs).map fun ks => k :: ks
end

/-! ### dicts -/
def AV.isTup : AV → Bool
  | .tup _ => true
  | _ => false
def AV.keq (a b : AV) : Bool := decide (a.keyT = b.keyT)
def dget (kvs : List (AV × AV)) (k : AV) : Option AV := (kvs.find? fun p => p.1.keq k).map (·.2)
def dput (kvs : List (AV × AV)) (k v : AV) : List (AV × AV) :=
  if kvs.any fun p => p.1.keq k then kvs.map fun p => if p.1.keq k then (p.1, v) else p else kvs ++ [(k, v)]
def ddel (kvs : List (AV × AV)) (k : AV) : List (AV × AV) := kvs.filter fun p => !p.1.keq k
/-- a text or a whole number as a key; a tuple as a key -/
def AV.keyL : AV → Bool
  | .int _ => true
  | .str _ => true
  | _ => false
def AV.keyD (a : AV) : Bool := match a.keyT with
  | some k => a.isTup && decide (k.depth ≤ 8)
  | none => false
/-- the key may be asked in this dict -/
def keyOk (kvs : List (AV × AV)) (k : AV) : Bool :=
  (k.keyL && kvs.all fun p => p.1.keyL) || (k.keyD && kvs.all fun p => p.1.keyD)

/-- what a display puts in, from the left: key, value, key, value .. -/
def dputs : List (AV × AV) → List AV → Option (List (AV × AV))
  | acc, [] => some acc
  | _, [_] => none
  | acc, k :: v :: r => if keyOk acc k then dputs (dput acc k v) r else none

/-! ### operators -/
inductive BOp where | add | sub | mul | fdiv | mod | pow
  deriving DecidableEq
inductive COp where | eq | ne | lt | le | gt | ge | is | isnot | isin | notin
  deriving DecidableEq
def line : Nat := sizeLine
open Classical in
noncomputable def opAdd (x y : AV) (S : Store) : Res RV :=
  match x, y with
  | .int i, .int j => .ok (.v (.int (i + j))) S
  | .str i, .str j => if i.length + j.length ≤ line then .ok (.v (.str (i ++ j))) S else .stop
  | .tup xs, .tup ys => if xs.length + ys.length ≤ line then .ok (.v (.tup (xs ++ ys))) S else .stop
  | x, y => match x.listX S, y.listX S with
    | some xs, some ys => if xs.length + ys.length ≤ line then .ok (.l (xs ++ ys)) S else .stop
    | _, _ => .stop
def opSub (x y : AV) (S : Store) : Res RV :=
  match x, y with
  | .int i, .int j => .ok (.v (.int (i - j))) S
  | _, _ => .stop
open Classical in
noncomputable def opMul (x y : AV) (S : Store) : Res RV :=
  match x, y with
  | .int i, .int j => if L2.CMul i j ∨ (i.natAbs < 2 ^ 500000 ∧ j.natAbs < 2 ^ 400000) then .ok (.v (.int (i * j))) S else .stop
  | .tup xs, .int j => if xs ≠ [] ∧ 2 ≤ j ∧ j ≤ 1000 ∧ xs.length ≤ 1000 then .ok (.v (.tup (List.replicate j.toNat xs).flatten)) S else .stop
  | x, .int j => match x.listX S with
    | some xs => if 0 ≤ j ∧ j < 1000 ∧ xs.length * j.toNat ≤ line then .ok (.l (List.replicate j.toNat xs).flatten) S else .stop
    | none => .stop
  | _, _ => .stop
open Classical in
noncomputable def opDiv (x y : AV) (S : Store) : Res RV :=
  match x, y with
  | .int i, .int j => if 0 < j ∧ j < 1073741824 then .ok (.v (.int (i / j))) S else .stop
  | _, _ => .stop
open Classical in
noncomputable def opMod (x y : AV) (S : Store) : Res RV :=
  match x, y with
  | .int i, .int j => if 0 < j then .ok (.v (.int (i % j))) S else .stop
  | _, _ => .stop
open Classical in
noncomputable def opPow (x y : AV) (S : Store) : Res RV :=
  match x, y with
  | .int i, .int j => if 0 ≤ j ∧ j ≤ 1000000 ∧ i.natAbs < 2 ^ 64 then .ok (.v (.int (i ^ j.toNat))) S else .stop
  | _, _ => .stop
noncomputable def opBin : BOp → AV → AV → Store → Res RV
  | .add => opAdd
  | .sub => opSub
  | .mul => opMul
  | .fdiv => opDiv
  | .mod => opMod
  | .pow => opPow
open Classical in
/-- x op= y: whole numbers only -/
noncomputable def opAug (o : BOp) (x y : AV) : Option Int :=
  match x, y with
  | .int i, .int j => match o with
    | .add => some (i + j)
    | .sub => some (i - j)
    | .mul => if L2.CMul i j ∨ (i.natAbs < 2 ^ 500000 ∧ j.natAbs < 2 ^ 400000) then some (i * j) else none
    | _ => none
  | _, _ => none
/-- == of two values, one step looked up -/
def eqOp (x y : AV) (S : Store) : Option Bool :=
  match x.look S, y.look S with
  | some a, some b => if a.cmpOk && b.cmpOk then some (a.eqv b) else none
  | _, _ => none
def isOp (x y : AV) : Option Bool :=
  match y with
  | .non => match x with
    | .non => some true
    | .gl _ => none
    | _ => some false
  | .bl b => match x with
    | .bl c => some (c == b)
    | .gl _ => none
    | _ => some false
  | _ => none
def inOp (x y : AV) (S : Store) : Option Bool :=
  match y.look S with
  | some (.tup ys) => if x.cmpOk && (AV.tup ys).cmpOk then some (ys.any fun y => y.eqv x) else none
  | some (.lst ys) => if x.cmpOk && (AV.lst ys).cmpOk then some (ys.any fun y => y.eqv x) else none
  | some (.dct kvs) => if keyOk kvs x then some (dget kvs x).isSome else none
  | some (.str z) => match x with
    | .str c => if z.length ≤ line then some (!(Builtin.Str.occurrences z c 0 z.length 1).isEmpty) else none
    | _ => none
  | _ => none
def ltOp (x y : AV) : Option Bool := match x, y with
  | .int i, .int j => some (decide (i < j))
  | _, _ => none
def leOp (x y : AV) : Option Bool := match x, y with
  | .int i, .int j => some (decide (i ≤ j))
  | _, _ => none
def opCmp (o : COp) (x y : AV) (S : Store) : Option Bool :=
  match o with
  | .eq => eqOp x y S
  | .ne => (eqOp x y S).map (!·)
  | .lt => ltOp x y
  | .le => leOp x y
  | .gt => ltOp y x
  | .ge => leOp y x
  | .is => isOp x y
  | .isnot => (isOp x y).map (!·)
  | .isin => inOp x y S
  | .notin => (inOp x y S).map (!·)
def RV.bool? : RV → Option Bool
  | .v (.bl b) => some b
  | _ => none

/-! ### built-in functions -/
inductive BI where | len | all | any | sum | tuple | list | sorted | srtset | lenset | min | max | abs | int | str | dict | lrange | dzip
  deriving DecidableEq
def AV.bools : List AV → Option (List Bool)
  | [] => some []
  | .bl b :: r => (AV.bools r).map (b :: ·)
  | _ :: _ => none
def AV.ints : List AV → Option (List Int)
  | [] => some []
  | .int b :: r => (AV.ints r).map (b :: ·)
  | _ :: _ => none
def lenOf (S : Store) (a : AV) : Option Nat := match a.look S with
  | some (.lst xs) => some xs.length
  | some (.tup xs) => some xs.length
  | some (.dct kvs) => some kvs.length
  | some (.str x) => if x.length ≤ line then some x.length else none
  | _ => none
/-- may be sorted -/
def sortOk (xs : List AV) : Prop := xs.length ≤ line ∧ (∀ x ∈ xs, x.plain = true ∧ x.pd.depth ≤ 64) ∧ PySem.W.AllAlike (xs.map AV.pd) ∧ PySem.W.Sortable (xs.map AV.pd)
def sortAV (xs : List AV) : List AV := xs.mergeSort (PySem.W.dataLe false AV.pd)
def biLen (S : Store) : List AV → Res RV
  | [a] => match lenOf S a with
    | some n => .ok (.v (.int n)) S
    | none => .stop
  | _ => .stop
def biAll (S : Store) : List AV → Res RV
  | [a] => match (a.listOf S).bind AV.bools with
    | some bs => .ok (.v (.bl (bs.all id))) S
    | none => .stop
  | _ => .stop
def biAny (S : Store) : List AV → Res RV
  | [a] => match (a.listOf S).bind AV.bools with
    | some bs => .ok (.v (.bl (bs.any id))) S
    | none => .stop
  | _ => .stop
def biSum (S : Store) : List AV → Res RV
  | [a] => match (a.listOf S).bind AV.ints with
    | some ns => .ok (.v (.int ns.sum)) S
    | none => .stop
  | _ => .stop
def biTuple (S : Store) : List AV → Res RV
  | [a] => match a.seqOf S with
    | some xs => .ok (.v (.tup xs)) S
    | none => .stop
  | _ => .stop
def biList (S : Store) : List AV → Res RV
  | [a] => match a.seqOf S with
    | some xs => .ok (.l xs) S
    | none => match a.dctOf S with
      | some kvs => .ok (.l (kvs.map (·.1))) S
      | none => .stop
  | _ => .stop
open Classical in
noncomputable def biSorted (S : Store) : List AV → Res RV
  | [a] => match a.listOf S with
    | some xs => if sortOk xs then .ok (.l (sortAV xs)) S else .stop
    | none => .stop
  | _ => .stop
def biLrange (S : Store) : List AV → Res RV
  | [.int n] => if n ≤ 1000000 ∧ -1000000 ≤ n then .ok (.l ((List.range n.toNat).map fun (i : Nat) => AV.int i)) S else .stop
  | _ => .stop
noncomputable def biCall (f : BI) (args : List AV) (S : Store) : Res RV :=
  match f with
  | .len => biLen S args
  | .all => biAll S args
  | .any => biAny S args
  | .sum => biSum S args
  | .tuple => biTuple S args
  | .list => biList S args
  | .sorted => biSorted S args
  | .lrange => biLrange S args
  | _ => .stop

/-! ### methods of lists, tuples, dicts, texts -/
inductive MI where | append | extend | pop | popat | clear | index | count | get1 | get2 | setdefault | update | join | split | partition
  deriving DecidableEq
def Store.lstAt (S : Store) (l : Nat) : Option (List AV) := match S[l]? with
  | some (.lst xs) => some xs
  | _ => none
def Store.dctAt (S : Store) (l : Nat) : Option (List (AV × AV)) := match S[l]? with
  | some (.dct kvs) => some kvs
  | _ => none
open Classical in
noncomputable def miAppend (o : AV) (args : List AV) (S : Store) : Res RV :=
  match o, args with
  | .ref l, [a] => match S.lstAt l with
    | some xs => if xs.length < line then .ok (.v .non) (S.set l (.lst (xs ++ [a]))) else .stop
    | none => .stop
  | _, _ => .stop
open Classical in
noncomputable def miExtend (o : AV) (args : List AV) (S : Store) : Res RV :=
  match o, args with
  | .ref l, [a] => match S.lstAt l, a.listX S with
    | some xs, some ys => if xs.length + ys.length ≤ line then .ok (.v .non) (S.set l (.lst (xs ++ ys))) else .stop
    | _, _ => .stop
  | _, _ => .stop
open Classical in
noncomputable def miPopAt (o : AV) (args : List AV) (S : Store) : Res RV :=
  match o, args with
  | .ref l, [.int i] => match S.lstAt l with
    | some xs => if 0 ≤ i ∧ i < 1000000 then match xs[i.toNat]? with
      | some y => .ok (.v y) (S.set l (.lst (xs.eraseIdx i.toNat)))
      | none => .stop
      else .stop
    | none => .stop
  | _, _ => .stop
def miGet2 (o : AV) (args : List AV) (S : Store) : Res RV :=
  match args with
  | [k, x] => match o.dctOf S with
    | some kvs => if keyOk kvs k then .ok (.v ((dget kvs k).getD x)) S else .stop
    | none => .stop
  | _ => .stop
def miGet1 (o : AV) (args : List AV) (S : Store) : Res RV :=
  match args with
  | [k] => match o.dctOf S with
    | some kvs => if keyOk kvs k then .ok (.v ((dget kvs k).getD .non)) S else .stop
    | none => .stop
  | _ => .stop
inductive Kd where | list | tuple | dict | str
  deriving DecidableEq
def kindOf (S : Store) (a : AV) : Option Kd := match a.look S with
  | some (.lst _) => some .list
  | some (.tup _) => some .tuple
  | some (.dct _) => some .dict
  | some (.str _) => some .str
  | _ => none
def miHas : Kd → MI → Bool
  | .list, .append => true
  | .list, .extend => true
  | .list, .popat => true
  | .dict, .get1 => true
  | .dict, .get2 => true
  | _, _ => false
noncomputable def miCall (k : Kd) (m : MI) (o : AV) (args : List AV) (S : Store) : Res RV :=
  match k, m with
  | .list, .append => miAppend o args S
  | .list, .extend => miExtend o args S
  | .list, .popat => miPopAt o args S
  | .dict, .get2 => miGet2 o args S
  | .dict, .get1 => miGet1 o args S
  | _, _ => .stop

/-! ### subscripts -/
def subOp (o i : AV) (S : Store) : Option AV := match o.look S with
  | some (.lst xs) => match i with
    | .int i => L2.atI xs i
    | _ => none
  | some (.tup xs) => match i with
    | .int i => L2.atI xs i
    | _ => none
  | some (.dct kvs) => if keyOk kvs i then dget kvs i else none
  | _ => none
open Classical in
noncomputable def subSet (o i v : AV) (S : Store) : Option Store := match o with
  | .ref l => match S[l]? with
    | some (.lst xs) => match i with
      | .int i => (L2.ixN xs.length i).map fun k => S.set l (.lst (xs.set k v))
      | _ => none
    | some (.dct kvs) => if keyOk kvs i = true ∧ kvs.length < line then some (S.set l (.dct (dput kvs i v))) else none
    | _ => none
  | _ => none

/-! ### the syntax that is run -/
inductive Tg where
  | var (i : Nat) | nil | cons (a as : Tg) | tup (as : Tg)
inductive Ex where
  | var (i : Nat) | cst (a : AV) | bin (o : BOp) (a b : Ex) | neg (a : Ex) | nt (a : Ex) | and (a b : Ex) | or (a b : Ex)
  | cmp (o : COp) (a b : Ex) | chain (o p : COp) (a b c : Ex) | ite (c a b : Ex) | tup (es : Ex) | lst (es : Ex) | dic (kvs : Ex)
  | nil | cons (a as : Ex) | sub (a i : Ex) | bi (f : BI) (args : Ex) | isi (a : Ex) (t : Ty) | call (f : Nat) (args : Ex)
  | mt (m : MI) (o args : Ex) | bx (a : Ex)
  | rng (a : Ex) | rng2 (a b : Ex) | zip (a b : Ex) | vals (a : Ex)
  | comp (own : List Nat) (tg : Tg) (it c e : Ex)
  | comp2 (own own1 : List Nat) (tg : Tg) (it : Ex) (tg1 : Tg) (it1 c e : Ex)
inductive Sm where
  | pass | seq (a b : Sm) | exp (e : Ex) | asg (tg : Tg) (e : Ex) | sset (o i e : Ex) | aug (i : Nat) (o : BOp) (e : Ex) | saug (o i : Ex) (op : BOp) (e : Ex)
  | ifs (c : Ex) (a b : Sm) | for_ (tg : Tg) (it : Ex) (b : Sm) | whl (c : Ex) (b : Sm) | ret (e : Ex) | raise (c : Nat)

/-! ### what is walked alone -/
open Classical in
noncomputable def rngOp (x : AV) (S : Store) : Res RV := match x with
  | .int n => if n < 1000000 ∧ -1000000 < n then .ok (.l ((List.range n.toNat).map fun (i : Nat) => AV.int i)) S else .stop
  | _ => .stop
open Classical in
noncomputable def rngOp2 (x y : AV) (S : Store) : Res RV := match x, y with
  | .int m, .int n => if n < 1000000 ∧ -1000000 < n ∧ m < 1000000 ∧ -1000000 < m then .ok (.l ((List.range (n - m).toNat).map fun (i : Nat) => AV.int (m + i))) S else .stop
  | _, _ => .stop
/-- a sequence that never changes -/
def AV.fixed : AV → Option (List AV)
  | .tup xs => some xs
  | .lst xs => some xs
  | _ => none
def zipOp (x y : AV) (S : Store) : Res RV := match x.fixed, y.fixed with
  | some xs, some ys => .ok (.l ((xs.zip ys).map fun p => .tup [p.1, p.2])) S
  | _, _ => .stop
def valsOp (x : AV) (S : Store) : Res RV := match x with
  | .dct kvs => .ok (.l (kvs.map (·.2))) S
  | _ => .stop

/-! ### running -/
structure Orc where
  call : Nat → List AV → Store → Res RV
def setE (ρ : Env) (i : Nat) (a : AV) : Env := ρ.set i (some a)
def wipeE (ρ : Env) : List Nat → Env
  | [] => ρ
  | v :: vs => (wipeE ρ vs).set v none
mutual
/-- a target takes a value; a tuple's parts -/
def bindT : Tg → AV → Env → Option Env
  | .var i, a, ρ => some (setE ρ i a)
  | .tup ts, .tup xs, ρ => bindTs ts xs ρ
  | _, _, _ => none
def bindTs : Tg → List AV → Env → Option Env
  | .nil, [], ρ => some ρ
  | .cons t ts, x :: xs, ρ => (bindT t x ρ).bind fun ρ' => bindTs ts xs ρ'
  | _, _, _ => none
end
/-- what is walked: the items, the place that must stay as it is -/
def itemsOf (S : Store) : AV → Option (List AV × Option (Nat × AO))
  | .tup xs => some (xs, none)
  | .lst xs => some (xs, none)
  | .scr xs => some (xs, none)
  | .dct kvs => some (kvs.map (·.1), none)
  | .ref l => match S[l]? with
    | some (.lst xs) => some (xs, some (l, .lst xs))
    | some (.fz (.lst xs)) => some (xs, none)
    | some (.fz (.dct kvs)) => some (kvs.map (·.1), none)
    | _ => none
  | _ => none
def stays (w : Option (Nat × AO)) (S : Store) : Prop := match w with
  | none => True
  | some (l, o) => S[l]? = some o
open Classical in
/-- the turns of a comprehension: what is made so far is handed on -/
noncomputable def loopA (f : AV → List AV → Store → Res (List AV)) (w : Option (Nat × AO)) : List AV → List AV → Store → Res (List AV)
  | [], acc, S => .ok acc S
  | x :: xs, acc, S => match f x acc S with
    | .ok acc' S' => if stays w S' then loopA f w xs acc' S' else .stop
    | _ => .stop
inductive Fl where
  | nx (ρ : Env) | rt (r : RV)
open Classical in
noncomputable def loopF (f : AV → Env → Store → Res Fl) (w : Option (Nat × AO)) : List AV → Env → Store → Res Fl
  | [], ρ, S => .ok (.nx ρ) S
  | x :: xs, ρ, S => match f x ρ S with
    | .ok (.nx ρ') S' => if stays w S' then loopF f w xs ρ' S' else .stop
    | r => r
def loopW (c : Env → Store → Res RV) (b : Env → Store → Res Fl) : Nat → Env → Store → Res Fl
  | 0, _, _ => .stop
  | n + 1, ρ, S => (c ρ S).bnd fun r S1 => match r.bool? with
    | some true => (b ρ S1).bnd fun fl S2 => match fl with
      | .nx ρ' => loopW c b n ρ' S2
      | .rt r => .ok (.rt r) S2
    | some false => .ok (.nx ρ) S1
    | none => .stop
def RV.list : RV → List AV
  | .l xs => xs
  | _ => []
def alloc (o : AO) (S : Store) : Res RV := .ok (.v (.ref S.length)) (S ++ [o])
/-- a comprehension -/
noncomputable def compF (own : List Nat) (tg : Tg) (mc me : Env → Store → Res RV) (ρ : Env) (x : AV) (acc : List AV) (S : Store) : Res (List AV) := match bindT tg x (wipeE ρ own) with
  | none => .stop
  | some ρ' => (mc ρ' S).bnd fun b S3 => match b.bool? with
    | some true => (me ρ' S3).bnd fun y S4 => .ok (acc ++ [y.av]) S4
    | some false => .ok acc S3
    | none => .stop
noncomputable def compM (own : List Nat) (tg : Tg) (mi mc me : Env → Store → Res RV) : Env → Store → Res RV := fun ρ S => (mi ρ S).bnd fun r S1 => match itemsOf S1 r.av with
  | none => .stop
  | some (xs, w) => (loopA (compF own tg mc me ρ) w xs [] S1).bnd fun ys S5 => .ok (.l ys) S5
open Classical in
noncomputable def compF1 (own1 : List Nat) (tg1 : Tg) (mc me : Env → Store → Res RV) (ρ1 : Env) (x1 : AV) (acc : List AV) (S : Store) : Res (List AV) := match bindT tg1 x1 (wipeE ρ1 own1) with
  | none => .stop
  | some ρ2 => (mc ρ2 S).bnd fun b S5 => match b.bool? with
    | some true => (me ρ2 S5).bnd fun y S6 => if acc.length < line then .ok (acc ++ [y.av]) S6 else .stop
    | some false => .ok acc S5
    | none => .stop
noncomputable def compF2 (own own1 : List Nat) (tg tg1 : Tg) (mi1 mc me : Env → Store → Res RV) (ρ : Env) (x : AV) (acc : List AV) (S : Store) : Res (List AV) := match bindT tg x (wipeE ρ own) with
  | none => .stop
  | some ρ1 => (mi1 ρ1 S).bnd fun r1 S3 => match itemsOf S3 r1.av with
    | none => .stop
    | some (xs1, w1) => loopA (compF1 own1 tg1 mc me ρ1) w1 xs1 acc S3
open Classical in
noncomputable def compM2 (own own1 : List Nat) (tg : Tg) (mi : Env → Store → Res RV) (tg1 : Tg) (mi1 mc me : Env → Store → Res RV) : Env → Store → Res RV := fun ρ S => (mi ρ S).bnd fun r S1 => match itemsOf S1 r.av with
  | none => .stop
  | some (xs, w) => (loopA (compF2 own own1 tg tg1 mi1 mc me ρ) w xs [] S1).bnd fun ys S8 => if ys.length ≤ line then .ok (.l ys) S8 else .stop
noncomputable def ev (cl : Orc) : Ex → Env → Store → Res RV
  | .var i, ρ, S => match ρ[i]? with
    | some (some a) => .ok (.v a) S
    | _ => .stop
  | .cst a, _, S => .ok (.v a) S
  | .bin o a b, ρ, S => (ev cl a ρ S).bnd fun x S1 => (ev cl b ρ S1).bnd fun y S2 => opBin o x.av y.av S2
  | .neg a, ρ, S => (ev cl a ρ S).bnd fun x S1 => match x with
    | .v (.int i) => .ok (.v (.int (-i))) S1
    | _ => .stop
  | .nt a, ρ, S => (ev cl a ρ S).bnd fun x S1 => match x.bool? with
    | some b => .ok (.v (.bl (!b))) S1
    | none => .stop
  | .and a b, ρ, S => (ev cl a ρ S).bnd fun x S1 => match x.bool? with
    | some true => ev cl b ρ S1
    | some false => .ok (.v (.bl false)) S1
    | none => .stop
  | .or a b, ρ, S => (ev cl a ρ S).bnd fun x S1 => match x.bool? with
    | some false => ev cl b ρ S1
    | some true => .ok (.v (.bl true)) S1
    | none => .stop
  | .cmp o a b, ρ, S => (ev cl a ρ S).bnd fun x S1 => (ev cl b ρ S1).bnd fun y S2 => match opCmp o x.av y.av S2 with
    | some k => .ok (.v (.bl k)) S2
    | none => .stop
  | .chain o p a b c, ρ, S => (ev cl a ρ S).bnd fun x S1 => (ev cl b ρ S1).bnd fun y S2 => match opCmp o x.av y.av S2 with
    | some true => (ev cl c ρ S2).bnd fun z S3 => match opCmp p y.av z.av S3 with
      | some k => .ok (.v (.bl k)) S3
      | none => .stop
    | some false => .ok (.v (.bl false)) S2
    | none => .stop
  | .ite c a b, ρ, S => (ev cl c ρ S).bnd fun x S1 => match x.bool? with
    | some true => ev cl a ρ S1
    | some false => ev cl b ρ S1
    | none => .stop
  | .tup es, ρ, S => (ev cl es ρ S).bnd fun x S1 => .ok (.v (.tup x.list)) S1
  | .lst es, ρ, S => (ev cl es ρ S).bnd fun x S1 => .ok (.l x.list) S1
  | .dic es, ρ, S => (ev cl es ρ S).bnd fun x S1 => match dputs [] x.list with
    | some kvs => .ok (.d kvs) S1
    | none => .stop
  | .nil, _, S => .ok (.l []) S
  | .cons a as, ρ, S => (ev cl a ρ S).bnd fun x S1 => (ev cl as ρ S1).bnd fun y S2 => .ok (.l (x.av :: y.list)) S2
  | .sub a i, ρ, S => (ev cl a ρ S).bnd fun x S1 => (ev cl i ρ S1).bnd fun y S2 => match subOp x.av y.av S2 with
    | some v => .ok (.v v) S2
    | none => .stop
  | .bi f as, ρ, S => (ev cl as ρ S).bnd fun x S1 => biCall f x.list S1
  | .isi a t, ρ, S => (ev cl a ρ S).bnd fun x S1 => match isTy S1 x.av t with
    | some b => .ok (.v (.bl b)) S1
    | none => .stop
  | .call f as, ρ, S => (ev cl as ρ S).bnd fun x S1 => cl.call f x.list S1
  | .mt m o as, ρ, S => (ev cl o ρ S).bnd fun x S1 => match kindOf S1 x.av with
    | some k => if miHas k m then (ev cl as ρ S1).bnd fun y S2 => miCall k m x.av y.list S2 else .stop
    | none => .stop
  | .bx a, ρ, S => (ev cl a ρ S).bnd fun x S1 => match x with
    | .l xs => alloc (.lst xs) S1
    | .d kvs => alloc (.dct kvs) S1
    | .v _ => .stop
  | .rng a, ρ, S => (ev cl a ρ S).bnd fun x S1 => rngOp x.av S1
  | .rng2 a b, ρ, S => (ev cl a ρ S).bnd fun x S1 => (ev cl b ρ S1).bnd fun y S2 => rngOp2 x.av y.av S2
  | .zip a b, ρ, S => (ev cl a ρ S).bnd fun x S1 => (ev cl b ρ S1).bnd fun y S2 => zipOp x.av y.av S2
  | .vals a, ρ, S => (ev cl a ρ S).bnd fun x S1 => valsOp x.av S1
  | .comp own tg it c e, ρ, S => compM own tg (ev cl it) (ev cl c) (ev cl e) ρ S
  | .comp2 own own1 tg it tg1 it1 c e, ρ, S => compM2 own own1 tg (ev cl it) tg1 (ev cl it1) (ev cl c) (ev cl e) ρ S

def wfuel : Nat := 1000
noncomputable def exS (cl : Orc) : Sm → Env → Store → Res Fl
  | .pass, ρ, S => .ok (.nx ρ) S
  | .seq a b, ρ, S => (exS cl a ρ S).bnd fun fl S1 => match fl with
    | .nx ρ' => exS cl b ρ' S1
    | .rt r => .ok (.rt r) S1
  | .exp e, ρ, S => (ev cl e ρ S).bnd fun _ S1 => .ok (.nx ρ) S1
  | .asg tg e, ρ, S => (ev cl e ρ S).bnd fun x S1 => match bindT tg x.av ρ with
    | some ρ' => .ok (.nx ρ') S1
    | none => .stop
  | .sset o i e, ρ, S => (ev cl e ρ S).bnd fun v S1 => (ev cl o ρ S1).bnd fun x S2 => (ev cl i ρ S2).bnd fun y S3 => match subSet x.av y.av v.av S3 with
    | some S4 => .ok (.nx ρ) S4
    | none => .stop
  | .aug i o e, ρ, S => match ρ[i]? with
    | some (some a) => (ev cl e ρ S).bnd fun y S1 => match opAug o a y.av with
      | some z => .ok (.nx (setE ρ i (.int z))) S1
      | none => .stop
    | _ => .stop
  | .saug o i op e, ρ, S => (ev cl o ρ S).bnd fun x S1 => (ev cl i ρ S1).bnd fun y S2 => match subOp x.av y.av S2 with
    | none => .stop
    | some old => (ev cl e ρ S2).bnd fun v S3 => match opAug op old v.av with
      | none => .stop
      | some z => match subSet x.av y.av (.int z) S3 with
        | some S5 => .ok (.nx ρ) S5
        | none => .stop
  | .ifs c a b, ρ, S => (ev cl c ρ S).bnd fun x S1 => match x.bool? with
    | some true => exS cl a ρ S1
    | some false => exS cl b ρ S1
    | none => .stop
  | .for_ tg it b, ρ, S => (ev cl it ρ S).bnd fun r S1 => match itemsOf S1 r.av with
    | none => .stop
    | some (xs, w) => loopF (fun x ρ' S2 => match bindT tg x ρ' with
      | none => .stop
      | some ρ2 => exS cl b ρ2 S2) w xs ρ S1
  | .whl c b, ρ, S => loopW (ev cl c) (exS cl b) wfuel ρ S
  | .ret e, ρ, S => (ev cl e ρ S).bnd fun x S1 => .ok (.rt x) S1
  | .raise c, _, S => .exc c S

/-! ### a def's end: what it made and what nobody else knows leaves the store -/
mutual
def AV.mapRef (f : Nat → Option AV) : AV → Option AV
  | .non => some .non
  | .bl b => some (.bl b)
  | .int i => some (.int i)
  | .str x => some (.str x)
  | .tup xs => (AV.mapRefs f xs).map .tup
  | .lst xs => (AV.mapRefs f xs).map .lst
  | .dct kvs => (AV.mapRefd f kvs).map .dct
  | .ref l => f l
  | .gl k => some (.gl k)
  | .scr xs => if AV.rbs 0 xs = true then some (.scr xs) else none
def AV.mapRefs (f : Nat → Option AV) : List AV → Option (List AV)
  | [] => some []
  | x :: xs => (x.mapRef f).bind fun y => (AV.mapRefs f xs).map fun ys => y :: ys
def AV.mapRefd (f : Nat → Option AV) : List (AV × AV) → Option (List (AV × AV))
  | [] => some []
  | (k, v) :: r => (k.mapRef f).bind fun k' => (v.mapRef f).bind fun v' => (AV.mapRefd f r).map fun ys => (k', v') :: ys
end
/-- what stands at a place from n on, told by value; e is left out -/
def thaw (n e : Nat) (S : Store) : Nat → Nat → Option AV
  | 0, l => if l < n then some (.ref l) else none
  | k + 1, l => if l < n then some (.ref l) else if l = e then none else match S[l]? with
    | some (.lst xs) => (AV.mapRefs (thaw n e S k) xs).map .lst
    | some (.dct kvs) => (AV.mapRefd (thaw n e S k) kvs).map .dct
    | some (.fz a) => a.mapRef (thaw n e S k)
    | _ => none
def retV (n : Nat) (S : Store) (a : AV) : Option RV := match a with
  | .ref l => if l < n then some (.v (.ref l)) else match S[l]? with
    | some (.lst xs) => (AV.mapRefs (thaw n l S 3) xs).map .l
    | some (.dct kvs) => (AV.mapRefd (thaw n l S 3) kvs).map .d
    | some (.fz a) => (a.mapRef (thaw n l S 3)).map .v
    | _ => none
  | a => (a.mapRef (thaw n S.length S 3)).map .v
def retR (n : Nat) (S : Store) : RV → Option RV
  | .v a => retV n S a
  | .l xs => (AV.mapRefs (thaw n S.length S 3) xs).map .l
  | .d kvs => (AV.mapRefd (thaw n S.length S 3) kvs).map .d
def AO.rb (n : Nat) : AO → Bool
  | .lst xs => AV.rbs n xs
  | .dct kvs => AV.rbd n kvs
  | .ins _ fs => fs.all fun p => p.2.rb n
  | .fz a => a.rb n
open Classical in
noncomputable def cutS (S S' : Store) : Option Store :=
  if S'.length = S.length then some S'
  else if ∀ l, l < S.length → S'[l]? = S[l]? ∨ ∃ o, S'[l]? = some o ∧ o.rb S.length = true then some (S'.take S.length) else none
noncomputable def retire (S : Store) (r : RV) (S' : Store) : Res RV :=
  match retR S.length S' r, cutS S S' with
  | some r', some S'' => .ok r' S''
  | _, _ => .stop
structure FD where
  np : Nat
  nn : Nat
  body : Sm
  keep : Bool
noncomputable def retF (keep : Bool) (S : Store) : Res Fl → Res RV
  | .ok (.rt r) S' => if keep = true then .ok r S' else retire S r S'
  | .ok (.nx _) S' => if keep = true then .ok (.v .non) S' else retire S (.v .non) S'
  | .exc c S' => match cutS S S' with
    | some S'' => .exc c S''
    | none => .stop
  | .stop => .stop
noncomputable def callN (P : Nat → Option FD) : Nat → Nat → List AV → Store → Res RV
  | 0, _, _, _ => .stop
  | n + 1, f, args, S => match P f with
    | none => .stop
    | some fd => if args.length = fd.np then
        retF fd.keep S (exS ⟨callN P n⟩ fd.body (args.map some ++ List.replicate (fd.nn - fd.np) none) S)
      else .stop
end DL

set_option Elab.async false
set_option linter.all false
set_option maxRecDepth 100000
namespace DL
open PySem PySem.Spec PyProof.Rows L2

/-- a dict at a, told by its entries -/
def xdic (a : Addr) (es : Array DictEntry) (ep : Nat) : HO := .ext fun h => h.DictRaw a es ep ∧ (a == sysModules) = false

structure Rp where
  ι : Nat → Addr
  n : Nat
  I : Hp
section
variable (K : PySem.W.Frag) (w : World)
mutual
inductive RepV (R : Rp) : AV → V → Prop
  | non : RepV R .non .non
  | bl (b : Bool) : RepV R (.bl b) (.bl b)
  | int (i : Int) : RepV R (.int i) (.int i)
  | str (x : Str) : RepV R (.str x) (.str x)
  | tup {a : Addr} {xs : List AV} {vs : List V} : R.I a = some (.tup vs) → xs.length ≤ line → RepVs R xs vs → RepV R (.tup xs) (.ref a)
  | lst {a : Addr} {xs : List AV} {vs : List V} : R.I a = some (.lst vs) → xs.length ≤ line → RepVs R xs vs → RepV R (.lst xs) (.ref a)
  | scr {a : Addr} {xs : List AV} {vs : List V} : SqL K R.I a vs → xs.length ≤ line → RepVs R xs vs → RepV R (.scr xs) (.ref a)
  | dct {a : Addr} {kvs : List (AV × AV)} {es : Array DictEntry} {ep : Nat} : R.I a = some (xdic a es ep) → kvs.length ≤ line → RepD R kvs es.toList → RepV R (.dct kvs) (.ref a)
  | ref {l : Nat} : l < R.n → RepV R (.ref l) (.ref (R.ι l))
inductive RepVs (R : Rp) : List AV → List V → Prop
  | nil : RepVs R [] []
  | cons {x : AV} {v : V} {xs : List AV} {vs : List V} : RepV R x v → RepVs R xs vs → RepVs R (x :: xs) (v :: vs)
inductive RepD (R : Rp) : List (AV × AV) → List DictEntry → Prop
  | nil : RepD R [] []
  | cons {k v : AV} {kvs : List (AV × AV)} {e : DictEntry} {es : List DictEntry} {x y : V} {kt : NestedKey} : keyOk kvs k = true → (∀ p ∈ kvs, p.1.keq k = false) → k.keyT = some kt → e.hash = kt.hash w → RepV R k x → RelV x e.key → RepV R v y → RelV y e.val → RepD R kvs es → RepD R ((k, v) :: kvs) (e :: es)
end
end

structure Rp.le (R R' : Rp) : Prop where
  n : R.n ≤ R'.n
  ι : ∀ l, l < R.n → R'.ι l = R.ι l
  I : ∀ b o, R.I b = some o → R'.I b = some o
theorem Rp.le.refl (R : Rp) : R.le R := ⟨Nat.le_refl _, fun _ _ => rfl, fun _ _ h => h⟩
theorem Rp.le.trans {R R1 R2 : Rp} (a : R.le R1) (b : R1.le R2) : R.le R2 := ⟨Nat.le_trans a.n b.n, fun l h => (b.ι l (Nat.lt_of_lt_of_le h a.n)).trans (a.ι l h), fun c o h => b.I c o (a.I c o h)⟩
theorem rd_of {H H' : Hp} {a : Addr} {u : HO} (h : Rd H a u) (k : ∀ o, H a = some o → H' a = some o) : Rd H' a u := by
  rcases h with h | ⟨o, h⟩
  · exact .inl (k _ h)
  · exact .inr ⟨o, k _ h⟩
theorem sql_of {K : PySem.W.Frag} {H H' : Hp} {a : Addr} {xs : List V} (h : SqL K H a xs) (k : ∀ o, H a = some o → H' a = some o) : SqL K H' a xs := by
  rcases h with h | h
  · exact .inl (rd_of h k)
  · exact .inr h
section
variable {K : PySem.W.Frag} {w : World} {R R' : Rp}
mutual
theorem RepV.mono (h : R.le R') : ∀ {a : AV} {v : V}, RepV K w R a v → RepV K w R' a v
  | _, _, .non => .non
  | _, _, .bl b => .bl b
  | _, _, .int i => .int i
  | _, _, .str x => .str x
  | _, _, .tup e z r => .tup (h.I _ _ e) z (RepVs.mono h r)
  | _, _, .lst e z r => .lst (h.I _ _ e) z (RepVs.mono h r)
  | _, _, .scr e z r => .scr (sql_of e fun o q => h.I _ _ q) z (RepVs.mono h r)
  | _, _, .dct e z r => .dct (h.I _ _ e) z (RepD.mono h r)
  | _, _, .ref (l := l) z => by
    rw [← h.ι l z]
    exact .ref (Nat.lt_of_lt_of_le z h.n)
theorem RepVs.mono (h : R.le R') : ∀ {xs : List AV} {vs : List V}, RepVs K w R xs vs → RepVs K w R' xs vs
  | _, _, .nil => .nil
  | _, _, .cons a b => .cons (RepV.mono h a) (RepVs.mono h b)
theorem RepD.mono (h : R.le R') : ∀ {kvs : List (AV × AV)} {es : List DictEntry}, RepD K w R kvs es → RepD K w R' kvs es
  | _, _, .nil => .nil
  | _, _, .cons a b c d r1 e1 r2 e2 t => .cons a b c d (RepV.mono h r1) e1 (RepV.mono h r2) e2 (RepD.mono h t)
end
end

/-- what stands at the address of a place -/
def RepO (K : PySem.W.Frag) (w : World) (R : Rp) (H : Hp) (a : Addr) : AO → Prop
  | .lst xs => ∃ vs, H a = some (.lst vs) ∧ xs.length ≤ line ∧ RepVs K w R xs vs
  | .dct kvs => ∃ es ep, H a = some (xdic a es ep) ∧ kvs.length ≤ line ∧ RepD K w R kvs es.toList
  | .ins _ _ => False
  | .fz a' => RepV K w R a' (.ref a)
structure Wd (K : PySem.W.Frag) (w : World) (R : Rp) (S : Store) (H : Hp) : Prop where
  n : R.n = S.length
  I : ∀ b u, R.I b = some u → H b = some u
  apart : ∀ l, l < R.n → R.I (R.ι l) = none ∨ ∃ a, S[l]? = some (.fz a)
  there : ∀ l, l < R.n → H (R.ι l) ≠ none
  inj : ∀ l l', l < R.n → l' < R.n → R.ι l = R.ι l' → l = l'
  obj : ∀ l o, S[l]? = some o → RepO K w R H (R.ι l) o
structure Ext (R : Rp) (H : Hp) (R' : Rp) (H' : Hp) : Prop where
  le : R.le R'
  newI : ∀ b, H b ≠ none → (∀ l, l < R.n → R.ι l ≠ b) → R'.I b = R.I b
  newS : ∀ l, R.n ≤ l → l < R'.n → H (R'.ι l) = none
  frame : ∀ b o, H b = some o → (∀ l, l < R.n → R.ι l ≠ b) → H' b = some o
  stay : ∀ b, H b ≠ none → H' b ≠ none
theorem Ext.refl (R : Rp) (H : Hp) : Ext R H R H := ⟨.refl R, fun _ _ _ => rfl, fun l a b => absurd (Nat.lt_of_lt_of_le b a) (Nat.lt_irrefl _), fun _ _ h _ => h, fun _ h => h⟩
theorem Ext.apart {R R1 : Rp} {H H1 : Hp} (a : Ext R H R1 H1) {b : Addr} (hb : H b ≠ none) (hn : ∀ l, l < R.n → R.ι l ≠ b) : ∀ l, l < R1.n → R1.ι l ≠ b := fun l hl e => by
  by_cases h : l < R.n
  · exact hn l h ((a.le.ι l h).symm.trans e)
  · have := a.newS l (Nat.le_of_not_lt h) hl
    rw [e] at this
    exact hb this
theorem Ext.trans {R R1 R2 : Rp} {H H1 H2 : Hp} (a : Ext R H R1 H1) (b : Ext R1 H1 R2 H2) : Ext R H R2 H2 where
  le := a.le.trans b.le
  newI := fun c hc hn => by
    rw [b.newI c (a.stay c hc) (a.apart hc hn)]
    exact a.newI c hc hn
  newS := fun l h1 h2 => by
    by_cases h : l < R1.n
    · rw [b.le.ι l h]
      exact a.newS l h1 h
    · have e := b.newS l (Nat.le_of_not_lt h) h2
      cases q : H (R2.ι l) with
      | none => rfl
      | some o => exact absurd e (a.stay _ (by rw [q]; simp))
  frame := fun c o hc hn => b.frame c o (a.frame c o hc hn) (a.apart (by rw [hc]; simp) hn)
  stay := fun c hc => b.stay c (a.stay c hc)

section
variable (K : PySem.W.Frag) (w : World)
/-- the value at an expression's end; H: the heap ahead of it -/
def RepRV (R : Rp) (H H' : Hp) : RV → V → Prop
  | .v a, v => RepV K w R a v
  | .l xs, v => ∃ p vs, v = .ref p ∧ H' p = some (.lst vs) ∧ H p = none ∧ R.I p = none ∧ (∀ l, l < R.n → R.ι l ≠ p) ∧ xs.length ≤ line ∧ RepVs K w R xs vs
  | .d kvs, v => ∃ p es ep, v = .ref p ∧ H' p = some (xdic p es ep) ∧ H p = none ∧ R.I p = none ∧ (∀ l, l < R.n → R.ι l ≠ p) ∧ kvs.length ≤ line ∧ RepD K w R kvs es.toList
end
section
variable {K : PySem.W.Frag} {w : World} {R R' : Rp} {S S' : Store} {H H' : Hp} {r : RV} {v : V} {a : AV}

theorem RepO.mono (h : R.le R') {b : Addr} : ∀ {o : AO}, RepO K w R H b o → (∀ u, H b = some u → H' b = some u) → RepO K w R' H' b o
  | .lst xs, ⟨vs, e, z, r⟩, k => ⟨vs, k _ e, z, r.mono h⟩
  | .dct kvs, ⟨es, ep, e, z, r⟩, k => ⟨es, ep, k _ e, z, r.mono h⟩
  | .ins _ _, x, _ => x.elim
  | .fz a, x, _ => RepV.mono h x

/-- an object in limbo becomes one that never changes -/
def Rp.put (R : Rp) (p : Addr) (u : HO) : Rp := { R with I := upd R.I p u }
theorem Rp.put_le {p : Addr} {u : HO} (h : R.I p = none) : R.le (R.put p u) := ⟨Nat.le_refl _, fun _ _ => rfl, fun b o e => by
  show upd R.I p u b = _
  rw [upd_ne (fun z => by rw [z, h] at e; cases e)]
  exact e⟩
theorem Wd.put {p : Addr} {u : HO} (W : Wd K w R S H) (hp : H p = some u) (hI : R.I p = none) (hn : ∀ l, l < R.n → R.ι l ≠ p) : Wd K w (R.put p u) S H where
  n := W.n
  I := fun b u' e => by
    have e' : upd R.I p u b = some u' := e
    by_cases hb : b = p
    · subst hb
      rw [upd_same] at e'
      cases e'
      exact hp
    · rw [upd_ne hb] at e'
      exact W.I b u' e'
  apart := fun l hl => by
    rcases W.apart l hl with h | h
    · refine .inl ?_
      show upd R.I p u (R.ι l) = none
      rw [upd_ne (hn l hl)]
      exact h
    · exact .inr h
  there := W.there
  inj := W.inj
  obj := fun l o e => (W.obj l o e).mono (Rp.put_le hI) fun _ q => q
theorem Ext.put {R0 : Rp} {H0 : Hp} {p : Addr} {u : HO} (E : Ext R0 H0 R H) (h0 : H0 p = none) (hI : R.I p = none) : Ext R0 H0 (R.put p u) H where
  le := E.le.trans (Rp.put_le hI)
  newI := fun b hb hn => by
    show upd R.I p u b = _
    rw [upd_ne (fun z => by rw [z] at hb; exact hb h0)]
    exact E.newI b hb hn
  newS := E.newS
  frame := E.frame
  stay := E.stay
/-- what is new in limbo never changes from here on -/
theorem RepRV.freeze {R0 : Rp} {H0 : Hp} (W : Wd K w R S H) (E : Ext R0 H0 R H) (x : RepRV K w R H0 H r v) : ∃ R1, R.le R1 ∧ Wd K w R1 S H ∧ Ext R0 H0 R1 H ∧ RepV K w R1 r.av v := by
  cases r with
  | v a => exact ⟨R, .refl R, W, E, x⟩
  | l xs =>
    obtain ⟨p, vs, rfl, e, h0, hI, hn, z, q⟩ := x
    exact ⟨R.put p _, Rp.put_le hI, W.put e hI hn, E.put h0 hI, .lst upd_same z (q.mono (Rp.put_le hI))⟩
  | d kvs =>
    obtain ⟨p, es, ep, rfl, e, h0, hI, hn, z, q⟩ := x
    exact ⟨R.put p _, Rp.put_le hI, W.put e hI hn, E.put h0 hI, .dct (es := es) (ep := ep) upd_same z (q.mono (Rp.put_le hI))⟩
theorem RepRV.back {H1 : Hp} (E : Ext R' H R H1) (x : RepRV K w R H1 H' r v) : RepRV K w R H H' r v := by
  have none_of : ∀ p, H1 p = none → H p = none := fun p h => by
    cases q : H p with
    | none => rfl
    | some o => exact absurd h (E.stay p (by rw [q]; simp))
  cases r with
  | v a => exact x
  | l xs =>
    obtain ⟨p, vs, e1, e2, h0, t⟩ := x
    exact ⟨p, vs, e1, e2, none_of p h0, t⟩
  | d kvs =>
    obtain ⟨p, es, ep, e1, e2, h0, t⟩ := x
    exact ⟨p, es, ep, e1, e2, none_of p h0, t⟩
theorem RepRV.back' {R0 R1 : Rp} {H1 : Hp} (E : Ext R0 H R1 H1) (x : RepRV K w R H1 H' r v) : RepRV K w R H H' r v := by
  have none_of : ∀ p, H1 p = none → H p = none := fun p h => by
    cases q : H p with
    | none => rfl
    | some o => exact absurd h (E.stay p (by rw [q]; simp))
  cases r with
  | v a => exact x
  | l xs =>
    obtain ⟨p, vs, e1, e2, h0, t⟩ := x
    exact ⟨p, vs, e1, e2, none_of p h0, t⟩
  | d kvs =>
    obtain ⟨p, es, ep, e1, e2, h0, t⟩ := x
    exact ⟨p, es, ep, e1, e2, none_of p h0, t⟩
end

/-! ### the readings -/
structure RepE (K : PySem.W.Frag) (w : World) (R : Rp) (ρ : Env) (σ : L2.St) : Prop where
  len : ρ.length = σ.length
  get : ∀ (i : Nat) (a : AV), ρ[i]? = some (some a) → ∃ v, σ[i]? = some (some v) ∧ RepV K w R a v
theorem RepE.mono {K : PySem.W.Frag} {w : World} {R R' : Rp} {ρ : Env} {σ : L2.St} (x : RepE K w R ρ σ) (h : R.le R') : RepE K w R' ρ σ :=
  ⟨x.len, fun i a e => let ⟨v, e1, r⟩ := x.get i a e; ⟨v, e1, r.mono h⟩⟩
abbrev XWish := Nat → Hp → Prop
section
variable (K : PySem.W.Frag) (w : World) (xw : XWish)
def Post (R : Rp) (H : Hp) (res : Res RV) (Q : VK) : Prop := match res with
  | .ok r S' => ∀ R' H' v, Ext R H R' H' → Wd K w R' S' H' → RepRV K w R' H H' r v → Q v H'
  | .exc c S' => ∀ R' H', Ext R H R' H' → Wd K w R' S' H' → xw c H'
  | .stop => False
def rdE (m : Env → Store → Res RV) : TE := fun σ H Q => ∃ R ρ S, RepE K w R ρ σ ∧ Wd K w R S H ∧ Post K w xw R H (m ρ S) Q
def PostB (R : Rp) (H : Hp) (res : Res RV) (Q : Bool → Hp → Prop) : Prop := match res with
  | .ok r S' => ∃ b, r.bool? = some b ∧ ∀ R' H', Ext R H R' H' → Wd K w R' S' H' → Q b H'
  | .exc c S' => ∀ R' H', Ext R H R' H' → Wd K w R' S' H' → xw c H'
  | .stop => False
def rdT (m : Env → Store → Res RV) : TT := fun σ H Q => ∃ R ρ S, RepE K w R ρ σ ∧ Wd K w R S H ∧ PostB K w xw R H (m ρ S) Q
def PostA (R : Rp) (H : Hp) (res : Res RV) (Q : List V → Hp → Prop) : Prop := match res with
  | .ok r S' => ∀ R' H' vs, Ext R H R' H' → Wd K w R' S' H' → RepVs K w R' r.list vs → Q vs H'
  | .exc c S' => ∀ R' H', Ext R H R' H' → Wd K w R' S' H' → xw c H'
  | .stop => False
def rdA (m : Env → Store → Res RV) : TA := fun σ H Q => ∃ R ρ S, RepE K w R ρ σ ∧ Wd K w R S H ∧ PostA K w xw R H (m ρ S) Q
def PostS (R : Rp) (H : Hp) (res : Res Fl) (D : Ends) : Prop := match res with
  | .ok (.nx ρ') S' => ∀ R' H' σ', Ext R H R' H' → Wd K w R' S' H' → RepE K w R' ρ' σ' → D.nx σ' H'
  | .ok (.rt r) S' => ∀ R' H' v, Ext R H R' H' → Wd K w R' S' H' → RepRV K w R' H H' r v → D.rt v H'
  | .exc c S' => ∀ R' H', Ext R H R' H' → Wd K w R' S' H' → xw c H'
  | .stop => False
def rdS (m : Env → Store → Res Fl) : TS := fun D σ H => ∃ R ρ S, RepE K w R ρ σ ∧ Wd K w R S H ∧ PostS K w xw R H (m ρ S) D
end
section
variable {K : PySem.W.Frag} {w : World} {xw : XWish} {R : Rp} {H : Hp} {S : Store} {res : Res RV} {Q : VK} {ρ : Env} {σ : L2.St} {m : Env → Store → Res RV}
/-- behind a first part: what it left, with what is still to come -/
def Aft (K : PySem.W.Frag) (w : World) (R : Rp) (H : Hp) (G : Rp → Store → RV → Hp → Prop) (v : V) (H1 : Hp) : Prop :=
  ∃ R1 S1 x, Ext R H R1 H1 ∧ Wd K w R1 S1 H1 ∧ RepV K w R1 x.av v ∧ G R1 S1 x H1
theorem Post.shift {R1 : Rp} {H1 : Hp} (E : Ext R H R1 H1) (h : Post K w xw R H res Q) : Post K w xw R1 H1 res Q := by
  cases res with
  | ok r S' => exact fun R' H' v E' W' x => h R' H' v (E.trans E') W' (x.back' E)
  | exc c S' => exact fun R' H' E' W' => h R' H' (E.trans E') W'
  | stop => exact h
theorem PostB.shift {R1 : Rp} {H1 : Hp} {Q : Bool → Hp → Prop} (E : Ext R H R1 H1) (h : PostB K w xw R H res Q) : PostB K w xw R1 H1 res Q := by
  cases res with
  | ok r S' =>
    obtain ⟨b, e, h⟩ := h
    exact ⟨b, e, fun R' H' E' W' => h R' H' (E.trans E') W'⟩
  | exc c S' => exact fun R' H' E' W' => h R' H' (E.trans E') W'
  | stop => exact h
theorem PostA.shift {R1 : Rp} {H1 : Hp} {Q : List V → Hp → Prop} (E : Ext R H R1 H1) (h : PostA K w xw R H res Q) : PostA K w xw R1 H1 res Q := by
  cases res with
  | ok r S' => exact fun R' H' v E' W' x => h R' H' v (E.trans E') W' x
  | exc c S' => exact fun R' H' E' W' => h R' H' (E.trans E') W'
  | stop => exact h
theorem PostS.shift {R1 : Rp} {H1 : Hp} {res : Res Fl} {D : Ends} (E : Ext R H R1 H1) (h : PostS K w xw R H res D) : PostS K w xw R1 H1 res D := by
  cases res with
  | ok r S' =>
    cases r with
    | nx ρ => exact fun R' H' v E' W' x => h R' H' v (E.trans E') W' x
    | rt r => exact fun R' H' v E' W' x => h R' H' v (E.trans E') W' (x.back' E)
  | exc c S' => exact fun R' H' E' W' => h R' H' (E.trans E') W'
  | stop => exact h
theorem Post.imp {Q' : VK} (h : Post K w xw R H res Q) (k : ∀ v H', Q v H' → Q' v H') : Post K w xw R H res Q' := by
  cases res with
  | ok r S' => exact fun R' H' v E' W' x => k _ _ (h R' H' v E' W' x)
  | exc c S' => exact h
  | stop => exact h
/-- the first part of a bind -/
theorem rd_bnd {k : RV → Store → Res RV} (he : RepE K w R ρ σ) (W : Wd K w R S H) (h : Post K w xw R H ((m ρ S).bnd k) Q) :
    rdE K w xw m σ H (Aft K w R H fun R1 S1 x H1 => RepE K w R1 ρ σ ∧ Post K w xw R1 H1 (k x S1) Q) := by
  refine ⟨R, ρ, S, he, W, ?_⟩
  cases e : m ρ S with
  | ok r S1 =>
    rw [e] at h
    intro R1 H1 v E1 W1 x
    obtain ⟨R2, le, W2, E2, x2⟩ := x.freeze W1 E1
    exact ⟨R2, S1, r, E2, W2, x2, he.mono E2.le, Post.shift E2 h⟩
  | exc c S1 =>
    rw [e] at h
    exact h
  | stop =>
    rw [e] at h
    exact h
theorem rd_bndB {k : RV → Store → Res RV} {Q : Bool → Hp → Prop} (he : RepE K w R ρ σ) (W : Wd K w R S H) (h : PostB K w xw R H ((m ρ S).bnd k) Q) :
    rdE K w xw m σ H (Aft K w R H fun R1 S1 x H1 => RepE K w R1 ρ σ ∧ PostB K w xw R1 H1 (k x S1) Q) := by
  refine ⟨R, ρ, S, he, W, ?_⟩
  cases e : m ρ S with
  | ok r S1 =>
    rw [e] at h
    intro R1 H1 v E1 W1 x
    obtain ⟨R2, le, W2, E2, x2⟩ := x.freeze W1 E1
    exact ⟨R2, S1, r, E2, W2, x2, he.mono E2.le, PostB.shift E2 h⟩
  | exc c S1 =>
    rw [e] at h
    exact h
  | stop =>
    rw [e] at h
    exact h
theorem rd_bndA {k : RV → Store → Res RV} {Q : List V → Hp → Prop} (he : RepE K w R ρ σ) (W : Wd K w R S H) (h : PostA K w xw R H ((m ρ S).bnd k) Q) :
    rdE K w xw m σ H (Aft K w R H fun R1 S1 x H1 => RepE K w R1 ρ σ ∧ PostA K w xw R1 H1 (k x S1) Q) := by
  refine ⟨R, ρ, S, he, W, ?_⟩
  cases e : m ρ S with
  | ok r S1 =>
    rw [e] at h
    intro R1 H1 v E1 W1 x
    obtain ⟨R2, le, W2, E2, x2⟩ := x.freeze W1 E1
    exact ⟨R2, S1, r, E2, W2, x2, he.mono E2.le, PostA.shift E2 h⟩
  | exc c S1 =>
    rw [e] at h
    exact h
  | stop =>
    rw [e] at h
    exact h
theorem rd_bndS {k : RV → Store → Res Fl} {D : Ends} (he : RepE K w R ρ σ) (W : Wd K w R S H) (h : PostS K w xw R H ((m ρ S).bnd k) D) :
    rdE K w xw m σ H (Aft K w R H fun R1 S1 x H1 => RepE K w R1 ρ σ ∧ PostS K w xw R1 H1 (k x S1) D) := by
  refine ⟨R, ρ, S, he, W, ?_⟩
  cases e : m ρ S with
  | ok r S1 =>
    rw [e] at h
    intro R1 H1 v E1 W1 x
    obtain ⟨R2, le, W2, E2, x2⟩ := x.freeze W1 E1
    exact ⟨R2, S1, r, E2, W2, x2, he.mono E2.le, PostS.shift E2 h⟩
  | exc c S1 =>
    rw [e] at h
    exact h
  | stop =>
    rw [e] at h
    exact h
end
end DL

set_option Elab.async false
set_option linter.all false
set_option maxRecDepth 100000
set_option maxHeartbeats 2000000
namespace DL
open PySem PySem.Spec PyProof.Rows L2

section
variable {X : Cx}
theorem pe_imp {e : Expr} {t t' : TE} (h : PE X e t) (k : ∀ σ H Q, t' σ H Q → t σ H Q) : PE X e t' := ⟨fun pins s σ H Q I q => h.run pins s σ H Q I (k σ H Q q)⟩
theorem pt_imp {e : Expr} {t t' : TT} (h : PT X e t) (k : ∀ σ H Q, t' σ H Q → t σ H Q) : PT X e t' := ⟨fun pins s σ H Q I q => h.run pins s σ H Q I (k σ H Q q)⟩
theorem pa_imp {e : List Expr} {t t' : TA} (h : PA X e t) (k : ∀ σ H Q, t' σ H Q → t σ H Q) : PA X e t' := ⟨fun pos pins s σ H Q I q => h.run pos pins s σ H Q I (k σ H Q q)⟩
theorem ps_imp {e : Stmt} {t t' : TS} (h : PS X e t) (k : ∀ D σ H, t' D σ H → t D σ H) : PS X e t' := ⟨fun pins s σ H D I q => h.run pins s σ H D I (k D σ H q)⟩
theorem pss_imp {e : List Stmt} {t t' : TS} (h : PSs X e t) (k : ∀ D σ H, t' D σ H → t D σ H) : PSs X e t' := ⟨fun pins s σ H D I q => h.run pins s σ H D I (k D σ H q)⟩
/-- a reading may lean on the state's facts -/
theorem pe_run {e : Expr} {t : TE} (h : ∀ pins s σ H Q, Inv X pins σ H s → t σ H Q → wpAny (model X.prog X.w) X.A (eval e X.env) (EP X pins σ Q) X.xe s) : PE X e t := ⟨h⟩
end

section
variable {K : PySem.W.Frag} {w : World} {R R0 : Rp} {S : Store} {H H0 : Hp} {p : Addr} {u : HO} {l : Nat}
theorem Wd.none_of (W : Wd K w R S H) (hp : H p = none) : R.I p = none := by
  cases q : R.I p with
  | none => rfl
  | some o => rw [W.I p o q] at hp; cases hp
theorem Wd.ne_of (W : Wd K w R S H) (hp : H p = none) : ∀ l, l < R.n → R.ι l ≠ p := fun l hl e => by
  have := W.there l hl
  rw [e] at this
  exact this hp
theorem Wd.grow (W : Wd K w R S H) (hp : H p = none) : Wd K w R S (upd H p u) where
  n := W.n
  I := fun b o e => by rw [upd_ne (ne_of_none (W.I b o e) hp)]; exact W.I b o e
  apart := W.apart
  there := fun l hl => by rw [upd_ne (W.ne_of hp l hl)]; exact W.there l hl
  inj := W.inj
  obj := fun l o e => (W.obj l o e).mono (.refl R) fun q hq => by rw [upd_ne (ne_of_none hq hp)]; exact hq
theorem Ext.grow (E : Ext R0 H0 R H) (hp : H p = none) : Ext R0 H0 R (upd H p u) where
  le := E.le
  newI := E.newI
  newS := E.newS
  frame := fun b o e hn => by rw [upd_ne (ne_of_none (E.frame b o e hn) hp)]; exact E.frame b o e hn
  stay := fun b hb => by
    by_cases h : b = p
    · rw [h, upd_same]; simp
    · rw [upd_ne h]; exact E.stay b hb
theorem new_im (W : Wd K w R S H) (hp : H p = none) : Wd K w (R.put p u) S (upd H p u) ∧ Ext R H (R.put p u) (upd H p u) ∧ R.le (R.put p u) :=
  ⟨(W.grow (u := u) hp).put upd_same (W.none_of hp) (W.ne_of hp), ((Ext.refl R H).grow (u := u) hp).put hp (W.none_of hp), Rp.put_le (W.none_of hp)⟩
theorem new_l {xs : List AV} {vs : List V} (W : Wd K w R S H) (hp : H p = none) (hz : xs.length ≤ line) (r : RepVs K w R xs vs) :
    Wd K w R S (upd H p (.lst vs)) ∧ Ext R H R (upd H p (.lst vs)) ∧ RepRV K w R H (upd H p (.lst vs)) (.l xs) (.ref p) :=
  ⟨W.grow hp, (Ext.refl R H).grow hp, p, vs, rfl, upd_same, hp, W.none_of hp, W.ne_of hp, hz, r⟩
theorem set_lt {o : AO} (e : S[l]? = some o) : l < S.length := (List.getElem?_eq_some_iff.mp e).1
/-- an object of the store changes -/
theorem Wd.set {o o' : AO} (W : Wd K w R S H) (e : S[l]? = some o) (hf : ∀ a, o ≠ .fz a) (hf' : ∀ a, o' ≠ .fz a) (new : RepO K w R (upd H (R.ι l) u) (R.ι l) o') :
    Wd K w R (S.set l o') (upd H (R.ι l) u) ∧ Ext R H R (upd H (R.ι l) u) := by
  have hl : l < R.n := by rw [W.n]; exact set_lt e
  have hI : R.I (R.ι l) = none := by
    rcases W.apart l hl with h | ⟨a, h⟩
    · exact h
    · rw [e] at h; cases h; exact absurd rfl (hf a)
  have nI : ∀ b q, R.I b = some q → b ≠ R.ι l := fun b q h z => by rw [z, hI] at h; cases h
  refine ⟨⟨by rw [List.length_set]; exact W.n, fun b q h => by rw [upd_ne (nI b q h)]; exact W.I b q h, fun m hm => ?_, fun m hm => ?_, W.inj, fun m q h => ?_⟩,
    ⟨.refl R, fun _ _ _ => rfl, fun m a b => absurd (Nat.lt_of_lt_of_le b a) (Nat.lt_irrefl _), fun b q h hn => by rw [upd_ne (Ne.symm (hn l hl))]; exact h, fun b hb => ?_⟩⟩
  · by_cases hml : m = l
    · subst hml; exact .inl hI
    · rw [List.getElem?_set_ne (Ne.symm hml)]
      exact W.apart m hm
  · by_cases hml : R.ι m = R.ι l
    · rw [hml, upd_same]; simp
    · rw [upd_ne hml]; exact W.there m hm
  · by_cases hml : m = l
    · subst hml
      rw [List.getElem?_set_self (set_lt e)] at h
      cases h
      exact new
    · rw [List.getElem?_set_ne (Ne.symm hml)] at h
      have hm : m < R.n := by rw [W.n]; exact set_lt h
      have hne : R.ι m ≠ R.ι l := fun z => hml (W.inj m l hm hl z)
      exact (W.obj m q h).mono (.refl R) fun z hz => by rw [upd_ne hne]; exact hz
  · by_cases h : b = R.ι l
    · rw [h, upd_same]; simp
    · rw [upd_ne h]; exact hb
end

/-! ### what stands behind a value -/
inductive Seen (K : PySem.W.Frag) (w : World) (R : Rp) (H : Hp) : AV → V → Prop
  | non : Seen K w R H .non .non
  | bl (b : Bool) : Seen K w R H (.bl b) (.bl b)
  | int (i : Int) : Seen K w R H (.int i) (.int i)
  | str (x : Str) : Seen K w R H (.str x) (.str x)
  | lst {p : Addr} {xs : List AV} {vs : List V} : SqL K H p vs → xs.length ≤ line → RepVs K w R xs vs → Seen K w R H (.lst xs) (.ref p)
  | tup {p : Addr} {xs : List AV} {vs : List V} : H p = some (.tup vs) → xs.length ≤ line → RepVs K w R xs vs → Seen K w R H (.tup xs) (.ref p)
  | dct {p : Addr} {kvs : List (AV × AV)} {es : Array DictEntry} {ep : Nat} : H p = some (xdic p es ep) → kvs.length ≤ line → RepD K w R kvs es.toList → Seen K w R H (.dct kvs) (.ref p)
  | ref {l : Nat} {v : V} : Seen K w R H (.ref l) v
  | scr {xs : List AV} {v : V} : Seen K w R H (.scr xs) v
section
variable {K : PySem.W.Frag} {w : World} {R : Rp} {S : Store} {H : Hp} {a b : AV} {v : V}
theorem RepV.seen (W : Wd K w R S H) (r : RepV K w R a v) (ha : ∀ xs, a ≠ .scr xs) : Seen K w R H a v := by
  cases r with
  | non => exact .non
  | bl b => exact .bl b
  | int i => exact .int i
  | str x => exact .str x
  | tup e z q => exact .tup (W.I _ _ e) z q
  | lst e z q => exact .lst (.inl (.inl (W.I _ _ e))) z q
  | dct e z q => exact .dct (W.I _ _ e) z q
  | ref h => exact .ref
  | scr e z q => exact .scr
theorem look_seen (W : Wd K w R S H) (r : RepV K w R a v) (h : a.look S = some b) : Seen K w R H b v := by
  cases r with
  | non => cases h; exact .non
  | bl b => cases h; exact .bl b
  | int i => cases h; exact .int i
  | str x => cases h; exact .str x
  | tup e z q => cases h; exact .tup (W.I _ _ e) z q
  | lst e z q => cases h; exact .lst (.inl (.inl (W.I _ _ e))) z q
  | dct e z q => cases h; exact .dct (W.I _ _ e) z q
  | scr e z q =>
    cases h
    exact .lst (sql_of e fun o q => W.I _ _ q) z q
  | @ref l hl =>
    have h' : S[l]?.bind AO.av? = some b := h
    cases e : S[l]? with
    | none => rw [e] at h'; cases h'
    | some o =>
      rw [e] at h'
      have ro := W.obj l o e
      cases o with
      | lst xs =>
        cases h'
        obtain ⟨vs, e1, z, q⟩ := ro
        exact .lst (.inl (.inl e1)) z q
      | dct kvs =>
        cases h'
        obtain ⟨es, ep, e1, z, q⟩ := ro
        exact .dct e1 z q
      | ins c fs => cases h'
      | fz a' =>
        cases h'
        have ro' : RepV K w R b (.ref (R.ι l)) := ro
        by_cases hs : ∃ xs, b = .scr xs
        · obtain ⟨xs, rfl⟩ := hs
          exact .scr
        · exact ro'.seen W fun xs z => hs ⟨xs, z⟩
theorem listX_seen {xs : List AV} (W : Wd K w R S H) (r : RepV K w R a v) (h : a.listX S = some xs) : ∃ p vs, v = .ref p ∧ H p = some (.lst vs) ∧ xs.length ≤ line ∧ RepVs K w R xs vs := by
  cases r with
  | lst e z q => cases h; exact ⟨_, _, rfl, W.I _ _ e, z, q⟩
  | @ref l hl =>
    have h' : (match S[l]? with
      | some (.lst xs) => some xs
      | some (.fz (.lst xs)) => some xs
      | _ => none) = some xs := h
    split at h'
    · rename_i ys e
      cases h'
      obtain ⟨vs, e1, z, q⟩ := W.obj l _ e
      exact ⟨_, vs, rfl, e1, z, q⟩
    · rename_i ys e
      cases h'
      have ro : RepV K w R (.lst xs) (.ref (R.ι l)) := W.obj l _ e
      cases ro with
      | lst e z q => exact ⟨_, _, rfl, W.I _ _ e, z, q⟩
    · cases h'
  | _ => cases h
theorem listOf_seen {xs : List AV} (W : Wd K w R S H) (r : RepV K w R a v) (h : a.listOf S = some xs) : ∃ p vs, v = .ref p ∧ SqL K H p vs ∧ xs.length ≤ line ∧ RepVs K w R xs vs := by
  unfold AV.listOf at h
  split at h
  · rename_i ys e
    cases h
    cases look_seen W r e with
    | lst e z q => exact ⟨_, _, rfl, e, z, q⟩
  · cases h
theorem seqOf_seen {xs : List AV} (W : Wd K w R S H) (r : RepV K w R a v) (h : a.seqOf S = some xs) : ∃ p vs, v = .ref p ∧ (SqL K H p vs ∨ H p = some (.tup vs)) ∧ xs.length ≤ line ∧ RepVs K w R xs vs := by
  unfold AV.seqOf at h
  split at h
  · rename_i ys e
    cases h
    cases look_seen W r e with
    | lst e z q => exact ⟨_, _, rfl, .inl e, z, q⟩
  · rename_i ys e
    cases h
    cases look_seen W r e with
    | tup e z q => exact ⟨_, _, rfl, .inr e, z, q⟩
  · cases h
theorem dctOf_seen {kvs : List (AV × AV)} (W : Wd K w R S H) (r : RepV K w R a v) (h : a.dctOf S = some kvs) : ∃ p es ep, v = .ref p ∧ H p = some (xdic p es ep) ∧ kvs.length ≤ line ∧ RepD K w R kvs es.toList := by
  unfold AV.dctOf at h
  split at h
  · rename_i ys e
    cases h
    cases look_seen W r e with
    | dct e z q => exact ⟨_, _, _, rfl, e, z, q⟩
  · cases h
theorem RepVs.length : ∀ {xs : List AV} {vs : List V}, RepVs K w R xs vs → xs.length = vs.length
  | _, _, .nil => rfl
  | _, _, .cons _ t => by rw [List.length_cons, List.length_cons, RepVs.length t]
theorem RepVs.append : ∀ {xs ys : List AV} {vs us : List V}, RepVs K w R xs vs → RepVs K w R ys us → RepVs K w R (xs ++ ys) (vs ++ us)
  | _, _, _, _, .nil, s => s
  | _, _, _, _, .cons r t, s => .cons r (RepVs.append t s)
theorem RepVs.get : ∀ {xs : List AV} {vs : List V} {i : Nat} {x : AV}, RepVs K w R xs vs → xs[i]? = some x → ∃ v, vs[i]? = some v ∧ RepV K w R x v
  | _, _, _, _, .nil, e => by simp at e
  | _, _, 0, _, .cons r _, e => by simp at e; subst e; exact ⟨_, rfl, r⟩
  | _, _, i + 1, x, .cons _ t, e => by
    obtain ⟨u, h1, h2⟩ := RepVs.get (i := i) (x := x) t (by simpa using e)
    exact ⟨u, by simpa using h1, h2⟩
theorem RepVs.set {x : AV} {v : V} (r : RepV K w R x v) : ∀ {xs : List AV} {vs : List V} (i : Nat), RepVs K w R xs vs → RepVs K w R (xs.set i x) (vs.set i v)
  | _, _, _, .nil => .nil
  | _, _, 0, .cons _ t => .cons r t
  | _, _, i + 1, .cons q t => .cons q (RepVs.set r i t)
theorem RepVs.erase : ∀ {xs : List AV} {vs : List V} (i : Nat), RepVs K w R xs vs → RepVs K w R (xs.eraseIdx i) (vs.eraseIdx i)
  | _, _, _, .nil => .nil
  | _, _, 0, .cons _ t => t
  | _, _, i + 1, .cons q t => .cons q (RepVs.erase i t)
theorem RepVs.rep {xs : List AV} {vs : List V} (h : RepVs K w R xs vs) : ∀ k : Nat, RepVs K w R (List.replicate k xs).flatten (List.replicate k vs).flatten
  | 0 => .nil
  | k + 1 => by
    rw [List.replicate_succ, List.replicate_succ, List.flatten_cons, List.flatten_cons]
    exact h.append (RepVs.rep h k)
theorem RepVs.ints : ∀ {xs : List AV} {vs : List V} {ns : List Int}, RepVs K w R xs vs → AV.ints xs = some ns → vs = ns.map V.int
  | [], _, _, r, h => by cases r; cases h; rfl
  | x :: xs, _, ns, r, h => by
    cases r with
    | @cons _ v _ vs r t =>
      cases x with
      | int i =>
        have h' : (AV.ints xs).map (i :: ·) = some ns := h
        cases e : AV.ints xs with
        | none => rw [e] at h'; cases h'
        | some ms =>
          rw [e] at h'
          cases h'
          cases r
          rw [RepVs.ints t e]
          rfl
      | _ => cases h
theorem RepVs.bools : ∀ {xs : List AV} {vs : List V} {ns : List Bool}, RepVs K w R xs vs → AV.bools xs = some ns → vs = ns.map V.bl
  | [], _, _, r, h => by cases r; cases h; rfl
  | x :: xs, _, ns, r, h => by
    cases r with
    | @cons _ v _ vs r t =>
      cases x with
      | bl i =>
        have h' : (AV.bools xs).map (i :: ·) = some ns := h
        cases e : AV.bools xs with
        | none => rw [e] at h'; cases h'
        | some ms =>
          rw [e] at h'
          cases h'
          cases r
          rw [RepVs.bools t e]
          rfl
      | _ => cases h
theorem RepVs.of_ints : ∀ ns : List Int, RepVs K w R (ns.map AV.int) (ns.map V.int)
  | [] => .nil
  | n :: ns => .cons (.int n) (RepVs.of_ints ns)
end

section
variable {X : Cx} {xw : XWish}
/-! ### operators -/
def rOp (K : PySem.W.Frag) (w : World) (xw : XWish) (f : AV → AV → Store → Res RV) : R2 := fun x y H Q => ∃ R S a b, Wd K w R S H ∧ RepV K w R a x ∧ RepV K w R b y ∧ Post K w xw R H (f a b S) Q
variable {K : PySem.W.Frag} {w : World} {R : Rp} {S : Store} {H : Hp} {Q : VK}
theorem post_v {a : AV} {v : V} (h : Post K w xw R H (.ok (.v a) S) Q) (W : Wd K w R S H) (r : RepV K w R a v) : Q v H := h R H v (.refl R H) W r
theorem post_tup {xs : List AV} {vs : List V} {p : Addr} (h : Post K w xw R H (.ok (.v (.tup xs)) S) Q) (W : Wd K w R S H) (hp : H p = none) (z : xs.length ≤ line) (r : RepVs K w R xs vs) : Q (.ref p) (upd H p (.tup vs)) := by
  obtain ⟨W', E, le⟩ := new_im (u := .tup vs) W hp
  exact h _ _ _ E W' (.tup (a := p) upd_same z (r.mono le))
theorem post_l {xs : List AV} {vs : List V} {p : Addr} (h : Post K w xw R H (.ok (.l xs) S) Q) (W : Wd K w R S H) (hp : H p = none) (z : xs.length ≤ line) (r : RepVs K w R xs vs) : Q (.ref p) (upd H p (.lst vs)) := by
  obtain ⟨W', E, q⟩ := new_l W hp z r
  exact h _ _ _ E W' q
theorem opr_add : OpR X (binaryOp .Add) (rOp X.K X.w xw opAdd) := by
  intro pins s σ H x y v u Q I rx ry ⟨R, S, a, b, W, ra, rb, h⟩
  unfold opAdd at h
  split at h
  · cases ra; cases rb
    exact op_add pins s σ H _ _ v u Q I rx ry ⟨_, _, rfl, rfl, post_v h W (.int _)⟩
  · split at h
    · rename_i hz
      cases ra; cases rb
      exact op_add_str pins s σ H _ _ v u Q I rx ry ⟨_, _, rfl, rfl, hz, post_v h W (.str _)⟩
    · exact h.elim
  · split at h
    · rename_i hz
      cases ra with
      | tup e1 z1 q1 =>
      cases rb with
      | tup e2 z2 q2 =>
        refine op_catA pins s σ H _ _ v u Q I rx ry ⟨_, _, _, _, rfl, rfl, .inl (.inl (W.I _ _ e1)), .inl (.inl (W.I _ _ e2)), by rw [← q1.length, ← q2.length]; exact hz, fun h0 => ?_, fun h0 h1 => ?_, fun h0 h1 p hp => ?_⟩
        · subst h0
          cases q1
          exact post_v h W (.tup e2 z2 q2)
        · subst h1
          cases q2
          rw [List.append_nil] at h
          exact post_v h W (.tup e1 z1 q1)
        · exact post_tup h W hp (by rw [List.length_append]; exact hz) (q1.append q2)
    · exact h.elim
  · split at h
    · rename_i xs ys e1 e2
      split at h
      · rename_i hz
        obtain ⟨p1, vs1, rfl, h1, z1, q1⟩ := listX_seen W ra e1
        obtain ⟨p2, vs2, rfl, h2, z2, q2⟩ := listX_seen W rb e2
        exact op_cat pins s σ H _ _ v u Q I rx ry ⟨_, _, _, _, rfl, rfl, h1, h2, by rw [← q1.length, ← q2.length]; exact hz, fun p hp => post_l h W hp (by rw [List.length_append]; exact hz) (q1.append q2)⟩
      · exact h.elim
    · exact h.elim

theorem opr_sub : OpR X (binaryOp .Sub) (rOp X.K X.w xw opSub) := by
  intro pins s σ H x y v u Q I rx ry ⟨R, S, a, b, W, ra, rb, h⟩
  unfold opSub at h
  split at h
  · cases ra; cases rb
    exact op_sub pins s σ H _ _ v u Q I rx ry ⟨_, _, rfl, rfl, post_v h W (.int _)⟩
  · exact h.elim
theorem opr_div : OpR X (binaryOp .FloorDiv) (rOp X.K X.w xw opDiv) := by
  intro pins s σ H x y v u Q I rx ry ⟨R, S, a, b, W, ra, rb, h⟩
  unfold opDiv at h
  split at h
  · split at h
    · rename_i hc
      cases ra; cases rb
      exact op_fdiv pins s σ H _ _ v u Q I rx ry ⟨_, _, rfl, rfl, hc, post_v h W (.int _)⟩
    · exact h.elim
  · exact h.elim
theorem opr_mod : OpR X (binaryOp .Mod) (rOp X.K X.w xw opMod) := by
  intro pins s σ H x y v u Q I rx ry ⟨R, S, a, b, W, ra, rb, h⟩
  unfold opMod at h
  split at h
  · split at h
    · rename_i hc
      cases ra; cases rb
      exact op_mod pins s σ H _ _ v u Q I rx ry ⟨_, _, rfl, rfl, hc, post_v h W (.int _)⟩
    · exact h.elim
  · exact h.elim
theorem opr_pow : OpR X (binaryOp .Pow) (rOp X.K X.w xw opPow) := by
  intro pins s σ H x y v u Q I rx ry ⟨R, S, a, b, W, ra, rb, h⟩
  unfold opPow at h
  split at h
  · split at h
    · rename_i hc
      cases ra; cases rb
      exact op_pow pins s σ H _ _ v u Q I rx ry ⟨_, _, rfl, rfl, hc, post_v h W (.int _)⟩
    · exact h.elim
  · exact h.elim
theorem opr_mul : OpR X (binaryOp .Mult) (rOp X.K X.w xw opMul) := by
  intro pins s σ H x y v u Q I rx ry ⟨R, S, a, b, W, ra, rb, h⟩
  unfold opMul at h
  split at h
  · split at h
    · rename_i hc
      cases ra; cases rb
      rcases hc with hc | ⟨h1, h2⟩
      · exact op_mul pins s σ H _ _ v u Q I rx ry ⟨_, _, rfl, rfl, hc, post_v h W (.int _)⟩
      · exact op_mulW pins s σ H _ _ v u Q I rx ry ⟨_, _, rfl, rfl, wide_mul h1 h2 (by decide) (by decide) (by decide), post_v h W (.int _)⟩
    · exact h.elim
  · split at h
    · rename_i hc
      obtain ⟨h1, h2, h3, h4⟩ := hc
      cases rb
      cases ra with
      | tup e z q =>
      refine op_repT pins s σ H _ _ v u Q I rx ry ⟨_, _, _, rfl, rfl, .inl (.inl (W.I _ _ e)), fun e0 => h1 ?_, h2, h3, by rw [← q.length]; exact h4, fun p hp => post_tup h W hp ?_ (q.rep _)⟩
      · subst e0
        cases q
        rfl
      · rw [PyProof.Rows.lm_len_rep_flat]
        exact Nat.le_trans (Nat.mul_le_mul (show _ ≤ 1000 by omega) h4) (by decide)
    · exact h.elim
  · split at h
    · rename_i xs e
      split at h
      · rename_i hc
        obtain ⟨h1, h2, h3⟩ := hc
        cases rb
        obtain ⟨p1, vs1, rfl, g1, z1, q1⟩ := listX_seen W ra e
        exact op_rep pins s σ H _ _ v u Q I rx ry ⟨_, _, _, rfl, rfl, g1, by omega, by omega, by rw [← q1.length]; exact h3, fun p hp => post_l h W hp (by rw [PyProof.Rows.lm_len_rep_flat, Nat.mul_comm]; exact h3) (q1.rep _)⟩
      · exact h.elim
    · exact h.elim
  · exact h.elim

/-! ### comparisons -/
def rCo (K : PySem.W.Frag) (w : World) (f : AV → AV → Store → Option Bool) : R2 := fun x y H Q => ∃ R S a b k, Wd K w R S H ∧ RepV K w R a x ∧ RepV K w R b y ∧ f a b S = some k ∧ Q (.bl k) H
mutual
theorem RepV.dp (W : Wd K w R S H) : ∀ {a : AV} {v : V}, RepV K w R a v → a.plain = true → Dp K H v a.pd
  | .non, _, .non, _ => .non
  | .bl b, _, .bl _, _ => .bl b
  | .int b, _, .int _, _ => .int b
  | .str b, _, .str _, _ => .str b
  | .tup xs, _, .tup e z q, h => .tup (.inl (.inl (W.I _ _ e))) (RepVs.dp W q h)
  | .lst xs, _, .lst e z q, h => .lst (.inl (.inl (W.I _ _ e))) (RepVs.dp W q h)
theorem RepVs.dp (W : Wd K w R S H) : ∀ {xs : List AV} {vs : List V}, RepVs K w R xs vs → AV.plains xs = true → DpAll K H vs (AV.pds xs)
  | [], _, .nil, _ => .nil
  | x :: xs, _, .cons r t, h => .cons (RepV.dp W r (Bool.and_eq_true_iff.mp h).1) (RepVs.dp W t (Bool.and_eq_true_iff.mp h).2)
end
theorem Seen.dp {a : AV} {v : V} (W : Wd K w R S H) (r : Seen K w R H a v) (h : a.plain = true) : Dp K H v a.pd := by
  cases r with
  | non => exact .non
  | bl b => exact .bl b
  | int b => exact .int b
  | str b => exact .str b
  | lst e z q => exact .lst e (RepVs.dp W q h)
  | tup e z q => exact .tup (.inl (.inl e)) (RepVs.dp W q h)
  | _ => cases h
theorem eqOp_inv {a b : AV} {x y : V} {k : Bool} (W : Wd K w R S H) (ra : RepV K w R a x) (rb : RepV K w R b y) (h : eqOp a b S = some k) :
    ∃ d e, Dp K H x d ∧ Dp K H y e ∧ SeqAt.shaped d = true ∧ SeqAt.shaped e = true ∧ k = PyData.eqv d e := by
  unfold eqOp at h
  split at h
  · rename_i a' b' e1 e2
    split at h
    · rename_i hc
      cases h
      obtain ⟨c1, c2⟩ := Bool.and_eq_true_iff.mp hc
      obtain ⟨p1, s1⟩ := Bool.and_eq_true_iff.mp c1
      obtain ⟨p2, s2⟩ := Bool.and_eq_true_iff.mp c2
      exact ⟨_, _, (look_seen W ra e1).dp W p1, (look_seen W rb e2).dp W p2, s1, s2, rfl⟩
    · cases h
  · cases h
theorem cor_eq (hu : X.A.units + 64 < cLine) : OpR X (compareOp .Eq) (rCo X.K X.w (opCmp .eq)) := by
  intro pins s σ H x y v u Q I rx ry ⟨R, S, a, b, k, W, ra, rb, h, q⟩
  obtain ⟨d, e, h1, h2, h3, h4, rfl⟩ := eqOp_inv W ra rb h
  exact op_eqD hu pins s σ H _ _ v u Q I rx ry ⟨d, e, h1, h2, h3, h4, q⟩
theorem cor_ne (hu : X.A.units + 64 < cLine) : OpR X (compareOp .NotEq) (rCo X.K X.w (opCmp .ne)) := by
  intro pins s σ H x y v u Q I rx ry ⟨R, S, a, b, k, W, ra, rb, h, q⟩
  have h' : (eqOp a b S).map (!·) = some k := h
  obtain ⟨k', e', rfl⟩ := Option.map_eq_some_iff.mp h'
  obtain ⟨d, e, h1, h2, h3, h4, rfl⟩ := eqOp_inv W ra rb e'
  exact op_neD hu pins s σ H _ _ v u Q I rx ry ⟨d, e, h1, h2, h3, h4, q⟩
theorem ltOp_inv {a b : AV} {k : Bool} (h : ltOp a b = some k) : ∃ i j, a = .int i ∧ b = .int j ∧ k = decide (i < j) := by
  unfold ltOp at h
  split at h
  · cases h; exact ⟨_, _, rfl, rfl, rfl⟩
  · cases h
theorem leOp_inv {a b : AV} {k : Bool} (h : leOp a b = some k) : ∃ i j, a = .int i ∧ b = .int j ∧ k = decide (i ≤ j) := by
  unfold leOp at h
  split at h
  · cases h; exact ⟨_, _, rfl, rfl, rfl⟩
  · cases h
theorem cor_lt : OpR X (compareOp .Lt) (rCo X.K X.w (opCmp .lt)) := by
  intro pins s σ H x y v u Q I rx ry ⟨R, S, a, b, k, W, ra, rb, h, q⟩
  obtain ⟨i, j, rfl, rfl, rfl⟩ := ltOp_inv h
  cases ra; cases rb
  exact op_lt pins s σ H _ _ v u Q I rx ry ⟨_, _, rfl, rfl, q⟩
theorem cor_le : OpR X (compareOp .LtE) (rCo X.K X.w (opCmp .le)) := by
  intro pins s σ H x y v u Q I rx ry ⟨R, S, a, b, k, W, ra, rb, h, q⟩
  obtain ⟨i, j, rfl, rfl, rfl⟩ := leOp_inv h
  cases ra; cases rb
  exact op_le pins s σ H _ _ v u Q I rx ry ⟨_, _, rfl, rfl, q⟩
theorem cor_gt : OpR X (compareOp .Gt) (rCo X.K X.w (opCmp .gt)) := by
  intro pins s σ H x y v u Q I rx ry ⟨R, S, a, b, k, W, ra, rb, h, q⟩
  obtain ⟨i, j, rfl, rfl, rfl⟩ := ltOp_inv h
  cases ra; cases rb
  exact op_gt pins s σ H _ _ v u Q I rx ry ⟨_, _, rfl, rfl, q⟩
theorem cor_ge : OpR X (compareOp .GtE) (rCo X.K X.w (opCmp .ge)) := by
  intro pins s σ H x y v u Q I rx ry ⟨R, S, a, b, k, W, ra, rb, h, q⟩
  obtain ⟨i, j, rfl, rfl, rfl⟩ := leOp_inv h
  cases ra; cases rb
  exact op_ge pins s σ H _ _ v u Q I rx ry ⟨_, _, rfl, rfl, q⟩
theorem RepV.not_non {a : AV} {v : V} (r : RepV K w R a v) (h : a ≠ .non) : v ≠ .non := by
  cases r <;> first | exact absurd rfl h | (intro z; cases z)
theorem isOp_inv {a b : AV} {x y : V} {k : Bool} (ra : RepV K w R a x) (rb : RepV K w R b y) (h : isOp a b = some k) :
    (y = .non ∧ k = decide (x = .non)) ∨ ∃ c, y = .bl c ∧ k = decide (x = .bl c) := by
  cases rb with
  | non =>
    refine .inl ⟨rfl, ?_⟩
    cases ra <;> (cases h; simp)
  | bl c =>
    refine .inr ⟨c, rfl, ?_⟩
    cases ra <;> (cases h; first | rfl | simp [Bool.beq_eq_decide_eq])
  | _ => cases h
theorem is_bool {x : V} {v : Value} {c : Bool} {M : Model} {A : Around} {E : Value → Shared → Prop} {Q : Value → Shared → Prop} {s : Shared} (r : RelV x v) (h : Q (.bool (decide (x = .bl c))) s) : wpAny M A (compareOp .Is v (.bool c)) Q E s := by
  cases x with
  | bl b =>
    cases (show v = Value.bool b from r)
    by_cases e : b = c
    · subst e
      exact wpAny_is_self rfl (by simpa using h)
    · exact wpAny_is_other rfl (fun z => e (Value.bool.inj z)) (by simpa [e] using h)
  | non => cases (show v = Value.none from r); exact wpAny_is_other rfl (fun z => nomatch z) (by simpa using h)
  | int i => obtain ⟨t, rfl⟩ := r; exact wpAny_is_other rfl (fun z => nomatch z) (by simpa using h)
  | str i => obtain ⟨t, rfl⟩ := r; exact wpAny_is_other rfl (fun z => nomatch z) (by simpa using h)
  | byt i => obtain ⟨t, rfl⟩ := r; exact wpAny_is_other rfl (fun z => nomatch z) (by simpa using h)
  | flt i => obtain ⟨t, rfl⟩ := r; exact wpAny_is_other rfl (fun z => nomatch z) (by simpa using h)
  | ref i => cases (show v = Value.ref i from r); exact wpAny_is_other rfl (fun z => nomatch z) (by simpa using h)
  | ty i => cases (show v = Value.type i from r); exact wpAny_is_other rfl (fun z => nomatch z) (by simpa using h)
theorem isnot_bool {x : V} {v : Value} {c : Bool} {M : Model} {A : Around} {E : Value → Shared → Prop} {Q : Value → Shared → Prop} {s : Shared} (r : RelV x v) (h : Q (.bool (!decide (x = .bl c))) s) : wpAny M A (compareOp .IsNot v (.bool c)) Q E s := by
  cases x with
  | bl b =>
    cases (show v = Value.bool b from r)
    by_cases e : b = c
    · subst e
      exact wpAny_isNot_self rfl (by simpa using h)
    · exact wpAny_isNot_other rfl (fun z => e (Value.bool.inj z)) (by simpa [e] using h)
  | non => cases (show v = Value.none from r); exact wpAny_isNot_other rfl (fun z => nomatch z) (by simpa using h)
  | int i => obtain ⟨t, rfl⟩ := r; exact wpAny_isNot_other rfl (fun z => nomatch z) (by simpa using h)
  | str i => obtain ⟨t, rfl⟩ := r; exact wpAny_isNot_other rfl (fun z => nomatch z) (by simpa using h)
  | byt i => obtain ⟨t, rfl⟩ := r; exact wpAny_isNot_other rfl (fun z => nomatch z) (by simpa using h)
  | flt i => obtain ⟨t, rfl⟩ := r; exact wpAny_isNot_other rfl (fun z => nomatch z) (by simpa using h)
  | ref i => cases (show v = Value.ref i from r); exact wpAny_isNot_other rfl (fun z => nomatch z) (by simpa using h)
  | ty i => cases (show v = Value.type i from r); exact wpAny_isNot_other rfl (fun z => nomatch z) (by simpa using h)
theorem cor_is : OpR X (compareOp .Is) (rCo X.K X.w (opCmp .is)) := by
  intro pins s σ H x y v u Q I rx ry ⟨R, S, a, b, k, W, ra, rb, h, q⟩
  rcases isOp_inv ra rb h with ⟨rfl, rfl⟩ | ⟨c, rfl, rfl⟩
  · exact op_isN pins s σ H _ _ v u Q I rx ry ⟨rfl, q⟩
  · cases (show u = Value.bool c from ry)
    exact is_bool rx ⟨.bl _, H, I, rfl, q⟩
theorem cor_isnot : OpR X (compareOp .IsNot) (rCo X.K X.w (opCmp .isnot)) := by
  intro pins s σ H x y v u Q I rx ry ⟨R, S, a, b, k, W, ra, rb, h, q⟩
  have h' : (isOp a b).map (!·) = some k := h
  obtain ⟨k', e', rfl⟩ := Option.map_eq_some_iff.mp h'
  rcases isOp_inv ra rb e' with ⟨rfl, rfl⟩ | ⟨c, rfl, rfl⟩
  · exact op_notN pins s σ H _ _ v u Q I rx ry ⟨rfl, q⟩
  · cases (show u = Value.bool c from ry)
    exact isnot_bool rx ⟨.bl _, H, I, rfl, q⟩
end
end DL

set_option Elab.async false
set_option linter.all false
set_option maxRecDepth 100000
set_option maxHeartbeats 2000000
namespace DL
open PySem PySem.Spec PyProof.Rows L2
section
variable {X : Cx} {xw : XWish}
/-! ### calls of built-ins -/
def rBi (K : PySem.W.Frag) (w : World) (xw : XWish) (f : Store → List AV → Res RV) : List V → Hp → VK → Prop := fun vs H Q => ∃ R S as, Wd K w R S H ∧ RepVs K w R as vs ∧ Post K w xw R H (f S as) Q
variable {K : PySem.W.Frag} {w : World} {R : Rp} {S : Store} {H : Hp} {Q : VK}
theorem xdic_raw {pins : List (Addr × Obj)} {σ : L2.St} {s : Shared} {p : Addr} {es : Array DictEntry} {ep : Nat} (I : L2.Inv X pins σ H s) (h : H p = some (xdic p es ep)) : s.heap.DictRaw p es ep ∧ (p == sysModules) = false := by
  have := I.hok p _ h
  exact this.1
theorem RepD.length : ∀ {kvs : List (AV × AV)} {es : List DictEntry}, RepD K w R kvs es → kvs.length = es.length
  | _, _, .nil => rfl
  | _, _, .cons _ _ _ _ _ _ _ _ t => by rw [List.length_cons, List.length_cons, RepD.length t]
theorem cal_len : CallR X (.builtin "len") (rBi X.K X.w xw biLen) := by
  intro pins s σ H vs us Q I r ⟨R, S, as, W, ra, h⟩
  unfold biLen at h
  split at h
  · rename_i a
    cases ra with
    | cons ra rn =>
    cases rn
    split at h
    · rename_i n e
      unfold lenOf at e
      split at e
      · rename_i xs e1
        cases e
        cases look_seen W ra e1 with
        | lst q z t => exact call_len pins s σ H _ us Q I r ⟨_, _, rfl, .inl ⟨_, q, t.length⟩, post_v h W (.int _)⟩
      · rename_i xs e1
        cases e
        cases look_seen W ra e1 with
        | tup q z t => exact call_len pins s σ H _ us Q I r ⟨_, _, rfl, .inr ⟨_, .inl (.inl q), t.length⟩, post_v h W (.int _)⟩
      · rename_i kvs e1
        cases e
        cases look_seen W ra e1 with
        | dct q z t =>
          obtain ⟨hr, hs⟩ := xdic_raw I q
          rw [Vals.ref1 r]
          have hn : kvs.length = Array.size _ := t.length.trans Array.length_toList
          have hz : kvs.length ≤ sizeLine := z
          rw [sizeLine_eq] at hz
          refine PyProof.Rows.call_len_slot (n := kvs.length) hr.typeIs F.slot_dict_len (fun Q' hq => call_len_raw hs hr (by rw [← hn]; exact hq)) (by omega) (by omega) ?_
          exact ⟨.int _, H, I.tok _, ⟨_, rfl⟩, post_v h W (.int _)⟩
      · rename_i x e1
        split at e
        · rename_i hz
          cases e
          cases look_seen W ra e1 with
          | str y => exact call_len pins s σ H _ us Q I r ⟨_, _, rfl, ⟨hz, rfl⟩, post_v h W (.int _)⟩
        · cases e
      · cases e
    · exact h.elim
  · exact h.elim
theorem bind_some {α β : Type} {o : Option α} {f : α → Option β} {b : β} (h : o.bind f = some b) : ∃ a, o = some a ∧ f a = some b := Option.bind_eq_some_iff.mp h
theorem cal_all (hc : X.calm = true) : CallR X (.builtin "all") (rBi X.K X.w xw biAll) := by
  intro pins s σ H vs us Q I r ⟨R, S, as, W, ra, h⟩
  unfold biAll at h
  split at h
  · rename_i a
    cases ra with
    | cons ra rn =>
    cases rn
    split at h
    · rename_i bs e
      obtain ⟨xs, e1, e2⟩ := bind_some e
      obtain ⟨p, vs, rfl, q, z, t⟩ := listOf_seen W ra e1
      obtain rfl := t.bools e2
      exact cr_all hc pins s σ H _ us Q I r ⟨_, _, rfl, q, post_v h W (.bl _)⟩
    · exact h.elim
  · exact h.elim
theorem cal_any (hc : X.calm = true) : CallR X (.builtin "any") (rBi X.K X.w xw biAny) := by
  intro pins s σ H vs us Q I r ⟨R, S, as, W, ra, h⟩
  unfold biAny at h
  split at h
  · rename_i a
    cases ra with
    | cons ra rn =>
    cases rn
    split at h
    · rename_i bs e
      obtain ⟨xs, e1, e2⟩ := bind_some e
      obtain ⟨p, vs, rfl, q, z, t⟩ := listOf_seen W ra e1
      obtain rfl := t.bools e2
      exact cr_any hc pins s σ H _ us Q I r ⟨_, _, rfl, q, post_v h W (.bl _)⟩
    · exact h.elim
  · exact h.elim
theorem cal_sum (hc : X.calm = true) : CallR X (.builtin "sum") (rBi X.K X.w xw biSum) := by
  intro pins s σ H vs us Q I r ⟨R, S, as, W, ra, h⟩
  unfold biSum at h
  split at h
  · rename_i a
    cases ra with
    | cons ra rn =>
    cases rn
    split at h
    · rename_i bs e
      obtain ⟨xs, e1, e2⟩ := bind_some e
      obtain ⟨p, vs, rfl, q, z, t⟩ := listOf_seen W ra e1
      obtain rfl := t.ints e2
      exact cr_sum hc pins s σ H _ us Q I r ⟨_, _, rfl, q, post_v h W (.int _)⟩
    · exact h.elim
  · exact h.elim
/-- a tuple that is looked at is a value of its own -/
theorem look_tup {a : AV} {xs : List AV} {v : V} (W : Wd K w R S H) (r : RepV K w R a v) (h : a.look S = some (.tup xs)) : RepV K w R (.tup xs) v := by
  cases r with
  | tup e z q => cases h; exact .tup e z q
  | @ref l hl =>
    have h' : S[l]?.bind AO.av? = some (.tup xs) := h
    obtain ⟨o, e, h2⟩ := bind_some h'
    have ro := W.obj l o e
    cases o with
    | fz a' => cases h2; exact ro
    | _ => cases h2
  | _ => cases h
theorem seqOf_cases {a : AV} {xs : List AV} (h : a.seqOf S = some xs) : a.look S = some (.lst xs) ∨ a.look S = some (.tup xs) := by
  unfold AV.seqOf at h
  split at h
  · rename_i ys e; cases h; exact .inl e
  · rename_i ys e; cases h; exact .inr e
  · cases h
theorem cal_tuple : CallR X (.type "tuple") (rBi X.K X.w xw biTuple) := by
  intro pins s σ H vs us Q I r ⟨R, S, as, W, ra, h⟩
  unfold biTuple at h
  split at h
  · rename_i a
    cases ra with
    | cons ra rn =>
    cases rn
    split at h
    · rename_i xs e
      rcases seqOf_cases e with e | e
      · cases look_seen W ra e with
        | lst q z t => exact call_tuple_of pins s σ H _ us Q I r ⟨_, _, rfl, .inl ⟨q, fun l hl => post_tup h W hl z t⟩⟩
      · cases look_seen W ra e with
        | tup q z t => exact call_tuple_of pins s σ H _ us Q I r ⟨_, _, rfl, .inr ⟨.inl (.inl q), post_v h W (look_tup W ra e)⟩⟩
    · exact h.elim
  · exact h.elim

/-! ### isinstance -/
def Ty.nm : Ty → String
  | .int => "int"
  | .bool => "bool"
  | .str => "str"
  | .tuple => "tuple"
  | .list => "list"
  | .dict => "dict"
theorem cal_isi {a : AV} {x : V} {u : Value} {t : Ty} {b : Bool} {pins : List (Addr × Obj)} {σ : L2.St} {s : Shared} {E : Value → Shared → Prop} {Q' : Value → Shared → Prop} (I : L2.Inv X pins σ H s) (W : Wd X.K X.w R S H) (ra : RepV X.K X.w R a x) (rx : RelV x u)
    (h : isTy S a t = some b) (hq : ∀ tk, Q' (.bool b) { s with toks := tk }) : wpAny (model X.prog X.w) X.A (call (.builtin "isinstance") [u, .type t.nm]) Q' E s := by
  have go : ∀ T : String, TyX X.K H x (.type T) → PySem.W.kitOne X.K (.type T) (.type t.nm) = some b → wpAny (model X.prog X.w) X.A (call (.builtin "isinstance") [u, .type t.nm]) Q' E s := fun T ty e => by
    obtain ⟨P, Z, p, hx⟩ := kit_of I rx ty
    exact PySem.W.kia_one Z I.kIn p e hx hq
  unfold isTy at h
  obtain ⟨c, e1, e2⟩ := bind_some h
  cases look_seen W ra e1 with
  | non => exact go "NoneType" (.base .non) (kit_ty (by cases t <;> (cases e2; decide +kernel)))
  | bl k => exact go "bool" (.base (.bl k)) (kit_ty (by cases t <;> (cases e2; decide +kernel)))
  | int k => exact go "int" (.base (.int k)) (kit_ty (by cases t <;> (cases e2; decide +kernel)))
  | str k => exact go "str" (.base (.str k)) (kit_ty (by cases t <;> (cases e2; decide +kernel)))
  | lst q z tt =>
    have e3 : PySem.W.kitOne X.K (.type "list") (.type t.nm) = some b := kit_ty (by cases t <;> (cases e2; decide +kernel))
    rcases q with (q | ⟨o, q⟩) | ⟨o, its, n, q, c1, c2, c3, c4⟩
    · exact go "list" (.base (.lst q)) e3
    · exact go "list" (.base (.frz q)) e3
    · exact go "list" (.kList q c1) e3
  | tup q z tt => exact go "tuple" (.base (.tup q)) (kit_ty (by cases t <;> (cases e2; decide +kernel)))
  | dct q z tt =>
    have e3 : PySem.W.kitOne X.K (.type "dict") (.type t.nm) = some b := kit_ty (by cases t <;> (cases e2; decide +kernel))
    obtain ⟨⟨o, h1, h2, _⟩, _⟩ := xdic_raw I q
    cases (show u = Value.ref _ from rx)
    exact PySem.W.kia_one PySem.W.kitx_dict I.kIn ⟨o, h1, h2.1⟩ e3 (fun z => nomatch z) hq
  | ref => cases e2
  | scr =>
    cases ra with
    | @ref l hl =>
      have h' : S[l]?.bind AO.av? = some _ := e1
      obtain ⟨o, e, h2⟩ := bind_some h'
      have ro := W.obj l o e
      cases o with
      | fz a' =>
        cases h2
        have ro' : RepV X.K X.w R (.scr _) (.ref (R.ι l)) := ro
        cases ro' with
        | scr q z tt =>
          have e3 : PySem.W.kitOne X.K (.type "list") (.type t.nm) = some b := kit_ty (by cases t <;> (cases e2; decide +kernel))
          rcases sql_of q (fun o q => W.I _ _ q) with (q | ⟨o, q⟩) | ⟨o, its, n, q, c1, c2, c3, c4⟩
          · exact go "list" (.base (.lst q)) e3
          · exact go "list" (.base (.frz q)) e3
          · exact go "list" (.kList q c1) e3
      | _ => cases h2
    | _ => cases e1

/-! ### dicts -/
def keyAV : Key → AV
  | .inl i => .int i
  | .inr x => .str x
theorem keyL_key {k : AV} (h : k.keyL = true) : ∃ q : Key, k = keyAV q := by
  cases k with
  | int i => exact ⟨.inl i, rfl⟩
  | str x => exact ⟨.inr x, rfl⟩
  | _ => cases h
theorem keyT_key (q : Key) : (keyAV q).keyT = some (match q with
    | .inl i => .num i
    | .inr x => .text x) := by cases q <;> rfl
theorem keq_key (p q : Key) : (keyAV p).keq (keyAV q) = decide (p = q) := by
  unfold AV.keq
  rw [keyT_key, keyT_key]
  cases p <;> cases q <;> simp
theorem keyOk_cases {kvs : List (AV × AV)} {k : AV} (h : keyOk kvs k = true) : (k.keyL = true ∧ ∀ p ∈ kvs, p.1.keyL = true) ∨ (k.keyD = true ∧ ∀ p ∈ kvs, p.1.keyD = true) := by
  unfold keyOk at h
  rcases Bool.or_eq_true_iff.mp h with h | h
  · obtain ⟨h1, h2⟩ := Bool.and_eq_true_iff.mp h
    exact .inl ⟨h1, fun p hp => List.all_eq_true.mp h2 p hp⟩
  · obtain ⟨h1, h2⟩ := Bool.and_eq_true_iff.mp h
    exact .inr ⟨h1, fun p hp => List.all_eq_true.mp h2 p hp⟩
/-- the entries of a dict whose keys are whole numbers and texts, as the library tells them -/
inductive LkRel (K : PySem.W.Frag) (w : World) (R : Rp) : List (AV × AV) → List (Key × Value) → Prop
  | nil : LkRel K w R [] []
  | cons {q : Key} {v : AV} {y : V} {u : Value} {kvs : List (AV × AV)} {lk : List (Key × Value)} : RepV K w R v y → RelV y u → LkRel K w R kvs lk → LkRel K w R ((keyAV q, v) :: kvs) ((q, u) :: lk)
theorem RepV.key {q : Key} {x : V} {u : Value} (r : RepV K w R (keyAV q) x) (e : RelV x u) : keyIs q u = true := by
  cases q with
  | inl i =>
    cases r
    obtain ⟨t, rfl⟩ := e
    exact keyIs_int i t
  | inr z =>
    cases r
    obtain ⟨t, rfl⟩ := e
    exact keyIs_str z t
theorem hash_key {q : Key} {kt : NestedKey} (h : (keyAV q).keyT = some kt) : kt.hash w = keyH w q := by
  cases q <;> (cases h; simp [NestedKey.hash, keyH])
theorem RepD.leaf (P : Program) : ∀ {kvs : List (AV × AV)} {es : List DictEntry}, RepD K w R kvs es → (∀ p ∈ kvs, p.1.keyL = true) →
    ∃ lk, LkRel K w R kvs lk ∧ Pairs (mixKind P w) es lk ∧ (∀ e ∈ es, ∃ k, keyIs k e.key = true ∧ e.hash = keyH w k) ∧ (lk.map (·.1)).Nodup ∧ ∀ q : Key, q ∈ lk.map (·.1) → ∃ p ∈ kvs, p.1 = keyAV q
  | _, _, .nil, _ => ⟨[], .nil, .nil, (fun _ h => by cases h), List.nodup_nil, (fun _ h => by cases h)⟩
  | _, _, .cons (k := k) (v := v) (kvs := kvs) (e := e) (es := es) a b c d r1 e1 r2 e2 t, h => by
    obtain ⟨q, rfl⟩ := keyL_key (h (k, v) List.mem_cons_self)
    obtain ⟨lk, h1, h2, h3, h4, h5⟩ := RepD.leaf P t fun p hp => h p (List.mem_cons_of_mem _ hp)
    refine ⟨(q, e.val) :: lk, .cons r2 e2 h1, .cons (r1.key e1) rfl h2, fun e' he => ?_, ?_, fun q' hq => ?_⟩
    · rcases List.mem_cons.mp he with rfl | he
      · exact ⟨q, r1.key e1, d.trans (hash_key c)⟩
      · exact h3 e' he
    · rw [List.map_cons, List.nodup_cons]
      refine ⟨fun hm => ?_, h4⟩
      obtain ⟨p, hp, e⟩ := h5 q hm
      have := b p hp
      rw [e, keq_key] at this
      simp at this
    · rw [List.map_cons] at hq
      rcases List.mem_cons.mp hq with rfl | hq
      · exact ⟨_, List.mem_cons_self, rfl⟩
      · obtain ⟨p, hp, e⟩ := h5 q' hq
        exact ⟨p, List.mem_cons_of_mem _ hp, e⟩
theorem LkRel.back {P : Program} : ∀ {kvs : List (AV × AV)} {lk : List (Key × Value)} {es : List DictEntry}, LkRel K w R kvs lk → Pairs (mixKind P w) es lk → (∀ e ∈ es, ∃ k, keyIs k e.key = true ∧ e.hash = keyH w k) → (lk.map (·.1)).Nodup → RepD K w R kvs es
  | _, _, _, .nil, .nil, _, _ => .nil
  | _, _, _, .cons (q := q) (v := v) (kvs := kvs) (lk := lk) r e t, .cons (e := en) (es := es) p1 p2 p3, h, nd => by
    rw [List.map_cons, List.nodup_cons] at nd
    have keys : ∀ {kvs : List (AV × AV)} {lk : List (Key × Value)}, LkRel K w R kvs lk → ∀ p ∈ kvs, ∃ q' ∈ lk.map (·.1), p.1 = keyAV q' := by
      intro kvs lk t
      induction t with
      | nil => intro p hp; cases hp
      | @cons q v y u kvs lk r e t ih =>
        intro p hp
        rcases List.mem_cons.mp hp with rfl | hp
        · exact ⟨q, List.mem_cons_self, rfl⟩
        · obtain ⟨q', h1, h2⟩ := ih p hp
          exact ⟨q', List.mem_cons_of_mem _ h1, h2⟩
    obtain ⟨kk, k1, k2⟩ := h en List.mem_cons_self
    have p1' : keyIs q en.key = true := p1
    have hkk : kk = q := (mixKind P w).inj en.key kk q k1 p1'
    subst hkk
    have rx : ∃ x, RepV K w R (keyAV kk) x ∧ RelV x en.key := by
      refine ⟨kV kk, ?_, relV_key p1'⟩
      cases kk with
      | inl i => exact .int i
      | inr z => exact .str z
    obtain ⟨x, rx1, rx2⟩ := rx
    refine .cons ?_ (fun p hp => ?_) (keyT_key kk) (k2.trans (hash_key (keyT_key kk)).symm) rx1 rx2 r (by rw [show en.val = _ from p2]; exact e) (LkRel.back t p3 (fun e' he => h e' (List.mem_cons_of_mem _ he)) nd.2)
    · unfold keyOk
      rw [Bool.or_eq_true_iff]
      refine .inl (Bool.and_eq_true_iff.mpr ⟨by cases kk <;> rfl, List.all_eq_true.mpr fun p hp => ?_⟩)
      obtain ⟨q', _, e⟩ := keys t p hp
      rw [e]
      cases q' <;> rfl
    · obtain ⟨q', h1, e⟩ := keys t p hp
      rw [e, keq_key]
      refine decide_eq_false fun z => nd.1 ?_
      rw [← z]
      exact h1
theorem LkRel.get {q : Key} : ∀ {kvs : List (AV × AV)} {lk : List (Key × Value)}, LkRel K w R kvs lk → (∀ v, dget kvs (keyAV q) = some v → ∃ y u, RepV K w R v y ∧ RelV y u ∧ valueAt lk q = some u) ∧ (dget kvs (keyAV q) = none → valueAt lk q = none)
  | _, _, .nil => ⟨fun v h => (by cases h), fun _ => rfl⟩
  | _, _, .cons (q := q') (v := v) (kvs := kvs) (lk := lk) r e t => by
    obtain ⟨h1, h2⟩ := LkRel.get (q := q) t
    by_cases hq : q' = q
    · subst hq
      refine ⟨fun v' hv => ?_, fun hv => ?_⟩
      · have hv' : dget ((keyAV q', v) :: kvs) (keyAV q') = some v := by simp [dget, keq_key]
        rw [hv'] at hv
        cases hv
        exact ⟨_, _, r, e, by simp [valueAt]⟩
      · have hv' : dget ((keyAV q', v) :: kvs) (keyAV q') = some v := by simp [dget, keq_key]
        rw [hv'] at hv
        cases hv
    · have e1 : dget ((keyAV q', v) :: kvs) (keyAV q) = dget kvs (keyAV q) := by simp [dget, keq_key, hq]
      have e2 : ∀ u, valueAt ((q', u) :: lk) q = valueAt lk q := fun u => by simp [valueAt, hq]
      rw [e1, e2]
      exact ⟨h1, h2⟩
theorem LkRel.put {q : Key} {v : AV} {y : V} {u : Value} (r : RepV K w R v y) (e : RelV y u) {kvs : List (AV × AV)} {lk : List (Key × Value)} (h : LkRel K w R kvs lk) : LkRel K w R (dput kvs (keyAV q) v) (stored lk q u) := by
  have any : (kvs.any fun p => p.1.keq (keyAV q)) = lk.any fun kv => decide (kv.1 = q) := by
    induction h with
    | nil => rfl
    | cons r e t ih => rw [List.any_cons, List.any_cons, ih, keq_key]
  unfold dput stored
  rw [any]
  split
  · rename_i hh
    clear any hh
    induction h with
    | nil => exact .nil
    | @cons q' v' y' u' kvs lk r' e' t ih =>
      rw [List.map_cons, List.map_cons]
      by_cases hq : q' = q
      · subst hq
        simp only [keq_key, decide_true, if_true]
        exact .cons r e ih
      · simp only [keq_key, decide_eq_false hq, Bool.false_eq_true, if_false, if_neg hq]
        exact .cons r' e' ih
  · rename_i hh
    clear any hh
    induction h with
    | nil => exact .cons r e .nil
    | cons r' e' t ih => exact .cons r' e' ih
/-- as the library's dict -/
theorem dict_leaf {pins : List (Addr × Obj)} {σ : L2.St} {s : Shared} {p : Addr} {kvs : List (AV × AV)} {es : Array DictEntry} {ep : Nat} (I : L2.Inv X pins σ H s) (h : H p = some (xdic p es ep)) (rd : RepD K X.w R kvs es.toList) (hk : ∀ p ∈ kvs, p.1.keyL = true) :
    ∃ lk, LkRel K X.w R kvs lk ∧ s.heap.DictOf (mixKind X.prog X.w) p lk ∧ lk.length = kvs.length := by
  obtain ⟨lk, h1, h2, h3, h4, _⟩ := rd.leaf X.prog hk
  obtain ⟨⟨o, ho, hc, hd⟩, _⟩ := xdic_raw I h
  refine ⟨lk, h1, ⟨o, es, ep, ho, hc, hd, fun e he => ?_, h2, h4⟩, ?_⟩
  · obtain ⟨k, k1, k2⟩ := h3 e (by simpa using he)
    exact ⟨k, k1, k2⟩
  · rw [← h2.length, ← rd.length]

mutual
theorem RepV.nested {pins : List (Addr × Obj)} {σ : L2.St} {s : Shared} (I : L2.Inv X pins σ H s) (W : Wd K w R S H) : ∀ {k : AV} {x : V} {u : Value} {kt : NestedKey}, RepV K w R k x → RelV x u → k.keyT = some kt → NestedIs s.heap kt u
  | .non, _, _, _, .non, e, h => by
    cases (show _ = Value.none from e)
    cases h
    exact .none
  | .bl b, _, _, _, .bl _, e, h => by
    cases (show _ = Value.bool b from e)
    cases h
    exact .bool rfl
  | .int i, _, _, _, .int _, e, h => by
    obtain ⟨t, rfl⟩ := e
    cases h
    exact .int _ _
  | .str x, _, _, _, .str _, e, h => by
    obtain ⟨t, rfl⟩ := e
    cases h
    exact .text _ _
  | .tup xs, _, _, _, .tup (a := a) e z q, e', h => by
    cases (show _ = Value.ref a from e')
    have h' : (AV.keyTs xs).map NestedKey.tup = some _ := h
    obtain ⟨ks, hk, rfl⟩ := Option.map_eq_some_iff.mp h'
    obtain ⟨hz, its, rv, o, ho, hc, n, hd⟩ := I.hok a _ (W.I _ _ e)
    exact .tup ho hc hd (by simpa using RepVs.nested I W q rv hk)
theorem RepVs.nested {pins : List (Addr × Obj)} {σ : L2.St} {s : Shared} (I : L2.Inv X pins σ H s) (W : Wd K w R S H) : ∀ {xs : List AV} {vs : List V} {us : List Value} {ks : List NestedKey}, RepVs K w R xs vs → Vals vs us → AV.keyTs xs = some ks → NestedAll s.heap ks us
  | [], _, _, _, .nil, .nil, h => by
    cases h
    exact .nil
  | x :: xs, _, _, _, .cons r t, .cons e1 e2, h => by
    have h' : (x.keyT.bind fun k => (AV.keyTs xs).map fun ks => k :: ks) = some _ := h
    obtain ⟨k, h1, h2⟩ := bind_some h'
    obtain ⟨ks, h3, rfl⟩ := Option.map_eq_some_iff.mp h2
    exact .cons (RepV.nested I W r e1 h1) (RepVs.nested I W t e2 h3)
end
theorem keyD_inv {k : AV} (h : k.keyD = true) : ∃ kt xs, k.keyT = some kt ∧ kt.depth ≤ 8 ∧ k = .tup xs := by
  unfold AV.keyD at h
  split at h
  · rename_i kt e
    obtain ⟨h1, h2⟩ := Bool.and_eq_true_iff.mp h
    cases k with
    | tup xs => exact ⟨kt, xs, e, of_decide_eq_true h2, rfl⟩
    | _ => cases h1
  · cases h
inductive TkRel (K : PySem.W.Frag) (w : World) (R : Rp) : List (AV × AV) → List (NestedKey × Addr × Value) → Prop
  | nil : TkRel K w R [] []
  | cons {k v : AV} {kt : NestedKey} {a : Addr} {y : V} {u : Value} {kvs : List (AV × AV)} {tk : List (NestedKey × Addr × Value)} : k.keyD = true → k.keyT = some kt → RepV K w R k (.ref a) → RepV K w R v y → RelV y u → TkRel K w R kvs tk → TkRel K w R ((k, v) :: kvs) ((kt, a, u) :: tk)
theorem TkRel.key : ∀ {kvs : List (AV × AV)} {tk : List (NestedKey × Addr × Value)}, TkRel K w R kvs tk → ∀ kt, kt ∈ tk.map (·.1) → ∃ p ∈ kvs, p.1.keyT = some kt
  | _, _, .nil, _, h => by cases h
  | _, _, .cons a b c d e t, kt, h => by
    rw [List.map_cons] at h
    rcases List.mem_cons.mp h with rfl | h
    · exact ⟨_, List.mem_cons_self, b⟩
    · obtain ⟨p, h1, h2⟩ := TkRel.key t kt h
      exact ⟨p, List.mem_cons_of_mem _ h1, h2⟩
theorem TkRel.key' : ∀ {kvs : List (AV × AV)} {tk : List (NestedKey × Addr × Value)}, TkRel K w R kvs tk → ∀ p, p ∈ kvs → p.1.keyD = true ∧ ∃ kt ∈ tk.map (·.1), p.1.keyT = some kt
  | _, _, .nil, _, h => by cases h
  | _, _, .cons a b c d e t, p, h => by
    rcases List.mem_cons.mp h with rfl | h
    · exact ⟨a, _, List.mem_cons_self, b⟩
    · obtain ⟨h0, kt, h1, h2⟩ := TkRel.key' t p h
      exact ⟨h0, kt, List.mem_cons_of_mem _ h1, h2⟩
theorem RepD.tups (P : Program) : ∀ {kvs : List (AV × AV)} {es : List DictEntry}, RepD K w R kvs es → (∀ p ∈ kvs, p.1.keyD = true) →
    ∃ tk, TkRel K w R kvs tk ∧ es = tk.map (entryOfKey (nestedKind P w)) ∧ (tk.map (·.1)).Nodup
  | _, _, .nil, _ => ⟨[], .nil, rfl, List.nodup_nil⟩
  | _, _, .cons (k := k) (v := v) (kvs := kvs) (e := e) (es := es) a b c d r1 e1 r2 e2 t, h => by
    obtain ⟨tk, h1, h2, h3⟩ := RepD.tups P t fun p hp => h p (List.mem_cons_of_mem _ hp)
    have hk := h (k, v) List.mem_cons_self
    obtain ⟨kt', xs, c', dp, rfl⟩ := keyD_inv hk
    rw [c] at c'
    cases c'
    obtain ⟨eh, ek, ev⟩ := e
    have hx : ∃ a, RepV K w R (.tup xs) (.ref a) ∧ ek = Value.ref a := by
      cases r1 with
      | tup q z rr => exact ⟨_, .tup q z rr, e1⟩
    obtain ⟨a', ra, rfl⟩ := hx
    refine ⟨(_, a', ev) :: tk, .cons hk c ra r2 e2 h1, ?_, ?_⟩
    · rw [List.map_cons, ← h2]
      congr 1
      show _ = DictEntry.mk _ _ _
      rw [show eh = _ from d]
      rfl
    · rw [List.map_cons, List.nodup_cons]
      refine ⟨fun hm => ?_, h3⟩
      obtain ⟨p, hp, e⟩ := h1.key _ hm
      have := b p hp
      unfold AV.keq at this
      rw [e, c] at this
      simp at this
theorem TkRel.back {P : Program} : ∀ {kvs : List (AV × AV)} {tk : List (NestedKey × Addr × Value)}, TkRel K w R kvs tk → (tk.map (·.1)).Nodup → RepD K w R kvs (tk.map (entryOfKey (nestedKind P w)))
  | _, _, .nil, _ => .nil
  | _, _, .cons (kt := kt) (a := a) (u := u) h1 h2 h3 h4 h5 t, nd => by
    rw [List.map_cons, List.nodup_cons] at nd
    rw [List.map_cons]
    refine .cons ?_ (fun p hp => ?_) h2 rfl h3 rfl h4 h5 (TkRel.back t nd.2)
    · unfold keyOk
      rw [Bool.or_eq_true_iff]
      exact .inr (Bool.and_eq_true_iff.mpr ⟨h1, List.all_eq_true.mpr fun p hp => (t.key' p hp).1⟩)
    · obtain ⟨_, kt', hm, e⟩ := t.key' p hp
      unfold AV.keq
      rw [e, h2]
      refine decide_eq_false fun z => nd.1 ?_
      cases z
      exact hm
theorem TkRel.get {k : AV} {kt : NestedKey} (hk : k.keyT = some kt) : ∀ {kvs : List (AV × AV)} {tk : List (NestedKey × Addr × Value)}, TkRel K w R kvs tk → (∀ v, dget kvs k = some v → ∃ y u, RepV K w R v y ∧ RelV y u ∧ valueAt (pairsH tk) kt = some u) ∧ (dget kvs k = none → valueAt (pairsH tk) kt = none)
  | _, _, .nil => ⟨fun v h => (by cases h), fun _ => rfl⟩
  | _, _, .cons (k := k') (v := v) (kt := kt') (kvs := kvs) (tk := tk) (a := a) (u := u) h1 h2 h3 h4 h5 t => by
    obtain ⟨g1, g2⟩ := TkRel.get hk t
    by_cases hq : kt' = kt
    · subst hq
      have hv' : dget ((k', v) :: kvs) k = some v := by simp [dget, AV.keq, h2, hk]
      refine ⟨fun v' hv => ?_, fun hv => ?_⟩
      · rw [hv'] at hv
        cases hv
        exact ⟨_, _, h4, h5, by simp [valueAt, pairsH]⟩
      · rw [hv'] at hv
        cases hv
    · have e1 : dget ((k', v) :: kvs) k = dget kvs k := by simp [dget, AV.keq, h2, hk, hq]
      have e2 : valueAt (pairsH ((kt', a, u) :: tk)) kt = valueAt (pairsH tk) kt := by simp [valueAt, pairsH, hq]
      rw [e1, e2]
      exact ⟨g1, g2⟩
theorem TkRel.put {k v : AV} {kt : NestedKey} {a : Addr} {y : V} {u : Value} (hd : k.keyD = true) (hk : k.keyT = some kt) (ra : RepV K w R k (.ref a)) (r : RepV K w R v y) (e : RelV y u) {kvs : List (AV × AV)} {tk : List (NestedKey × Addr × Value)} (h : TkRel K w R kvs tk) :
    TkRel K w R (dput kvs k v) (storedH tk kt a u) := by
  have any : (kvs.any fun p => p.1.keq k) = (atKey tk kt).isSome := by
    induction h with
    | nil => rfl
    | @cons k' v' kt' a' y' u' kvs tk h1 h2 h3 h4 h5 t ih =>
      rw [List.any_cons, ih]
      unfold AV.keq
      rw [h2, hk]
      by_cases hq : kt' = kt
      · subst hq
        simp [atKey]
      · simp [atKey, hq]
  unfold dput storedH
  rw [any]
  split
  · rename_i hh
    clear any hh
    induction h with
    | nil => exact .nil
    | @cons k' v' kt' a' y' u' kvs tk h1 h2 h3 h4 h5 t ih =>
      rw [List.map_cons, List.map_cons]
      by_cases hq : kt' = kt
      · subst hq
        have e1 : k'.keq k = true := by unfold AV.keq; rw [h2, hk]; simp
        simp only [e1, if_true, putAt]
        exact .cons h1 h2 h3 r e ih
      · have e1 : k'.keq k = false := by unfold AV.keq; rw [h2, hk]; simp [hq]
        simp only [e1, Bool.false_eq_true, if_false, putAt, if_neg hq]
        exact .cons h1 h2 h3 h4 h5 ih
  · rename_i hh
    clear any hh
    induction h with
    | nil => exact .cons hd hk ra r e .nil
    | cons h1 h2 h3 h4 h5 t ih => exact .cons h1 h2 h3 h4 h5 ih
theorem TkRel.is {P : Program} {pins : List (Addr × Obj)} {σ : L2.St} {s : Shared} (I : L2.Inv X pins σ H s) (W : Wd K w R S H) : ∀ {kvs : List (AV × AV)} {tk : List (NestedKey × Addr × Value)}, TkRel K w R kvs tk → ∀ x ∈ tk, (nestedKind P w).is s.heap x.1 x.2.1
  | _, _, .nil, _, h => by cases h
  | _, _, .cons h1 h2 h3 h4 h5 t, x, h => by
    rcases List.mem_cons.mp h with rfl | h
    · obtain ⟨kt', xs, c', dp, rfl⟩ := keyD_inv h1
      rw [h2] at c'
      cases c'
      exact ⟨h3.nested I W rfl h2, dp⟩
    · exact TkRel.is I W t x h
/-- as the library's dict -/
theorem dict_tups {pins : List (Addr × Obj)} {σ : L2.St} {s : Shared} {p : Addr} {kvs : List (AV × AV)} {es : Array DictEntry} {ep : Nat} (I : L2.Inv X pins σ H s) (W : Wd K X.w R S H) (h : H p = some (xdic p es ep)) (rd : RepD K X.w R kvs es.toList) (hk : ∀ p ∈ kvs, p.1.keyD = true) :
    ∃ tk, TkRel K X.w R kvs tk ∧ s.heap.DictOfH (nestedKind X.prog X.w) p tk ∧ tk.length = kvs.length := by
  obtain ⟨tk, h1, h2, h3⟩ := rd.tups X.prog hk
  obtain ⟨⟨o, ho, hc, hd⟩, _⟩ := xdic_raw I h
  refine ⟨tk, h1, ⟨o, es, ep, ho, hc, hd, h2, h1.is I W, h3⟩, ?_⟩
  have := rd.length
  rw [h2, List.length_map] at this
  exact this.symm
/-- a dict whose entries change -/
theorem xdic_upd {pins : List (Addr × Obj)} {σ : L2.St} {s : Shared} {p : Addr} {es es' : Array DictEntry} {ep ep' : Nat} {h' : Heap} {tk : Nat} (I : L2.Inv X pins σ H s) (h : H p = some (xdic p es ep)) (hr : h'.DictRaw p es' ep') (sb : Heap.SameBut p s.heap h') :
    L2.Inv X pins σ (upd H p (xdic p es' ep')) { s with heap := h', toks := tk } := by
  obtain ⟨⟨o0, ho0, _⟩, hs⟩ := xdic_raw I h
  obtain ⟨o, ho, hc⟩ := id hr
  refine I.write (x := p) (e := p) (by rw [h]; exact trivial) (.inl rfl) (fun b u hb hu => (sb.2 b hb).trans hu) ⟨o, ho⟩ ?_
  exact ⟨⟨⟨o, ho, hc⟩, hs⟩, ⟨o, ho⟩, fun h1 h2 q k => ⟨q.1.at k, q.2⟩⟩
/-- a dict that is new -/
theorem xdic_new {pins : List (Addr × Obj)} {σ : L2.St} {s : Shared} {tk : Nat} (I : L2.Inv X pins σ H s) :
    L2.Inv X pins σ (upd H s.heap.objs.size (xdic s.heap.objs.size #[] 0)) { s with heap := s.heap.push { cls := .type "dict", data := .dict #[] }, toks := tk } := by
  refine I.laid (fun _ _ q => Heap.get?_push_of_some _ q) (Nat.le_refl _) ?_
  have hg : (s.heap.push { cls := .type "dict", data := .dict #[] }).get? s.heap.objs.size = some { cls := .type "dict", data := .dict #[] } := Heap.get?_push_size _ rfl
  exact ⟨⟨⟨_, hg, ⟨rfl, rfl, rfl⟩, rfl⟩, beq_false_of_ne (Nat.ne_of_gt I.big)⟩, ⟨_, hg⟩, fun h1 h2 q k => ⟨q.1.at k, q.2⟩⟩
end
end DL

set_option Elab.async false
set_option linter.all false
set_option maxRecDepth 100000
set_option maxHeartbeats 2000000
namespace DL
open PySem PySem.Spec PyProof.Rows L2
section
variable {X : Cx} {xw : XWish}
variable {K : PySem.W.Frag} {w : World} {R : Rp} {S : Store} {H : Hp} {Q : VK}
/-! ### methods, by the kind of what has them -/
def rMi (K : PySem.W.Frag) (w : World) (xw : XWish) (f : AV → List AV → Store → Res RV) : V → List V → Hp → VK → Prop := fun x vs H Q => ∃ R S a as, Wd K w R S H ∧ RepV K w R a x ∧ RepVs K w R as vs ∧ Post K w xw R H (f a as S) Q
theorem lstAt_inv {l : Nat} {xs : List AV} (h : S.lstAt l = some xs) : S[l]? = some (.lst xs) := by
  unfold Store.lstAt at h
  split at h
  · rename_i ys e; cases h; exact e
  · cases h
theorem mi_append : MtM X "list.append" (rMi X.K X.w xw miAppend) := by
  intro pins s σ H x vs v us Q I rx rv ⟨R, S, a, as, W, ra, rs, h⟩
  unfold miAppend at h
  split at h
  · rename_i l b
    split at h
    · rename_i xs e
      split at h
      · rename_i hz
        cases ra with
        | ref hl =>
        cases rs with
        | cons rb rn =>
        cases rn
        have e' := lstAt_inv e
        obtain ⟨vs, e1, z, q⟩ := W.obj l _ e'
        have hz' : vs.length < sizeLine := by rw [← q.length]; exact hz
        refine mt_append pins s σ H _ _ v us Q I rx rv ⟨_, _, _, rfl, rfl, e1, hz', ?_⟩
        have hz2 : (xs ++ [b]).length ≤ line := by
          rw [List.length_append, List.length_singleton]
          exact hz
        obtain ⟨W', E⟩ := W.set (u := .lst (vs ++ [_])) (o' := .lst (xs ++ [b])) e' (fun _ z => nomatch z) (fun _ z => nomatch z) ⟨_, upd_same, hz2, q.append (.cons rb .nil)⟩
        exact h _ _ _ E W' .non
      · exact h.elim
    · exact h.elim
  · exact h.elim
theorem mi_extend : MtM X "list.extend" (rMi X.K X.w xw miExtend) := by
  intro pins s σ H x vs v us Q I rx rv ⟨R, S, a, as, W, ra, rs, h⟩
  unfold miExtend at h
  split at h
  · rename_i l b
    split at h
    · rename_i xs ys e eb
      split at h
      · rename_i hz
        cases ra with
        | ref hl =>
        cases rs with
        | cons rb rn =>
        cases rn
        have e' := lstAt_inv e
        obtain ⟨vs, e1, z, q⟩ := W.obj l _ e'
        obtain ⟨p2, vs2, rfl, e2, z2, q2⟩ := listX_seen W rb eb
        have hz' : vs.length + vs2.length ≤ sizeLine := by rw [← q.length, ← q2.length]; exact hz
        refine mt_extend pins s σ H _ _ v us Q I rx rv ⟨_, _, _, _, rfl, rfl, e1, e2, hz', ?_⟩
        obtain ⟨W', E⟩ := W.set (u := .lst (vs ++ vs2)) (o' := .lst (xs ++ ys)) e' (fun _ z => nomatch z) (fun _ z => nomatch z) ⟨_, upd_same, by rw [List.length_append]; exact hz, q.append q2⟩
        exact h _ _ _ E W' .non
      · exact h.elim
    · exact h.elim
  · exact h.elim
theorem mi_popat : MtM X "list.pop" (rMi X.K X.w xw miPopAt) := by
  intro pins s σ H x vs v us Q I rx rv ⟨R, S, a, as, W, ra, rs, h⟩
  unfold miPopAt at h
  split at h
  · rename_i l i
    split at h
    · rename_i xs e
      split at h
      · rename_i hi
        split at h
        · rename_i y ey
          cases ra with
          | ref hl =>
          cases rs with
          | cons rb rn =>
          cases rn
          cases rb
          have e' := lstAt_inv e
          obtain ⟨vs, e1, z, q⟩ := W.obj l _ e'
          obtain ⟨yv, ey', ry⟩ := q.get ey
          have hlt : i.toNat < vs.length := (List.getElem?_eq_some_iff.mp ey').1
          have hs : seqIndex? i vs.length = some i.toNat := seqIndex_of hi.1 (by omega)
          refine mt_popAt pins s σ H _ _ v us Q I rx rv ⟨_, _, _, _, _, rfl, rfl, e1, by omega, by omega, hs, ey', ?_⟩
          obtain ⟨W', E⟩ := W.set (u := .lst (vs.eraseIdx i.toNat)) (o' := .lst (xs.eraseIdx i.toNat)) e' (fun _ z => nomatch z) (fun _ z => nomatch z) ⟨_, upd_same, Nat.le_trans (len_erase _ _) z, q.erase _⟩
          exact h _ _ _ E W' (ry.mono (.refl R))
        · exact h.elim
      · exact h.elim
    · exact h.elim
  · exact h.elim
/-- what a dict says of a key, at the library's level -/
theorem dict_ask {pins : List (Addr × Obj)} {σ : L2.St} {s : Shared} {kvs : List (AV × AV)} {d k : AV} {x y : V} {ku : Value} (I : L2.Inv X pins σ H s) (W : Wd X.K X.w R S H) (hd : d.dctOf S = some kvs) (rd : RepV X.K X.w R d x) (rk : RepV X.K X.w R k y) (ry : RelV y ku) (ok : keyOk kvs k = true) :
    ∃ p es ep, x = .ref p ∧ H p = some (xdic p es ep) ∧ (p == sysModules) = false ∧ kvs.length ≤ line ∧ RepD X.K X.w R kvs es.toList ∧
      ((∃ q lk, k = keyAV q ∧ keyIs q ku = true ∧ LkRel X.K X.w R kvs lk ∧ s.heap.DictOf (mixKind X.prog X.w) p lk ∧ lk.length = kvs.length) ∨
       (∃ kt a tk, k.keyD = true ∧ k.keyT = some kt ∧ y = .ref a ∧ ku = .ref a ∧ (nestedKind X.prog X.w).is s.heap kt a ∧ TkRel X.K X.w R kvs tk ∧ s.heap.DictOfH (nestedKind X.prog X.w) p tk ∧ tk.length = kvs.length)) := by
  obtain ⟨p, es, ep, rfl, hp, z, rd⟩ := dctOf_seen W rd hd
  refine ⟨p, es, ep, rfl, hp, (xdic_raw I hp).2, z, rd, ?_⟩
  rcases keyOk_cases ok with ⟨h1, h2⟩ | ⟨h1, h2⟩
  · obtain ⟨q, rfl⟩ := keyL_key h1
    obtain ⟨lk, g1, g2, g3⟩ := dict_leaf I hp rd h2
    exact .inl ⟨q, lk, rfl, rk.key ry, g1, g2, g3⟩
  · obtain ⟨kt, xs, c, dp, rfl⟩ := keyD_inv h1
    obtain ⟨tk, g1, g2, g3⟩ := dict_tups I W hp rd h2
    cases rk with
    | tup e1 z1 q1 =>
      cases (show ku = Value.ref _ from ry)
      exact .inr ⟨kt, _, tk, h1, c, rfl, rfl, ⟨(RepV.tup e1 z1 q1).nested I W rfl c, dp⟩, g1, g2, g3⟩
theorem mi_get2 (hu : X.A.units + 64 < cLine) : MtM X "dict.get" (rMi X.K X.w xw miGet2) := by
  intro pins s σ H x vs v us Q I rx rv ⟨R, S, a, as, W, ra, rs, h⟩
  unfold miGet2 at h
  split at h
  · rename_i k dv
    split at h
    · rename_i kvs e
      split at h
      · rename_i ok
        cases rs with
        | @cons _ ky _ _ rk rs =>
        cases rs with
        | @cons _ dy _ _ rd rn =>
        cases rn
        obtain ⟨ku, du, rfl, rku, rdu⟩ := Vals.two rv
        obtain ⟨p, es, ep, rfl, hp, hs, hz, rdd, alt⟩ := dict_ask I W e ra rk rku ok
        cases (show v = Value.ref p from rx)
        rcases alt with ⟨q, lk, rfl, hk, lr, dd, hl⟩ | ⟨kt, b, tk, hkd, hkt, rfl, rfl, his, tr, dd, hl⟩
        · obtain ⟨g1, g2⟩ := lr.get (q := q)
          refine call_meetsIn F.slot_dict_get dd.typeIs F.entry_dict_get (F.args_dict_get_3 _ _ _) (meets_dict_get_default (mixKind X.prog X.w) p hk hs du) ⟨_, dd.mapOf, ?_⟩
          cases hv : dget kvs (keyAV q) with
          | some v0 =>
            rw [hv] at h
            obtain ⟨y, u, r1, r2, r3⟩ := g1 v0 hv
            rw [r3]
            exact ⟨y, H, I.tok _, r2, post_v h W r1⟩
          | none =>
            rw [hv] at h
            rw [g2 hv]
            exact ⟨dy, H, I.tok _, rdu, post_v h W rd⟩
        · obtain ⟨g1, g2⟩ := tr.get hkt
          refine getOr_keyed (show X.A.units + 1 + 8 < cLine by omega) his hs ⟨tk, dd, rfl⟩ ?_
          cases hv : dget kvs k with
          | some v0 =>
            rw [hv] at h
            obtain ⟨y, u, r1, r2, r3⟩ := g1 v0 hv
            rw [r3]
            exact ⟨y, H, I.tok _, r2, post_v h W r1⟩
          | none =>
            rw [hv] at h
            rw [g2 hv]
            exact ⟨dy, H, I.tok _, rdu, post_v h W rd⟩
      · exact h.elim
    · exact h.elim
  · exact h.elim
end
end DL

set_option Elab.async false
set_option linter.all false
set_option maxRecDepth 100000
set_option maxHeartbeats 2000000
namespace DL
open PySem PySem.Spec PyProof.Rows L2
section
variable {X : Cx} {xw : XWish} {e a b c : Expr} {es : List Expr} {pos p p' : Pos} {σ : L2.St} {H : Hp} {Q : VK} {ma mb mc m : Env → Store → Res RV}
abbrev RE (X : Cx) (xw : XWish) (m : Env → Store → Res RV) : TE := rdE X.K X.w xw m
abbrev RT (X : Cx) (xw : XWish) (m : Env → Store → Res RV) : TT := rdT X.K X.w xw m
abbrev RA (X : Cx) (xw : XWish) (m : Env → Store → Res RV) : TA := rdA X.K X.w xw m
abbrev RS (X : Cx) (xw : XWish) (m : Env → Store → Res Fl) : TS := rdS X.K X.w xw m
theorem rdE_imp {K : PySem.W.Frag} {w : World} {Q' : VK} (h : rdE K w xw m σ H Q) (k : ∀ v H', Q v H' → Q' v H') : rdE K w xw m σ H Q' := by
  obtain ⟨R, ρ, S, he, W, q⟩ := h
  exact ⟨R, ρ, S, he, W, q.imp k⟩
theorem s_var {i : Nat} {x : Str} (hN : X.N[i]? = some x) (hv : Vis X.env.scope x) (hd : (x == ("__debug__" : Str)) = false) (hcd : (x == ("__classdict__" : Str)) = false) : PE X (.Name x pos) (RE X xw (ev cl (.var i))) :=
  pe_imp (pe_var hN hv hd hcd) fun σ H Q ⟨R, ρ, S, he, W, h⟩ => by
    unfold ev at h
    split at h
    · rename_i a e
      obtain ⟨v, e1, r⟩ := he.get _ _ e
      exact ⟨v, e1, post_v h W r⟩
    · exact h.elim
theorem s_cst {v : V} {a : AV} (h : PE X e (tC v)) (r : ∀ R, RepV X.K X.w R a v) : PE X e (RE X xw (ev cl (.cst a))) :=
  pe_imp h fun σ H Q ⟨R, ρ, S, he, W, h⟩ => by
    unfold ev at h
    exact post_v h W (r R)
theorem s_bin {o : Operator} {f : AV → AV → Store → Res RV} (ho : OpR X (binaryOp o) (rOp X.K X.w xw f)) (ha : PE X a (RE X xw ma)) (hb : PE X b (RE X xw mb)) :
    PE X (.BinOp a o b pos) (RE X xw fun ρ S => (ma ρ S).bnd fun x S1 => (mb ρ S1).bnd fun y S2 => f x.av y.av S2) :=
  pe_imp (pe_op ho ha hb) fun σ H Q ⟨R, ρ, S, he, W, h⟩ =>
    rdE_imp (rd_bnd he W h) fun v H1 ⟨R1, S1, x, E1, W1, rx, he1, h1⟩ =>
      rdE_imp (rd_bnd he1 W1 h1) fun u H2 ⟨R2, S2, y, E2, W2, ry, he2, h2⟩ => ⟨R2, S2, _, _, W2, rx.mono E2.le, ry, h2⟩
theorem s_neg (ha : PE X a (RE X xw ma)) : PE X (.UnaryOp .USub a pos) (RE X xw fun ρ S => (ma ρ S).bnd fun x S1 => match x with
    | .v (.int i) => .ok (.v (.int (-i))) S1
    | _ => .stop) :=
  pe_imp (pe_un un_neg ha) fun σ H Q ⟨R, ρ, S, he, W, h⟩ =>
    rdE_imp (rd_bnd he W h) fun v H1 ⟨R1, S1, x, E1, W1, rx, he1, h1⟩ => by
      split at h1
      · cases rx
        exact ⟨_, rfl, post_v h1 W1 (.int _)⟩
      · exact h1.elim
theorem bool_inv {K : PySem.W.Frag} {w : World} {R : Rp} {x : RV} {v : V} {k : Bool} (h : x.bool? = some k) (r : RepV K w R x.av v) : v = .bl k := by
  unfold RV.bool? at h
  split at h
  · cases h; cases r; rfl
  · cases h
theorem s_not (ha : PE X a (RE X xw ma)) : PE X (.UnaryOp .Not a pos) (RE X xw fun ρ S => (ma ρ S).bnd fun x S1 => match x.bool? with
    | some b => .ok (.v (.bl (!b))) S1
    | none => .stop) :=
  pe_imp (pe_not ha) fun σ H Q ⟨R, ρ, S, he, W, h⟩ =>
    rdE_imp (rd_bnd he W h) fun v H1 ⟨R1, S1, x, E1, W1, rx, he1, h1⟩ => by
      split at h1
      · rename_i k e
        exact ⟨k, bool_inv e rx, post_v h1 W1 (.bl _)⟩
      · exact h1.elim
theorem s_and {rest : List Expr} (ha : PE X a (RE X xw ma)) (hb : PE X (.BoolOp .And (b :: rest) pos) (RE X xw mb)) : PE X (.BoolOp .And (a :: b :: rest) pos) (RE X xw fun ρ S => (ma ρ S).bnd fun x S1 => match x.bool? with
    | some true => mb ρ S1
    | some false => .ok (.v (.bl false)) S1
    | none => .stop) :=
  pe_imp (pe_and ha hb) fun σ H Q ⟨R, ρ, S, he, W, h⟩ =>
    rdE_imp (rd_bnd he W h) fun v H1 ⟨R1, S1, x, E1, W1, rx, he1, h1⟩ => by
      split at h1
      · rename_i e
        exact ⟨true, bool_inv e rx, iteT ⟨R1, ρ, S1, he1, W1, h1⟩⟩
      · rename_i e
        exact ⟨false, bool_inv e rx, iteF (post_v h1 W1 (.bl _))⟩
      · exact h1.elim
theorem s_or {rest : List Expr} (ha : PE X a (RE X xw ma)) (hb : PE X (.BoolOp .Or (b :: rest) pos) (RE X xw mb)) : PE X (.BoolOp .Or (a :: b :: rest) pos) (RE X xw fun ρ S => (ma ρ S).bnd fun x S1 => match x.bool? with
    | some false => mb ρ S1
    | some true => .ok (.v (.bl true)) S1
    | none => .stop) :=
  pe_imp (pe_or ha hb) fun σ H Q ⟨R, ρ, S, he, W, h⟩ =>
    rdE_imp (rd_bnd he W h) fun v H1 ⟨R1, S1, x, E1, W1, rx, he1, h1⟩ => by
      split at h1
      · rename_i e
        exact ⟨false, bool_inv e rx, iteF ⟨R1, ρ, S1, he1, W1, h1⟩⟩
      · rename_i e
        exact ⟨true, bool_inv e rx, iteT (post_v h1 W1 (.bl _))⟩
      · exact h1.elim
theorem s_cmp {o : CmpOp} {f : AV → AV → Store → Option Bool} (ho : OpR X (compareOp o) (rCo X.K X.w f)) (ha : PE X a (RE X xw ma)) (hb : PE X b (RE X xw mb)) (hm : behindInMarks o b = false) :
    PE X (.Compare a [o] [b] pos) (RE X xw fun ρ S => (ma ρ S).bnd fun x S1 => (mb ρ S1).bnd fun y S2 => match f x.av y.av S2 with
      | some k => .ok (.v (.bl k)) S2
      | none => .stop) :=
  pe_imp (pe_cmpR ho ha hb hm) fun σ H Q ⟨R, ρ, S, he, W, h⟩ =>
    rdE_imp (rd_bnd he W h) fun v H1 ⟨R1, S1, x, E1, W1, rx, he1, h1⟩ =>
      rdE_imp (rd_bnd he1 W1 h1) fun u H2 ⟨R2, S2, y, E2, W2, ry, he2, h2⟩ => by
        split at h2
        · rename_i k e
          exact ⟨R2, S2, _, _, k, W2, rx.mono E2.le, ry, e, post_v h2 W2 (.bl _)⟩
        · exact h2.elim
theorem s_chain {o o' : CmpOp} {f g : AV → AV → Store → Option Bool} (ho : OpR X (compareOp o) (rCo X.K X.w f)) (ho' : OpR X (compareOp o') (rCo X.K X.w g)) (ha : PE X a (RE X xw ma)) (hb : PE X b (RE X xw mb)) (hc : PE X c (RE X xw mc))
    (hm : lastMarks [o, o'] [b, c] = false) :
    PE X (.Compare a [o, o'] [b, c] pos) (RE X xw fun ρ S => (ma ρ S).bnd fun x S1 => (mb ρ S1).bnd fun y S2 => match f x.av y.av S2 with
      | some true => (mc ρ S2).bnd fun z S3 => match g y.av z.av S3 with
        | some k => .ok (.v (.bl k)) S3
        | none => .stop
      | some false => .ok (.v (.bl false)) S2
      | none => .stop) :=
  pe_imp (pe_chain ho ho' ha hb hc hm) fun σ H Q ⟨R, ρ, S, he, W, h⟩ =>
    rdE_imp (rd_bnd he W h) fun v H1 ⟨R1, S1, x, E1, W1, rx, he1, h1⟩ =>
      rdE_imp (rd_bnd he1 W1 h1) fun u H2 ⟨R2, S2, y, E2, W2, ry, he2, h2⟩ => by
        split at h2
        · rename_i e
          refine ⟨R2, S2, _, _, true, W2, rx.mono E2.le, ry, e, true, rfl, iteT ?_⟩
          refine rdE_imp (rd_bnd he2 W2 h2) fun t H3 ⟨R3, S3, z, E3, W3, rz, he3, h3⟩ => ?_
          split at h3
          · rename_i k e
            exact ⟨R3, S3, _, _, k, W3, ry.mono E3.le, rz, e, post_v h3 W3 (.bl _)⟩
          · exact h3.elim
        · rename_i e
          exact ⟨R2, S2, _, _, false, W2, rx.mono E2.le, ry, e, false, rfl, iteF (post_v h2 W2 (.bl _))⟩
        · exact h2.elim

/-! ### tests -/
theorem rdT_of (h : PE X e (RE X xw m)) (he : ∀ whole, isTrue e X.env whole = (do let v ← whole; standAt e.pos; holding [v] (truthy v))) : PT X e (RT X xw m) :=
  pt_imp (pt_val h he) fun σ H Q ⟨R, ρ, S, he, W, h⟩ => by
    refine ⟨R, ρ, S, he, W, ?_⟩
    cases e1 : m ρ S with
    | ok r S1 =>
      rw [e1] at h
      obtain ⟨k, e2, h⟩ := h
      intro R1 H1 v E1 W1 x
      refine ⟨k, ?_, h R1 H1 E1 W1⟩
      cases r with
      | v a => exact bool_inv (x := .v a) e2 x
      | l xs => cases e2
      | d xs => cases e2
    | exc c S1 => rw [e1] at h; exact h
    | stop => rw [e1] at h; exact h
theorem t_not (ha : PT X a (RT X xw ma)) : PT X (.UnaryOp .Not a pos) (RT X xw fun ρ S => (ma ρ S).bnd fun x S1 => match x.bool? with
    | some b => .ok (.v (.bl (!b))) S1
    | none => .stop) :=
  pt_imp (pt_not ha) fun σ H Q ⟨R, ρ, S, he, W, h⟩ => by
    dsimp only at h
    refine ⟨R, ρ, S, he, W, ?_⟩
    cases e1 : ma ρ S with
    | ok r S1 =>
      rw [e1] at h
      have h' : PostB X.K X.w xw R H (match r.bool? with
        | some b => .ok (.v (.bl (!b))) S1
        | none => .stop) Q := h
      split at h'
      · rename_i k e2
        obtain ⟨k', e3, h'⟩ := h'
        cases e3
        exact ⟨k, e2, h'⟩
      · exact h'.elim
    | exc c S1 => rw [e1] at h; exact h
    | stop => rw [e1] at h; exact h
/-- the first part of a bind, as a test -/
theorem rdT_bnd {K : PySem.W.Frag} {w : World} {R : Rp} {ρ : Env} {S : Store} {k : Bool → Store → Res RV} {Q : Bool → Hp → Prop} (he : RepE K w R ρ σ) (W : Wd K w R S H)
    (h : PostB K w xw R H ((m ρ S).bnd fun x S1 => match x.bool? with
      | some b => k b S1
      | none => .stop) Q) :
    rdT K w xw m σ H (fun b H1 => ∃ R1 S1, Ext R H R1 H1 ∧ Wd K w R1 S1 H1 ∧ RepE K w R1 ρ σ ∧ PostB K w xw R1 H1 (k b S1) Q) := by
  refine ⟨R, ρ, S, he, W, ?_⟩
  cases e1 : m ρ S with
  | ok r S1 =>
    rw [e1] at h
    have h' : PostB K w xw R H (match r.bool? with
      | some b => k b S1
      | none => .stop) Q := h
    split at h'
    · rename_i b e2
      exact ⟨b, e2, fun R1 H1 E1 W1 => ⟨R1, S1, E1, W1, he.mono E1.le, PostB.shift E1 h'⟩⟩
    · exact h'.elim
  | exc c S1 => rw [e1] at h; exact h
  | stop => rw [e1] at h; exact h
theorem rdT_bndE {K : PySem.W.Frag} {w : World} {R : Rp} {ρ : Env} {S : Store} {k : Bool → Store → Res RV} {Q : VK} (he : RepE K w R ρ σ) (W : Wd K w R S H)
    (h : Post K w xw R H ((m ρ S).bnd fun x S1 => match x.bool? with
      | some b => k b S1
      | none => .stop) Q) :
    rdT K w xw m σ H (fun b H1 => ∃ R1 S1, Ext R H R1 H1 ∧ Wd K w R1 S1 H1 ∧ RepE K w R1 ρ σ ∧ Post K w xw R1 H1 (k b S1) Q) := by
  refine ⟨R, ρ, S, he, W, ?_⟩
  cases e1 : m ρ S with
  | ok r S1 =>
    rw [e1] at h
    have h' : Post K w xw R H (match r.bool? with
      | some b => k b S1
      | none => .stop) Q := h
    split at h'
    · rename_i b e2
      exact ⟨b, e2, fun R1 H1 E1 W1 => ⟨R1, S1, E1, W1, he.mono E1.le, Post.shift E1 h'⟩⟩
    · exact h'.elim
  | exc c S1 => rw [e1] at h; exact h
  | stop => rw [e1] at h; exact h
theorem rdT_bndS {K : PySem.W.Frag} {w : World} {R : Rp} {ρ : Env} {S : Store} {k : Bool → Store → Res Fl} {D : Ends} (he : RepE K w R ρ σ) (W : Wd K w R S H)
    (h : PostS K w xw R H ((m ρ S).bnd fun x S1 => match x.bool? with
      | some b => k b S1
      | none => .stop) D) :
    rdT K w xw m σ H (fun b H1 => ∃ R1 S1, Ext R H R1 H1 ∧ Wd K w R1 S1 H1 ∧ RepE K w R1 ρ σ ∧ PostS K w xw R1 H1 (k b S1) D) := by
  refine ⟨R, ρ, S, he, W, ?_⟩
  cases e1 : m ρ S with
  | ok r S1 =>
    rw [e1] at h
    have h' : PostS K w xw R H (match r.bool? with
      | some b => k b S1
      | none => .stop) D := h
    split at h'
    · rename_i b e2
      exact ⟨b, e2, fun R1 H1 E1 W1 => ⟨R1, S1, E1, W1, he.mono E1.le, PostS.shift E1 h'⟩⟩
    · exact h'.elim
  | exc c S1 => rw [e1] at h; exact h
  | stop => rw [e1] at h; exact h
theorem rdT_imp {K : PySem.W.Frag} {w : World} {Q Q' : Bool → Hp → Prop} (h : rdT K w xw m σ H Q) (k : ∀ v H', Q v H' → Q' v H') : rdT K w xw m σ H Q' := by
  obtain ⟨R, ρ, S, he, W, q⟩ := h
  refine ⟨R, ρ, S, he, W, ?_⟩
  cases e : m ρ S with
  | ok r S' =>
    rw [e] at q
    obtain ⟨b, e1, q⟩ := q
    exact ⟨b, e1, fun R' H' E' W' => k _ _ (q R' H' E' W')⟩
  | exc c S' => rw [e] at q; exact q
  | stop => rw [e] at q; exact q
def andM (ma mb : Env → Store → Res RV) : Env → Store → Res RV := fun ρ S => (ma ρ S).bnd fun x S1 => match x.bool? with
  | some true => mb ρ S1
  | some false => .ok (.v (.bl false)) S1
  | none => .stop
def orM (ma mb : Env → Store → Res RV) : Env → Store → Res RV := fun ρ S => (ma ρ S).bnd fun x S1 => match x.bool? with
  | some false => mb ρ S1
  | some true => .ok (.v (.bl true)) S1
  | none => .stop
theorem andM_eq (ma mb : Env → Store → Res RV) (ρ : Env) (S : Store) : andM ma mb ρ S = (ma ρ S).bnd fun x S1 => match x.bool? with
    | some b => (if b = true then mb ρ S1 else .ok (.v (.bl false)) S1)
    | none => .stop := by
  unfold andM
  congr 1
  funext x S1
  cases x.bool? with
  | none => rfl
  | some b => cases b <;> rfl
theorem orM_eq (ma mb : Env → Store → Res RV) (ρ : Env) (S : Store) : orM ma mb ρ S = (ma ρ S).bnd fun x S1 => match x.bool? with
    | some b => (if b = true then .ok (.v (.bl true)) S1 else mb ρ S1)
    | none => .stop := by
  unfold orM
  congr 1
  funext x S1
  cases x.bool? with
  | none => rfl
  | some b => cases b <;> rfl
theorem t_and {rest : List Expr} (ha : PT X a (RT X xw ma)) (hb : PW X (.BoolOp .And (b :: rest) pos) (RT X xw mb)) : PW X (.BoolOp .And (a :: b :: rest) pos) (RT X xw (andM ma mb)) := by
  have hw := pw_and ha hb
  refine ⟨fun wh pins s σ H Q I q => hw.run wh pins s σ H Q I ?_⟩
  obtain ⟨R, ρ, S, he, W, h⟩ := q
  rw [andM_eq] at h
  refine rdT_imp (rdT_bnd (k := fun b S1 => if b = true then mb ρ S1 else .ok (.v (.bl false)) S1) he W h) fun v H1 ⟨R1, S1, E1, W1, he1, h1⟩ => ?_
  cases v with
  | true => exact iteT ⟨R1, ρ, S1, he1, W1, h1⟩
  | false =>
    obtain ⟨k, e2, h1⟩ := h1
    cases e2
    exact iteF (h1 R1 H1 (.refl R1 H1) W1)
theorem t_or {rest : List Expr} (ha : PT X a (RT X xw ma)) (hb : PW X (.BoolOp .Or (b :: rest) pos) (RT X xw mb)) : PW X (.BoolOp .Or (a :: b :: rest) pos) (RT X xw (orM ma mb)) := by
  have hw := pw_or ha hb
  refine ⟨fun wh pins s σ H Q I q => hw.run wh pins s σ H Q I ?_⟩
  obtain ⟨R, ρ, S, he, W, h⟩ := q
  rw [orM_eq] at h
  refine rdT_imp (rdT_bnd (k := fun b S1 => if b = true then .ok (.v (.bl true)) S1 else mb ρ S1) he W h) fun v H1 ⟨R1, S1, E1, W1, he1, h1⟩ => ?_
  cases v with
  | false => exact iteF ⟨R1, ρ, S1, he1, W1, h1⟩
  | true =>
    obtain ⟨k, e2, h1⟩ := h1
    cases e2
    exact iteT (h1 R1 H1 (.refl R1 H1) W1)
/-- a comparison as a test: by its value -/
theorem rdB_of {t : TE} (h : PT X e (tTest t)) (k : ∀ σ H Q, rdE X.K X.w xw m σ H Q → t σ H Q) : PT X e (RT X xw m) :=
  pt_imp h fun σ H Q ⟨R, ρ, S, he, W, h⟩ => by
    refine k σ H _ ⟨R, ρ, S, he, W, ?_⟩
    cases e1 : m ρ S with
    | ok r S1 =>
      rw [e1] at h
      obtain ⟨b, e2, h⟩ := h
      intro R1 H1 v E1 W1 x
      refine ⟨b, ?_, h R1 H1 E1 W1⟩
      cases r with
      | v a => exact bool_inv (x := .v a) e2 x
      | l xs => cases e2
      | d xs => cases e2
    | exc c S1 => rw [e1] at h; exact h
    | stop => rw [e1] at h; exact h
theorem cmp_rd {o : CmpOp} {f : AV → AV → Store → Option Bool} : ∀ σ H Q, rdE X.K X.w xw (fun ρ S => (ma ρ S).bnd fun x S1 => (mb ρ S1).bnd fun y S2 => match f x.av y.av S2 with
      | some k => .ok (.v (.bl k)) S2
      | none => .stop) σ H Q → tOp (rCo X.K X.w f) (RE X xw ma) (RE X xw mb) σ H Q := fun σ H Q ⟨R, ρ, S, he, W, h⟩ =>
  rdE_imp (rd_bnd he W h) fun v H1 ⟨R1, S1, x, E1, W1, rx, he1, h1⟩ =>
    rdE_imp (rd_bnd he1 W1 h1) fun u H2 ⟨R2, S2, y, E2, W2, ry, he2, h2⟩ => by
      split at h2
      · rename_i k e
        exact ⟨R2, S2, _, _, k, W2, rx.mono E2.le, ry, e, post_v h2 W2 (.bl _)⟩
      · exact h2.elim
theorem chain_rd {f g : AV → AV → Store → Option Bool} : ∀ σ H Q, rdE X.K X.w xw (fun ρ S => (ma ρ S).bnd fun x S1 => (mb ρ S1).bnd fun y S2 => match f x.av y.av S2 with
      | some true => (mc ρ S2).bnd fun z S3 => match g y.av z.av S3 with
        | some k => .ok (.v (.bl k)) S3
        | none => .stop
      | some false => .ok (.v (.bl false)) S2
      | none => .stop) σ H Q → tChain (rCo X.K X.w f) (rCo X.K X.w g) (RE X xw ma) (RE X xw mb) (RE X xw mc) σ H Q := fun σ H Q ⟨R, ρ, S, he, W, h⟩ =>
    rdE_imp (rd_bnd he W h) fun v H1 ⟨R1, S1, x, E1, W1, rx, he1, h1⟩ =>
      rdE_imp (rd_bnd he1 W1 h1) fun u H2 ⟨R2, S2, y, E2, W2, ry, he2, h2⟩ => by
        split at h2
        · rename_i e
          refine ⟨R2, S2, _, _, true, W2, rx.mono E2.le, ry, e, true, rfl, iteT ?_⟩
          refine rdE_imp (rd_bnd he2 W2 h2) fun t H3 ⟨R3, S3, z, E3, W3, rz, he3, h3⟩ => ?_
          split at h3
          · rename_i k e
            exact ⟨R3, S3, _, _, k, W3, ry.mono E3.le, rz, e, post_v h3 W3 (.bl _)⟩
          · exact h3.elim
        · rename_i e
          exact ⟨R2, S2, _, _, false, W2, rx.mono E2.le, ry, e, false, rfl, iteF (post_v h2 W2 (.bl _))⟩
        · exact h2.elim
theorem t_cmp {o : CmpOp} {f : AV → AV → Store → Option Bool} (ho : OpR X (compareOp o) (rCo X.K X.w f)) (ha : PE X a (RE X xw ma)) (hb : PE X b (RE X xw mb)) (hm : behindInMarks o b = false) :
    PT X (.Compare a [o] [b] pos) (RT X xw fun ρ S => (ma ρ S).bnd fun x S1 => (mb ρ S1).bnd fun y S2 => match f x.av y.av S2 with
      | some k => .ok (.v (.bl k)) S2
      | none => .stop) := rdB_of (pt_cmpR ho ha hb hm) (cmp_rd (o := o))
theorem t_chain {o o' : CmpOp} {f g : AV → AV → Store → Option Bool} (ho : OpR X (compareOp o) (rCo X.K X.w f)) (ho' : OpR X (compareOp o') (rCo X.K X.w g)) (ha : PE X a (RE X xw ma)) (hb : PE X b (RE X xw mb)) (hc : PE X c (RE X xw mc))
    (hm : lastMarks [o, o'] [b, c] = false) :
    PT X (.Compare a [o, o'] [b, c] pos) (RT X xw fun ρ S => (ma ρ S).bnd fun x S1 => (mb ρ S1).bnd fun y S2 => match f x.av y.av S2 with
      | some true => (mc ρ S2).bnd fun z S3 => match g y.av z.av S3 with
        | some k => .ok (.v (.bl k)) S3
        | none => .stop
      | some false => .ok (.v (.bl false)) S2
      | none => .stop) := rdB_of (pt_chain ho ho' ha hb hc hm) chain_rd
/-- a if c else b -/
def iteM (mc ma mb : Env → Store → Res RV) : Env → Store → Res RV := fun ρ S => (mc ρ S).bnd fun x S1 => match x.bool? with
  | some true => ma ρ S1
  | some false => mb ρ S1
  | none => .stop
theorem iteM_eq (mc ma mb : Env → Store → Res RV) (ρ : Env) (S : Store) : iteM mc ma mb ρ S = (mc ρ S).bnd fun x S1 => match x.bool? with
    | some b => (if b = true then ma ρ S1 else mb ρ S1)
    | none => .stop := by
  unfold iteM
  congr 1
  funext x S1
  cases x.bool? with
  | none => rfl
  | some b => cases b <;> rfl
theorem s_ite (hc : PT X c (RT X xw mc)) (ha : PE X a (RE X xw ma)) (hb : PE X b (RE X xw mb)) : PE X (.IfExp c a b pos) (RE X xw (iteM mc ma mb)) :=
  pe_imp (pe_ifExp hc ha hb) fun σ H Q ⟨R, ρ, S, he, W, h⟩ => by
    rw [iteM_eq] at h
    refine rdT_imp (rdT_bndE (k := fun b S1 => if b = true then ma ρ S1 else mb ρ S1) he W h) fun v H1 ⟨R1, S1, E1, W1, he1, h1⟩ => ?_
    cases v with
    | true => exact iteT ⟨R1, ρ, S1, he1, W1, h1⟩
    | false => exact iteF ⟨R1, ρ, S1, he1, W1, h1⟩

/-! ### arguments, displays -/
theorem rdA_imp {K : PySem.W.Frag} {w : World} {Q Q' : List V → Hp → Prop} (h : rdA K w xw m σ H Q) (k : ∀ v H', Q v H' → Q' v H') : rdA K w xw m σ H Q' := by
  obtain ⟨R, ρ, S, he, W, q⟩ := h
  refine ⟨R, ρ, S, he, W, ?_⟩
  cases e : m ρ S with
  | ok r S' =>
    rw [e] at q
    exact fun R' H' vs E' W' x => k _ _ (q R' H' vs E' W' x)
  | exc c S' => rw [e] at q; exact q
  | stop => rw [e] at q; exact q
/-- arguments, then the rest -/
theorem rdA_bnd {K : PySem.W.Frag} {w : World} {R : Rp} {ρ : Env} {S : Store} {k : RV → Store → Res RV} (he : RepE K w R ρ σ) (W : Wd K w R S H) (h : Post K w xw R H ((m ρ S).bnd k) Q) :
    rdA K w xw m σ H (fun vs H1 => ∃ R1 S1 x, Ext R H R1 H1 ∧ Wd K w R1 S1 H1 ∧ RepVs K w R1 x.list vs ∧ RepE K w R1 ρ σ ∧ Post K w xw R1 H1 (k x S1) Q) := by
  refine ⟨R, ρ, S, he, W, ?_⟩
  cases e : m ρ S with
  | ok r S1 =>
    rw [e] at h
    exact fun R1 H1 vs E1 W1 x => ⟨R1, S1, r, E1, W1, x, he.mono E1.le, Post.shift E1 h⟩
  | exc c S1 => rw [e] at h; exact h
  | stop => rw [e] at h; exact h
theorem rdA_bndA {K : PySem.W.Frag} {w : World} {R : Rp} {ρ : Env} {S : Store} {k : RV → Store → Res RV} {Q : List V → Hp → Prop} (he : RepE K w R ρ σ) (W : Wd K w R S H) (h : PostA K w xw R H ((m ρ S).bnd k) Q) :
    rdA K w xw m σ H (fun vs H1 => ∃ R1 S1 x, Ext R H R1 H1 ∧ Wd K w R1 S1 H1 ∧ RepVs K w R1 x.list vs ∧ RepE K w R1 ρ σ ∧ PostA K w xw R1 H1 (k x S1) Q) := by
  refine ⟨R, ρ, S, he, W, ?_⟩
  cases e : m ρ S with
  | ok r S1 =>
    rw [e] at h
    exact fun R1 H1 vs E1 W1 x => ⟨R1, S1, r, E1, W1, x, he.mono E1.le, PostA.shift E1 h⟩
  | exc c S1 => rw [e] at h; exact h
  | stop => rw [e] at h; exact h
theorem a_nil : PA X [] (RA X xw (ev cl .nil)) :=
  pa_imp pa_nil fun σ H Q ⟨R, ρ, S, he, W, h⟩ => by
    unfold ev at h
    exact h R H [] (.refl R H) W .nil
theorem a_cons (ha : PE X a (RE X xw ma)) (hb : PA X es (RA X xw mb)) (hs : starEach (a :: es) X.env = (false, eval a X.env) :: starEach es X.env) :
    PA X (a :: es) (RA X xw fun ρ S => (ma ρ S).bnd fun x S1 => (mb ρ S1).bnd fun y S2 => .ok (.l (x.av :: y.list)) S2) :=
  pa_imp (pa_cons ha hb hs) fun σ H Q ⟨R, ρ, S, he, W, h⟩ =>
    rdE_imp (rd_bndA he W h) fun v H1 ⟨R1, S1, x, E1, W1, rx, he1, h1⟩ =>
      rdA_imp (rdA_bndA he1 W1 h1) fun vs H2 ⟨R2, S2, y, E2, W2, ry, he2, h2⟩ => h2 R2 H2 _ (.refl R2 H2) W2 (.cons (rx.mono E2.le) ry)
theorem s_tup {x1} (ha : PA X es (RA X xw ma)) (hn : ∀ ρ S r S', ma ρ S = .ok r S' → r.list.length ≤ 1000) : PE X (.Tuple es x1 pos) (RE X xw fun ρ S => (ma ρ S).bnd fun x S1 => .ok (.v (.tup x.list)) S1) :=
  pe_imp (pe_tup ha) fun σ H Q ⟨R, ρ, S, he, W, h⟩ => by
    dsimp only at h
    refine ⟨R, ρ, S, he, W, ?_⟩
    cases e1 : ma ρ S with
    | ok r S1 =>
      rw [e1] at h
      intro R1 H1 vs E1 W1 x
      have hz : r.list.length ≤ line := Nat.le_trans (hn ρ S r S1 e1) (by decide)
      exact ⟨by rw [← x.length]; exact hz, fun p hp => post_tup (Post.shift E1 h) W1 hp hz x⟩
    | exc c S1 => rw [e1] at h; exact h
    | stop => rw [e1] at h; exact h
theorem s_lst (ha : PA X es (RA X xw ma)) (hn : ∀ ρ S r S', ma ρ S = .ok r S' → r.list.length ≤ 1000) : PE X (.List es pos) (RE X xw fun ρ S => (ma ρ S).bnd fun x S1 => .ok (.l x.list) S1) :=
  pe_imp (pe_lst ha) fun σ H Q ⟨R, ρ, S, he, W, h⟩ => by
    dsimp only at h
    refine ⟨R, ρ, S, he, W, ?_⟩
    cases e1 : ma ρ S with
    | ok r S1 =>
      rw [e1] at h
      intro R1 H1 vs E1 W1 x
      have hz : r.list.length ≤ line := Nat.le_trans (hn ρ S r S1 e1) (by decide)
      exact ⟨by rw [← x.length]; exact hz, fun p hp => post_l (Post.shift E1 h) W1 hp hz x⟩
    | exc c S1 => rw [e1] at h; exact h
    | stop => rw [e1] at h; exact h
end
end DL

set_option Elab.async false
set_option linter.all false
set_option maxRecDepth 100000
set_option maxHeartbeats 2000000
namespace DL
open PySem PySem.Spec PyProof.Rows L2
section
variable {X : Cx} {xw : XWish} {e a b c : Expr} {es : List Expr} {pos p p' : Pos} {σ : L2.St} {H : Hp} {Q : VK} {ma mb mc m : Env → Store → Res RV}
/-! ### an object of its own place -/
def Rp.box (R : Rp) (p : Addr) : Rp := { R with ι := fun l => if l = R.n then p else R.ι l, n := R.n + 1 }
theorem Rp.box_le (R : Rp) (p : Addr) : R.le (R.box p) := ⟨Nat.le_succ _, fun l h => if_neg (Nat.ne_of_lt h), fun _ _ h => h⟩
theorem Rp.box_old {R : Rp} {p : Addr} {l : Nat} (h : l < R.n) : (R.box p).ι l = R.ι l := if_neg (Nat.ne_of_lt h)
theorem Rp.box_new {R : Rp} {p : Addr} : (R.box p).ι R.n = p := if_pos rfl
section
variable {K : PySem.W.Frag} {w : World} {R R0 : Rp} {S : Store} {H0 : Hp} {q : Addr} {o : AO}
theorem Wd.box (W : Wd K w R S H) (hq : H q ≠ none) (hI : R.I q = none) (hn : ∀ l, l < R.n → R.ι l ≠ q) (ho : RepO K w R H q o) : Wd K w (R.box q) (S ++ [o]) H where
  n := by rw [List.length_append, List.length_singleton, ← W.n]; rfl
  I := W.I
  apart := fun l hl => by
    by_cases h : l = R.n
    · subst h
      rw [Rp.box_new]
      exact .inl hI
    · have hl' : l < R.n := by have : l < R.n + 1 := hl; omega
      rw [Rp.box_old hl']
      rcases W.apart l hl' with z | ⟨a, z⟩
      · exact .inl z
      · exact .inr ⟨a, by rw [List.getElem?_append_left (set_lt z)]; exact z⟩
  there := fun l hl => by
    by_cases h : l = R.n
    · subst h
      rw [Rp.box_new]
      exact hq
    · have hl' : l < R.n := by have : l < R.n + 1 := hl; omega
      rw [Rp.box_old hl']
      exact W.there l hl'
  inj := fun l l' h1 h2 e => by
    have k1 : l < R.n + 1 := h1
    have k2 : l' < R.n + 1 := h2
    by_cases a1 : l = R.n
    · by_cases a2 : l' = R.n
      · rw [a1, a2]
      · rw [a1, Rp.box_new, Rp.box_old (by omega)] at e
        exact absurd e.symm (hn l' (by omega))
    · by_cases a2 : l' = R.n
      · rw [a2, Rp.box_new, Rp.box_old (by omega)] at e
        exact absurd e (hn l (by omega))
      · rw [Rp.box_old (by omega), Rp.box_old (by omega)] at e
        exact W.inj l l' (by omega) (by omega) e
  obj := fun l u h => by
    by_cases h1 : l < S.length
    · rw [List.getElem?_append_left h1] at h
      rw [Rp.box_old (by rw [W.n]; exact h1)]
      exact (W.obj l u h).mono (R.box_le q) fun _ z => z
    · have h2 : l = S.length := by
        have := set_lt h
        rw [List.length_append, List.length_singleton] at this
        omega
      subst h2
      rw [List.getElem?_append_right (Nat.le_refl _), Nat.sub_self] at h
      cases h
      rw [← W.n, Rp.box_new]
      exact ho.mono (R.box_le q) fun _ z => z
theorem Ext.box (E : Ext R0 H0 R H) (h0 : H0 q = none) : Ext R0 H0 (R.box q) H where
  le := E.le.trans (R.box_le q)
  newI := E.newI
  newS := fun l h1 h2 => by
    have k2 : l < R.n + 1 := h2
    by_cases h : l = R.n
    · subst h; rw [Rp.box_new]; exact h0
    · rw [Rp.box_old (by omega)]
      exact E.newS l h1 (by omega)
  frame := E.frame
  stay := E.stay
end
def bxM (m : Env → Store → Res RV) : Env → Store → Res RV := fun ρ S => (m ρ S).bnd fun x S1 => match x with
  | .l xs => alloc (.lst xs) S1
  | .d kvs => alloc (.dct kvs) S1
  | .v _ => .stop
theorem bx_rd (h : RE X xw (bxM m) σ H Q) : RE X xw m σ H Q := by
    obtain ⟨R, ρ, S, he, W, h⟩ := h
    refine ⟨R, ρ, S, he, W, ?_⟩
    unfold bxM at h
    cases e1 : m ρ S with
    | ok r S1 =>
      rw [e1] at h
      intro R1 H1 v E1 W1 x
      cases r with
      | v a => exact (show False from h).elim
      | l xs =>
        obtain ⟨q, vs, rfl, e2, h0, hI, hn, z, t⟩ := x
        have h' : Post X.K X.w xw R H (.ok (.v (.ref S1.length)) (S1 ++ [.lst xs])) Q := h
        refine h' (R1.box q) H1 _ (E1.box h0) (W1.box (by rw [e2]; simp) hI hn ⟨vs, e2, z, t⟩) ?_
        show RepV X.K X.w (R1.box q) (.ref S1.length) (.ref q)
        have := RepV.ref (K := X.K) (w := X.w) (R := R1.box q) (l := R1.n) (Nat.lt_succ_self _)
        rw [Rp.box_new] at this
        rw [← W1.n]
        exact this
      | d kvs =>
        obtain ⟨q, es, ep, rfl, e2, h0, hI, hn, z, t⟩ := x
        have h' : Post X.K X.w xw R H (.ok (.v (.ref S1.length)) (S1 ++ [.dct kvs])) Q := h
        refine h' (R1.box q) H1 _ (E1.box h0) (W1.box (by rw [e2]; simp) hI hn ⟨es, ep, e2, z, t⟩) ?_
        show RepV X.K X.w (R1.box q) (.ref S1.length) (.ref q)
        have := RepV.ref (K := X.K) (w := X.w) (R := R1.box q) (l := R1.n) (Nat.lt_succ_self _)
        rw [Rp.box_new] at this
        rw [← W1.n]
        exact this
    | exc c S1 => rw [e1] at h; exact h
    | stop => rw [e1] at h; exact h
theorem s_bx (h : PE X e (RE X xw m)) : PE X e (RE X xw (bxM m)) := pe_imp h fun σ H Q => bx_rd

/-! ### subscripts -/
def rIxD (K : PySem.W.Frag) (w : World) : R2 := fun x y H Q => ∃ R S a b c, Wd K w R S H ∧ RepV K w R a x ∧ RepV K w R b y ∧ subOp a b S = some c ∧ ∀ v, RepV K w R c v → Q v H
theorem atI_rep {K : PySem.W.Frag} {w : World} {R : Rp} {xs : List AV} {vs : List V} {i : Int} {c : AV} (q : RepVs K w R xs vs) (h : atI xs i = some c) : ∃ v, atI vs i = some v ∧ RepV K w R c v := by
  unfold atI at h ⊢
  rw [← q.length]
  obtain ⟨j, e1, e2⟩ := bind_some h
  obtain ⟨v, e3, r⟩ := q.get e2
  exact ⟨v, by rw [e1]; exact e3, r⟩
theorem dctOf_look {S : Store} {a : AV} {kvs : List (AV × AV)} (h : a.look S = some (.dct kvs)) : a.dctOf S = some kvs := by
  unfold AV.dctOf
  rw [h]
theorem ix_data (hu : X.A.units + 64 < cLine) : IxR X (rIxD X.K X.w) := by
  intro value slice pins s σ H x y v u Q I rx ry ⟨R, S, a, b, c, W, ra, rb, h, q⟩ hs
  unfold subOp at h
  split at h
  · rename_i xs e1
    split at h
    · cases look_seen W ra e1 with
      | lst e2 z t =>
      cases rb
      obtain ⟨z', e3, r⟩ := atI_rep t h
      exact ix_list value slice pins s σ H _ _ v u Q I rx ry ⟨_, _, _, z', rfl, rfl, e2, e3, q z' r⟩ hs
    · cases h
  · rename_i xs e1
    split at h
    · cases look_seen W ra e1 with
      | tup e2 z t =>
      cases rb
      obtain ⟨z', e3, r⟩ := atI_rep t h
      exact ix_tup value slice pins s σ H _ _ v u Q I rx ry ⟨_, _, _, z', rfl, rfl, .inl (.inl e2), e3, q z' r⟩ hs
    · cases h
  · rename_i kvs e1
    split at h
    · rename_i ok
      obtain ⟨p, es, ep, rfl, hp, hsm, hz, rdd, alt⟩ := dict_ask I W (dctOf_look e1) ra rb ry ok
      cases (show v = Value.ref p from rx)
      rcases alt with ⟨k, lk, rfl, hk, lr, dd, hl⟩ | ⟨kt, d, tk, hkd, hkt, rfl, rfl, his, tr, dd, hl⟩
      · obtain ⟨g1, g2⟩ := lr.get (q := k)
        obtain ⟨y', u', r1, r2, r3⟩ := g1 c h
        refine subscriptTail_builtinR (x := u') dd.typeIs PySem.F.slot_dict_getitem.lookup ?_ hs
        exact wpAny_getItem_of (knd := mixKind X.prog X.w) hk dd.mapOf r3 ⟨rfl, y', H, I.tok _, r2, q y' r1⟩
      · obtain ⟨g1, g2⟩ := tr.get hkt
        obtain ⟨y', u', r1, r2, r3⟩ := g1 c h
        have dk : s.heap.DictKeyed (nestedKind X.prog X.w) p (pairsH tk) := ⟨tk, dd, rfl⟩
        refine subscriptTail_builtinR (x := u') dk.typeIs PySem.F.slot_dict_getitem.lookup ?_ hs
        exact getItem_keyed (show X.A.units + 1 + 8 < cLine by omega) his dk r3 ⟨rfl, y', H, I.tok _, r2, q y' r1⟩
    · cases h
  · cases h
theorem s_sub (hu : X.A.units + 64 < cLine) (ha : PE X a (RE X xw ma)) (hb : PE X b (RE X xw mb)) (hs : PlainIx b) : PE X (.Subscript a b pos) (RE X xw fun ρ S => (ma ρ S).bnd fun x S1 => (mb ρ S1).bnd fun y S2 => match subOp x.av y.av S2 with
    | some v => .ok (.v v) S2
    | none => .stop) :=
  pe_imp (pe_ix (ix_data hu) ha hb hs) fun σ H Q ⟨R, ρ, S, he, W, h⟩ =>
    rdE_imp (rd_bnd he W h) fun v H1 ⟨R1, S1, x, E1, W1, rx, he1, h1⟩ =>
      rdE_imp (rd_bnd he1 W1 h1) fun u H2 ⟨R2, S2, y, E2, W2, ry, he2, h2⟩ => by
        split at h2
        · rename_i k e
          exact ⟨R2, S2, _, _, k, W2, rx.mono E2.le, ry, e, fun v r => post_v h2 W2 r⟩
        · exact h2.elim
def rSetD (K : PySem.W.Frag) (w : World) : TSet := fun o i v H Q => ∃ R S a b c S', Wd K w R S H ∧ RepV K w R a o ∧ RepV K w R b i ∧ RepV K w R c v ∧ subSet a b c S = some S' ∧ ∀ R' H', Ext R H R' H' → Wd K w R' S' H' → Q H'
theorem dput_length (kvs : List (AV × AV)) (k v : AV) : (dput kvs k v).length ≤ kvs.length + 1 := by
  unfold dput
  split
  · rw [List.length_map]; exact Nat.le_succ _
  · rw [List.length_append, List.length_singleton]; exact Nat.le_refl _
theorem set_data (hu : X.A.units + 64 < cLine) : PSet X (rSetD X.K X.w) := by
  intro pins s σ H o i v ov iv u Q I ro ri rv ⟨R, S, a, b, c, S', W, ra, rb, rc, h, q⟩
  unfold subSet at h
  split at h
  · rename_i l
    cases ra with
    | ref hl =>
    split at h
    · rename_i xs e
      split at h
      · rename_i j
        obtain ⟨k, e1, rfl⟩ := Option.map_eq_some_iff.mp h
        cases rb
        obtain ⟨vs, e2, z, t⟩ := W.obj l _ e
        refine set_list pins s σ H _ _ _ ov iv u Q I ro ri rv ⟨_, _, _, k, rfl, rfl, e2, by rw [← t.length]; exact e1, ?_⟩
        obtain ⟨W', E⟩ := W.set (u := .lst (vs.set k v)) (o' := .lst (xs.set k c)) e (fun _ z => nomatch z) (fun _ z => nomatch z) ⟨_, upd_same, by rw [List.length_set]; exact z, t.set rc k⟩
        exact q _ _ E W'
      · cases h
    · rename_i kvs e
      split at h
      · rename_i hc
        obtain ⟨ok, hlt⟩ := hc
        cases h
        have hd : (AV.ref l).dctOf S = some kvs := dctOf_look (by
          show S[l]?.bind AO.av? = some (.dct kvs)
          rw [e]
          rfl)
        obtain ⟨p, es, ep, hp, hpe, hsm, hz, rdd, alt⟩ := dict_ask I W hd (.ref hl) rb ri ok
        cases hp
        cases (show ov = Value.ref _ from ro)
        have hz' : (dput kvs b c).length ≤ line := Nat.le_trans (dput_length kvs b c) hlt
        have fin : ∀ h' tk es' ep', h'.DictRaw (R.ι l) es' ep' → Heap.SameBut (R.ι l) s.heap h' → RepD X.K X.w R (dput kvs b c) es'.toList → ∃ H', L2.Inv X pins σ H' { s with heap := h', toks := tk } ∧ Q H' := fun h' tk es' ep' hr sb rd => by
          obtain ⟨W', E⟩ := W.set (u := xdic (R.ι l) es' ep') (o' := .dct (dput kvs b c)) e (fun _ z => nomatch z) (fun _ z => nomatch z) ⟨es', ep', upd_same, hz', rd⟩
          exact ⟨_, xdic_upd I hpe hr sb, q _ _ E W'⟩
        have hsz : kvs.length ≤ sizeLine := hz
        rcases alt with ⟨k, lk, rfl, hk, lr, dd, hl'⟩ | ⟨kt, d, tk, hkd, hkt, rfl, rfl, his, tr, dd, hl'⟩
        · refine wpAny_setItem_pairs (knd := mixKind X.prog X.w) (v := u) hk dd (fun h' dd' sb => ?_) (by rw [hl']; exact hsz)
          obtain ⟨o', es', ep', ho, hc, hdat, hks, hps, nd⟩ := dd'
          exact fin h' _ es' ep' ⟨o', ho, hc, hdat⟩ sb ((lr.put rc rv).back hps (fun en hen => hks en (by simpa using hen)) nd)
        · refine wpAny_setItem_heap (knd := nestedKind X.prog X.w) (v := u) (show X.A.units + 1 + 8 < cLine by omega) his dd (fun h' dd' sb => ?_) (by rw [hl']; exact hsz)
          obtain ⟨o', es', ep', ho, hc, hdat, hes, his', nd⟩ := dd'
          exact fin h' _ es' ep' ⟨o', ho, hc, hdat⟩ sb (by rw [hes]; exact (tr.put hkd hkt rb rc rv).back nd)
      · cases h
    · cases h
  · cases h
/-- o[i] of o[i] op= e -/
theorem get_data (hu : X.A.units + 64 < cLine) : ∀ (pins : List (Addr × Obj)) (s : Shared) (σ : L2.St) (H : Hp) (o i : V) (ov iv : Value) (Q : VK), L2.Inv X pins σ H s → RelV o ov → RelV i iv → rIxD X.K X.w o i H Q →
    wpAny (model X.prog X.w) X.A (getItem ov iv) (EP X pins σ Q) X.xe s := by
  intro pins s σ H x y v u Q I rx ry ⟨R, S, a, b, c, W, ra, rb, h, q⟩
  unfold subOp at h
  split at h
  · rename_i xs e1
    split at h
    · rename_i i
      cases look_seen W ra e1 with
      | lst e2 z t =>
      cases rb
      obtain ⟨z', e3, r⟩ := atI_rep t h
      cases (show v = Value.ref _ from rx)
      obtain ⟨tk, rfl⟩ := ry
      obtain ⟨its, rv, pl, hz⟩ := I.list e2
      obtain ⟨j, h1, h2, h3, h4, h5⟩ := atI_get e3
      obtain ⟨w', ew, rw'⟩ := rv.get h2
      have hl := rv.length
      have hn := line63
      have fin : EP X pins σ Q w' s := ⟨z', H, I, rw', q z' r⟩
      by_cases h0 : 0 ≤ i
      · have hj : i.toNat = j := by
          rw [seqIndex_of h0 h5] at h1
          exact Option.some.inj h1
        exact PySem.wpAny_getItem_list pl.isList h0 (by omega) (by rw [hj]; simpa using ew) fin
      · have hj : (i + (its.toArray.size : Int)).toNat = j := by
          rw [seqIndex_neg (by omega) h4] at h1
          rw [List.size_toArray, ← hl]
          exact Option.some.inj h1
        exact wpAny_getItem_list_neg pl.isList (by omega) (by rw [List.size_toArray] <;> omega) (by omega) (by rw [hj]; simpa using ew) fin
    · cases h
  · rename_i xs e1
    split at h
    · cases look_seen W ra e1 with
      | tup e2 z t =>
      cases rb
      obtain ⟨z', e3, r⟩ := atI_rep t h
      cases (show v = Value.ref _ from rx)
      obtain ⟨tk, rfl⟩ := ry
      obtain ⟨its, rv, pl, hz⟩ := I.tuple (.inl (.inl e2))
      obtain ⟨j, h1, h2, h3, h4, h5⟩ := atI_get e3
      obtain ⟨w', ew, rw'⟩ := rv.get h2
      have hl := rv.length
      have hn := line63
      have fin : EP X pins σ Q w' s := ⟨z', H, I, rw', q z' r⟩
      exact getItem_tuple (j := j) pl (by omega) (by omega) (by rw [List.size_toArray, ← hl]; exact h1) (by simpa using ew) fin
    · cases h
  · rename_i kvs e1
    split at h
    · rename_i ok
      obtain ⟨p, es, ep, rfl, hp, hsm, hz, rdd, alt⟩ := dict_ask I W (dctOf_look e1) ra rb ry ok
      cases (show v = Value.ref p from rx)
      rcases alt with ⟨k, lk, rfl, hk, lr, dd, hl⟩ | ⟨kt, d, tk, hkd, hkt, rfl, rfl, his, tr, dd, hl⟩
      · obtain ⟨g1, g2⟩ := lr.get (q := k)
        obtain ⟨y', u', r1, r2, r3⟩ := g1 c h
        exact wpAny_getItem_of (knd := mixKind X.prog X.w) hk dd.mapOf r3 ⟨y', H, I.tok _, r2, q y' r1⟩
      · obtain ⟨g1, g2⟩ := tr.get hkt
        obtain ⟨y', u', r1, r2, r3⟩ := g1 c h
        exact getItem_keyed (show X.A.units + 1 + 8 < cLine by omega) his ⟨tk, dd, rfl⟩ r3 ⟨y', H, I.tok _, r2, q y' r1⟩
    · cases h
  · cases h
end
end DL

set_option Elab.async false
set_option linter.all false
set_option maxRecDepth 100000
set_option maxHeartbeats 2000000
namespace DL
open PySem PySem.Spec PyProof.Rows L2
/-! ### plain arguments -/
def plainE : Expr → Bool
  | .Starred .. => false
  | .Slice .. => false
  | .Set .. => false
  | _ => true
theorem starEach_plain {a : Expr} {es : List Expr} {env : PySem.Env} (h : plainE a = true) : starEach (a :: es) env = (false, eval a env) :: starEach es env := by
  cases a <;> first | rfl | cases h
theorem starEach_any {pos : Pos} {env : PySem.Env} : ∀ {es : List Expr}, es.all plainE = true → (backTo pos (starEach es env)).any (·.1) = false
  | [], _ => rfl
  | a :: es, h => by
    obtain ⟨h1, h2⟩ := Bool.and_eq_true_iff.mp (show (plainE a && es.all plainE) = true from h)
    rw [starEach_plain h1]
    show (false || (backTo pos (starEach es env)).any (·.1)) = false
    rw [starEach_any h2]
    rfl
theorem starEach_all {pos : Pos} {env : PySem.Env} : ∀ {es : List Expr}, es.all plainE = true → (backTo pos (starEach es env)).all (fun x => !x.1) = true
  | [], _ => rfl
  | a :: es, h => by
    obtain ⟨h1, h2⟩ := Bool.and_eq_true_iff.mp (show (plainE a && es.all plainE) = true from h)
    rw [starEach_plain h1]
    show (!false && (backTo pos (starEach es env)).all (fun x => !x.1)) = true
    rw [starEach_all h2]
    rfl
theorem behind_plain {o : CmpOp} {b : Expr} (h : plainE b = true) : behindInMarks o b = false := by
  cases b <;> first | rfl | cases h
theorem plainIx_of {b : Expr} (h : plainE b = true) : PlainIx b := by
  intro o i
  cases b <;> first | rfl | cases h
theorem swaps_plain {e : Expr} {t : Option Expr} {l : Nat} {env : PySem.Env} (h : match e with
    | .ListComp .. => False
    | .SetComp .. => False
    | .DictComp .. => False
    | _ => True) : swapsWith e t l env = pure false := by
  cases e <;> first | rfl | cases h
def notSuper : Expr → Bool
  | .Call (.Name _ _) [] [] _ => false
  | _ => true
theorem base_of {o : Expr} {name : Str} {env : PySem.Env} (h : notSuper o = true) : attributeBase o name env (eval o env) = eval o env := by
  unfold attributeBase
  split
  · cases h
  · rfl
section
variable {X : Cx} {xw : XWish} {e a b c : Expr} {es : List Expr} {pos p p' cpos apos : Pos} {σ : L2.St} {H : Hp} {Q : VK} {ma mb mc m : Env → Store → Res RV}
theorem s_biB {id : String} {x : Str} {f : Store → List AV → Res RV} (hc : CallR X (.builtin id) (rBi X.K X.w xw f)) (hg : Gl X x) (hm : X.mg x = none) (hv : bootBuiltins x = some (.builtin id)) (ha : PA X (e :: es) (RA X xw ma)) (hn : x ≠ "__name__") (hdb : (x == ("__debug__" : Str)) = false)
    (h1 : plainE e = true) (h2 : es.all plainE = true) : PE X (.Call (.Name x p) (e :: es) [] pos) (RE X xw fun ρ S => (ma ρ S).bnd fun x S1 => f S1 x.list) :=
  pe_imp (pe_callB hc hg hm hv ha hn hdb (starEach_plain h1) (starEach_any h2)) fun σ H Q ⟨R, ρ, S, he, W, h⟩ =>
    rdA_imp (rdA_bnd he W h) fun vs H1 ⟨R1, S1, x, E1, W1, rx, he1, h1⟩ => ⟨R1, S1, _, W1, rx, h1⟩
theorem s_biT {T : String} {x : Str} {f : Store → List AV → Res RV} (hc : CallR X (.type T) (rBi X.K X.w xw f)) (hg : Gl X x) (hm : X.mg x = none) (hv : bootBuiltins x = some (.type T)) (ha : PA X (e :: es) (RA X xw ma)) (hn : x ≠ "__name__") (hdb : (x == ("__debug__" : Str)) = false)
    (h1 : plainE e = true) (h2 : es.all plainE = true) : PE X (.Call (.Name x p) (e :: es) [] pos) (RE X xw fun ρ S => (ma ρ S).bnd fun x S1 => f S1 x.list) :=
  pe_imp (pe_callTy hc hg hm hv ha hn hdb (starEach_plain h1) (starEach_any h2)) fun σ H Q ⟨R, ρ, S, he, W, h⟩ =>
    rdA_imp (rdA_bnd he W h) fun vs H1 ⟨R1, S1, x, E1, W1, rx, he1, h1⟩ => ⟨R1, S1, _, W1, rx, h1⟩
theorem s_isi {T : Str} {t : Ty} {q : Pos} (ha : PE X a (RE X xw ma)) (hp : plainE a = true) (hg : Gl X "isinstance") (hm : X.mg "isinstance" = none) (hT : Gl X T) (hmT : X.mg T = none) (hvT : bootBuiltins T = some (.type t.nm)) (hnT : T ≠ "__name__") (hdT : (T == ("__debug__" : Str)) = false) :
    PE X (.Call (.Name "isinstance" p) [a, .Name T q] [] pos) (RE X xw fun ρ S => (ma ρ S).bnd fun x S1 => match isTy S1 x.av t with
      | some b => .ok (.v (.bl b)) S1
      | none => .stop) := by
  have hc : CallR X (.builtin "isinstance") (fun xs H Q => ∃ R S a x b, Wd X.K X.w R S H ∧ RepV X.K X.w R a x ∧ xs = [x, .ty t.nm] ∧ isTy S a t = some b ∧ Q (.bl b) H) := by
    intro pins s σ H xs us Q I r ⟨R, S, a, x, b, W, ra, e, h, q⟩
    subst e
    obtain ⟨u1, u2, rfl, r1, r2⟩ := vals2 r
    cases (show u2 = Value.type t.nm from r2)
    exact cal_isi I W ra r1 h fun tk => ⟨.bl b, H, I.tok tk, rfl, q⟩
  refine pe_imp (pe_callB hc hg hm (by decide +kernel) (pa_cons ha (pa_cons (pe_bltn (v := .ty t.nm) hT hmT hvT rfl hnT hdT) pa_nil (starEach_plain rfl)) (starEach_plain hp)) (by decide) (by decide) (starEach_plain hp) (starEach_any rfl)) fun σ H Q ⟨R, ρ, S, he, W, h⟩ => ?_
  refine rdE_imp (rd_bnd he W h) fun v H1 ⟨R1, S1, x, E1, W1, rx, he1, h1⟩ => ?_
  split at h1
  · rename_i b e
    exact ⟨R1, S1, x.av, v, b, W1, rx, rfl, e, post_v h1 W1 (.bl _)⟩
  · exact h1.elim

/-! ### methods -/
def Kd.nm : Kd → String
  | .list => "list"
  | .tuple => "tuple"
  | .dict => "dict"
  | .str => "str"
theorem kind_is {K : PySem.W.Frag} {R : Rp} {S : Store} {a : AV} {k : Kd} {v : V} {u : Value} {pins : List (Addr × Obj)} {s : Shared} (I : L2.Inv X pins σ H s) (W : Wd X.K X.w R S H) (ra : RepV X.K X.w R a v) (rv : RelV v u) (h : kindOf S a = some k) (hk : k ≠ .tuple) :
    s.TypeIs u k.nm ∧ ∀ b, u = .ref b → ∃ ob, s.heap.get? b = some ob ∧ ob.dict = none := by
  unfold kindOf at h
  split at h
  · rename_i xs e
    cases h
    cases look_seen W ra e with
    | lst q z t => exact tyV_is I rv (show tyV X.K "list" (.ref _) H from .inl ⟨rfl, _, q⟩)
  · cases h; exact absurd rfl hk
  · rename_i kvs e
    cases h
    cases look_seen W ra e with
    | dct q z t =>
      cases (show u = Value.ref _ from rv)
      obtain ⟨⟨o, ho, hc, hd⟩, _⟩ := xdic_raw I q
      refine ⟨⟨o, ho, hc.1⟩, fun b e => ?_⟩
      cases e
      exact ⟨o, ho, hc.2.1⟩
  · rename_i x e
    cases h
    cases look_seen W ra e with
    | str y => exact tyV_is I rv (show tyV X.K "str" (.str _) H from rfl)
  · cases h
structure MthOk (X : Cx) (xw : XWish) (name : Str) (m : MI) : Prop where
  at_ : ∀ k, miHas k m = true → k ≠ .tuple ∧ ∃ id : String, PlainAttrs k.nm ∧ Slot k.nm name id ∧ typeOf (.builtin id) = pure (.type "method_descriptor") ∧ MtM X id (rMi X.K X.w xw (miCall k m))
theorem s_mt {o : Expr} {name : Str} {mi : MI} (hm : MthOk X xw name mi) (ho : PE X o (RE X xw ma)) (ha : PA X (e :: es) (RA X xw mb)) (hb : notSuper o = true) (h1 : plainE e = true) (h2 : es.all plainE = true) (hl : es.length < 20) (hline : (apos.endLine == cpos.line) = true) :
    PE X (.Call (.Attribute o name apos) (e :: es) [] cpos) (RE X xw fun ρ S => (ma ρ S).bnd fun x S1 => match kindOf S1 x.av with
      | some k => if miHas k mi then (mb ρ S1).bnd fun y S2 => miCall k mi x.av y.list S2 else .stop
      | none => .stop) := by
  have hbase := base_of (name := name) (env := X.env) hb
  have hfew : ((backTo cpos (starEach (e :: es) X.env)).all (fun x => !x.1) && (backToKw cpos (keywordEach [] X.env)).all (fun x => x.1.isSome)
      && decide ((e :: es).length + ([] : List Keyword).length + (if ([] : List Keyword).isEmpty then 0 else 1) < 30)) = true := by
    rw [starEach_all (show (e :: es).all plainE = true from Bool.and_eq_true_iff.mpr ⟨h1, h2⟩)]
    show (true && true && decide ((es.length + 1) + 0 + 0 < 30)) = true
    simp
    omega
  have hs := starEach_plain (es := es) (env := X.env) h1
  have hplain := starEach_any (pos := cpos) (env := X.env) h2
  refine ⟨fun pins s σ H Q I ⟨R, ρ, S, he, W, h⟩ => ?_⟩
  refine wpAny_Call_method_late hbase hfew hline rfl (thn (ho.run pins s σ H _ I (rd_bnd he W h)) fun v s1 ⟨x, H1, I1, r1, R1, S1, xr, E1, W1, rx, he1, h1'⟩ => ?_)
  split at h1'
  · rename_i k hk
    split at h1'
    · rename_i hh
      obtain ⟨hkt, id, pa, slot, hty, hM⟩ := hm.at_ k hh
      obtain ⟨g1, g2⟩ := kind_is (K := X.K) I1 W1 rx r1 hk hkt
      refine ⟨k.nm, id, pa, slot, hty, g1, g2, ?_⟩
      have hA := ha.run cpos pins s1 σ H1 _ I1 (rdA_bnd he1 W1 h1')
      rw [hs] at hA ⊢
      refine Calls.callWith_builtin (by show (false || (backTo cpos (starEach es X.env)).any (·.1)) = false; rw [hplain] <;> rfl) (Calls.evalArgs_plain ?_)
      exact thn hA fun us s2 ⟨vs, H2, I2, r2, R2, S2, y, E2, W2, ry, he2, h2'⟩ => hM pins s2 σ H2 x vs v us Q I2 r1 r2 ⟨R2, S2, _, _, W2, rx.mono E2.le, ry, h2'⟩
    · exact h1'.elim
  · exact h1'.elim

/-! ### defs of the text -/
def clsW (cls : Nat → Value) (xw : XWish) : WX := fun c d σ H => ∃ k, c = cls k ∧ d = none ∧ xw k H
def clsE (cls : Nat → Value) (xw : XWish) : XK := fun c d H => ∃ k, c = cls k ∧ d = none ∧ xw k H
def spF (K : PySem.W.Frag) (w : World) (cls : Nat → Value) (call : List AV → Store → Res RV) : Sp := fun vs H Q E => ∃ R S as, Wd K w R S H ∧ RepVs K w R as vs ∧ match call as S with
  | .ok r S' => ∀ R' H' v, Ext R H R' H' → Wd K w R' S' H' → RepRV K w R' H H' r v → Q v H'
  | .exc c S' => ∀ R' H', Ext R H R' H' → Wd K w R' S' H' → E (cls c) none H'
  | .stop => False
theorem spF_of {cls : Nat → Value} {call : List AV → Store → Res RV} {K : PySem.W.Frag} {w : World} {R : Rp} {S : Store} {as : List AV} {vs : List V} (W : Wd K w R S H) (r : RepVs K w R as vs) (h : Post K w xw R H (call as S) Q) : spF K w cls call vs H Q (clsE cls xw) := by
  refine ⟨R, S, as, W, r, ?_⟩
  cases e : call as S with
  | ok r S' => rw [e] at h; exact h
  | exc c S' => rw [e] at h; exact fun R' H' E' W' => ⟨c, rfl, rfl, h R' H' E' W'⟩
  | stop => rw [e] at h; exact h
theorem s_call {k : Nat} {f : Addr} {fd : FuncData} {ps : List Str} {x : Str} {cls : Nat → Value} {call : List AV → Store → Res RV} (F : FnOk X.prog X.w X.K X.mg X.base (L2.CX X.prog X.w) k f fd ps (spF X.K X.w cls call)) (hr : Room k X.A) (hg : Gl X x) (hm : X.mg x = some (.ref f)) (hk : PySem.W.keepIn X.K (.ref f) = true)
    (hb : Binds X.K fd ps []) (tk : Takes X (clsW cls xw)) (ha : PA X (e :: es) (RA X xw ma)) (hdb : (x == ("__debug__" : Str)) = false) (h1 : plainE e = true) (h2 : es.all plainE = true) :
    PE X (.Call (.Name x p) (e :: es) [] pos) (RE X xw fun ρ S => (ma ρ S).bnd fun x S1 => call x.list S1) :=
  pe_imp (pe_call F hr hg hm hk hb .nil (E := clsE cls xw) (passes_call tk fun c d σ H q => q) ha hdb (starEach_plain h1) (starEach_any h2)) fun σ H Q ⟨R, ρ, S, he, W, h⟩ =>
    rdA_imp (rdA_bnd he W h) fun vs H1 ⟨R1, S1, x, E1, W1, rx, he1, h1⟩ => by
      rw [List.append_nil]
      exact spF_of W1 rx h1
theorem s_call0 {k : Nat} {f : Addr} {fd : FuncData} {ps : List Str} {x : Str} {cls : Nat → Value} {call : List AV → Store → Res RV} (F : FnOk X.prog X.w X.K X.mg X.base (L2.CX X.prog X.w) k f fd ps (spF X.K X.w cls call)) (hr : Room k X.A) (hg : Gl X x) (hm : X.mg x = some (.ref f)) (hk : PySem.W.keepIn X.K (.ref f) = true)
    (hb : Binds X.K fd ps []) (tk : Takes X (clsW cls xw)) (hdb : (x == ("__debug__" : Str)) = false) :
    PE X (.Call (.Name x p) [] [] pos) (RE X xw fun ρ S => call [] S) :=
  pe_imp (pe_call0 F hr hg hm hk hb .nil (E := clsE cls xw) (passes_call tk fun c d σ H q => q) hdb) fun σ H Q ⟨R, ρ, S, he, W, h⟩ => spF_of W .nil h
end
end DL

set_option Elab.async false
set_option linter.all false
set_option maxRecDepth 100000
set_option maxHeartbeats 2000000
namespace DL
open PySem PySem.Spec PyProof.Rows L2
/-! ### what is walked -/
/-- an iterator yields what stands in xs, while the place w stays -/
def Walks (K : PySem.W.Frag) (w : World) (J : It) (R0 : Rp) (H0 : Hp) (xs : List AV) (wt : Option (Nat × AO)) : Prop :=
  xs.length ≤ line ∧ ∀ i R2 S2 H2, R0.le R2 → Wd K w R2 S2 H2 → stays wt S2 →
    (∀ x, xs[i]? = some x → J.go i H2 ∧ ∀ v H3, J.yld i H2 v H3 → ∃ R3, Ext R2 H2 R3 H3 ∧ Wd K w R3 S2 H3 ∧ RepV K w R3 x v) ∧ (xs.length = i → J.stop i H2)
def PostI (K : PySem.W.Frag) (w : World) (xw : XWish) (R : Rp) (H : Hp) (res : Res RV) (Q : It → Hp → Prop) : Prop := match res with
  | .ok r S' => match itemsOf S' r.av with
    | none => False
    | some (xs, wt) => ∀ R' H' J, Ext R H R' H' → Wd K w R' S' H' → Walks K w J R' H' xs wt → Q J H'
  | .exc c S' => ∀ R' H', Ext R H R' H' → Wd K w R' S' H' → xw c H'
  | .stop => False
def rdI (K : PySem.W.Frag) (w : World) (xw : XWish) (m : Env → Store → Res RV) : TI := fun σ H Q => ∃ R ρ S, RepE K w R ρ σ ∧ Wd K w R S H ∧ PostI K w xw R H (m ρ S) Q
abbrev RI (X : Cx) (xw : XWish) (m : Env → Store → Res RV) : TI := rdI X.K X.w xw m
theorem PostI.shift {K : PySem.W.Frag} {w : World} {xw : XWish} {R R1 : Rp} {H H1 : Hp} {res : Res RV} {Q : It → Hp → Prop} (E : Ext R H R1 H1) (h : PostI K w xw R H res Q) : PostI K w xw R1 H1 res Q := by
  cases res with
  | ok r S' =>
    have h' : (match itemsOf S' r.av with
      | none => False
      | some (xs, wt) => ∀ R' H' J, Ext R H R' H' → Wd K w R' S' H' → Walks K w J R' H' xs wt → Q J H') := h
    show (match itemsOf S' r.av with
      | none => False
      | some (xs, wt) => ∀ R' H' J, Ext R1 H1 R' H' → Wd K w R' S' H' → Walks K w J R' H' xs wt → Q J H')
    split
    · rename_i e; rw [e] at h'; exact h'
    · rename_i xs wt e
      rw [e] at h'
      exact fun R' H' J E' W' x => h' R' H' J (E.trans E') W' x
  | exc c S' => exact fun R' H' E' W' => h R' H' (E.trans E') W'
  | stop => exact h

/-! ### keys and values of a dict -/
def ItK (d : Addr) (es : Array DictEntry) (ep : Nat) (f : DictEntry → Value) : It :=
  ⟨fun i H => H d = some (xdic d es ep) ∧ i < es.size, fun i H x H' => H' = H ∧ ∃ e, es[i]? = some e ∧ RelV x (f e), fun i H => H d = some (xdic d es ep) ∧ es.size ≤ i⟩
section
variable {P : Program} {w : World} {K : PySem.W.Frag} {tg : Expr} {d : Addr} {es : Array DictEntry} {ep : Nat}
theorem turn_xkeys (it : Addr) (hx : ∀ e ∈ es, ∃ x, RelV x e.key) : Turn P w K tg (ItK d es ep (·.key)) [it] it (fun i h => h.IsKeyIter it d i es.size ep) where
  mem := by simp
  obj := fun i h st b hb => by
    have e : b = it := by simpa using hb
    subst e
    obtain ⟨oi, e, c, dd⟩ := st
    exact ⟨oi, e, fun v z => by rw [dd] at z; cases z⟩
  keep := fun i h h' st k => st.at fun oi e => k it (by simp) oi e
  item := by
    intro X hP hw hK hc i pins s σ H E I hf st hg
    subst hP hw hK
    obtain ⟨hd, hi⟩ := hg
    obtain ⟨f0, f1, f2, f3, f4, f5⟩ := hf it (by simp)
    obtain ⟨hr, _⟩ := xdic_raw I hd
    obtain ⟨x, rx⟩ := hx es[i] (Array.getElem_mem hi)
    refine wpAny_pyNext_keys_item_raw st hr hi fun h' st' sb => ?_
    have I1 : L2.Inv X pins σ H { s with heap := h' } := I.turned (t' := s.toks) (fun b ob hb e => (sb.2 b hb).trans e) f0 f1 f3 f4 f5
    obtain ⟨oi, e, c, dd⟩ := id st'
    exact ⟨_, rfl, go_of (s := { s with heap := h' }) e c dd (by decide) ⟨x, H, I1, rx, ⟨rfl, es[i], Array.getElem?_eq_getElem hi, rx⟩, st', fun b hb => (hf b hb).1⟩⟩
  done := by
    intro X hP hw hK hc i pins s σ H E I hf st hg
    subst hP hw hK
    obtain ⟨hd, hi⟩ := hg
    obtain ⟨f0, f1, f2, f3, f4, f5⟩ := hf it (by simp)
    obtain ⟨hr, _⟩ := xdic_raw I hd
    exact wpAny_pyNext_keys_end_raw (I.ok.hd hc) st hr hi fun h' eb => ⟨rfl, I.turned (t' := s.toks) (fun b ob hb e => eb b ob hb e) f0 f1 f3 f4 f5⟩
  self := fun A i s Q E st h => wpAny_pyIter_keyiter st h
theorem turn_xvals (it : Addr) (hx : ∀ e ∈ es, ∃ x, RelV x e.val) : Turn P w K tg (ItK d es ep (·.val)) [it] it (fun i h => h.IsValIter it d i es.size ep) where
  mem := by simp
  obj := fun i h st b hb => by
    have e : b = it := by simpa using hb
    subst e
    obtain ⟨oi, e, c, dd⟩ := st
    exact ⟨oi, e, fun v z => by rw [dd] at z; cases z⟩
  keep := fun i h h' st k => st.at fun oi e => k it (by simp) oi e
  item := by
    intro X hP hw hK hc i pins s σ H E I hf st hg
    subst hP hw hK
    obtain ⟨hd, hi⟩ := hg
    obtain ⟨f0, f1, f2, f3, f4, f5⟩ := hf it (by simp)
    obtain ⟨hr, _⟩ := xdic_raw I hd
    obtain ⟨x, rx⟩ := hx es[i] (Array.getElem_mem hi)
    refine wpAny_pyNext_values_item_raw st hr hi fun h' st' sb => ?_
    have I1 : L2.Inv X pins σ H { s with heap := h' } := I.turned (t' := s.toks) (fun b ob hb e => (sb.2 b hb).trans e) f0 f1 f3 f4 f5
    obtain ⟨oi, e, c, dd⟩ := id st'
    exact ⟨_, rfl, go_of (s := { s with heap := h' }) e c dd (by decide) ⟨x, H, I1, rx, ⟨rfl, es[i], Array.getElem?_eq_getElem hi, rx⟩, st', fun b hb => (hf b hb).1⟩⟩
  done := by
    intro X hP hw hK hc i pins s σ H E I hf st hg
    subst hP hw hK
    obtain ⟨hd, hi⟩ := hg
    obtain ⟨f0, f1, f2, f3, f4, f5⟩ := hf it (by simp)
    obtain ⟨hr, _⟩ := xdic_raw I hd
    exact wpAny_pyNext_values_end_raw (I.ok.hd hc) st hr hi fun h' eb => ⟨rfl, I.turned (t' := s.toks) (fun b ob hb e => eb b ob hb e) f0 f1 f3 f4 f5⟩
  self := fun A i s Q E st h => wpAny_pyIter_valiter st h
theorem RepD.get {R : Rp} : ∀ {kvs : List (AV × AV)} {es : List DictEntry}, RepD K w R kvs es → (∀ e ∈ es, (∃ x, RelV x e.key) ∧ ∃ x, RelV x e.val) ∧ ∀ (i : Nat) k v, kvs[i]? = some (k, v) → ∃ e x y, es[i]? = some e ∧ RepV K w R k x ∧ RelV x e.key ∧ RepV K w R v y ∧ RelV y e.val
  | _, _, .nil => ⟨fun _ h => (by cases h), fun i k v h => by simp at h⟩
  | _, _, .cons a b c d r1 e1 r2 e2 t => by
    obtain ⟨h1, h2⟩ := RepD.get t
    refine ⟨fun e he => ?_, fun i k v h => ?_⟩
    · rcases List.mem_cons.mp he with rfl | he
      · exact ⟨⟨_, e1⟩, ⟨_, e2⟩⟩
      · exact h1 e he
    · cases i with
      | zero =>
        simp at h
        obtain ⟨rfl, rfl⟩ := h
        exact ⟨_, _, _, rfl, r1, e1, r2, e2⟩
      | succ i => simpa using h2 i k v (by simpa using h)
theorem walks_keys {R : Rp} {H : Hp} {kvs : List (AV × AV)} (e : R.I d = some (xdic d es ep)) (z : kvs.length ≤ line) (rd : RepD K w R kvs es.toList) : Walks K w (ItK d es ep (·.key)) R H (kvs.map (·.1)) none := by
  have hl : kvs.length = es.size := rd.length.trans Array.length_toList
  refine ⟨by rw [List.length_map]; exact z, fun i R2 S2 H2 E W _ => ⟨fun x hx => ?_, fun hi => ?_⟩⟩
  · have hd : H2 d = some (xdic d es ep) := W.I _ _ (E.I _ _ e)
    obtain ⟨⟨k, v⟩, h1, rfl⟩ : ∃ p, kvs[i]? = some p ∧ p.1 = x := by simpa [List.getElem?_map, Option.map_eq_some_iff] using hx
    obtain ⟨en, xv, yv, h2, h3, h4, _⟩ := rd.get.2 i k v h1
    have h2' : es[i]? = some en := by simpa using h2
    refine ⟨⟨hd, (Array.getElem?_eq_some_iff.mp h2').1⟩, fun v' H3 hy => ?_⟩
    obtain ⟨rfl, e', h5, h6⟩ := hy
    rw [h2'] at h5
    cases h5
    have : xv = v' := h4.inj h6
    subst this
    exact ⟨R2, .refl R2 _, W, h3.mono E⟩
  · rw [List.length_map] at hi
    exact ⟨W.I _ _ (E.I _ _ e), by omega⟩
theorem walks_vals {R : Rp} {H : Hp} {kvs : List (AV × AV)} (e : R.I d = some (xdic d es ep)) (z : kvs.length ≤ line) (rd : RepD K w R kvs es.toList) : Walks K w (ItK d es ep (·.val)) R H (kvs.map (·.2)) none := by
  have hl : kvs.length = es.size := rd.length.trans Array.length_toList
  refine ⟨by rw [List.length_map]; exact z, fun i R2 S2 H2 E W _ => ⟨fun x hx => ?_, fun hi => ?_⟩⟩
  · have hd : H2 d = some (xdic d es ep) := W.I _ _ (E.I _ _ e)
    obtain ⟨⟨k, v⟩, h1, rfl⟩ : ∃ p, kvs[i]? = some p ∧ p.2 = x := by simpa [List.getElem?_map, Option.map_eq_some_iff] using hx
    obtain ⟨en, xv, yv, h2, _, _, h3, h4⟩ := rd.get.2 i k v h1
    have h2' : es[i]? = some en := by simpa using h2
    refine ⟨⟨hd, (Array.getElem?_eq_some_iff.mp h2').1⟩, fun v' H3 hy => ?_⟩
    obtain ⟨rfl, e', h5, h6⟩ := hy
    rw [h2'] at h5
    cases h5
    have : yv = v' := h4.inj h6
    subst this
    exact ⟨R2, .refl R2 _, W, h3.mono E⟩
  · rw [List.length_map] at hi
    exact ⟨W.I _ _ (E.I _ _ e), by omega⟩
theorem walks_tup {R : Rp} {H : Hp} {a : Addr} {xs : List AV} {vs : List V} (e : R.I a = some (.tup vs)) (z : xs.length ≤ line) (q : RepVs K w R xs vs) : Walks K w (Itt K a) R H xs none := by
  refine ⟨z, fun i R2 S2 H2 E W _ => ⟨fun x hx => ?_, fun hi => ?_⟩⟩
  · have hs : SqT K H2 a vs := .inl (.inl (W.I _ _ (E.I _ _ e)))
    obtain ⟨v, h1, h2⟩ := q.get hx
    refine ⟨⟨vs, v, hs, h1⟩, fun v' H3 hy => ?_⟩
    obtain ⟨rfl, hy⟩ := hy
    have := hy vs hs
    rw [h1] at this
    cases this
    exact ⟨R2, .refl R2 _, W, h2.mono E⟩
  · exact ⟨vs, .inl (.inl (W.I _ _ (E.I _ _ e))), by rw [← q.length]; omega⟩
theorem walks_lst {R : Rp} {H : Hp} {a : Addr} {xs : List AV} {vs : List V} (e : SqL K R.I a vs) (z : xs.length ≤ line) (q : RepVs K w R xs vs) : Walks K w (Itl K a) R H xs none := by
  refine ⟨z, fun i R2 S2 H2 E W _ => ⟨fun x hx => ?_, fun hi => ?_⟩⟩
  · have hs : SqL K H2 a vs := sql_of e fun o h => W.I _ _ (E.I _ _ h)
    obtain ⟨v, h1, h2⟩ := q.get hx
    refine ⟨⟨vs, v, hs, h1⟩, fun v' H3 hy => ?_⟩
    obtain ⟨rfl, hy⟩ := hy
    have := hy vs hs
    rw [h1] at this
    cases this
    exact ⟨R2, .refl R2 _, W, h2.mono E⟩
  · exact ⟨vs, sql_of e fun o h => W.I _ _ (E.I _ _ h), by rw [← q.length]; omega⟩
theorem walks_ref {R : Rp} {H : Hp} {l : Nat} {xs : List AV} (hl : l < R.n) (z : xs.length ≤ line) : Walks K w (Itl K (R.ι l)) R H xs (some (l, .lst xs)) := by
  refine ⟨z, fun i R2 S2 H2 E W st => ?_⟩
  have st' : S2[l]? = some (.lst xs) := st
  obtain ⟨vs, e1, z', q⟩ := W.obj l _ st'
  rw [E.ι l hl] at e1
  have hs : SqL K H2 (R.ι l) vs := .inl (.inl e1)
  refine ⟨fun x hx => ?_, fun hi => ?_⟩
  · obtain ⟨v, h1, h2⟩ := q.get hx
    refine ⟨⟨vs, v, hs, h1⟩, fun v' H3 hy => ?_⟩
    obtain ⟨rfl, hy⟩ := hy
    have := hy vs hs
    rw [h1] at this
    cases this
    exact ⟨R2, .refl R2 _, W, h2⟩
  · exact ⟨vs, hs, by rw [← q.length]; omega⟩
theorem walks_range {R : Rp} {H : Hp} {lo : Int} {n : Nat} (z : n ≤ line) : Walks K w (Itr lo n) R H ((List.range n).map fun (i : Nat) => AV.int (lo + i)) none := by
  refine ⟨by rw [List.length_map, List.length_range]; exact z, fun i R2 S2 H2 E W _ => ⟨fun x hx => ?_, fun hi => ?_⟩⟩
  · rw [List.getElem?_map] at hx
    obtain ⟨j, h1, rfl⟩ := Option.map_eq_some_iff.mp hx
    have hj := List.getElem?_eq_some_iff.mp h1
    obtain ⟨hlt, hj⟩ := hj
    rw [List.length_range] at hlt
    rw [List.getElem_range] at hj
    subst hj
    refine ⟨hlt, fun v' H3 hy => ?_⟩
    obtain ⟨rfl, rfl⟩ := hy
    exact ⟨R2, .refl R2 _, W, .int _⟩
  · rw [List.length_map, List.length_range] at hi
    show n ≤ i
    omega
end

section
variable {X : Cx} {xw : XWish} {tg e a b c : Expr} {es : List Expr} {pos p p' cpos apos : Pos} {ma mb mc m : Env → Store → Res RV}
theorem rdE_post {σ : L2.St} {H : Hp} {RR : It → Hp → Prop} (h : rdI X.K X.w xw m σ H RR) :
    rdE X.K X.w xw m σ H (fun v H1 => ∃ R1 S1 r, Wd X.K X.w R1 S1 H1 ∧ RepV X.K X.w R1 r.av v ∧ PostI X.K X.w xw R1 H1 (.ok r S1) RR) := by
  obtain ⟨R, ρ, S, he, W, h⟩ := h
  refine ⟨R, ρ, S, he, W, ?_⟩
  cases e1 : m ρ S with
  | ok r S1 =>
    rw [e1] at h
    intro R1 H1 v E1 W1 x
    obtain ⟨R2, le, W2, E2, x2⟩ := x.freeze W1 E1
    exact ⟨R2, S1, r, W2, x2, h.shift E2⟩
  | exc c S1 => rw [e1] at h; exact h
  | stop => rw [e1] at h; exact h
theorem PostI.use {K : PySem.W.Frag} {w : World} {R : Rp} {H : Hp} {r : RV} {S : Store} {RR : It → Hp → Prop} {xs : List AV} {wt : Option (Nat × AO)} {J : It} (h : PostI K w xw R H (.ok r S) RR) (W : Wd K w R S H) (e : itemsOf S r.av = some (xs, wt)) (hw : Walks K w J R H xs wt) : RR J H := by
  have h' : (match itemsOf S r.av with
    | none => False
    | some (xs, wt) => ∀ R' H' J, Ext R H R' H' → Wd K w R' S H' → Walks K w J R' H' xs wt → RR J H') := h
  rw [e] at h'
  exact h' R H J (.refl R H) W hw
theorem PostI.has {K : PySem.W.Frag} {w : World} {R : Rp} {H : Hp} {r : RV} {S : Store} {RR : It → Hp → Prop} (h : PostI K w xw R H (.ok r S) RR) : ∃ xs wt, itemsOf S r.av = some (xs, wt) := by
  have h' : (match itemsOf S r.av with
    | none => False
    | some (xs, wt) => ∀ R' H' J, Ext R H R' H' → Wd K w R' S H' → Walks K w J R' H' xs wt → RR J H') := h
  cases q : itemsOf S r.av with
  | none => rw [q] at h'; exact h'.elim
  | some p => exact ⟨p.1, p.2, rfl⟩
theorem iter_tup {σ : L2.St} {H : Hp} {RR : It → Hp → Prop} {pins : List (Addr × Obj)} {s : Shared} {E : Value → Shared → Prop} {q : Addr} {vs : List V} (I : L2.Inv X pins σ H s) (h : SqT X.K H q vs) (k : RR (Itt X.K q) H) : wpAny (model X.prog X.w) X.A (pyIter (.ref q)) (PIE X pins σ tg RR) E s := by
  obtain ⟨its, rv, p, hz⟩ := I.tuple h
  refine wpAny_pyIter_tuple (show s.heap.IsTuple q its.toArray from p) ?_
  refine ⟨s.heap.objs.size, [s.heap.objs.size], _, _, H, rfl, I.kept (t' := s.toks) fun b o e => Heap.get?_push_of_some _ e, turn_tuple q _, ⟨_, Heap.get?_push_size _ rfl, rfl, rfl⟩, fun b hb => ?_, k⟩
  have e : b = s.heap.objs.size := by simpa using hb
  subst e
  exact I.fpOk (Nat.le_refl _) (I.hok.fresh (Nat.le_refl _))
theorem iter_lst {σ : L2.St} {H : Hp} {RR : It → Hp → Prop} {pins : List (Addr × Obj)} {s : Shared} {E : Value → Shared → Prop} {q : Addr} {vs : List V} (I : L2.Inv X pins σ H s) (h : SqL X.K H q vs) (k : RR (Itl X.K q) H) : wpAny (model X.prog X.w) X.A (pyIter (.ref q)) (PIE X pins σ tg RR) E s := by
  obtain ⟨its, rv, p, hz⟩ := I.list h
  refine wpAny_pyIter_list p.isList ?_
  refine ⟨s.heap.objs.size, [s.heap.objs.size], _, _, H, rfl, I.kept (t' := s.toks) fun b o e => Heap.get?_push_of_some _ e, turn_list q _, ⟨_, Heap.get?_push_size _ rfl, rfl, rfl⟩, fun b hb => ?_, k⟩
  have e : b = s.heap.objs.size := by simpa using hb
  subst e
  exact I.fpOk (Nat.le_refl _) (I.hok.fresh (Nat.le_refl _))
theorem iter_dct {σ : L2.St} {H : Hp} {RR : It → Hp → Prop} {pins : List (Addr × Obj)} {s : Shared} {E : Value → Shared → Prop} {q : Addr} {es : Array DictEntry} {ep : Nat} (I : L2.Inv X pins σ H s) (h : H q = some (xdic q es ep)) (hx : ∀ e ∈ es, ∃ x, RelV x e.key) (k : RR (ItK q es ep (·.key)) H) :
    wpAny (model X.prog X.w) X.A (pyIter (.ref q)) (PIE X pins σ tg RR) E s := by
  obtain ⟨hr, hs⟩ := xdic_raw I h
  exact wpAny_pyIter_dict_raw hs hr (pi_one (tk := s.toks) I _ (turn_xkeys _ hx) ⟨_, Heap.get?_push_size _ rfl, rfl, rfl⟩ k)
/-- what is walked is a value -/
theorem i_data (he : PE X e (RE X xw m)) : PI X tg e (RI X xw m) := by
  refine ⟨fun pins s σ H RR I h => ?_⟩
  refine thn (he.run pins s σ H _ I (rdE_post h)) fun v s1 ⟨x, H1, I1, r1, R1, S1, r, W1, rx, hp⟩ => ?_
  obtain ⟨xs, wt, e1⟩ := hp.has
  generalize ha : r.av = av at rx e1
  have use : ∀ {J}, Walks X.K X.w J R1 H1 xs wt → RR J H1 := fun hw => hp.use W1 (by rw [ha]; exact e1) hw
  unfold itemsOf at e1
  split at e1
  · cases e1
    cases rx with
    | tup q z t =>
      cases (show v = Value.ref _ from r1)
      exact iter_tup I1 (.inl (.inl (W1.I _ _ q))) (use (walks_tup q z t))
  · cases e1
    cases rx with
    | lst q z t =>
      cases (show v = Value.ref _ from r1)
      exact iter_lst I1 (.inl (.inl (W1.I _ _ q))) (use (walks_lst (.inl (.inl q)) z t))
  · cases e1
    cases rx with
    | scr q z t =>
      cases (show v = Value.ref _ from r1)
      exact iter_lst I1 (sql_of q fun o h => W1.I _ _ h) (use (walks_lst q z t))
  · cases e1
    cases rx with
    | dct q z t =>
      cases (show v = Value.ref _ from r1)
      exact iter_dct I1 (W1.I _ _ q) (fun e he => (t.get.1 e (by simpa using he)).1) (use (walks_keys q z t))
  · rename_i l
    cases rx with
    | ref hl =>
    cases (show v = Value.ref _ from r1)
    split at e1
    · rename_i ys e2
      cases e1
      obtain ⟨vs, e3, z, t⟩ := W1.obj _ _ e2
      exact iter_lst I1 (.inl (.inl e3)) (use (walks_ref hl z))
    · rename_i ys e2
      cases e1
      have ro : RepV X.K X.w R1 (.lst xs) (.ref (R1.ι l)) := W1.obj _ _ e2
      cases ro with
      | lst q z t => exact iter_lst I1 (.inl (.inl (W1.I _ _ q))) (use (walks_lst (.inl (.inl q)) z t))
    · rename_i kvs e2
      cases e1
      have ro : RepV X.K X.w R1 (.dct kvs) (.ref (R1.ι l)) := W1.obj _ _ e2
      cases ro with
      | dct q z t => exact iter_dct I1 (W1.I _ _ q) (fun e he => (t.get.1 e (by simpa using he)).1) (use (walks_keys q z t))
    · cases e1
  · cases e1
/-- the first part of a bind, for what is walked -/
theorem rdE_postI {σ : L2.St} {H : Hp} {RR : It → Hp → Prop} {k : Env → RV → Store → Res RV} (h : rdI X.K X.w xw (fun ρ S => (m ρ S).bnd (k ρ)) σ H RR) :
    rdE X.K X.w xw m σ H (fun v H1 => ∃ R1 S1 x ρ, Wd X.K X.w R1 S1 H1 ∧ RepV X.K X.w R1 x.av v ∧ RepE X.K X.w R1 ρ σ ∧ PostI X.K X.w xw R1 H1 (k ρ x S1) RR) := by
  obtain ⟨R, ρ, S, he, W, h⟩ := h
  refine ⟨R, ρ, S, he, W, ?_⟩
  dsimp only at h
  cases e1 : m ρ S with
  | ok r S1 =>
    rw [e1] at h
    intro R1 H1 v E1 W1 x
    obtain ⟨R2, le, W2, E2, x2⟩ := x.freeze W1 E1
    exact ⟨R2, S1, r, ρ, W2, x2, he.mono E2.le, PostI.shift E2 h⟩
  | exc c S1 => rw [e1] at h; exact h
  | stop => rw [e1] at h; exact h
theorem i_rng1 (hg : Gl X "range") (hm : X.mg "range" = none) (ha : PE X a (RE X xw ma)) (hp : plainE a = true) : PI X tg (.Call (.Name "range" p) [a] [] pos) (RI X xw fun ρ S => (ma ρ S).bnd fun x S1 => rngOp x.av S1) := by
  have base := pi_range1 (tg := tg) (p := p) (pos := pos) hg hm (pa_cons ha pa_nil (starEach_plain hp)) (starEach_plain (es := []) hp)
  refine ⟨fun pins s σ H RR I h => base.run pins s σ H RR I ?_⟩
  refine rdE_imp (rdE_postI (k := fun _ x S1 => rngOp x.av S1) h) fun v H1 ⟨R1, S1, x, ρ, W1, rx, he1, h1⟩ => ?_
  unfold rngOp at h1
  split at h1
  · rename_i n e1
    split at h1
    · rename_i hn
      rw [e1] at rx
      cases rx
      refine ⟨n, rfl, by omega, by omega, ?_⟩
      have w1 := walks_range (K := X.K) (w := X.w) (R := R1) (H := H1) (lo := 0) (n := n.toNat) (Nat.le_trans (show n.toNat ≤ 1000000 by omega) (by decide))
      simp only [Int.zero_add] at w1
      exact h1.use W1 rfl w1
    · exact h1.elim
  · exact h1.elim
theorem i_rng2 (hg : Gl X "range") (hm : X.mg "range" = none) (ha : PE X a (RE X xw ma)) (hb : PE X b (RE X xw mb)) (hp : plainE a = true) (hp2 : plainE b = true) : PI X tg (.Call (.Name "range" p) [a, b] [] pos) (RI X xw fun ρ S => (ma ρ S).bnd fun x S1 => (mb ρ S1).bnd fun y S2 => rngOp2 x.av y.av S2) := by
  have base := pi_range2 (tg := tg) (p := p) (pos := pos) hg hm (pa_cons ha (pa_cons hb pa_nil (starEach_plain hp2)) (starEach_plain hp)) (by rw [starEach_plain hp, starEach_plain hp2]; rfl) (starEach_plain hp2)
  refine ⟨fun pins s σ H RR I h => base.run pins s σ H RR I ?_⟩
  refine rdE_imp (rdE_postI (k := fun ρ x S1 => (mb ρ S1).bnd fun y S2 => rngOp2 x.av y.av S2) h) fun v H1 ⟨R1, S1, x, ρ, W1, rx, he1, h1⟩ => ?_
  refine rdE_imp (rdE_postI (k := fun _ y S2 => rngOp2 x.av y.av S2) ⟨R1, ρ, S1, he1, W1, h1⟩) fun u H2 ⟨R2, S2, y, ρ', W2, ry, he2, h2⟩ => ?_
  unfold rngOp2 at h2
  split at h2
  · rename_i m n e1 e2
    split at h2
    · rename_i hn
      rw [e1] at rx
      rw [e2] at ry
      cases rx
      cases ry
      refine ⟨m, n, rfl, ⟨by omega, by omega, by omega, by omega⟩, ?_⟩
      exact h2.use W2 rfl (walks_range (lo := m) (n := (n - m).toNat) (Nat.le_trans (show (n - m).toNat ≤ 2000000 by omega) (by decide)))
    · exact h2.elim
  · exact h2.elim
theorem i_vals (ha : PE X a (RE X xw ma)) (hb : notSuper a = true) (hline : (apos.endLine == cpos.line) = true) : PI X tg (.Call (.Attribute a "values" apos) [] [] cpos) (RI X xw fun ρ S => (ma ρ S).bnd fun x S1 => valsOp x.av S1) := by
  refine ⟨fun pins s σ H RR I h => ?_⟩
  refine wpAny_Call_method (T := "dict") (id := "dict.values") (base_of hb) rfl hline F.plainAttrs_dict F.slot_dict_values F.type_dict_values (thn (ha.run pins s σ H _ I (rdE_postI (k := fun _ x S1 => valsOp x.av S1) h)) fun u s1 ⟨v, H1, I1, rv, R1, S1, x, ρ, W1, rx, he1, h1⟩ => ?_)
  unfold valsOp at h1
  split at h1
  · rename_i kvs e1
    rw [e1] at rx
    cases rx with
    | @dct d _ es ep q z t =>
      cases (show u = Value.ref d from rv)
      have hd := W1.I _ _ q
      obtain ⟨hr, hs⟩ := xdic_raw I1 hd
      refine ⟨hr.typeIs, fun b e => ?_, ?_⟩
      · obtain ⟨o, ho, hc, _⟩ := hr
        cases e
        exact ⟨o, ho, hc.2.1⟩
      · have I2 : L2.Inv X pins σ H1 { s1 with heap := s1.heap.push { cls := .type "dict_values", data := .fields #[.ref d] } } := I1.kept (t' := s1.toks) fun b ob q => Heap.get?_push_of_some _ q
        have fin : wpAny (model X.prog X.w) X.A (pyIter (.ref s1.heap.objs.size)) (PIE X pins σ tg RR) X.xe { s1 with heap := s1.heap.push { cls := .type "dict_values", data := .fields #[.ref d] } } := by
          refine wpAny_pyIter_values_raw (d := d) ⟨_, Heap.get?_push_size _ rfl, rfl, rfl⟩ (hr.push _) (pi_one (tk := s1.toks) I2 _ (turn_xvals _ fun e he => (t.get.1 e (by simpa using he)).2) ⟨_, Heap.get?_push_size _ rfl, rfl, rfl⟩ ?_)
          exact h1.use W1 rfl (walks_vals q z t)
        show wpAny _ _ (callWith cpos (.builtin "dict.values") [.ref d] [] []) _ X.xe s1
        exact method_meetsIn F.slot_dict_values F.entry_dict_values rfl (PySem.evalArgs_none ⟨rfl, hr.typeIs, F.args_dict_values_1 _, _, meets_dict_values_raw d hs, ⟨es, ep, hr⟩, fin⟩)
  · exact h1.elim
end
end DL

set_option Elab.async false
set_option linter.all false
set_option maxRecDepth 100000
set_option maxHeartbeats 2000000
namespace DL
open PySem PySem.Spec PyProof.Rows L2
/-! ### zip of what never changes -/
inductive SrcK where | l | t
def srcAt (k : SrcK) (H : Hp) (p : Addr) (vs : List V) : Prop := match k with
  | .l => H p = some (.lst vs)
  | .t => H p = some (.tup vs)
def srcIt (k : SrcK) (h : Heap) (it p : Addr) (i : Nat) : Prop := match k with
  | .l => h.IsListIter it p i
  | .t => h.IsTupleIter it p i
def srcIs (k : SrcK) (h : Heap) (p : Addr) (items : Array Value) : Prop := match k with
  | .l => h.IsList p items
  | .t => h.IsTuple p items
def srcO (k : SrcK) (p : Addr) : Obj := match k with
  | .l => { cls := .type "list_iterator", data := .fields #[.ref p, .int 0 0] }
  | .t => { cls := .type "tuple_iterator", data := .fields #[.ref p, .int 0 0] }
theorem src_draws {prog : Program} {w : World} {A : Around} (hh : A.handled = none) (k : SrcK) (it p : Addr) (hne : p ≠ it) (items : Array Value) :
    Draws prog w A it [it, p] items.size (fun i v => items[i]? = some v) (fun i h => srcIt k h it p i ∧ srcIs k h p items) := by
  cases k with
  | l => exact Draws.list hh it p hne items
  | t => exact Draws.tuple hh it p hne items
theorem src_begins (k : SrcK) (p : Addr) (items : Array Value) : Begins (.ref p) (srcO k p) fun h => srcIs k h p items := by
  cases k with
  | l => exact begins_list p items
  | t => exact begins_tuple p items
theorem src_first {k : SrcK} {h : Heap} {it p : Addr} (e : h.get? it = some (srcO k p)) : srcIt k h it p 0 := by
  cases k with
  | l => exact ⟨_, e, rfl, rfl⟩
  | t => exact ⟨_, e, rfl, rfl⟩
theorem srcIt_at {k : SrcK} {h h' : Heap} {it p : Addr} {i : Nat} (x : srcIt k h it p i) (e : ∀ o, h.get? it = some o → h'.get? it = some o) : srcIt k h' it p i := by
  cases k with
  | l => exact Heap.IsListIter.at x e
  | t => exact Heap.IsTupleIter.at x e
theorem srcIt_obj {k : SrcK} {h : Heap} {it p : Addr} {i : Nat} (x : srcIt k h it p i) : ∃ o, h.get? it = some o ∧ ∀ v, o.data ≠ .cell v := by
  cases k with
  | l => obtain ⟨o, e, _, d⟩ := x; exact ⟨o, e, fun v q => by rw [d] at q; cases q⟩
  | t => obtain ⟨o, e, _, d⟩ := x; exact ⟨o, e, fun v q => by rw [d] at q; cases q⟩
theorem src_items {X : Cx} {pins : List (Addr × Obj)} {σ : L2.St} {s : Shared} {H : Hp} {k : SrcK} {p : Addr} {vs : List V} (I : L2.Inv X pins σ H s) (h : srcAt k H p vs) : ∃ its : List Value, Vals vs its ∧ srcIs k s.heap p its.toArray ∧ p < s.heap.objs.size := by
  cases k with
  | l =>
    obtain ⟨its, rv, q, hz⟩ := I.list (.inl (.inl h))
    exact ⟨its, rv, q.isList, q.lt⟩
  | t =>
    obtain ⟨its, rv, q, hz⟩ := I.tuple (.inl (.inl h))
    exact ⟨its, rv, q, q.lt⟩
def ItZ (k1 k2 : SrcK) (p1 p2 : Addr) (vs1 vs2 : List V) : It :=
  ⟨fun i H => srcAt k1 H p1 vs1 ∧ srcAt k2 H p2 vs2 ∧ i < vs1.length ∧ i < vs2.length,
    fun i H v H' => ∃ T x y, v = .ref T ∧ H T = none ∧ H' = upd H T (.tup [x, y]) ∧ vs1[i]? = some x ∧ vs2[i]? = some y,
    fun i H => srcAt k1 H p1 vs1 ∧ srcAt k2 H p2 vs2 ∧ i = min vs1.length vs2.length⟩
theorem turn_zipS {P : Program} {w : World} {K : PySem.W.Frag} {elts : List Expr} {kk : Nat} {tpos : Pos} {k1 k2 : SrcK} {p1 p2 z TI TO i1 i2 : Addr} {vs1 vs2 : List V} (D : ZipSep2 z TI TO i1 i2 [i1, p1] [i2, p2]) :
    Turn P w K (.Tuple elts kk tpos) (ItZ k1 k2 p1 p2 vs1 vs2) [z, TI, TO, i1, i2] z (fun i h => IsZip h z TI TO .none ∧ IsTupOf2 h TI (.ref i1) (.ref i2) ∧ (∃ x y, IsTupOf2 h TO x y) ∧ srcIt k1 h i1 p1 i ∧ srcIt k2 h i2 p2 i) where
  mem := by simp
  obj := fun i h st c hc => by
    obtain ⟨hz, hTI, ⟨x, y, hTO⟩, h1, h2⟩ := st
    have e' : c = z ∨ c = TI ∨ c = TO ∨ c = i1 ∨ c = i2 := by simpa using hc
    rcases e' with q | q | q | q | q
    · rw [q]; exact ⟨_, hz, fun v q => nomatch q⟩
    · rw [q]; exact ⟨_, hTI, fun v q => nomatch q⟩
    · rw [q]; exact ⟨_, hTO, fun v q => nomatch q⟩
    · rw [q]; exact srcIt_obj h1
    · rw [q]; exact srcIt_obj h2
  keep := fun i h h' st k => by
    obtain ⟨hz, hTI, ⟨x, y, hTO⟩, h1, h2⟩ := st
    exact ⟨k z (by simp) _ hz, k TI (by simp) _ hTI, ⟨x, y, k TO (by simp) _ hTO⟩, srcIt_at h1 fun o q => k i1 (by simp) o q, srcIt_at h2 fun o q => k i2 (by simp) o q⟩
  item := by
    intro X hP hw hK hc i pins s σ H E I hf st hg
    subst hP hw hK
    obtain ⟨hz, hTI, ⟨x0, y0, hTO⟩, h1, h2⟩ := st
    obtain ⟨hs1, hs2, hl1, hl2⟩ := hg
    obtain ⟨its1, rv1, g1, _⟩ := src_items I hs1
    obtain ⟨its2, rv2, g2, _⟩ := src_items I hs2
    have n1 := rv1.length
    have n2 := rv2.length
    have hA : X.A.in1.handled = none := I.ok.hd hc
    have ne1 : p1 ≠ i1 := fun e => by
      have := (hf i1 (by simp)).1
      rw [← e] at this
      cases k1 <;> (have q := hs1; unfold srcAt at q; rw [this] at q; cases q)
    have ne2 : p2 ≠ i2 := fun e => by
      have := (hf i2 (by simp)).1
      rw [← e] at this
      cases k2 <;> (have q := hs2; unfold srcAt at q; rw [this] at q; cases q)
    have G := GoesN.zip2 (prog := X.prog) (w := X.w) (A := X.A) (elts := elts) (x1 := kk) (pos := tpos) D (src_draws hA k1 i1 p1 ne1 its1.toArray) (src_draws hA k2 i2 p2 ne2 its2.toArray)
    refine thn (G.goes i s (fun v s2 => ∃ x H', L2.Inv X pins σ H' s2 ∧ RelV x v ∧ (ItZ k1 k2 p1 p2 vs1 vs2).yld i H x H' ∧ (IsZip s2.heap z TI TO .none ∧ IsTupOf2 s2.heap TI (.ref i1) (.ref i2) ∧ (∃ x y, IsTupOf2 s2.heap TO x y) ∧ srcIt k1 s2.heap i1 p1 (i + 1) ∧ srcIt k2 s2.heap i2 p2 (i + 1)) ∧ ∀ b ∈ [z, TI, TO, i1, i2], H' b = none) E (by simp; omega) ⟨hz, hTI, ⟨x0, y0, hTO⟩, ⟨h1, g1⟩, ⟨h2, g2⟩⟩ ?_) fun r s1 q => q
    rintro v h' tk ⟨T, u1, u2, rfl, hT, e1, e2, hTt⟩ ⟨hz', hTI', hTO', ⟨h1', _⟩, ⟨h2', _⟩⟩ hk htk
    have e1' : its1[i]? = some u1 := by simpa using e1
    have e2' : its2[i]? = some u2 := by simpa using e2
    have x1 : ∃ x, vs1[i]? = some x ∧ RelV x u1 := by
      obtain ⟨u, q1, q2⟩ := rv1.get (List.getElem?_eq_getElem hl1)
      rw [e1'] at q1
      cases q1
      exact ⟨_, List.getElem?_eq_getElem hl1, q2⟩
    have x2 : ∃ x, vs2[i]? = some x ∧ RelV x u2 := by
      obtain ⟨u, q1, q2⟩ := rv2.get (List.getElem?_eq_getElem hl2)
      rw [e2'] at q1
      cases q1
      exact ⟨_, List.getElem?_eq_getElem hl2, q2⟩
    obtain ⟨x1, a1, b1⟩ := x1
    obtain ⟨x2, a2, b2⟩ := x2
    have new : ObjOk X.prog X.w (upd H T (.tup [x1, x2])) h' T (.tup [x1, x2]) :=
      ⟨by show 2 ≤ sizeLine; decide, [u1, u2], .cons b1 (.cons b2 .nil), hTt⟩
    have I1 : L2.Inv X pins σ (upd H T (.tup [x1, x2])) { s with heap := h', toks := tk } :=
      I.turnedNew (ch := [z, TI, TO, i1, i2]) (fun c o hb q => hk c o (fun q' => hb (by
        have : c = z ∨ c = TO ∨ c = i1 ∨ c = i2 := by simpa using q'
        rcases this with q | q | q | q <;> simp [q])) q) hf hT new
    refine ⟨.ref T, _, I1, rfl, ⟨T, x1, x2, rfl, I.hok.fresh hT, rfl, a1, a2⟩, ⟨hz', hTI', hTO', h1', h2'⟩, fun c hcm => ?_⟩
    have hlt : c < s.heap.objs.size := by
      have e' : c = z ∨ c = TI ∨ c = TO ∨ c = i1 ∨ c = i2 := by simpa using hcm
      rcases e' with q | q | q | q | q
      · rw [q]; exact Heap.lt_size hz
      · rw [q]; exact Heap.lt_size hTI
      · rw [q]; exact Heap.lt_size hTO
      · rw [q]; obtain ⟨_, e1, _⟩ := srcIt_obj h1; exact Heap.lt_size e1
      · rw [q]; obtain ⟨_, e2, _⟩ := srcIt_obj h2; exact Heap.lt_size e2
    rw [upd_ne (Nat.ne_of_lt (Nat.lt_of_lt_of_le hlt hT))]
    exact (hf c hcm).1
  done := by
    intro X hP hw hK hc i pins s σ H E I hf st hg
    subst hP hw hK
    obtain ⟨hz, hTI, ⟨x0, y0, hTO⟩, h1, h2⟩ := st
    obtain ⟨hs1, hs2, rfl⟩ := hg
    obtain ⟨its1, rv1, g1, _⟩ := src_items I hs1
    obtain ⟨its2, rv2, g2, _⟩ := src_items I hs2
    have n1 := rv1.length
    have n2 := rv2.length
    have hA : X.A.in1.handled = none := I.ok.hd hc
    have ne1 : p1 ≠ i1 := fun e => by
      have := (hf i1 (by simp)).1
      rw [← e] at this
      cases k1 <;> (have q := hs1; unfold srcAt at q; rw [this] at q; cases q)
    have ne2 : p2 ≠ i2 := fun e => by
      have := (hf i2 (by simp)).1
      rw [← e] at this
      cases k2 <;> (have q := hs2; unfold srcAt at q; rw [this] at q; cases q)
    have G := GoesN.zip2 (prog := X.prog) (w := X.w) (A := X.A) (elts := elts) (x1 := kk) (pos := tpos) D (src_draws hA k1 i1 p1 ne1 its1.toArray) (src_draws hA k2 i2 p2 ne2 its2.toArray)
    have em : min its1.toArray.size its2.toArray.size = min vs1.length vs2.length := by simp [n1, n2]
    rw [em] at G
    exact G.stops s (fun s1 => L2.Inv X pins σ H s1) E ⟨hz, hTI, ⟨x0, y0, hTO⟩, ⟨h1, g1⟩, ⟨h2, g2⟩⟩ fun h' tk hk htk => I.turnedL (ch := [z, TI, TO, i1, i2]) (fun c o hb q => hk c o (fun q' => hb (by
        have : c = z ∨ c = TO ∨ c = i1 ∨ c = i2 := by simpa using q'
        rcases this with q | q | q | q <;> simp [q])) q) hf
  self := fun A i s Q E st h => wpAny_pyIter_zip st.1 h
theorem fixed_src {K : PySem.W.Frag} {w : World} {R : Rp} {a : AV} {xs : List AV} {v : V} (r : RepV K w R a v) (h : a.fixed = some xs) : ∃ k p vs, v = .ref p ∧ srcAt k R.I p vs ∧ xs.length ≤ line ∧ RepVs K w R xs vs := by
  cases r with
  | tup e z q => cases h; exact ⟨.t, _, _, rfl, e, z, q⟩
  | lst e z q => cases h; exact ⟨.l, _, _, rfl, e, z, q⟩
  | _ => cases h
theorem src_mono {k : SrcK} {H H' : Hp} {p : Addr} {vs : List V} (h : srcAt k H p vs) (e : ∀ o, H p = some o → H' p = some o) : srcAt k H' p vs := by
  cases k with
  | l => exact e _ h
  | t => exact e _ h
theorem walks_zip {K : PySem.W.Frag} {w : World} {R : Rp} {H : Hp} {k1 k2 : SrcK} {p1 p2 : Addr} {xs ys : List AV} {vs1 vs2 : List V} (h1 : srcAt k1 R.I p1 vs1) (h2 : srcAt k2 R.I p2 vs2) (z : xs.length ≤ line) (q1 : RepVs K w R xs vs1) (q2 : RepVs K w R ys vs2) :
    Walks K w (ItZ k1 k2 p1 p2 vs1 vs2) R H ((xs.zip ys).map fun p => AV.tup [p.1, p.2]) none := by
  refine ⟨by rw [List.length_map, List.length_zip]; exact Nat.le_trans (Nat.min_le_left _ _) z, fun i R2 S2 H2 E W _ => ?_⟩
  have g1 : srcAt k1 H2 p1 vs1 := src_mono h1 fun o e => W.I _ _ (E.I _ _ e)
  have g2 : srcAt k2 H2 p2 vs2 := src_mono h2 fun o e => W.I _ _ (E.I _ _ e)
  refine ⟨fun x hx => ?_, fun hi => ?_⟩
  · rw [List.getElem?_map] at hx
    obtain ⟨⟨a, b⟩, e1, rfl⟩ := Option.map_eq_some_iff.mp hx
    obtain ⟨ea, eb⟩ := List.getElem?_zip_eq_some.mp e1
    obtain ⟨va, f1, ra⟩ := q1.get ea
    obtain ⟨vb, f2, rb⟩ := q2.get eb
    refine ⟨⟨g1, g2, (List.getElem?_eq_some_iff.mp f1).1, (List.getElem?_eq_some_iff.mp f2).1⟩, fun v H3 hy => ?_⟩
    obtain ⟨T, x, y, rfl, hT, rfl, c1, c2⟩ := hy
    rw [f1] at c1
    cases c1
    rw [f2] at c2
    cases c2
    obtain ⟨W', E', le⟩ := new_im (u := .tup [va, vb]) W hT
    exact ⟨_, E', W', .tup upd_same (by show 2 ≤ sizeLine; decide) (.cons (ra.mono (E.trans le)) (.cons (rb.mono (E.trans le)) .nil))⟩
  · refine ⟨g1, g2, ?_⟩
    rw [List.length_map, List.length_zip, q1.length, q2.length] at hi
    exact hi.symm
section
variable {X : Cx} {xw : XWish} {tg e a b c : Expr} {es : List Expr} {pos p p' cpos apos : Pos} {ma mb mc m : Env → Store → Res RV}
theorem i_zip {elts : List Expr} {kk : Nat} {tpos : Pos} (hg : Gl X "zip") (hm : X.mg "zip" = none) (ha : PE X a (RE X xw ma)) (hb : PE X b (RE X xw mb)) (hp : plainE a = true) (hp2 : plainE b = true) :
    PI X (.Tuple elts kk tpos) (.Call (.Name "zip" p) [a, b] [] pos) (RI X xw fun ρ S => (ma ρ S).bnd fun x S1 => (mb ρ S1).bnd fun y S2 => zipOp x.av y.av S2) := by
  refine ⟨fun pins s σ H RR I h => ?_⟩
  have ta := pa_cons ha (pa_cons hb pa_nil (starEach_plain hp2)) (starEach_plain hp)
  have hrd : tCons (RE X xw ma) (tCons (RE X xw mb) tNil) σ H (fun vs H2 => ∃ R2 S2 x y v u, vs = [v, u] ∧ Wd X.K X.w R2 S2 H2 ∧ RepV X.K X.w R2 x v ∧ RepV X.K X.w R2 y u ∧ PostI X.K X.w xw R2 H2 (zipOp x y S2) RR) := by
    obtain ⟨R, ρ, S, he, W, h⟩ := h
    have h0 : rdI X.K X.w xw (fun ρ S => (ma ρ S).bnd fun x S1 => (mb ρ S1).bnd fun y S2 => zipOp x.av y.av S2) σ H RR := ⟨R, ρ, S, he, W, h⟩
    -- the first value stays known through the second
    refine ⟨R, ρ, S, he, W, ?_⟩
    dsimp only at h
    cases e1 : ma ρ S with
    | ok r S1 =>
      rw [e1] at h
      intro R1 H1 v E1 W1 x
      obtain ⟨R2, le, W2, E2, x2⟩ := x.freeze W1 E1
      have h1 := PostI.shift E2 h
      have h1 : PostI X.K X.w xw R2 H1 ((mb ρ S1).bnd fun y S2 => zipOp r.av y.av S2) RR := h1
      refine ⟨R2, ρ, S1, he.mono E2.le, W2, ?_⟩
      cases e2 : mb ρ S1 with
      | ok r2 S2 =>
        rw [e2] at h1
        intro R3 H3 u E3 W3 y
        obtain ⟨R4, le4, W4, E4, y2⟩ := y.freeze W3 E3
        exact ⟨R4, S2, r.av, r2.av, v, u, rfl, W4, x2.mono E4.le, y2, PostI.shift E4 h1⟩
      | exc c S1 => rw [e2] at h1; exact h1
      | stop => rw [e2] at h1; exact h1
    | exc c S1 => rw [e1] at h; exact h
    | stop => rw [e1] at h; exact h
  refine Call_ (ld_blt I hg hm PyProof.Rows.boot_zip (PyProof.Rows.callWith_type1 (thn (ta.run pos pins s σ H _ I hrd) fun us s1 ⟨vs, H1, I1, r1, R2, S2, x, y, v, u, ev, W2, rx, ry, q⟩ => ?_) (starEach_plain hp) (starEach_any (show [b].all plainE = true by simp [hp2]))))
  subst ev
  obtain ⟨u1, u2, rfl, rr1, rr2⟩ := vals2 r1
  unfold zipOp at q
  split at q
  · rename_i xs ys e1 e2
    obtain ⟨k1, p1, vs1, rfl, g1, z1, q1⟩ := fixed_src rx e1
    obtain ⟨k2, p2, vs2, rfl, g2, z2, q2⟩ := fixed_src ry e2
    cases (show u1 = Value.ref p1 from rr1)
    cases (show u2 = Value.ref p2 from rr2)
    have w1 := walks_zip (H := H1) g1 g2 z1 q1 q2
    have s1' : srcAt k1 H1 p1 vs1 := src_mono g1 fun o e => W2.I _ _ e
    have s2' : srcAt k2 H1 p2 vs2 := src_mono g2 fun o e => W2.I _ _ e
    obtain ⟨its1, rv1, f1, l1⟩ := src_items I1 s1'
    obtain ⟨its2, rv2, f2, l2⟩ := src_items I1 s2'
    refine zip_begins2 (src_begins k1 p1 its1.toArray) (src_begins k2 p2 its2.toArray) f1 f2 fun h' hz hTI hTO o1 o2 hsz hk => wpAny_pyIter_zip hz ?_
    have I2 : L2.Inv X pins σ H1 { s1 with heap := h' } := I1.kept (t' := s1.toks) hk
    refine ⟨s1.heap.objs.size + 4, [s1.heap.objs.size + 4, s1.heap.objs.size + 2, s1.heap.objs.size + 3, s1.heap.objs.size, s1.heap.objs.size + 1], _, _, H1, rfl, I2,
      turn_zipS (k1 := k1) (k2 := k2) (vs1 := vs1) (vs2 := vs2) (zip_sep2 (fp1 := [p1]) (fp2 := [p2]) (by simpa using l1) (by simpa using l2)), ⟨hz, hTI, ⟨_, _, hTO⟩, src_first o1, src_first o2⟩, fun c hcm => ?_, q.use W2 rfl w1⟩
    have e' : c = s1.heap.objs.size + 4 ∨ c = s1.heap.objs.size + 2 ∨ c = s1.heap.objs.size + 3 ∨ c = s1.heap.objs.size ∨ c = s1.heap.objs.size + 1 := by simpa using hcm
    have hle : s1.heap.objs.size ≤ c := by
      rcases e' with z | z | z | z | z
      · rw [z]; exact Nat.le_add_right _ _
      · rw [z]; exact Nat.le_add_right _ _
      · rw [z]; exact Nat.le_add_right _ _
      · rw [z]; exact Nat.le_refl _
      · rw [z]; exact Nat.le_add_right _ _
    exact I1.fpOk hle (I1.hok.fresh hle)
  · exact q.elim
end
end DL

set_option Elab.async false
set_option linter.all false
set_option maxRecDepth 100000
set_option maxHeartbeats 2000000
namespace DL
open PySem PySem.Spec PyProof.Rows L2
/-! ### targets -/
def Tg.vars : Tg → List Nat
  | .var i => [i]
  | .nil => []
  | .cons t ts => t.vars ++ ts.vars
  | .tup ts => ts.vars
def gT (K : PySem.W.Frag) (w : World) (tg : Tg) : TG := fun v σ H Q => ∃ R S a ρ ρ', RepE K w R ρ σ ∧ Wd K w R S H ∧ RepV K w R a v ∧ bindT tg a ρ = some ρ' ∧
  ∀ σ', RepE K w R ρ' σ' → (∀ j, j ∉ tg.vars → σ'[j]? = σ[j]?) → Q σ' H
def gTs (K : PySem.W.Frag) (w : World) (tg : Tg) : TGs := fun vs σ H Q => ∃ R S xs ρ ρ', RepE K w R ρ σ ∧ Wd K w R S H ∧ RepVs K w R xs vs ∧ bindTs tg xs ρ = some ρ' ∧
  ∀ σ', RepE K w R ρ' σ' → (∀ j, j ∉ tg.vars → σ'[j]? = σ[j]?) → Q σ' H
theorem bindT_both (t : Tg) : (∀ (a : AV) (ρ ρ' : Env), bindT t a ρ = some ρ' → ρ'.length = ρ.length) ∧ (∀ (xs : List AV) (ρ ρ' : Env), bindTs t xs ρ = some ρ' → ρ'.length = ρ.length) := by
  induction t with
  | var i =>
    refine ⟨fun a ρ ρ' h => ?_, fun xs ρ ρ' h => by cases xs <;> cases h⟩
    cases h
    unfold setE
    rw [List.length_set]
  | nil =>
    refine ⟨fun a ρ ρ' h => (by cases a <;> cases h), fun xs ρ ρ' h => ?_⟩
    cases xs with
    | nil => cases h; rfl
    | cons x xs => cases h
  | cons t ts ih1 ih2 =>
    refine ⟨fun a ρ ρ' h => (by cases a <;> cases h), fun xs ρ ρ' h => ?_⟩
    cases xs with
    | nil => cases h
    | cons x xs =>
      have h' : (bindT t x ρ).bind (fun ρ1 => bindTs ts xs ρ1) = some ρ' := h
      obtain ⟨ρ1, b1, b2⟩ := bind_some h'
      rw [ih2.2 _ _ _ b2, ih1.1 _ _ _ b1]
  | tup ts ih =>
    refine ⟨fun a ρ ρ' h => ?_, fun xs ρ ρ' h => by cases xs <;> cases h⟩
    cases a with
    | tup xs => exact ih.2 _ _ _ h
    | _ => cases h
theorem bindT_length (t : Tg) (a : AV) (ρ ρ' : Env) (h : bindT t a ρ = some ρ') : ρ'.length = ρ.length := (bindT_both t).1 _ _ _ h
theorem bindTs_length (t : Tg) (xs : List AV) (ρ ρ' : Env) (h : bindTs t xs ρ = some ρ') : ρ'.length = ρ.length := (bindT_both t).2 _ _ _ h
theorem RepE.set {K : PySem.W.Frag} {w : World} {R : Rp} {ρ : Env} {σ : L2.St} {a : AV} {v : V} (h : RepE K w R ρ σ) (r : RepV K w R a v) (i : Nat) : RepE K w R (setE ρ i a) (σ.set i (some v)) := by
  refine ⟨by unfold setE; rw [List.length_set, List.length_set, h.len], fun j b e => ?_⟩
  unfold setE at e
  by_cases hj : i = j
  · subst hj
    have hlt : i < ρ.length := by
      have := (List.getElem?_eq_some_iff.mp e).1
      rwa [List.length_set] at this
    rw [List.getElem?_set_self hlt] at e
    cases e
    exact ⟨v, by rw [List.getElem?_set_self (by rw [← h.len]; exact hlt)], r⟩
  · rw [List.getElem?_set_ne hj] at e
    obtain ⟨u, e1, r1⟩ := h.get j b e
    exact ⟨u, by rw [List.getElem?_set_ne hj]; exact e1, r1⟩
section
variable {X : Cx} {xw : XWish} {e : Expr} {es : List Expr} {pos : Pos}
theorem pg_imp {t t' : TG} (h : PG X e t) (k : ∀ v σ H Q, t' v σ H Q → t v σ H Q) : PG X e t' := ⟨fun pins s σ H v u Q I r q => h.run pins s σ H v u Q I r (k v σ H Q q)⟩
theorem pgs_imp {t t' : TGs} (h : PGs X es t) (k : ∀ v σ H Q, t' v σ H Q → t v σ H Q) : PGs X es t' := ⟨fun pins s σ H v u Q I r q => h.run pins s σ H v u Q I r (k v σ H Q q)⟩
theorem g_var {i : Nat} {x : Str} (hN : X.N.Nodup) (hi : X.N[i]? = some x) (hx : Loc X.env.scope x) (hf : X.fn x = true ∨ X.env.scope.names.lookup x = some .local) : PG X (.Name x pos) (gT X.K X.w (.var i)) :=
  pg_imp (pg_name hN hi hx hf) fun v σ H Q ⟨R, S, a, ρ, ρ', he, W, r, hb, k⟩ => by
    cases hb
    refine k _ (he.set r i) fun j hj => ?_
    have : i ≠ j := fun e => hj (by rw [← e]; exact List.mem_singleton_self i)
    rw [List.getElem?_set_ne this]
theorem g_nil : PGs X [] (gTs X.K X.w .nil) :=
  pgs_imp pgs_nil fun vs σ H Q ⟨R, S, xs, ρ, ρ', he, W, r, hb, k⟩ => by
    cases xs with
    | nil =>
      cases r
      cases hb
      exact ⟨rfl, k σ he fun _ _ => rfl⟩
    | cons x xs => cases hb
theorem g_cons {t ts : Tg} (h1 : PG X e (gT X.K X.w t)) (h2 : PGs X es (gTs X.K X.w ts)) (hs : (assignEach (e :: es) X.env).map (·.2) = assign e X.env :: (assignEach es X.env).map (·.2)) : PGs X (e :: es) (gTs X.K X.w (.cons t ts)) :=
  pgs_imp (pgs_cons h1 h2 hs) fun vs σ H Q ⟨R, S, xs, ρ, ρ', he, W, r, hb, k⟩ => by
    cases xs with
    | nil => cases hb
    | cons x xs =>
      cases r with
      | cons rx rs =>
      have hb' : (bindT t x ρ).bind (fun ρ1 => bindTs ts xs ρ1) = some ρ' := hb
      obtain ⟨ρ1, b1, b2⟩ := bind_some hb'
      refine ⟨_, _, rfl, R, S, x, ρ, ρ1, he, W, rx, b1, fun σ1 he1 k1 => ⟨R, S, xs, ρ1, ρ', he1, W, rs, b2, fun σ2 he2 k2 => k σ2 he2 fun j hj => ?_⟩⟩
      have hj' : j ∉ t.vars ∧ j ∉ ts.vars := by
        have := hj
        unfold Tg.vars at this
        rw [List.mem_append, not_or] at this
        exact this
      rw [k2 j hj'.2, k1 j hj'.1]
theorem g_tup {k : Nat} {t : Tg} (hc : X.calm = true) (h : PGs X es (gTs X.K X.w t)) (hst : (assignEach es X.env).findIdx? (·.1) = none) (hn : ∀ xs ρ ρ', bindTs t xs ρ = some ρ' → xs.length = (assignEach es X.env).length) : PG X (.Tuple es k pos) (gT X.K X.w (.tup t)) :=
  pg_imp (pg_tup hc h rfl hst) fun v σ H Q ⟨R, S, a, ρ, ρ', he, W, r, hb, k⟩ => by
    cases a with
    | tup xs =>
      have hb' : bindTs t xs ρ = some ρ' := hb
      cases r with
      | tup e z q => exact ⟨_, _, rfl, .inl (.inl (W.I _ _ e)), by rw [← q.length]; exact hn xs ρ ρ' hb', R, S, xs, ρ, ρ', he, W, q, hb', k⟩
    | _ => cases hb
end

/-! ### comprehensions -/
section
variable {K : PySem.W.Frag} {w : World} {R R0 : Rp} {S : Store} {H H0 : Hp} {D : Addr} {u : HO}
theorem Wd.limbo (W : Wd K w R S H) (hI : R.I D = none) (hn : ∀ l, l < R.n → R.ι l ≠ D) : Wd K w R S (upd H D u) where
  n := W.n
  I := fun b o e => by rw [upd_ne (fun z => by rw [z, hI] at e; cases e)]; exact W.I b o e
  apart := W.apart
  there := fun l hl => by rw [upd_ne (hn l hl)]; exact W.there l hl
  inj := W.inj
  obj := fun l o e => by
    have hl : l < R.n := by rw [W.n]; exact set_lt e
    cases o with
    | lst xs =>
      obtain ⟨vs, e1, z, q⟩ := W.obj l _ e
      exact ⟨vs, by rw [upd_ne (hn l hl)]; exact e1, z, q⟩
    | dct kvs =>
      obtain ⟨es, ep, e1, z, q⟩ := W.obj l _ e
      exact ⟨es, ep, by rw [upd_ne (hn l hl)]; exact e1, z, q⟩
    | ins c fs => exact W.obj l _ e
    | fz a => exact W.obj l _ e
theorem Ext.limbo (E : Ext R0 H0 R H) (h0 : H0 D = none) : Ext R0 H0 R (upd H D u) where
  le := E.le
  newI := E.newI
  newS := E.newS
  frame := fun b o e hn => by rw [upd_ne (fun z => by rw [z, h0] at e; cases e)]; exact E.frame b o e hn
  stay := fun b hb => by
    by_cases h : b = D
    · rw [h, upd_same]; simp
    · rw [upd_ne h]; exact E.stay b hb
theorem wipe_get {σ : L2.St} {j : Nat} : ∀ {vs : List Nat}, (wipe σ vs)[j]? = if j ∈ vs then σ[j]?.map (fun _ => none) else σ[j]?
  | [] => by simp [wipe]
  | v :: vs => by
    unfold wipe
    by_cases hv : v = j
    · subst hv
      by_cases hl : v < σ.length
      · rw [List.getElem?_set_self (by rw [wipe_length]; exact hl)]
        simp [List.getElem?_eq_getElem hl]
      · rw [List.getElem?_eq_none (by rw [List.length_set, wipe_length]; omega)]
        simp [List.getElem?_eq_none (by omega : σ.length ≤ v)]
    · rw [List.getElem?_set_ne hv, wipe_get (vs := vs)]
      have hv' : ¬ j = v := fun e => hv e.symm
      simp [hv']
theorem wipe_eq {σ σ2 : L2.St} {vs : List Nat} (hl : σ2.length = σ.length) (h : ∀ j, j ∉ vs → σ2[j]? = (wipe σ vs)[j]?) : wipe σ2 vs = wipe σ vs := by
  refine List.ext_getElem? fun j => ?_
  rw [wipe_get, wipe_get]
  by_cases hj : j ∈ vs
  · rw [if_pos hj, if_pos hj]
    by_cases hlt : j < σ.length
    · rw [List.getElem?_eq_getElem hlt, List.getElem?_eq_getElem (by omega)]
      rfl
    · rw [List.getElem?_eq_none (by omega), List.getElem?_eq_none (by omega)]
  · rw [if_neg hj, if_neg hj, h j hj, wipe_get, if_neg hj]
theorem wipeE_get {ρ : Env} {j : Nat} {a : AV} : ∀ {vs : List Nat}, (wipeE ρ vs)[j]? = some (some a) → ρ[j]? = some (some a) ∧ j ∉ vs
  | [], h => ⟨h, by simp⟩
  | v :: vs, h => by
    unfold wipeE at h
    by_cases hi : v = j
    · subst hi
      by_cases hv : v < (wipeE ρ vs).length
      · rw [List.getElem?_set_self hv] at h; cases h
      · rw [List.getElem?_eq_none (by simpa using hv)] at h; cases h
    · rw [List.getElem?_set_ne hi] at h
      obtain ⟨h1, h2⟩ := wipeE_get h
      exact ⟨h1, by simp only [List.mem_cons, not_or]; exact ⟨fun e => hi e.symm, h2⟩⟩
theorem wipeE_length (ρ : Env) : ∀ vs : List Nat, (wipeE ρ vs).length = ρ.length
  | [] => rfl
  | v :: vs => by unfold wipeE; rw [List.length_set, wipeE_length ρ vs]
theorem RepE.wipe {ρ : Env} {σ : L2.St} (h : RepE K w R ρ σ) (vs : List Nat) : RepE K w R (wipeE ρ vs) (wipe σ vs) := by
  refine ⟨by rw [wipeE_length, wipe_length, h.len], fun i a e => ?_⟩
  obtain ⟨e1, e2⟩ := wipeE_get e
  obtain ⟨v, e3, r⟩ := h.get i a e1
  exact ⟨v, by rw [wipe_get, if_neg e2]; exact e3, r⟩
/-- the list that is being made, in limbo -/
structure Acc (K : PySem.W.Frag) (w : World) (R : Rp) (H : Hp) (D : Addr) (acc : List AV) : Prop where
  ex : ∃ vs, H D = some (.lst vs) ∧ RepVs K w R acc vs
  I : R.I D = none
  ne : ∀ l, l < R.n → R.ι l ≠ D
theorem Acc.ext {R' : Rp} {H' : Hp} {acc : List AV} (x : Acc K w R H D acc) (E : Ext R H R' H') : Acc K w R' H' D acc := by
  obtain ⟨vs, e, r⟩ := x.ex
  exact ⟨⟨vs, E.frame _ _ e x.ne, r.mono E.le⟩, (E.newI D (by rw [e]; simp) x.ne).trans x.I, E.apart (by rw [e]; simp) x.ne⟩
end
section
variable {K : PySem.W.Frag} {w : World} {xw : XWish} {σ : L2.St} {H : Hp} {Q : VK} {mi mc me mi1 : Env → Store → Res RV} {own own1 : List Nat} {tg tg1 : Tg}
abbrev noX : XWish := fun _ _ => False
/-- one turn of a comprehension: the test, the element, the list longer by it -/
theorem comp_turn {R : Rp} {S S' : Store} {H : Hp} {D : Addr} {acc acc' : List AV} {ρ' : Env} {σ2 : L2.St} {Nx : Hp → Prop} {few : Prop}
    (he : RepE K w R ρ' σ2) (W : Wd K w R S H) (ha : Acc K w R H D acc)
    (hf : ((mc ρ' S).bnd fun b S3 => match b.bool? with
      | some true => (me ρ' S3).bnd fun y S4 => .ok (acc ++ [y.av]) S4
      | some false => .ok acc S3
      | none => .stop) = .ok acc' S') (hz : acc.length < line)
    (k : ∀ R' H', Ext R H R' (H') → Wd K w R' S' H' → Acc K w R' H' D acc' → acc' = acc → Nx H') (k2 : ∀ R' H' y, Ext R H R' H' → Wd K w R' S' H' → Acc K w R' H' D acc → acc' = acc ++ [y] → ∀ v, RepV K w R' y v → ∀ vs, H' D = some (.lst vs) → Nx (upd H' D (.lst (vs ++ [v])))) :
    rdT K w noX mc σ2 H fun b H3 => if b = true then rdE K w noX me σ2 H3 fun y H4 => ∃ acc, H4 D = some (.lst acc) ∧ acc.length < sizeLine ∧ Nx (upd H4 D (.lst (acc ++ [y]))) else Nx H3 := by
  refine ⟨R, ρ', S, he, W, ?_⟩
  cases e1 : mc ρ' S with
  | ok b S3 =>
    rw [e1] at hf
    have hf' : (match b.bool? with
      | some true => (me ρ' S3).bnd fun y S4 => .ok (acc ++ [y.av]) S4
      | some false => .ok acc S3
      | none => .stop) = .ok acc' S' := hf
    split at hf'
    · rename_i eb
      refine ⟨true, eb, fun R1 H1 E1 W1 => iteT ⟨R1, ρ', S3, he.mono E1.le, W1, ?_⟩⟩
      cases e2 : me ρ' S3 with
      | ok y S4 =>
        rw [e2] at hf'
        cases hf'
        intro R2 H2 v E2 W2 x
        obtain ⟨R3, le3, W3, E3, x3⟩ := x.freeze W2 E2
        have a3 := (ha.ext E1).ext E3
        obtain ⟨vs, ed, rv⟩ := a3.ex
        exact ⟨vs, ed, by rw [← rv.length]; exact hz, k2 R3 H2 y.av (E1.trans E3) W3 a3 rfl v x3 vs ed⟩
      | exc c S4 => rw [e2] at hf'; cases hf'
      | stop => rw [e2] at hf'; cases hf'
    · rename_i eb
      cases hf'
      exact ⟨false, eb, fun R1 H1 E1 W1 => iteF (k R1 H1 E1 W1 (ha.ext E1) rfl)⟩
    · cases hf'
  | exc c S3 => rw [e1] at hf; cases hf
  | stop => rw [e1] at hf; cases hf
open Classical in
/-- a comprehension's reading -/
theorem lc_rd (hv : ∀ j ∈ tg.vars, j ∈ own) (h : rdE K w xw (compM own tg mi mc me) σ H Q) : tLc (rdI K w xw mi) (gT K w tg) (rdT K w noX mc) (rdE K w noX me) own σ H Q := by
  obtain ⟨R, ρ, S, he, W, h⟩ := h
  refine ⟨R, ρ, S, he, W, ?_⟩
  unfold compM at h
  cases e1 : mi ρ S with
  | exc c S1 => rw [e1] at h; exact h
  | stop => rw [e1] at h; exact h
  | ok r S1 =>
    rw [e1] at h
    have h' : Post K w xw R H (match itemsOf S1 r.av with
      | none => .stop
      | some (xs, wt) => (loopA (compF own tg mc me ρ) wt xs [] S1).bnd fun ys S5 => .ok (.l ys) S5) Q := h
    show (match itemsOf S1 r.av with
      | none => False
      | some (xs, wt) => ∀ R' H' J, Ext R H R' H' → Wd K w R' S1 H' → Walks K w J R' H' xs wt → _)
    split at h'
    · exact h'.elim
    · rename_i xs wt e2
      intro R1 H1 J E1 W1 hw D hD
      obtain ⟨hz, hw⟩ := hw
      refine ⟨fun i m Hc => m = xs.length - i ∧ i ≤ xs.length ∧ ∃ R2 S2 acc, Ext R1 H1 R2 Hc ∧ Wd K w R2 S2 Hc ∧ stays wt S2 ∧ Acc K w R2 Hc D acc ∧ acc.length ≤ i ∧
        Post K w xw R1 H1 ((loopA (compF own tg mc me ρ) wt (xs.drop i) acc S2).bnd fun ys S5 => .ok (.l ys) S5) Q, ⟨xs.length, by simp, Nat.zero_le _, R1, S1, [], (Ext.refl R1 H1).limbo hD, W1.limbo (W1.none_of hD) (W1.ne_of hD), ?_, ⟨⟨[], upd_same, .nil⟩, W1.none_of hD, W1.ne_of hD⟩, Nat.le_refl _, Post.shift E1 h'⟩, ?_⟩
      · unfold itemsOf at e2
        split at e2
        all_goals first | (cases e2; done) | (cases e2; exact trivial) | skip
        · split at e2
          · rename_i e3; cases e2; exact e3
          · cases e2; exact trivial
          · cases e2; exact trivial
          · cases e2
      · rintro i m Hc ⟨rfl, hi, R2, S2, acc, E2, W2, st, ha, hl, hp⟩
        obtain ⟨g1, g2⟩ := hw i R2 S2 Hc E2.le W2 st
        by_cases hlt : i < xs.length
        · have hx : xs[i]? = some xs[i] := List.getElem?_eq_getElem hlt
          obtain ⟨go, yl⟩ := g1 _ hx
          rw [List.drop_eq_getElem_cons hlt] at hp
          have hp' : Post K w xw R1 H1 ((match compF own tg mc me ρ xs[i] acc S2 with
            | .ok acc' S' => if stays wt S' then loopA (compF own tg mc me ρ) wt (xs.drop (i + 1)) acc' S' else .stop
            | _ => .stop : Res (List AV)).bnd fun ys S5 => .ok (.l ys) S5) Q := hp
          cases ef : compF own tg mc me ρ xs[i] acc S2 with
          | exc c S3 => rw [ef] at hp'; exact hp'.elim
          | stop => rw [ef] at hp'; exact hp'.elim
          | ok acc' S' =>
            rw [ef] at hp'
            by_cases hst : stays wt S'
            · have hp'' : Post K w xw R1 H1 ((loopA (compF own tg mc me ρ) wt (xs.drop (i + 1)) acc' S').bnd fun ys S5 => .ok (.l ys) S5) Q := by
                have : (if stays wt S' then loopA (compF own tg mc me ρ) wt (xs.drop (i + 1)) acc' S' else .stop) = loopA (compF own tg mc me ρ) wt (xs.drop (i + 1)) acc' S' := if_pos hst
                have hp2 : Post K w xw R1 H1 ((if stays wt S' then loopA (compF own tg mc me ρ) wt (xs.drop (i + 1)) acc' S' else .stop).bnd fun ys S5 => .ok (.l ys) S5) Q := hp'
                rw [this] at hp2
                exact hp2
              unfold compF at ef
              split at ef
              · cases ef
              · rename_i ρ' eb
                refine .inr ⟨go, fun Hn => ∃ R3 acc3, Ext R1 H1 R3 Hn ∧ Wd K w R3 S' Hn ∧ Acc K w R3 Hn D acc3 ∧ acc3.length ≤ i + 1 ∧ acc3 = acc', fun Hn ⟨R3, acc3, E3, W3, a3, l3, e3⟩ => ?_, fun v H3 hy => ?_⟩
                · subst e3
                  exact ⟨xs.length - (i + 1), by omega, rfl, by omega, R3, S', acc3, E3, W3, hst, a3, l3, hp''⟩
                · obtain ⟨R3, E3, W3, rx⟩ := yl v H3 hy
                  have he3 : RepE K w R3 (wipeE ρ own) (wipe σ own) := (he.wipe own).mono ((E1.trans E2).trans E3).le
                  refine ⟨R3, S2, _, _, ρ', he3, W3, rx, eb, fun σ2 he2 kj => ⟨?_, ?_⟩⟩
                  · refine wipe_eq ?_ fun j hj => kj j fun z => hj (hv j z)
                    have := he2.len
                    have h2 := he3.len
                    rw [wipe_length] at h2
                    have hb : ρ'.length = (wipeE ρ own).length := by
                      exact bindT_length _ _ _ _ eb
                    omega
                  · refine comp_turn (few := True) he2 W3 (ha.ext E3) ef (by omega) (fun R4 H4 E4 W4 a4 ea => ⟨R4, acc', (E2.trans E3).trans E4, W4, a4, by rw [ea]; omega, rfl⟩) fun R4 H4 y E4 W4 a4 ey v ry vs ed => ?_
                    · subst ey
                      obtain ⟨vs', ed', rv'⟩ := a4.ex
                      rw [ed] at ed'
                      cases ed'
                      exact ⟨R4, _, ((E2.trans E3).trans E4).limbo hD, W4.limbo a4.I a4.ne, ⟨⟨_, upd_same, rv'.append (.cons ry .nil)⟩, a4.I, a4.ne⟩, by rw [List.length_append, List.length_singleton]; omega, rfl⟩
            · have hp2 : Post K w xw R1 H1 ((if stays wt S' then loopA (compF own tg mc me ρ) wt (xs.drop (i + 1)) acc' S' else .stop).bnd fun ys S5 => .ok (.l ys) S5) Q := hp'
              rw [if_neg hst] at hp2
              exact hp2.elim
        · have hi' : xs.length = i := by omega
          subst hi'
          refine .inl ⟨g2 rfl, ?_⟩
          rw [List.drop_length] at hp
          have hp' : Post K w xw R1 H1 (.ok (.l acc) S2) Q := hp
          obtain ⟨vs, ed, rv⟩ := ha.ex
          exact hp' R2 Hc _ E2 W2 ⟨D, vs, rfl, ed, hD, ha.I, ha.ne, Nat.le_trans hl hz, rv⟩
end
end DL

set_option Elab.async false
set_option linter.all false
set_option maxRecDepth 100000
set_option maxHeartbeats 2000000
namespace DL
open PySem PySem.Spec PyProof.Rows L2
/-! ### statements -/
section
variable {X : Cx} {xw : XWish} {e o i c iter tg : Expr} {es : List Expr} {st : Stmt} {rest body : List Stmt} {pos tpos p p' : Pos} {σ : L2.St} {H : Hp} {Q : VK} {ma mb mc mo mi m : Env → Store → Res RV} {na nb : Env → Store → Res Fl} {D : Ends}
theorem st_pass : PS X (.Pass pos) (RS X xw fun ρ S => .ok (.nx ρ) S) :=
  ps_imp ps_pass fun D σ H ⟨R, ρ, S, he, W, h⟩ => h R H σ (.refl R H) W he
theorem st_doc {x j} : PS X (.Expr (.Constant (.str x) j p) pos) (RS X xw fun ρ S => .ok (.nx ρ) S) :=
  ps_imp ps_doc fun D σ H ⟨R, ρ, S, he, W, h⟩ => h R H σ (.refl R H) W he
theorem ss_nil : PSs X [] (RS X xw fun ρ S => .ok (.nx ρ) S) :=
  pss_imp pss_nil fun D σ H ⟨R, ρ, S, he, W, h⟩ => h R H σ (.refl R H) W he
theorem ss_one (h : PS X st (RS X xw na)) : PSs X [st] (RS X xw na) := pss_one h
def seqM (na nb : Env → Store → Res Fl) : Env → Store → Res Fl := fun ρ S => (na ρ S).bnd fun fl S1 => match fl with
  | .nx ρ' => nb ρ' S1
  | .rt r => .ok (.rt r) S1
theorem ss_cons (h1 : PS X st (RS X xw na)) (h2 : PSs X rest (RS X xw nb)) : PSs X (st :: rest) (RS X xw (seqM na nb)) :=
  pss_imp (pss_cons h1 h2) fun D σ H ⟨R, ρ, S, he, W, h⟩ => by
    refine ⟨R, ρ, S, he, W, ?_⟩
    unfold seqM at h
    cases e1 : na ρ S with
    | ok fl S1 =>
      rw [e1] at h
      cases fl with
      | nx ρ' => exact fun R1 H1 σ1 E1 W1 he1 => ⟨R1, ρ', S1, he1, W1, PostS.shift E1 h⟩
      | rt r => exact h
    | exc c S1 => rw [e1] at h; exact h
    | stop => rw [e1] at h; exact h
theorem st_exp (h : PE X e (RE X xw m)) (hs : swapsWith e none pos.line X.env = pure false) : PS X (.Expr e pos) (RS X xw fun ρ S => (m ρ S).bnd fun _ S1 => .ok (.nx ρ) S1) :=
  ps_imp (ps_expr h hs) fun D σ H ⟨R, ρ, S, he, W, h⟩ =>
    rdE_imp (rd_bndS he W h) fun v H1 ⟨R1, S1, x, E1, W1, rx, he1, h1⟩ => h1 R1 H1 σ (.refl _ _) W1 he1
theorem st_ret (h : PE X e (RE X xw m)) : PS X (.Return (some e) pos) (RS X xw fun ρ S => (m ρ S).bnd fun x S1 => .ok (.rt x) S1) :=
  ps_imp (ps_ret h) fun D σ H ⟨R, ρ, S, he, W, h⟩ => by
    refine ⟨R, ρ, S, he, W, ?_⟩
    dsimp only at h
    cases e1 : m ρ S with
    | ok r S1 => rw [e1] at h; exact h
    | exc c S1 => rw [e1] at h; exact h
    | stop => rw [e1] at h; exact h
def ifM (mc : Env → Store → Res RV) (na nb : Env → Store → Res Fl) : Env → Store → Res Fl := fun ρ S => (mc ρ S).bnd fun x S1 => match x.bool? with
  | some true => na ρ S1
  | some false => nb ρ S1
  | none => .stop
theorem ifM_eq (mc : Env → Store → Res RV) (na nb : Env → Store → Res Fl) (ρ : Env) (S : Store) : ifM mc na nb ρ S = (mc ρ S).bnd fun x S1 => match x.bool? with
  | some b => if b = true then na ρ S1 else nb ρ S1
  | none => .stop := by
  unfold ifM
  congr 1
  funext x S1
  cases x.bool? with
  | none => rfl
  | some b => cases b <;> rfl
theorem st_if {a b : List Stmt} (hc : PT X c (RT X xw mc)) (ha : PSs X a (RS X xw na)) (hb : PSs X b (RS X xw nb)) : PS X (.If c a b pos) (RS X xw (ifM mc na nb)) :=
  ps_imp (ps_if hc ha hb) fun D σ H ⟨R, ρ, S, he, W, h⟩ => by
    rw [ifM_eq] at h
    refine rdT_imp (rdT_bndS (k := fun b S1 => if b = true then na ρ S1 else nb ρ S1) he W h) fun b H1 ⟨R1, S1, E1, W1, he1, h1⟩ => ?_
    cases b with
    | true => exact iteT ⟨R1, ρ, S1, he1, W1, h1⟩
    | false => exact iteF ⟨R1, ρ, S1, he1, W1, h1⟩
/-! the loops -/
noncomputable def forF (t : Tg) (nb : Env → Store → Res Fl) : AV → Env → Store → Res Fl := fun x ρ' S2 => match bindT t x ρ' with
  | none => .stop
  | some ρ2 => nb ρ2 S2
noncomputable def forM (t : Tg) (mi : Env → Store → Res RV) (nb : Env → Store → Res Fl) : Env → Store → Res Fl := fun ρ S => (mi ρ S).bnd fun r S1 => match itemsOf S1 r.av with
  | none => .stop
  | some (xs, w) => loopF (forF t nb) w xs ρ S1
open Classical in
theorem st_for {t : Tg} (hp : PassesOwn (model X.prog X.w) X.A X.env X.xe) (hc : X.calm = true) (hi : PI X tg iter (RI X xw mi)) (hg : PG X tg (gT X.K X.w t)) (hb : PSs X body (RS X xw nb)) (hs : ∀ x, foldedSetIterable iter X.env x = pure x) :
    PS X (.For tg iter body [] pos) (RS X xw (forM t mi nb)) :=
  ps_imp (ps_for hp hc hi hg hb hs) fun D σ H ⟨R, ρ, S, he, W, h⟩ => by
    refine ⟨R, ρ, S, he, W, ?_⟩
    unfold forM at h
    cases e1 : mi ρ S with
    | exc c S1 => rw [e1] at h; exact h
    | stop => rw [e1] at h; exact h
    | ok r S1 =>
      rw [e1] at h
      have h' : PostS X.K X.w xw R H (match itemsOf S1 r.av with
        | none => .stop
        | some (xs, w) => loopF (forF t nb) w xs ρ S1) D := h
      show (match itemsOf S1 r.av with
        | none => False
        | some (xs, wt) => ∀ R' H' J, Ext R H R' H' → Wd X.K X.w R' S1 H' → Walks X.K X.w J R' H' xs wt → _)
      split at h'
      · exact h'.elim
      · rename_i xs wt e2
        intro R1 H1 J E1 W1 hw
        obtain ⟨hz, hw⟩ := hw
        refine ⟨fun i m σ' Hc => m = xs.length - i ∧ i ≤ xs.length ∧ ∃ R2 S2 ρ2, Ext R1 H1 R2 Hc ∧ Wd X.K X.w R2 S2 Hc ∧ stays wt S2 ∧ RepE X.K X.w R2 ρ2 σ' ∧
          PostS X.K X.w xw R2 Hc (loopF (forF t nb) wt (xs.drop i) ρ2 S2) D, ⟨xs.length, by simp, Nat.zero_le _, R1, S1, ρ, Ext.refl R1 H1, W1, ?_, he.mono E1.le, PostS.shift E1 h'⟩, ?_⟩
        · unfold itemsOf at e2
          split at e2
          all_goals first | (cases e2; done) | (cases e2; exact trivial) | skip
          · split at e2
            · rename_i e3; cases e2; exact e3
            · cases e2; exact trivial
            · cases e2; exact trivial
            · cases e2
        · rintro i m σ' Hc ⟨rfl, hi, R2, S2, ρ2, E2, W2, stw, he2, hp⟩
          obtain ⟨g1, g2⟩ := hw i R2 S2 Hc E2.le W2 stw
          by_cases hlt : i < xs.length
          · have hx : xs[i]? = some xs[i] := List.getElem?_eq_getElem hlt
            obtain ⟨go, yl⟩ := g1 _ hx
            rw [List.drop_eq_getElem_cons hlt] at hp
            have hp' : PostS X.K X.w xw R2 Hc (match forF t nb xs[i] ρ2 S2 with
              | .ok (.nx ρ') S' => if stays wt S' then loopF (forF t nb) wt (xs.drop (i + 1)) ρ' S' else .stop
              | r => r : Res Fl) D := hp
            refine .inr ⟨go, fun σ3 Hn => ∃ R3 S3 ρ3, Ext R1 H1 R3 Hn ∧ Wd X.K X.w R3 S3 Hn ∧ stays wt S3 ∧ RepE X.K X.w R3 ρ3 σ3 ∧ PostS X.K X.w xw R3 Hn (loopF (forF t nb) wt (xs.drop (i + 1)) ρ3 S3) D, fun σ3 Hn ⟨R3, S3, ρ3, E3, W3, st3, he3, h3⟩ => ⟨xs.length - (i + 1), by omega, rfl, by omega, R3, S3, ρ3, E3, W3, st3, he3, h3⟩, fun v H3 hy => ?_⟩
            obtain ⟨R3, E3, W3, rx⟩ := yl v H3 hy
            unfold forF at hp'
            cases eb : bindT t xs[i] ρ2 with
            | none => rw [eb] at hp'; exact hp'.elim
            | some ρ' =>
              rw [eb] at hp'
              refine ⟨R3, S2, _, _, ρ', he2.mono E3.le, W3, rx, eb, fun σ4 he4 _ => ⟨R3, ρ', S2, he4, W3, ?_⟩⟩
              have hp2 : PostS X.K X.w xw R3 H3 (match nb ρ' S2 with
                | .ok (.nx ρ') S' => if stays wt S' then loopF (forF t nb) wt (xs.drop (i + 1)) ρ' S' else .stop
                | r => r : Res Fl) D := PostS.shift E3 hp'
              cases en : nb ρ' S2 with
              | ok fl S' =>
                rw [en] at hp2
                cases fl with
                | nx ρ5 =>
                  have hp3 : PostS X.K X.w xw R3 H3 (if stays wt S' then loopF (forF t nb) wt (xs.drop (i + 1)) ρ5 S' else .stop) D := hp2
                  by_cases hst : stays wt S'
                  · rw [if_pos hst] at hp3
                    exact fun R4 H4 σ5 E4 W4 he5 => ⟨R4, S', ρ5, (E2.trans E3).trans E4, W4, hst, he5, PostS.shift E4 hp3⟩
                  · rw [if_neg hst] at hp3
                    exact hp3.elim
                | rt r => exact hp2
              | exc c S' => rw [en] at hp2; exact hp2
              | stop => rw [en] at hp2; exact hp2
          · have hi' : xs.length = i := by omega
            subst hi'
            refine .inl ⟨g2 rfl, ?_⟩
            rw [List.drop_length] at hp
            exact hp R2 Hc σ' (.refl _ _) W2 he2
theorem loopW_eq (mc : Env → Store → Res RV) (nb : Env → Store → Res Fl) (n : Nat) (ρ : Env) (S : Store) : loopW mc nb (n + 1) ρ S = (mc ρ S).bnd fun x S1 => match x.bool? with
  | some b => if b = true then (nb ρ S1).bnd fun fl S2 => match fl with
      | .nx ρ' => loopW mc nb n ρ' S2
      | .rt r => .ok (.rt r) S2
    else .ok (.nx ρ) S1
  | none => .stop := by
  show (mc ρ S).bnd _ = _
  congr 1
  funext x S1
  cases x.bool? with
  | none => rfl
  | some b => cases b <;> rfl
theorem st_whl {n : Nat} (hp : PassesOwn (model X.prog X.w) X.A X.env X.xe) (hc : PT X c (RT X xw mc)) (hb : PSs X body (RS X xw nb)) : PS X (.While c body [] pos) (RS X xw fun ρ S => loopW mc nb n ρ S) :=
  ps_imp (ps_while hp hc hb) fun D σ H ⟨R, ρ, S, he, W, h⟩ => by
    refine ⟨fun m σ' H' => ∃ R ρ S, RepE X.K X.w R ρ σ' ∧ Wd X.K X.w R S H' ∧ PostS X.K X.w xw R H' (loopW mc nb m ρ S) D, ⟨n, R, ρ, S, he, W, h⟩, ?_⟩
    rintro m σ' H' ⟨R, ρ, S, he, W, h⟩
    cases m with
    | zero => exact h.elim
    | succ m =>
      rw [loopW_eq] at h
      refine rdT_imp (rdT_bndS (k := fun b S1 => if b = true then (nb ρ S1).bnd fun fl S2 => match fl with
        | .nx ρ' => loopW mc nb m ρ' S2
        | .rt r => .ok (.rt r) S2
        else .ok (.nx ρ) S1) he W h) fun b H1 ⟨R1, S1, E1, W1, he1, h1⟩ => ?_
      cases b with
      | false => exact iteF (h1 R1 H1 σ' (.refl _ _) W1 he1)
      | true =>
        refine iteT ⟨fun σ2 H2 => ∃ R ρ S, RepE X.K X.w R ρ σ2 ∧ Wd X.K X.w R S H2 ∧ PostS X.K X.w xw R H2 (loopW mc nb m ρ S) D, fun σ2 H2 q => ⟨m, Nat.lt_succ_self m, q⟩, R1, ρ, S1, he1, W1, ?_⟩
        have h2 : PostS X.K X.w xw R1 H1 ((nb ρ S1).bnd fun fl S2 => match fl with
          | .nx ρ' => loopW mc nb m ρ' S2
          | .rt r => .ok (.rt r) S2) D := h1
        cases e1 : nb ρ S1 with
        | ok fl S2 =>
          rw [e1] at h2
          cases fl with
          | nx ρ' => exact fun R2 H2 σ2 E2 W2 he2 => ⟨R2, ρ', S2, he2, W2, PostS.shift E2 h2⟩
          | rt r => exact h2
        | exc c S2 => rw [e1] at h2; exact h2
        | stop => rw [e1] at h2; exact h2
/-! names, targets -/
def asgM (t : Tg) (m : Env → Store → Res RV) : Env → Store → Res Fl := fun ρ S => (m ρ S).bnd fun x S1 => match bindT t x.av ρ with
  | some ρ' => .ok (.nx ρ') S1
  | none => .stop
theorem asg_rd {t : Tg} (he : RepE X.K X.w R ρ σ) (W : Wd X.K X.w R S H) (h : PostS X.K X.w xw R H (asgM t m ρ S) D) : RE X xw m σ H fun x H1 => gT X.K X.w t x σ H1 D.nx :=
  rdE_imp (rd_bndS he W h) fun v H1 ⟨R1, S1, x, E1, W1, rx, he1, h1⟩ => by
    split at h1
    · rename_i ρ' eb
      exact ⟨R1, S1, _, _, ρ', he1, W1, rx, eb, fun σ' he' _ => h1 R1 H1 σ' (.refl _ _) W1 he'⟩
    · exact h1.elim
theorem st_asg {t : Tg} (h : PE X e (RE X xw m)) (hg : PG X tg (gT X.K X.w t)) (hs : swapsWithSole [tg] e pos.line X.env = pure false) (hw : swappedStores [tg] e X.env = pure none)
    (h1 : (assignEach [tg] X.env).map (·.2) = [assign tg X.env]) : PS X (.Assign [tg] e pos) (RS X xw (asgM t m)) :=
  ps_imp (ps_asg h hg hs hw h1) fun D σ H ⟨R, ρ, S, he, W, h⟩ => asg_rd he W h
/-- a target of the rules' own: every value may be stored -/
theorem gName_of {i : Nat} {v : V} {Q : L2.St → Hp → Prop} (h : gT X.K X.w (.var i) v σ H Q) : gName i v σ H Q := by
  obtain ⟨R, S, a, ρ, ρ', he, W, r, hb, k⟩ := h
  cases hb
  refine k _ (he.set r i) fun j hj => ?_
  have : i ≠ j := fun e => hj (by rw [← e]; exact List.mem_singleton_self i)
  rw [List.getElem?_set_ne this]
theorem st_set {j : Nat} {x : Str} (hN : X.N.Nodup) (hi : X.N[j]? = some x) (hx : Loc X.env.scope x) (h : PE X e (RE X xw m)) (hs : swapsWith e (some (.Name x p)) pos.line X.env = pure false) (hf : X.fn x = true ∨ X.env.scope.names.lookup x = some .local) :
    PS X (.Assign [.Name x p] e pos) (RS X xw (asgM (.var j) m)) :=
  ps_imp (ps_set hN hi hx h hs hf) fun D σ H ⟨R, ρ, S, he, W, h⟩ =>
    rdE_imp (asg_rd he W h) fun v H1 q => gName_of q
theorem st_par {i j : Nat} {x y : Str} {a b : Expr} {px py pt : Pos} {kt k2 pt2} {ma mb : Env → Store → Res RV} (hc : X.calm = true) (hN : X.N.Nodup) (hi : X.N[i]? = some x) (hj : X.N[j]? = some y) (hij : i ≠ j)
    (hx : X.env.scope.names.lookup x = some .local) (hy : X.env.scope.names.lookup y = some .local) (ha : PA X [a, b] (RA X xw fun ρ S => (ma ρ S).bnd fun x S1 => (mb ρ S1).bnd fun y S2 => .ok (.l [x.av, y.av]) S2))
    (hw : swappedStores [.Tuple [.Name x px, .Name y py] kt pt] (.Tuple [a, b] k2 pt2) X.env = pure (some [x, y]))
    (hs : swapsWithSole [.Tuple [.Name x px, .Name y py] kt pt] (.Tuple [a, b] k2 pt2) pos.line X.env = pure false) :
    PS X (.Assign [.Tuple [.Name x px, .Name y py] kt pt] (.Tuple [a, b] k2 pt2) pos) (RS X xw fun ρ S => (ma ρ S).bnd fun x S1 => (mb ρ S1).bnd fun y S2 => .ok (.nx (setE (setE ρ i x.av) j y.av)) S2) :=
  ps_imp (ps_par hc hN hi hj hij hx hy ha hw hs) fun D σ H ⟨R, ρ, S, he, W, h⟩ => by
    refine ⟨R, ρ, S, he, W, ?_⟩
    dsimp only at h ⊢
    cases e1 : ma ρ S with
    | ok x S1 =>
      rw [e1] at h
      rw [bnd_ok] at h ⊢
      cases e2 : mb ρ S1 with
      | ok y S2 =>
        rw [e2] at h
        rw [bnd_ok] at h ⊢
        intro R1 H1 vs E1 W1 r
        cases r with
        | cons r1 r =>
          cases r with
          | cons r2 r =>
            cases r
            exact ⟨_, _, rfl, h R1 H1 _ E1 W1 (((he.mono E1.le).set r1 i).set r2 j)⟩
      | exc c S1 => rw [e2] at h; exact h
      | stop => rw [e2] at h; exact h
    | exc c S1 => rw [e1] at h; exact h
    | stop => rw [e1] at h; exact h
theorem st_par3 {i j l : Nat} {x y z : Str} {a b c : Expr} {px py pz pt : Pos} {kt k2 pt2} {ma mb mc : Env → Store → Res RV} (hc : X.calm = true) (hN : X.N.Nodup) (hi : X.N[i]? = some x) (hj : X.N[j]? = some y) (hl : X.N[l]? = some z) (hij : i ≠ j) (hil : i ≠ l) (hjl : j ≠ l)
    (hx : X.env.scope.names.lookup x = some .local) (hy : X.env.scope.names.lookup y = some .local) (hz : X.env.scope.names.lookup z = some .local) (ha : PA X [a, b, c] (RA X xw fun ρ S => (ma ρ S).bnd fun x S1 => (mb ρ S1).bnd fun y S2 => (mc ρ S2).bnd fun z S3 => .ok (.l [x.av, y.av, z.av]) S3))
    (hw : swappedStores [.Tuple [.Name x px, .Name y py, .Name z pz] kt pt] (.Tuple [a, b, c] k2 pt2) X.env = pure (some [x, y, z]))
    (hs : swapsWithSole [.Tuple [.Name x px, .Name y py, .Name z pz] kt pt] (.Tuple [a, b, c] k2 pt2) pos.line X.env = pure false) :
    PS X (.Assign [.Tuple [.Name x px, .Name y py, .Name z pz] kt pt] (.Tuple [a, b, c] k2 pt2) pos) (RS X xw fun ρ S => (ma ρ S).bnd fun x S1 => (mb ρ S1).bnd fun y S2 => (mc ρ S2).bnd fun z S3 => .ok (.nx (setE (setE (setE ρ i x.av) j y.av) l z.av)) S3) :=
  ps_imp (L2.ps_par3 hc hN hi hj hl hij hil hjl hx hy hz ha hw hs) fun D σ H ⟨R, ρ, S, he, W, h⟩ => by
    refine ⟨R, ρ, S, he, W, ?_⟩
    dsimp only at h ⊢
    cases e1 : ma ρ S with
    | ok x S1 =>
      rw [e1] at h
      rw [bnd_ok] at h ⊢
      cases e2 : mb ρ S1 with
      | ok y S2 =>
        rw [e2] at h
        rw [bnd_ok] at h ⊢
        cases e3 : mc ρ S2 with
        | ok z S3 =>
          rw [e3] at h
          rw [bnd_ok] at h ⊢
          intro R1 H1 vs E1 W1 r
          cases r with
          | cons r1 r =>
            cases r with
            | cons r2 r =>
              cases r with
              | cons r3 r =>
                cases r
                exact ⟨_, _, _, rfl, h R1 H1 _ E1 W1 ((((he.mono E1.le).set r1 i).set r2 j).set r3 l)⟩
        | exc c S1 => rw [e3] at h; exact h
        | stop => rw [e3] at h; exact h
      | exc c S1 => rw [e2] at h; exact h
      | stop => rw [e2] at h; exact h
    | exc c S1 => rw [e1] at h; exact h
    | stop => rw [e1] at h; exact h
/-! items -/
theorem st_sset (hu : X.A.units + 64 < cLine) (h : PE X e (RE X xw m)) (ho : PE X o (RE X xw mo)) (hi : PE X i (RE X xw mi)) (hs : swapsWithSole [.Subscript o i tpos] e pos.line X.env = pure false) (hw : swappedStores [.Subscript o i tpos] e X.env = pure none)
    (h1 : (assignEach [.Subscript o i tpos] X.env).map (·.2) = [assign (.Subscript o i tpos) X.env])
    (ha : ∀ v, assign (.Subscript o i tpos) X.env v = (do
      let ov ← holding [v] (eval o X.env)
      let iv ← holding [v, ov] (eval i X.env)
      standAt tpos
      holding [v, ov, iv] (setItem ov iv v)
      release [v, ov, iv] [])) : PS X (.Assign [.Subscript o i tpos] e pos) (RS X xw fun ρ S => (m ρ S).bnd fun v S1 => (mo ρ S1).bnd fun x S2 => (mi ρ S2).bnd fun y S3 => match subSet x.av y.av v.av S3 with
    | some S4 => .ok (.nx ρ) S4
    | none => .stop) :=
  ps_imp (ps_asg h (pg_sub ho hi (set_data hu) ha) hs hw h1) fun D σ H ⟨R, ρ, S, he, W, h⟩ =>
    rdE_imp (rd_bndS he W h) fun v H1 ⟨R1, S1, x, E1, W1, rx, he1, h1⟩ =>
      rdE_imp (rd_bndS he1 W1 h1) fun v2 H2 ⟨R2, S2, x2, E2, W2, rx2, he2, h2⟩ =>
        rdE_imp (rd_bndS he2 W2 h2) fun v3 H3 ⟨R3, S3, x3, E3, W3, rx3, he3, h3⟩ => by
          split at h3
          · rename_i S4 e4
            exact ⟨R3, S3, _, _, _, S4, W3, rx2.mono E3.le, rx3, (rx.mono E2.le).mono E3.le, e4, fun R4 H4 E4 W4 => h3 R4 H4 σ E4 W4 (he3.mono E4.le)⟩
          · exact h3.elim
/-- op= of whole numbers -/
def rAug (f : AV → AV → Option Int) (K : PySem.W.Frag) (w : World) : TIp := fun x y H Q => ∃ R a b z, RepV K w R a x ∧ RepV K w R b y ∧ f a b = some z ∧ Q (.int z) H
theorem aug_add : PIp X .Add (rAug (opAug .add) X.K X.w) := by
  intro pins s σ H x y v u Q I r1 r2 ⟨R, a, b, z, ra, rb, h, q⟩
  unfold opAug at h
  split at h
  · rename_i i j
    cases h
    cases ra; cases rb
    exact ip_add pins s σ H _ _ v u Q I r1 r2 ⟨i, j, rfl, rfl, q⟩
  · cases h
theorem aug_sub : PIp X .Sub (rAug (opAug .sub) X.K X.w) := by
  intro pins s σ H x y v u Q I r1 r2 ⟨R, a, b, z, ra, rb, h, q⟩
  unfold opAug at h
  split at h
  · rename_i i j
    cases h
    cases ra; cases rb
    exact ip_sub pins s σ H _ _ v u Q I r1 r2 ⟨i, j, rfl, rfl, q⟩
  · cases h
theorem aug_mul : PIp X .Mult (rAug (opAug .mul) X.K X.w) := by
  intro pins s σ H x y v u Q I r1 r2 ⟨R, a, b, z, ra, rb, h, q⟩
  unfold opAug at h
  split at h
  · rename_i i j
    dsimp only at h
    split at h
    · rename_i hc
      cases h
      cases ra; cases rb
      obtain ⟨t, rfl⟩ := r1
      obtain ⟨t', rfl⟩ := r2
      rcases hc with hc | ⟨h1, h2⟩
      · exact imul_int ⟨.int _, H, I.tok _, ⟨_, rfl⟩, q⟩ hc.ok
      · exact imul_int ⟨.int _, H, I.tok _, ⟨_, rfl⟩, q⟩ (wide_mul h1 h2 (by decide) (by decide) (by decide)).ok
    · cases h
  · cases h
theorem st_aug {j : Nat} {x : Str} {op : Operator} {f : AV → AV → Option Int} (hN : X.N.Nodup) (hi : X.N[j]? = some x) (hx : Loc X.env.scope x) (h : PE X e (RE X xw m)) (ho : PIp X op (rAug f X.K X.w)) (hf : X.fn x = true ∨ X.env.scope.names.lookup x = some .local) :
    PS X (.AugAssign (.Name x p) op e pos) (RS X xw fun ρ S => match ρ[j]? with
      | some (some a) => (m ρ S).bnd fun y S1 => match f a y.av with
        | some z => .ok (.nx (setE ρ j (.int z))) S1
        | none => .stop
      | _ => .stop) :=
  ps_imp (ps_aug hN hi hx h ho hf) fun D σ H ⟨R, ρ, S, he, W, h⟩ => by
    dsimp only at h
    split at h
    · rename_i a ea
      obtain ⟨v, ev', ra⟩ := he.get _ _ ea
      refine ⟨v, ev', rdE_imp (rd_bndS (m := m) he W h) fun v1 H1 ⟨R1, S1, x, E1, W1, rx, he1, h1⟩ => ?_⟩
      split at h1
      · rename_i z ez
        exact ⟨R1, _, _, z, ra.mono E1.le, rx, ez, h1 R1 H1 _ (.refl _ _) W1 (he1.set (.int z) j)⟩
      · exact h1.elim
    · exact h.elim
theorem st_saug (hu : X.A.units + 64 < cLine) {op : Operator} {f : AV → AV → Option Int} (ho : PE X o (RE X xw mo)) (hi : PE X i (RE X xw mi)) (h : PE X e (RE X xw m)) (hp : PIp X op (rAug f X.K X.w))
    (ha : ∀ ov iv new, augStore i ov iv new = (do holding [new, ov, iv] (setItem ov iv new); release [new, ov, iv] []; pure .next)) :
    PS X (.AugAssign (.Subscript o i tpos) op e pos) (RS X xw fun ρ S => (mo ρ S).bnd fun x S1 => (mi ρ S1).bnd fun y S2 => match subOp x.av y.av S2 with
      | none => .stop
      | some old => (m ρ S2).bnd fun v S3 => match f old v.av with
        | none => .stop
        | some z => match subSet x.av y.av (.int z) S3 with
          | some S5 => .ok (.nx ρ) S5
          | none => .stop) :=
  ps_imp (ps_augS ho hi (get_data hu) h hp (set_data hu) ha) fun D σ H ⟨R, ρ, S, he, W, h⟩ =>
    rdE_imp (rd_bndS he W h) fun v H1 ⟨R1, S1, x, E1, W1, rx, he1, h1⟩ =>
      rdE_imp (rd_bndS he1 W1 h1) fun v2 H2 ⟨R2, S2, x2, E2, W2, rx2, he2, h2⟩ => by
        split at h2
        · exact h2.elim
        · rename_i old eo
          refine ⟨R2, S2, _, _, old, W2, rx.mono E2.le, rx2, eo, fun vo ro => rdE_imp (rd_bndS he2 W2 h2) fun v3 H3 ⟨R3, S3, x3, E3, W3, rx3, he3, h3⟩ => ?_⟩
          split at h3
          · exact h3.elim
          · rename_i z ez
            split at h3
            · rename_i S5 e5
              exact ⟨R3, _, _, z, ro.mono E3.le, rx3, ez, R3, S3, _, _, _, S5, W3, (rx.mono E2.le).mono E3.le, rx2.mono E3.le, .int z, e5, fun R4 H4 E4 W4 => h3 R4 H4 σ E4 W4 (he3.mono E4.le)⟩
            · exact h3.elim
end
end DL

set_option Elab.async false
set_option linter.all false
set_option maxRecDepth 100000
set_option maxHeartbeats 2000000
namespace DL
open PySem PySem.Spec PyProof.Rows L2
section
variable {K : PySem.W.Frag} {w : World} {xw : XWish} {σ : L2.St} {H : Hp} {Q : VK} {mi mc me mi1 : Env → Store → Res RV} {own own1 : List Nat} {tg tg1 : Tg}
theorem stays_start {S : Store} {a : AV} {xs : List AV} {wt : Option (Nat × AO)} (e2 : itemsOf S a = some (xs, wt)) : stays wt S := by
  unfold itemsOf at e2
  split at e2
  all_goals first | (cases e2; done) | (cases e2; exact trivial) | skip
  · split at e2
    · rename_i e3; cases e2; exact e3
    · cases e2; exact trivial
    · cases e2; exact trivial
    · cases e2
theorem wipe_back {R : Rp} {ρ ρ' : Env} {σ σ2 : L2.St} {own : List Nat} {t : Tg} {x : AV} (hv : ∀ j ∈ t.vars, j ∈ own) (he : RepE K w R (wipeE ρ own) (wipe σ own)) (he2 : RepE K w R ρ' σ2) (eb : bindT t x (wipeE ρ own) = some ρ') (kj : ∀ j, j ∉ t.vars → σ2[j]? = (wipe σ own)[j]?) : wipe σ2 own = wipe σ own := by
  refine wipe_eq ?_ fun j hj => kj j fun z => hj (hv j z)
  have h1 := he2.len
  have h2 := he.len
  rw [wipe_length] at h2
  have hb := bindT_length _ _ _ _ eb
  omega
open Classical in
/-- one turn of the inner loop -/
theorem comp_turn1 {R R0 : Rp} {S S' : Store} {H H0 : Hp} {D : Addr} {acc acc' : List AV} {ρ' : Env} {σ2 : L2.St} {Nx : Hp → Prop}
    (he : RepE K w R ρ' σ2) (W : Wd K w R S H) (ha : Acc K w R H D acc) (E0 : Ext R0 H0 R H) (h0 : H0 D = none)
    (hf : ((mc ρ' S).bnd fun b S3 => match b.bool? with
      | some true => (me ρ' S3).bnd fun y S4 => if acc.length < line then .ok (acc ++ [y.av]) S4 else .stop
      | some false => .ok acc S3
      | none => .stop) = .ok acc' S')
    (k : ∀ R' H', Ext R0 H0 R' H' → R.le R' → Wd K w R' S' H' → Acc K w R' H' D acc' → Nx H') :
    rdT K w noX mc σ2 H fun b H3 => if b = true then rdE K w noX me σ2 H3 fun y H4 => ∃ acc, H4 D = some (.lst acc) ∧ acc.length < sizeLine ∧ Nx (upd H4 D (.lst (acc ++ [y]))) else Nx H3 := by
  refine ⟨R, ρ', S, he, W, ?_⟩
  cases e1 : mc ρ' S with
  | ok b S3 =>
    rw [e1] at hf
    have hf' : (match b.bool? with
      | some true => (me ρ' S3).bnd fun y S4 => if acc.length < line then .ok (acc ++ [y.av]) S4 else .stop
      | some false => .ok acc S3
      | none => .stop) = .ok acc' S' := hf
    split at hf'
    · rename_i eb
      refine ⟨true, eb, fun R1 H1 E1 W1 => iteT ⟨R1, ρ', S3, he.mono E1.le, W1, ?_⟩⟩
      cases e2 : me ρ' S3 with
      | ok y S4 =>
        rw [e2, bnd_ok] at hf'
        by_cases hz : acc.length < line
        · rw [if_pos hz] at hf'
          cases hf'
          intro R2 H2 v E2 W2 x
          obtain ⟨R3, le3, W3, E3, x3⟩ := x.freeze W2 E2
          have a3 := (ha.ext E1).ext E3
          obtain ⟨vs, ed, rv⟩ := a3.ex
          refine ⟨vs, ed, by rw [← rv.length]; exact hz, k R3 _ ((E0.trans (E1.trans E3)).limbo h0) (E1.trans E3).le (W3.limbo a3.I a3.ne) ⟨⟨_, upd_same, rv.append (.cons x3 .nil)⟩, a3.I, a3.ne⟩⟩
        · rw [if_neg hz] at hf'; cases hf'
      | exc c S4 => rw [e2] at hf'; cases hf'
      | stop => rw [e2] at hf'; cases hf'
    · rename_i eb
      cases hf'
      exact ⟨false, eb, fun R1 H1 E1 W1 => iteF (k R1 H1 (E0.trans E1) E1.le W1 (ha.ext E1))⟩
    · cases hf'
  | exc c S3 => rw [e1] at hf; cases hf
  | stop => rw [e1] at hf; cases hf
open Classical in
/-- the inner loop of a comprehension with two fors -/
theorem comp_in {R0 R : Rp} {S S' : Store} {H0 H : Hp} {D : Addr} {acc acc' : List AV} {ρ : Env} {Nx : Hp → Prop} (hv : ∀ j ∈ tg1.vars, j ∈ own1)
    (he : RepE K w R ρ σ) (W : Wd K w R S H) (ha : Acc K w R H D acc) (E0 : Ext R0 H0 R H) (h0 : H0 D = none)
    (hf : ((mi1 ρ S).bnd fun r1 S3 => match itemsOf S3 r1.av with
      | none => .stop
      | some (xs1, w1) => loopA (compF1 own1 tg1 mc me ρ) w1 xs1 acc S3) = .ok acc' S')
    (k : ∀ R' H', Ext R0 H0 R' H' → Wd K w R' S' H' → Acc K w R' H' D acc' → Nx H') :
    rdI K w noX mi1 σ H fun J1 H4 => ∃ W1 : Nat → Nat → Hp → Prop, (∃ m, W1 0 m H4) ∧ ∀ j k H, W1 j k H →
      (J1.stop j H ∧ Nx H) ∨ (J1.go j H ∧ ∃ Nx1 : Hp → Prop, (∀ H', Nx1 H' → ∃ k', k' < k ∧ W1 (j + 1) k' H') ∧ ∀ x H', J1.yld j H x H' → gT K w tg1 x (wipe σ own1) H' fun σ3 H5 => wipe σ3 own1 = wipe σ own1 ∧ rdT K w noX mc σ3 H5 fun b H6 =>
        if b = true then rdE K w noX me σ3 H6 fun y H7 => ∃ acc, H7 D = some (.lst acc) ∧ acc.length < sizeLine ∧ Nx1 (upd H7 D (.lst (acc ++ [y]))) else Nx1 H6) := by
  refine ⟨R, ρ, S, he, W, ?_⟩
  cases e1 : mi1 ρ S with
  | exc c S1 => rw [e1] at hf; cases hf
  | stop => rw [e1] at hf; cases hf
  | ok r S1 =>
    rw [e1] at hf
    have h' : (match itemsOf S1 r.av with
      | none => Res.stop
      | some (xs1, w1) => loopA (compF1 own1 tg1 mc me ρ) w1 xs1 acc S1) = .ok acc' S' := hf
    show (match itemsOf S1 r.av with
      | none => False
      | some (xs, wt) => ∀ R' H' J, Ext R H R' H' → Wd K w R' S1 H' → Walks K w J R' H' xs wt → _)
    split at h'
    · cases h'
    · rename_i xs wt e2
      intro R1 H1 J E1 W1 hw
      obtain ⟨hz, hw⟩ := hw
      refine ⟨fun i m Hc => m = xs.length - i ∧ i ≤ xs.length ∧ ∃ R2 S2 acc2, Ext R0 H0 R2 Hc ∧ R1.le R2 ∧ Wd K w R2 S2 Hc ∧ stays wt S2 ∧ Acc K w R2 Hc D acc2 ∧
        loopA (compF1 own1 tg1 mc me ρ) wt (xs.drop i) acc2 S2 = .ok acc' S', ⟨xs.length, by simp, Nat.zero_le _, R1, S1, acc, E0.trans E1, .refl R1, W1, stays_start e2, ha.ext E1, h'⟩, ?_⟩
      rintro i m Hc ⟨rfl, hi, R2, S2, acc2, E2, le2, W2, st, ha2, hp⟩
      obtain ⟨g1, g2⟩ := hw i R2 S2 Hc le2 W2 st
      by_cases hlt : i < xs.length
      · have hx : xs[i]? = some xs[i] := List.getElem?_eq_getElem hlt
        obtain ⟨go, yl⟩ := g1 _ hx
        rw [List.drop_eq_getElem_cons hlt] at hp
        have hp' : (match compF1 own1 tg1 mc me ρ xs[i] acc2 S2 with
          | .ok acc' S' => if stays wt S' then loopA (compF1 own1 tg1 mc me ρ) wt (xs.drop (i + 1)) acc' S' else .stop
          | _ => .stop : Res (List AV)) = .ok acc' S' := hp
        cases ef : compF1 own1 tg1 mc me ρ xs[i] acc2 S2 with
        | exc c S3 => rw [ef] at hp'; cases hp'
        | stop => rw [ef] at hp'; cases hp'
        | ok acc3 S3 =>
          rw [ef] at hp'
          have hp2 : (if stays wt S3 then loopA (compF1 own1 tg1 mc me ρ) wt (xs.drop (i + 1)) acc3 S3 else .stop) = .ok acc' S' := hp'
          by_cases hst : stays wt S3
          · rw [if_pos hst] at hp2
            unfold compF1 at ef
            split at ef
            · cases ef
            · rename_i ρ' eb
              refine .inr ⟨go, fun Hn => ∃ R3, Ext R0 H0 R3 Hn ∧ R1.le R3 ∧ Wd K w R3 S3 Hn ∧ Acc K w R3 Hn D acc3, fun Hn ⟨R3, E3, le3, W3, a3⟩ => ⟨xs.length - (i + 1), by omega, rfl, by omega, R3, S3, acc3, E3, le3, W3, hst, a3, hp2⟩, fun v H3 hy => ?_⟩
              obtain ⟨R3, E3, W3, rx⟩ := yl v H3 hy
              have he3 : RepE K w R3 (wipeE ρ own1) (wipe σ own1) := ((he.wipe own1).mono E1.le).mono (Rp.le.trans le2 E3.le)
              refine ⟨R3, S2, _, _, ρ', he3, W3, rx, eb, fun σ2 he2 kj => ⟨wipe_back hv he3 he2 eb kj, ?_⟩⟩
              exact comp_turn1 he2 W3 (ha2.ext E3) (E2.trans E3) h0 ef fun R4 H4 E4 le4 W4 a4 => ⟨R4, E4, Rp.le.trans le2 (Rp.le.trans E3.le le4), W4, a4⟩
          · rw [if_neg hst] at hp2; cases hp2
      · have hi' : xs.length = i := by omega
        subst hi'
        rw [List.drop_length] at hp
        have hp' : (Res.ok acc2 S2 : Res (List AV)) = .ok acc' S' := hp
        cases hp'
        exact .inl ⟨g2 rfl, k R2 Hc E2 W2 ha2⟩
open Classical in
/-- a reading of a comprehension with two fors, the first without a test -/
theorem lc2_rd (hv : ∀ j ∈ tg.vars, j ∈ own) (hv1 : ∀ j ∈ tg1.vars, j ∈ own1) (h : rdE K w xw (compM2 own own1 tg mi tg1 mi1 mc me) σ H Q) :
    tLc2 (rdI K w xw mi) (gT K w tg) tYes (rdI K w noX mi1) (gT K w tg1) (rdT K w noX mc) (rdE K w noX me) own own1 σ H Q := by
  obtain ⟨R, ρ, S, he, W, h⟩ := h
  refine ⟨R, ρ, S, he, W, ?_⟩
  unfold compM2 at h
  cases e1 : mi ρ S with
  | exc c S1 => rw [e1] at h; exact h
  | stop => rw [e1] at h; exact h
  | ok r S1 =>
    rw [e1] at h
    have h' : Post K w xw R H (match itemsOf S1 r.av with
      | none => .stop
      | some (xs, wt) => (loopA (compF2 own own1 tg tg1 mi1 mc me ρ) wt xs [] S1).bnd fun ys S8 => if ys.length ≤ line then .ok (.l ys) S8 else .stop) Q := h
    show (match itemsOf S1 r.av with
      | none => False
      | some (xs, wt) => ∀ R' H' J, Ext R H R' H' → Wd K w R' S1 H' → Walks K w J R' H' xs wt → _)
    split at h'
    · exact h'.elim
    · rename_i xs wt e2
      intro R1 H1 J E1 W1 hw D hD
      obtain ⟨hz, hw⟩ := hw
      refine ⟨fun i m Hc => m = xs.length - i ∧ i ≤ xs.length ∧ ∃ R2 S2 acc, Ext R1 H1 R2 Hc ∧ Wd K w R2 S2 Hc ∧ stays wt S2 ∧ Acc K w R2 Hc D acc ∧
        Post K w xw R1 H1 ((loopA (compF2 own own1 tg tg1 mi1 mc me ρ) wt (xs.drop i) acc S2).bnd fun ys S8 => if ys.length ≤ line then .ok (.l ys) S8 else .stop) Q, ⟨xs.length, by simp, Nat.zero_le _, R1, S1, [], (Ext.refl R1 H1).limbo hD, W1.limbo (W1.none_of hD) (W1.ne_of hD), stays_start e2, ⟨⟨[], upd_same, .nil⟩, W1.none_of hD, W1.ne_of hD⟩, Post.shift E1 h'⟩, ?_⟩
      rintro i m Hc ⟨rfl, hi, R2, S2, acc, E2, W2, st, ha, hp⟩
      obtain ⟨g1, g2⟩ := hw i R2 S2 Hc E2.le W2 st
      by_cases hlt : i < xs.length
      · have hx : xs[i]? = some xs[i] := List.getElem?_eq_getElem hlt
        obtain ⟨go, yl⟩ := g1 _ hx
        rw [List.drop_eq_getElem_cons hlt] at hp
        have hp' : Post K w xw R1 H1 ((match compF2 own own1 tg tg1 mi1 mc me ρ xs[i] acc S2 with
          | .ok acc' S' => if stays wt S' then loopA (compF2 own own1 tg tg1 mi1 mc me ρ) wt (xs.drop (i + 1)) acc' S' else .stop
          | _ => .stop : Res (List AV)).bnd fun ys S8 => if ys.length ≤ line then .ok (.l ys) S8 else .stop) Q := hp
        cases ef : compF2 own own1 tg tg1 mi1 mc me ρ xs[i] acc S2 with
        | exc c S3 => rw [ef] at hp'; exact hp'.elim
        | stop => rw [ef] at hp'; exact hp'.elim
        | ok acc' S' =>
          rw [ef] at hp'
          have hp2 : Post K w xw R1 H1 ((if stays wt S' then loopA (compF2 own own1 tg tg1 mi1 mc me ρ) wt (xs.drop (i + 1)) acc' S' else .stop).bnd fun ys S8 => if ys.length ≤ line then .ok (.l ys) S8 else .stop) Q := hp'
          by_cases hst : stays wt S'
          · rw [if_pos hst] at hp2
            unfold compF2 at ef
            split at ef
            · cases ef
            · rename_i ρ' eb
              refine .inr ⟨go, fun Hn => ∃ R3, Ext R1 H1 R3 Hn ∧ Wd K w R3 S' Hn ∧ Acc K w R3 Hn D acc', fun Hn ⟨R3, E3, W3, a3⟩ => ⟨xs.length - (i + 1), by omega, rfl, by omega, R3, S', acc', E3, W3, hst, a3, hp2⟩, fun v H3 hy => ?_⟩
              obtain ⟨R3, E3, W3, rx⟩ := yl v H3 hy
              have he3 : RepE K w R3 (wipeE ρ own) (wipe σ own) := (he.wipe own).mono ((E1.trans E2).trans E3).le
              refine ⟨R3, S2, _, _, ρ', he3, W3, rx, eb, fun σ2 he2 kj => ⟨wipe_back hv he3 he2 eb kj, ?_⟩⟩
              unfold tYes
              dsimp only
              rw [if_pos rfl]
              exact (comp_in hv1 he2 W3 (ha.ext E3) (E2.trans E3) hD ef fun R4 H4 E4 W4 a4 => ⟨R4, E4, W4, a4⟩)
          · rw [if_neg hst] at hp2; exact hp2.elim
      · have hi' : xs.length = i := by omega
        subst hi'
        refine .inl ⟨g2 rfl, ?_⟩
        rw [List.drop_length] at hp
        have hp' : Post K w xw R1 H1 (if acc.length ≤ line then .ok (.l acc) S2 else .stop) Q := hp
        by_cases hzz : acc.length ≤ line
        · rw [if_pos hzz] at hp'
          obtain ⟨vs, ed, rv⟩ := ha.ex
          exact hp' R2 Hc _ E2 W2 ⟨D, vs, rfl, ed, hD, ha.I, ha.ne, hzz, rv⟩
        · rw [if_neg hzz] at hp'; exact hp'.elim
end
section
variable {X : Cx} {xw : XWish} {mi mi1 mc me : Env → Store → Res RV} {t t1 : Tg}
theorem s_lc {elt tg iter : Expr} {ifs : List Expr} {scope : Scope} {own : List (Str × Nat)} {pos : Pos} (hc : X.calm = true) (hN : X.N.Nodup) (hi : PI X tg iter (RI X xw mi)) (ok : BlkOk X.N X.env.scope scope own) (hv : ∀ j ∈ t.vars, j ∈ own.map (·.2))
    (hg : ∀ (s : Shared) (H : Hp) (C : Addr) (cl : List (Str × Addr)) (fp : List Addr), PG (X.blk s H scope (compEnvC scope cl C X.env) fp) tg (gT X.K X.w t)) (ht : ∀ (s : Shared) (H : Hp) (C : Addr) (cl : List (Str × Addr)) (fp : List Addr), PTs (X.blk s H scope (compEnvC scope cl C X.env) fp) ifs (rdT X.K X.w noX mc))
    (he : ∀ (s : Shared) (H : Hp) (C : Addr) (cl : List (Str × Addr)) (fp : List Addr), PE (X.blk s H scope (compEnvC scope cl C X.env) fp) elt (rdE X.K X.w noX me)) (hs : ∀ x, foldedSetIterable iter X.env x = pure x) :
    PE X (.ListComp elt [⟨tg, iter, ifs, 0⟩] scope pos) (RE X xw (compM (own.map (·.2)) t mi mc me)) :=
  pe_imp (pe_lc hc hN hi ok hg ht he hs) fun σ H Q h => lc_rd hv h
theorem st_lc {i : Nat} {y : Str} {py : Pos} {elt tg iter : Expr} {ifs : List Expr} {scope : Scope} {own : List (Str × Nat)} {pos spos : Pos} (hc : X.calm = true) (hN : X.N.Nodup) (hy : X.N[i]? = some y) (hyl : X.env.scope.names.lookup y = some .local)
    (hsw : swapsWith (.ListComp elt [⟨tg, iter, ifs, 0⟩] scope pos) (some (.Name y py)) spos.line X.env = pure true) (hi : PI X tg iter (RI X xw mi)) (ok : BlkOk X.N X.env.scope scope own) (hv : ∀ j ∈ t.vars, j ∈ own.map (·.2))
    (hg : ∀ (s : Shared) (H : Hp) (C : Addr) (cl : List (Str × Addr)) (fp : List Addr), PG (X.blk s H scope (compEnvC scope cl C X.env) fp) tg (gT X.K X.w t)) (ht : ∀ (s : Shared) (H : Hp) (C : Addr) (cl : List (Str × Addr)) (fp : List Addr), PTs (X.blk s H scope (compEnvC scope cl C X.env) fp) ifs (rdT X.K X.w noX mc))
    (he : ∀ (s : Shared) (H : Hp) (C : Addr) (cl : List (Str × Addr)) (fp : List Addr), PE (X.blk s H scope (compEnvC scope cl C X.env) fp) elt (rdE X.K X.w noX me)) (hs : ∀ x, foldedSetIterable iter X.env x = pure x) :
    PS X (.Assign [.Name y py] (.ListComp elt [⟨tg, iter, ifs, 0⟩] scope pos) spos) (RS X xw (asgM (.var i) (compM (own.map (·.2)) t mi mc me))) :=
  ps_imp (ps_setLc hc hN hy hyl hsw hi ok hg ht he hs) fun D σ H ⟨R, ρ, S, he, W, h⟩ => lc_rd hv (rdE_imp (asg_rd he W h) fun v H1 q => gName_of q)
theorem s_lc2 {elt tg iter tg1 iter1 : Expr} {ifs1 : List Expr} {scope : Scope} {own : List (Str × Nat)} {vs1 : List Nat} {pos : Pos} (hc : X.calm = true) (hN : X.N.Nodup) (hi : PI X tg iter (RI X xw mi)) (ok : BlkOk X.N X.env.scope scope own) (hv0 : ∀ i ∈ vs1, i ∈ own.map (·.2)) (hv : ∀ j ∈ t.vars, j ∈ own.map (·.2)) (hv1 : ∀ j ∈ t1.vars, j ∈ vs1)
    (hg : ∀ (s : Shared) (H : Hp) (C : Addr) (cl : List (Str × Addr)) (fp : List Addr), PG (X.blk s H scope (compEnvC scope cl C X.env) fp) tg (gT X.K X.w t))
    (hi1 : ∀ (s : Shared) (H : Hp) (C : Addr) (cl : List (Str × Addr)) (fp : List Addr), PI (X.blk s H scope (compEnvC scope cl C X.env) fp) tg1 iter1 (rdI X.K X.w noX mi1))
    (hg1 : ∀ (s : Shared) (H : Hp) (C : Addr) (cl : List (Str × Addr)) (fp : List Addr), PG (X.blk s H scope (compEnvC scope cl C X.env) fp) tg1 (gT X.K X.w t1)) (ht1 : ∀ (s : Shared) (H : Hp) (C : Addr) (cl : List (Str × Addr)) (fp : List Addr), PTs (X.blk s H scope (compEnvC scope cl C X.env) fp) ifs1 (rdT X.K X.w noX mc))
    (he : ∀ (s : Shared) (H : Hp) (C : Addr) (cl : List (Str × Addr)) (fp : List Addr), PE (X.blk s H scope (compEnvC scope cl C X.env) fp) elt (rdE X.K X.w noX me)) (hs : ∀ x, foldedSetIterable iter X.env x = pure x) (hs1 : ∀ env x, foldedSetIterable iter1 env x = pure x) :
    PE X (.ListComp elt [⟨tg, iter, [], 0⟩, ⟨tg1, iter1, ifs1, 0⟩] scope pos) (RE X xw (compM2 (own.map (·.2)) vs1 t mi t1 mi1 mc me)) :=
  pe_imp (pe_lc2 hc hN hi ok hv0 hg (fun _ _ _ _ _ => pts_nil) hi1 hg1 ht1 he hs hs1) fun σ H Q h => lc2_rd hv hv1 h
theorem st_lc2 {i : Nat} {y : Str} {py : Pos} {elt tg iter tg1 iter1 : Expr} {ifs1 : List Expr} {scope : Scope} {own : List (Str × Nat)} {vs1 : List Nat} {pos spos : Pos} (hc : X.calm = true) (hN : X.N.Nodup) (hy : X.N[i]? = some y) (hyl : X.env.scope.names.lookup y = some .local)
    (hsw : swapsWith (.ListComp elt [⟨tg, iter, [], 0⟩, ⟨tg1, iter1, ifs1, 0⟩] scope pos) (some (.Name y py)) spos.line X.env = pure true) (hi : PI X tg iter (RI X xw mi)) (ok : BlkOk X.N X.env.scope scope own) (hv0 : ∀ i ∈ vs1, i ∈ own.map (·.2)) (hv : ∀ j ∈ t.vars, j ∈ own.map (·.2)) (hv1 : ∀ j ∈ t1.vars, j ∈ vs1)
    (hg : ∀ (s : Shared) (H : Hp) (C : Addr) (cl : List (Str × Addr)) (fp : List Addr), PG (X.blk s H scope (compEnvC scope cl C X.env) fp) tg (gT X.K X.w t))
    (hi1 : ∀ (s : Shared) (H : Hp) (C : Addr) (cl : List (Str × Addr)) (fp : List Addr), PI (X.blk s H scope (compEnvC scope cl C X.env) fp) tg1 iter1 (rdI X.K X.w noX mi1))
    (hg1 : ∀ (s : Shared) (H : Hp) (C : Addr) (cl : List (Str × Addr)) (fp : List Addr), PG (X.blk s H scope (compEnvC scope cl C X.env) fp) tg1 (gT X.K X.w t1)) (ht1 : ∀ (s : Shared) (H : Hp) (C : Addr) (cl : List (Str × Addr)) (fp : List Addr), PTs (X.blk s H scope (compEnvC scope cl C X.env) fp) ifs1 (rdT X.K X.w noX mc))
    (he : ∀ (s : Shared) (H : Hp) (C : Addr) (cl : List (Str × Addr)) (fp : List Addr), PE (X.blk s H scope (compEnvC scope cl C X.env) fp) elt (rdE X.K X.w noX me)) (hs : ∀ x, foldedSetIterable iter X.env x = pure x) (hs1 : ∀ env x, foldedSetIterable iter1 env x = pure x) :
    PS X (.Assign [.Name y py] (.ListComp elt [⟨tg, iter, [], 0⟩, ⟨tg1, iter1, ifs1, 0⟩] scope pos) spos) (RS X xw (asgM (.var i) (compM2 (own.map (·.2)) vs1 t mi t1 mi1 mc me))) :=
  ps_imp (ps_setLc2 hc hN hy hyl hsw hi ok hv0 hg (fun _ _ _ _ _ => pts_nil) hi1 hg1 ht1 he hs hs1) fun D σ H ⟨R, ρ, S, he, W, h⟩ => lc2_rd hv hv1 (rdE_imp (asg_rd he W h) fun v H1 q => gName_of q)
/-- no test -/
theorem pts_none {m : Env → Store → Res RV} (hm : ∀ ρ S, m ρ S = .ok (.v (.bl true)) S) : PTs X [] (rdT X.K X.w xw m) :=
  ⟨fun pins s σ H Q I ⟨R, ρ, S, he, W, h⟩ => by
    rw [hm] at h
    obtain ⟨b, e, h⟩ := h
    cases e
    exact pts_nil.run pins s σ H Q I (h R H (.refl R H) W)⟩
/-- no exception is let out: any wish takes it -/
theorem takes_no {cls : Nat → Value} : Takes X (clsW cls noX) := fun u s' ⟨a, B, sI, pins, σ, H, c, d, e, I, nb, up, sky, na, os, ag, k, _, _, z⟩ => z.elim
end
end DL

set_option Elab.async false
set_option linter.all false
set_option maxRecDepth 100000
set_option maxHeartbeats 2000000
namespace DL
open PySem PySem.Spec PyProof.Rows L2
/-! ### a def's end -/
section
variable {K : PySem.W.Frag} {w : World} {R R' R2 : Rp} {S S' : Store} {H H' : Hp}
mutual
theorem keyT_mapRef (f : Nat → Option AV) : ∀ (a a' : AV) (k : NestedKey), a.keyT = some k → a.mapRef f = some a' → a' = a
  | .non, _, _, _, h => by cases h; rfl
  | .bl _, _, _, _, h => by cases h; rfl
  | .int _, _, _, _, h => by cases h; rfl
  | .str _, _, _, _, h => by cases h; rfl
  | .tup xs, a', k, h1, h => by
    have h1' : (AV.keyTs xs).map NestedKey.tup = some k := by simpa [AV.keyT] using h1
    obtain ⟨ks, e1, _⟩ := Option.map_eq_some_iff.mp h1'
    have h' : (AV.mapRefs f xs).map AV.tup = some a' := by simpa [AV.mapRef] using h
    obtain ⟨ys, e2, rfl⟩ := Option.map_eq_some_iff.mp h'
    rw [keyTs_mapRefs f xs ys ks e1 e2]
  | .lst _, _, _, h1, _ => by simp [AV.keyT] at h1
  | .dct _, _, _, h1, _ => by simp [AV.keyT] at h1
  | .ref _, _, _, h1, _ => by simp [AV.keyT] at h1
  | .gl _, _, _, h1, _ => by simp [AV.keyT] at h1
  | .scr _, _, _, h1, _ => by simp [AV.keyT] at h1
theorem keyTs_mapRefs (f : Nat → Option AV) : ∀ (xs ys : List AV) (ks : List NestedKey), AV.keyTs xs = some ks → AV.mapRefs f xs = some ys → ys = xs
  | [], _, _, _, h => by cases h; rfl
  | x :: xs, ys, ks, h1, h => by
    have h1' : (x.keyT.bind fun k => (AV.keyTs xs).map fun ks => k :: ks) = some ks := by simpa [AV.keyTs] using h1
    obtain ⟨k, e1, e2⟩ := bind_some h1'
    obtain ⟨ks', e3, _⟩ := Option.map_eq_some_iff.mp e2
    have h' : ((x.mapRef f).bind fun y => (AV.mapRefs f xs).map fun ys => y :: ys) = some ys := by simpa [AV.mapRefs] using h
    obtain ⟨y, f1, f2⟩ := bind_some h'
    obtain ⟨ys', f3, rfl⟩ := Option.map_eq_some_iff.mp f2
    rw [keyT_mapRef f x y k e1 f1, keyTs_mapRefs f xs ys' ks' e3 f3]
end
theorem mapRefs_length (f : Nat → Option AV) : ∀ (xs ys : List AV), AV.mapRefs f xs = some ys → ys.length = xs.length
  | [], _, h => by cases h; rfl
  | x :: xs, ys, h => by
    have h' : ((x.mapRef f).bind fun y => (AV.mapRefs f xs).map fun ys => y :: ys) = some ys := by simpa [AV.mapRefs] using h
    obtain ⟨y, f1, f2⟩ := bind_some h'
    obtain ⟨ys', f3, rfl⟩ := Option.map_eq_some_iff.mp f2
    rw [List.length_cons, List.length_cons, mapRefs_length f xs ys' f3]
theorem keyOk_keys {kvs kvs' : List (AV × AV)} (h : kvs.map (·.1) = kvs'.map (·.1)) (k : AV) : keyOk kvs' k = keyOk kvs k := by
  have e : ∀ (g : AV → Bool) (l : List (AV × AV)), (l.all fun p => g p.1) = (l.map (·.1)).all g := fun g l => by rw [List.all_map]; rfl
  unfold keyOk
  rw [e AV.keyL, e AV.keyD, e AV.keyL, e AV.keyD, h]
mutual
/-- what holds no place from n on -/
theorem RepV.plain (hι : ∀ l, l < R2.n → R2.ι l = R.ι l) (hI : ∀ b o, R.I b = some o → R2.I b = some o) : ∀ {a : AV} {v : V}, RepV K w R a v → a.rb R2.n = true → RepV K w R2 a v
  | _, _, .non, _ => .non
  | _, _, .bl b, _ => .bl b
  | _, _, .int b, _ => .int b
  | _, _, .str b, _ => .str b
  | _, _, .tup e z r, h => .tup (hI _ _ e) z (RepVs.plain hι hI r (by simpa [AV.rb] using h))
  | _, _, .lst e z r, h => .lst (hI _ _ e) z (RepVs.plain hι hI r (by simpa [AV.rb] using h))
  | _, _, .scr e z r, h => .scr (sql_of e fun o q => hI _ _ q) z (RepVs.plain hι hI r (by simpa [AV.rb] using h))
  | _, _, .dct e z r, h => .dct (hI _ _ e) z (RepD.plain hι hI r (by simpa [AV.rb] using h))
  | _, _, .ref (l := l) z, h => by
    have hl : l < R2.n := by simpa [AV.rb] using h
    rw [← hι l hl]
    exact .ref hl
theorem RepVs.plain (hι : ∀ l, l < R2.n → R2.ι l = R.ι l) (hI : ∀ b o, R.I b = some o → R2.I b = some o) : ∀ {xs : List AV} {vs : List V}, RepVs K w R xs vs → AV.rbs R2.n xs = true → RepVs K w R2 xs vs
  | _, _, .nil, _ => .nil
  | _, _, .cons (x := x) (xs := xs) a b, h => by
    have h' : x.rb R2.n = true ∧ AV.rbs R2.n xs = true := by simpa [AV.rbs] using h
    exact .cons (RepV.plain hι hI a h'.1) (RepVs.plain hι hI b h'.2)
theorem RepD.plain (hι : ∀ l, l < R2.n → R2.ι l = R.ι l) (hI : ∀ b o, R.I b = some o → R2.I b = some o) : ∀ {kvs : List (AV × AV)} {es : List DictEntry}, RepD K w R kvs es → AV.rbd R2.n kvs = true → RepD K w R2 kvs es
  | _, _, .nil, _ => .nil
  | _, _, .cons (k := k) (v := v) (kvs := kvs) h1 h2 h3 h4 r1 e1 r2 e2 t, h => by
    have h' : (k.rb R2.n = true ∧ v.rb R2.n = true) ∧ AV.rbd R2.n kvs = true := by simpa [AV.rbd] using h
    exact .cons h1 h2 h3 h4 (RepV.plain hι hI r1 h'.1.1) e1 (RepV.plain hι hI r2 h'.1.2) e2 (RepD.plain hι hI t h'.2)
end
mutual
theorem RepV.mapRef {f : Nat → Option AV} (hI : ∀ b o, R.I b = some o → R2.I b = some o) (hf : ∀ l a, l < R.n → f l = some a → RepV K w R2 a (.ref (R.ι l))) : ∀ {a a' : AV} {v : V}, RepV K w R a v → a.mapRef f = some a' → RepV K w R2 a' v
  | _, _, _, .non, h => by cases h; exact .non
  | _, _, _, .bl b, h => by cases h; exact .bl b
  | _, _, _, .int b, h => by cases h; exact .int b
  | _, _, _, .str b, h => by cases h; exact .str b
  | _, a', _, .tup (xs := xs) e z r, h => by
    have h' : (AV.mapRefs f xs).map AV.tup = some a' := by simpa [AV.mapRef] using h
    obtain ⟨ys, e2, rfl⟩ := Option.map_eq_some_iff.mp h'
    exact .tup (hI _ _ e) (by rw [mapRefs_length f xs ys e2]; exact z) (RepVs.mapRefs hI hf r e2)
  | _, a', _, .lst (xs := xs) e z r, h => by
    have h' : (AV.mapRefs f xs).map AV.lst = some a' := by simpa [AV.mapRef] using h
    obtain ⟨ys, e2, rfl⟩ := Option.map_eq_some_iff.mp h'
    exact .lst (hI _ _ e) (by rw [mapRefs_length f xs ys e2]; exact z) (RepVs.mapRefs hI hf r e2)
  | _, a', _, .scr (xs := xs) e z r, h => by
    have h' : (if AV.rbs 0 xs = true then some (AV.scr xs) else none) = some a' := by simpa [AV.mapRef] using h
    split at h'
    · rename_i hb
      cases h'
      exact .scr (sql_of e fun o q => hI _ _ q) z ((RepVs.plain (R := R) (fun l hl => absurd hl (Nat.not_lt_zero l)) (R2 := ⟨R2.ι, 0, R2.I⟩) hI r hb).mono (R := ⟨R2.ι, 0, R2.I⟩) (R' := R2) ⟨Nat.zero_le _, fun l hl => absurd hl (Nat.not_lt_zero l), fun _ _ h => h⟩)
    · cases h'
  | _, a', _, .dct (kvs := kvs) e z r, h => by
    have h' : (AV.mapRefd f kvs).map AV.dct = some a' := by simpa [AV.mapRef] using h
    obtain ⟨ys, e2, rfl⟩ := Option.map_eq_some_iff.mp h'
    obtain ⟨q, k⟩ := RepD.mapRefd hI hf r e2
    have hl : ys.length = kvs.length := by have := congrArg List.length k; simpa using this.symm
    exact .dct (hI _ _ e) (by rw [hl]; exact z) q
  | _, a', _, .ref z, h => hf _ _ z (by simpa [AV.mapRef] using h)
theorem RepVs.mapRefs {f : Nat → Option AV} (hI : ∀ b o, R.I b = some o → R2.I b = some o) (hf : ∀ l a, l < R.n → f l = some a → RepV K w R2 a (.ref (R.ι l))) : ∀ {xs ys : List AV} {vs : List V}, RepVs K w R xs vs → AV.mapRefs f xs = some ys → RepVs K w R2 ys vs
  | _, _, _, .nil, h => by cases h; exact .nil
  | _, ys, _, .cons (x := x) (xs := xs) a b, h => by
    have h' : ((x.mapRef f).bind fun y => (AV.mapRefs f xs).map fun ys => y :: ys) = some ys := by simpa [AV.mapRefs] using h
    obtain ⟨y, f1, f2⟩ := bind_some h'
    obtain ⟨ys', f3, rfl⟩ := Option.map_eq_some_iff.mp f2
    exact .cons (RepV.mapRef hI hf a f1) (RepVs.mapRefs hI hf b f3)
theorem RepD.mapRefd {f : Nat → Option AV} (hI : ∀ b o, R.I b = some o → R2.I b = some o) (hf : ∀ l a, l < R.n → f l = some a → RepV K w R2 a (.ref (R.ι l))) : ∀ {kvs ys : List (AV × AV)} {es : List DictEntry}, RepD K w R kvs es → AV.mapRefd f kvs = some ys → RepD K w R2 ys es ∧ kvs.map (·.1) = ys.map (·.1)
  | _, _, _, .nil, h => by cases h; exact ⟨.nil, rfl⟩
  | _, ys, _, .cons (k := k) (v := v) (kvs := kvs) h1 h2 h3 h4 r1 e1 r2 e2 t, h => by
    have h' : ((k.mapRef f).bind fun k' => (v.mapRef f).bind fun v' => (AV.mapRefd f kvs).map fun ys => (k', v') :: ys) = some ys := by simpa [AV.mapRefd] using h
    obtain ⟨k', f1, f2⟩ := bind_some h'
    obtain ⟨v', f3, f4⟩ := bind_some f2
    obtain ⟨ys', f5, rfl⟩ := Option.map_eq_some_iff.mp f4
    have ek := keyT_mapRef f k k' _ h3 f1
    subst ek
    obtain ⟨q, hk⟩ := RepD.mapRefd hI hf t f5
    refine ⟨.cons (by rw [keyOk_keys hk]; exact h1) (fun p hp => ?_) h3 h4 (RepV.mapRef hI hf r1 f1) e1 (RepV.mapRef hI hf r2 f3) e2 q, by simp [hk]⟩
    have : p.1 ∈ kvs.map (·.1) := by rw [hk]; exact List.mem_map_of_mem hp
    obtain ⟨p', hp', e⟩ := List.mem_map.mp this
    rw [← e]
    exact h2 p' hp'
end
mutual
theorem RepV.rb : ∀ {a : AV} {v : V}, RepV K w R a v → a.rb R.n = true
  | _, _, .non => by simp [AV.rb]
  | _, _, .bl b => by simp [AV.rb]
  | _, _, .int b => by simp [AV.rb]
  | _, _, .str b => by simp [AV.rb]
  | _, _, .tup e z r => by simpa [AV.rb] using RepVs.rb r
  | _, _, .lst e z r => by simpa [AV.rb] using RepVs.rb r
  | _, _, .scr e z r => by simpa [AV.rb] using RepVs.rb r
  | _, _, .dct e z r => by simpa [AV.rb] using RepD.rb r
  | _, _, .ref z => by simpa [AV.rb] using z
theorem RepVs.rb : ∀ {xs : List AV} {vs : List V}, RepVs K w R xs vs → AV.rbs R.n xs = true
  | _, _, .nil => by simp [AV.rbs]
  | _, _, .cons a b => by simpa [AV.rbs] using ⟨RepV.rb a, RepVs.rb b⟩
theorem RepD.rb : ∀ {kvs : List (AV × AV)} {es : List DictEntry}, RepD K w R kvs es → AV.rbd R.n kvs = true
  | _, _, .nil => by simp [AV.rbd]
  | _, _, .cons h1 h2 h3 h4 r1 e1 r2 e2 t => by simpa [AV.rbd] using ⟨⟨RepV.rb r1, RepV.rb r2⟩, RepD.rb t⟩
end
theorem RepO.rb {b : Addr} : ∀ {o : AO}, RepO K w R H b o → o.rb R.n = true
  | .lst xs, ⟨vs, e, z, r⟩ => r.rb
  | .dct kvs, ⟨es, ep, e, z, r⟩ => r.rb
  | .ins _ _, x => x.elim
  | .fz a, x => RepV.rb x
theorem RepO.plain (hι : ∀ l, l < R2.n → R2.ι l = R.ι l) (hI : ∀ b o, R.I b = some o → R2.I b = some o) {b : Addr} : ∀ {o : AO}, RepO K w R H b o → o.rb R2.n = true → RepO K w R2 H b o
  | .lst xs, ⟨vs, e, z, r⟩, h => ⟨vs, e, z, r.plain hι hI h⟩
  | .dct kvs, ⟨es, ep, e, z, r⟩, h => ⟨es, ep, e, z, r.plain hι hI h⟩
  | .ins _ _, x, _ => x.elim
  | .fz a, x, h => RepV.plain hι hI x h
open Classical in
/-- what is left of the places: those from n on are told by value; e is left out -/
noncomputable def Rp.cut (R' : Rp) (n e : Nat) (H' : Hp) : Rp := ⟨R'.ι, n, fun b => if ∃ l, n ≤ l ∧ l < R'.n ∧ R'.ι l = b ∧ l ≠ e then H' b else R'.I b⟩
open Classical in
theorem Rp.cut_I {n e : Nat} (W : Wd K w R' S' H') : ∀ b o, R'.I b = some o → (R'.cut n e H').I b = some o := fun b o h => by
  show (if _ then _ else _) = _
  split
  · exact W.I _ _ h
  · exact h
open Classical in
theorem Rp.cut_new {n e l : Nat} (h1 : n ≤ l) (h2 : l < R'.n) (h3 : l ≠ e) : (R'.cut n e H').I (R'.ι l) = H' (R'.ι l) := if_pos ⟨l, h1, h2, rfl, h3⟩
open Classical in
theorem Rp.cut_old {n e l : Nat} (W : Wd K w R' S' H') (h1 : l < n ∨ l = e) (h2 : l < R'.n) : (R'.cut n e H').I (R'.ι l) = R'.I (R'.ι l) := if_neg fun ⟨m, m1, m2, m3, m4⟩ => by
  have := W.inj _ _ m2 h2 m3
  subst this
  rcases h1 with h1 | h1
  · omega
  · exact m4 h1
open Classical in
theorem wd_cut {e : Nat} {S'' : Store} (W0 : Wd K w R S H) (E : Ext R H R' H') (W : Wd K w R' S' H') (h : cutS S S' = some S'') : Wd K w (R'.cut S.length e H') S'' H' ∧ Ext R H (R'.cut S.length e H') H' := by
  have hn : S.length ≤ S'.length := by rw [← W0.n, ← W.n]; exact E.le.n
  have hS : S'' = S'.take S.length ∧ ∀ l, l < S.length → S'[l]? = S[l]? ∨ ∃ o, S'[l]? = some o ∧ o.rb S.length = true := by
    unfold cutS at h
    split at h
    · rename_i e1
      cases h
      refine ⟨by rw [← e1, List.take_length], fun l hl => .inr ⟨S'[l]'(by omega), List.getElem?_eq_getElem _, ?_⟩⟩
      have := (W.obj l _ (List.getElem?_eq_getElem (by omega))).rb
      have q : R'.n = S.length := W.n.trans e1
      rwa [q] at this
    · split at h
      · rename_i hh
        cases h
        exact ⟨rfl, hh⟩
      · cases h
  obtain ⟨rfl, hS⟩ := hS
  have gt : ∀ l, l < S.length → l < R'.n := fun l hl => by rw [W.n]; omega
  refine ⟨⟨by rw [List.length_take]; exact (Nat.min_eq_left hn).symm, fun b u hb => ?_, fun l hl => ?_, fun l hl => W.there l (gt l hl), fun l l' hl hl' => W.inj l l' (gt l hl) (gt l' hl'), fun l o ho => ?_⟩, ⟨by rw [W0.n]; exact Nat.le_refl _, E.le.ι, fun b o hb => Rp.cut_I W b o (E.le.I b o hb)⟩, fun b hb hnb => ?_, fun l h1 h2 => by rw [W0.n] at h1; exact absurd h2 (Nat.not_lt.mpr h1), E.frame, E.stay⟩
  · have hb' : (if _ then _ else _) = some u := hb
    split at hb'
    · exact hb'
    · exact W.I _ _ hb'
  · have hl : l < S.length := hl
    show (R'.cut S.length e H').I (R'.ι l) = none ∨ _
    rw [Rp.cut_old W (.inl hl) (gt l hl)]
    rcases W.apart l (gt l hl) with q | ⟨a, q⟩
    · exact .inl q
    · exact .inr ⟨a, by rw [List.getElem?_take_of_lt hl]; exact q⟩
  · have hl : l < S.length := by have := set_lt ho; rw [List.length_take] at this; omega
    rw [List.getElem?_take_of_lt hl] at ho
    have rb : o.rb S.length = true := by
      rcases hS l hl with q | ⟨o', q, r⟩
      · rw [ho] at q
        have := (W0.obj l o q.symm).rb
        rw [W0.n] at this
        exact this
      · rw [ho] at q; cases q; exact r
    exact RepO.plain (R := R') (R2 := R'.cut S.length e H') (fun _ _ => rfl) (Rp.cut_I W) (W.obj l o ho) rb
  · show (if _ then _ else _) = _
    rw [if_neg]
    · exact E.newI b hb hnb
    · rintro ⟨l, h1, h2, h3, h4⟩
      have := E.newS l (by rw [W0.n]; exact h1) h2
      rw [h3] at this
      exact hb this
theorem thaw_rep {n e : Nat} (W : Wd K w R' S' H') : ∀ (k l : Nat) (a : AV), l < R'.n → thaw n e S' k l = some a → RepV K w (R'.cut n e H') a (.ref (R'.ι l))
  | 0, l, a, hl, h => by
    have h' : (if l < n then some (AV.ref l) else none) = some a := by simpa [thaw] using h
    split at h'
    · rename_i hh
      cases h'
      exact .ref (R := R'.cut n e H') hh
    · cases h'
  | k + 1, l, a, hl, h => by
    have hf := thaw_rep (n := n) (e := e) W k
    unfold thaw at h
    split at h
    · rename_i hh
      cases h
      exact .ref (R := R'.cut n e H') hh
    · rename_i hh
      split at h
      · cases h
      · rename_i he
        have hnew := Rp.cut_new (H' := H') (Nat.le_of_not_lt hh) hl he
        split at h
        · rename_i xs es
          obtain ⟨ys, e1, rfl⟩ := Option.map_eq_some_iff.mp h
          obtain ⟨vs, e2, z, r⟩ := W.obj l _ es
          exact .lst (by rw [hnew]; exact e2) (by rw [mapRefs_length _ xs ys e1]; exact z) (r.mapRefs (Rp.cut_I W) hf e1)
        · rename_i kvs es
          obtain ⟨ys, e1, rfl⟩ := Option.map_eq_some_iff.mp h
          obtain ⟨den, ep, e2, z, r⟩ := W.obj l _ es
          obtain ⟨q, hk⟩ := r.mapRefd (Rp.cut_I W) hf e1
          have hl : ys.length = kvs.length := by have := congrArg List.length hk; simpa using this.symm
          exact .dct (es := den) (ep := ep) (by rw [hnew]; exact e2) (by rw [hl]; exact z) q
        · rename_i b es
          exact RepV.mapRef (Rp.cut_I W) hf (show RepV K w R' b (.ref (R'.ι l)) from W.obj l _ es) h
        · cases h
open Classical in
theorem ret_rep {r r' : RV} {v : V} (W0 : Wd K w R S H) (E : Ext R H R' H') (W : Wd K w R' S' H') (x : RepRV K w R' H H' r v) (h : retR S.length S' r = some r') : ∃ e, RepRV K w (R'.cut S.length e H') H H' r' v := by
  have hn : S.length ≤ R'.n := by rw [← W0.n]; exact E.le.n
  have out : ∀ (e : Nat) (p : Addr), (∀ l, l < R'.n → R'.ι l ≠ p) → (R'.cut S.length e H').I p = R'.I p := fun e p hp => if_neg fun ⟨l, _, h2, h3, _⟩ => hp l h2 h3
  cases r with
  | l xs =>
    obtain ⟨ys, e1, rfl⟩ := Option.map_eq_some_iff.mp (show (AV.mapRefs (thaw S.length S'.length S' 3) xs).map RV.l = some r' from h)
    obtain ⟨p, vs, rfl, e2, h0, hI, hp, z, q⟩ := x
    exact ⟨S'.length, p, vs, rfl, e2, h0, by rw [out _ _ hp]; exact hI, fun l hl => hp l (Nat.lt_of_lt_of_le hl hn), by rw [mapRefs_length _ xs ys e1]; exact z, q.mapRefs (Rp.cut_I W) (thaw_rep W 3) e1⟩
  | d kvs =>
    obtain ⟨ys, e1, rfl⟩ := Option.map_eq_some_iff.mp (show (AV.mapRefd (thaw S.length S'.length S' 3) kvs).map RV.d = some r' from h)
    obtain ⟨p, den, ep, rfl, e2, h0, hI, hp, z, q⟩ := x
    obtain ⟨q', hk⟩ := q.mapRefd (Rp.cut_I W) (thaw_rep W 3) e1
    have hl : ys.length = kvs.length := by have := congrArg List.length hk; simpa using this.symm
    exact ⟨S'.length, p, den, ep, rfl, e2, h0, by rw [out _ _ hp]; exact hI, fun l hl => hp l (Nat.lt_of_lt_of_le hl hn), by rw [hl]; exact z, q'⟩
  | v a =>
    have x' : RepV K w R' a v := x
    have h' : retV S.length S' a = some r' := h
    have gen : ∀ a', a.mapRef (thaw S.length S'.length S' 3) = some a' → ∃ e, RepRV K w (R'.cut S.length e H') H H' (.v a') v := fun a' e1 => ⟨S'.length, x'.mapRef (Rp.cut_I W) (thaw_rep W 3) e1⟩
    unfold retV at h'
    split at h'
    · rename_i l
      cases x' with
      | ref hl =>
      split at h'
      · rename_i hh
        cases h'
        exact ⟨S'.length, .ref (R := R'.cut S.length S'.length H') hh⟩
      · rename_i hh
        split at h'
        · rename_i xs es
          obtain ⟨ys, e1, rfl⟩ := Option.map_eq_some_iff.mp h'
          obtain ⟨vs, e2, z, r⟩ := W.obj l _ es
          refine ⟨l, R'.ι l, vs, rfl, e2, E.newS l (by rw [W0.n]; exact Nat.le_of_not_lt hh) hl, ?_, fun m hm e => ?_, by rw [mapRefs_length _ xs ys e1]; exact z, r.mapRefs (Rp.cut_I W) (thaw_rep W 3) e1⟩
          · rw [Rp.cut_old W (.inr rfl) hl]
            rcases W.apart l hl with q | ⟨a, q⟩
            · exact q
            · rw [es] at q; cases q
          · have := W.inj m l (Nat.lt_of_lt_of_le hm hn) hl e
            subst this
            exact hh hm
        · rename_i kvs es
          obtain ⟨ys, e1, rfl⟩ := Option.map_eq_some_iff.mp h'
          obtain ⟨den, ep, e2, z, r⟩ := W.obj l _ es
          obtain ⟨q', hk⟩ := r.mapRefd (Rp.cut_I W) (thaw_rep W 3) e1
          have hlen : ys.length = kvs.length := by have := congrArg List.length hk; simpa using this.symm
          refine ⟨l, R'.ι l, den, ep, rfl, e2, E.newS l (by rw [W0.n]; exact Nat.le_of_not_lt hh) hl, ?_, fun m hm e => ?_, by rw [hlen]; exact z, q'⟩
          · rw [Rp.cut_old W (.inr rfl) hl]
            rcases W.apart l hl with q | ⟨a, q⟩
            · exact q
            · rw [es] at q; cases q
          · have := W.inj m l (Nat.lt_of_lt_of_le hm hn) hl e
            subst this
            exact hh hm
        · rename_i b es
          obtain ⟨b', e1, rfl⟩ := Option.map_eq_some_iff.mp h'
          exact ⟨l, RepV.mapRef (Rp.cut_I W) (thaw_rep W 3) (show RepV K w R' b (.ref (R'.ι l)) from W.obj l _ es) e1⟩
        · cases h'
    · obtain ⟨a', e1, rfl⟩ := Option.map_eq_some_iff.mp h'
      exact gen a' e1
/-- a def's end keeps its promise -/
theorem retF_post {xw : XWish} {Q : VK} {keep : Bool} {res : Res Fl} (W0 : Wd K w R S H) (h : Post K w xw R H (retF keep S res) Q) : PostS K w xw R H res { nx := fun _ H' => Q .non H', rt := Q, bk := fun _ _ => False, ct := fun _ _ => False } := by
  have done : ∀ {r : RV} {S' : Store} {R' : Rp} {H' : Hp} {v : V}, Post K w xw R H (if keep = true then .ok r S' else retire S r S') Q → Ext R H R' H' → Wd K w R' S' H' → RepRV K w R' H H' r v → Q v H' := fun {r S' R' H' v} hp E W x => by
    cases keep with
    | true => exact hp R' H' v E W x
    | false =>
      have hp' : Post K w xw R H (retire S r S') Q := hp
      unfold retire at hp'
      split at hp'
      · rename_i r' S'' e1 e2
        obtain ⟨e, x'⟩ := ret_rep W0 E W x e1
        obtain ⟨W', E'⟩ := wd_cut (e := e) W0 E W e2
        exact hp' _ H' v E' W' x'
      · exact hp'.elim
  cases res with
  | ok fl S' =>
    cases fl with
    | nx ρ => exact fun R' H' σ' E W _ => done (r := .v .non) h E W .non
    | rt r => exact fun R' H' v E W x => done h E W x
  | exc c S' =>
    intro R' H' E W
    have h' : Post K w xw R H (match cutS S S' with
      | some S'' => .exc c S''
      | none => .stop) Q := h
    split at h'
    · rename_i S'' e2
      obtain ⟨W', E'⟩ := wd_cut (e := S'.length) W0 E W e2
      exact h' _ H' E' W'
    · exact h'.elim
  | stop => exact h
end
end DL

set_option Elab.async false
set_option linter.all false
set_option maxRecDepth 100000
set_option maxHeartbeats 2000000
namespace DL
open PySem PySem.Spec PyProof.Rows L2
section
variable {X : Cx} {xw : XWish} {R : Rp} {S : Store} {H : Hp} {σ : L2.St}
theorem dict_askH {pins : List (Addr × Obj)} {s : Shared} {kvs : List (AV × AV)} {k : AV} {y : V} {ku : Value} {p : Addr} {es : Array DictEntry} {ep : Nat} (I : L2.Inv X pins σ H s) (W : Wd X.K X.w R S H) (hp : H p = some (xdic p es ep)) (rd : RepD X.K X.w R kvs es.toList) (rk : RepV X.K X.w R k y) (ry : RelV y ku) (ok : keyOk kvs k = true) :
      ((∃ q lk, k = keyAV q ∧ keyIs q ku = true ∧ LkRel X.K X.w R kvs lk ∧ s.heap.DictOf (mixKind X.prog X.w) p lk ∧ lk.length = kvs.length) ∨
       (∃ kt a tk, k.keyD = true ∧ k.keyT = some kt ∧ y = .ref a ∧ ku = .ref a ∧ (nestedKind X.prog X.w).is s.heap kt a ∧ TkRel X.K X.w R kvs tk ∧ s.heap.DictOfH (nestedKind X.prog X.w) p tk ∧ tk.length = kvs.length)) := by
  rcases keyOk_cases ok with ⟨h1, h2⟩ | ⟨h1, h2⟩
  · obtain ⟨q, rfl⟩ := keyL_key h1
    obtain ⟨lk, g1, g2, g3⟩ := dict_leaf I hp rd h2
    exact .inl ⟨q, lk, rfl, rk.key ry, g1, g2, g3⟩
  · obtain ⟨kt, xs, c, dp, rfl⟩ := keyD_inv h1
    obtain ⟨tk, g1, g2, g3⟩ := dict_tups I W hp rd h2
    cases rk with
    | tup e1 z1 q1 =>
      cases (show ku = Value.ref _ from ry)
      exact .inr ⟨kt, _, tk, h1, c, rfl, rfl, ⟨(RepV.tup e1 z1 q1).nested I W rfl c, dp⟩, g1, g2, g3⟩
/-- the dict that is being made, in limbo -/
structure AccD (K : PySem.W.Frag) (w : World) (R : Rp) (H : Hp) (D : Addr) (acc : List (AV × AV)) : Prop where
  ex : ∃ es ep, H D = some (xdic D es ep) ∧ RepD K w R acc es.toList
  I : R.I D = none
  ne : ∀ l, l < R.n → R.ι l ≠ D
/-- key and value put into the new dict -/
theorem dict_put1 {pins : List (Addr × Obj)} {s : Shared} {acc : List (AV × AV)} {k v : AV} {x y : V} {ku vu : Value} {D : Addr} {Q : Unit → Shared → Prop} {E : Value → Shared → Prop} (hu : X.A.units + 64 < cLine) (I : L2.Inv X pins σ H s) (W : Wd X.K X.w R S H) (ha : AccD X.K X.w R H D acc) (rk : RepV X.K X.w R k x) (ek : RelV x ku) (rv : RepV X.K X.w R v y) (ev' : RelV y vu) (ok : keyOk acc k = true) (hz : acc.length ≤ 100)
    (q : ∀ s' u, L2.Inv X pins σ (upd H D u) s' → Wd X.K X.w R S (upd H D u) → AccD X.K X.w R (upd H D u) D (dput acc k v) → Q () s') : wpAny (model X.prog X.w) X.A (dictSet D ku vu) Q E s := by
  obtain ⟨es, ep, hp, rd⟩ := ha.ex
  have hsz : acc.length ≤ sizeLine := Nat.le_trans hz (by decide)
  have fin : ∀ h' tk es' ep', h'.DictRaw D es' ep' → Heap.SameBut D s.heap h' → RepD X.K X.w R (dput acc k v) es'.toList → Q () { s with heap := h', toks := tk } := fun h' tk es' ep' hr sb rd' =>
    q _ _ (xdic_upd I hp hr sb) (W.limbo ha.I ha.ne) ⟨⟨es', ep', upd_same, rd'⟩, ha.I, ha.ne⟩
  rcases dict_askH I W hp rd rk ek ok with ⟨q, lk, rfl, hk, lr, dd, hl'⟩ | ⟨kt, d, tk, hkd, hkt, rfl, rfl, his, tr, dd, hl'⟩
  · refine wpAny_dictSet_pairs (knd := mixKind X.prog X.w) (v := vu) hk dd (fun h' dd' sb => ?_) (by rw [hl']; exact hsz)
    obtain ⟨o', es', ep', ho, hc, hdat, hks, hps, nd⟩ := dd'
    exact fin h' _ es' ep' ⟨o', ho, hc, hdat⟩ sb ((lr.put rv ev').back hps (fun en hen => hks en (by simpa using hen)) nd)
  · refine wpAny_dictSet_heap (knd := nestedKind X.prog X.w) (v := vu) (show X.A.units + 8 < cLine by omega) his dd (fun h' dd' sb => ?_) (by rw [hl']; exact hsz)
    obtain ⟨o', es', ep', ho, hc, hdat, hes, his', nd⟩ := dd'
    exact fin h' _ es' ep' ⟨o', ho, hc, hdat⟩ sb (by rw [hes]; exact (tr.put hkd hkt rk rv ev').back nd)
/-- all of them -/
theorem dict_puts {pins : List (Addr × Obj)} {D : Addr} {E : Value → Shared → Prop} {Q : PUnit → Shared → Prop} (hu : X.A.units + 64 < cLine) : ∀ (vs : List (Value × Value)) (xs : List AV) (ys : List V) (acc kvs : List (AV × AV)) (s : Shared) (H : Hp), L2.Inv X pins σ H s → Wd X.K X.w R S H → AccD X.K X.w R H D acc → RepVs X.K X.w R xs ys → Vals ys (vs.flatMap fun p => [p.1, p.2]) → dputs acc xs = some kvs → acc.length + vs.length ≤ 100 →
    (∀ s' u, L2.Inv X pins σ (upd H D u) s' → Wd X.K X.w R S (upd H D u) → AccD X.K X.w R (upd H D u) D kvs → Q PUnit.unit s') →
    wpAny (model X.prog X.w) X.A (forIn vs PUnit.unit fun (x : Value × Value) (_ : PUnit) => (do dictSet D x.1 x.2; pure (ForInStep.yield PUnit.unit) : Sem (ForInStep PUnit))) Q E s
  | [], xs, ys, acc, kvs, s, H, I, W, ha, r, rv, h, hz, q => by
    cases rv
    cases r
    cases h
    obtain ⟨es, ep, hp, rd⟩ := ha.ex
    rw [List.forIn_nil]
    have eq : upd H D (xdic D es ep) = H := by
      funext b
      by_cases hb : b = D
      · rw [hb, upd_same, hp]
      · rw [upd_ne hb]
    refine wpAny_pure (q s (xdic D es ep) ?_ ?_ ?_)
    · rw [eq]; exact I
    · rw [eq]; exact W
    · rw [eq]; exact ha
  | (ku, vu) :: vs, xs, ys, acc, kvs, s, H, I, W, ha, r, rv, h, hz, q => by
    cases rv with
    | cons r1 rv =>
    cases rv with
    | cons r2 rv =>
    cases r with
    | @cons ka _ _ _ a1 r =>
    cases r with
    | @cons va _ _ _ a2 r =>
    unfold dputs at h
    split at h
    · rename_i ok
      rw [List.length_cons] at hz
      rw [List.forIn_cons]
      refine wpAny_bind (wpAny_bind (dict_put1 hu I W ha a1 r1 a2 r2 ok (by omega) fun s' u I' W' ha' => wpAny_pure ?_))
      refine dict_puts hu vs _ _ _ kvs s' _ I' W' ha' r rv h ?_ fun s2 u2 I2 W2 a2' => ?_
      · have := dput_length acc ka va
        omega
      · have e : upd (upd H D u) D u2 = upd H D u2 := by
          funext b
          by_cases hb : b = D
          · rw [hb, upd_same, upd_same]
          · rw [upd_ne hb, upd_ne hb, upd_ne hb]
        rw [e] at I2 W2 a2'
        exact q s2 u2 I2 W2 a2'
    · cases h
/-- the pairs of a display, from the left -/
structure PD (X : Cx) (keys : List (Option Expr)) (values : List Expr) (pos : Pos) (t : TA) : Prop where
  run : ∀ (pins : List (Addr × Obj)) (s : Shared) (σ : L2.St) (H : Hp) (Q : List V → Hp → Prop), L2.Inv X pins σ H s → t σ H Q →
    wpAny (model X.prog X.w) X.A (evalPairs (pairTrees keys values X.env pos)) (fun vs s' => ∃ ys H', L2.Inv X pins σ H' s' ∧ Vals ys (vs.flatMap fun p => [p.1, p.2]) ∧ Q ys H') X.xe s
variable {mk mv mr m : Env → Store → Res RV} {k e : Expr} {keys : List (Option Expr)} {values : List Expr} {pos : Pos}
theorem pd_nil : PD X [] [] pos (RA X xw fun _ S => .ok (.l []) S) := ⟨fun pins s σ H Q I ⟨R, ρ, S, he, W, h⟩ =>
  pairTrees_nil_walk ⟨[], H, I, .nil, h R H [] (.refl R H) W .nil⟩⟩
theorem pd_cons (hk : PE X k (RE X xw mk)) (hv : PE X e (RE X xw mv)) (hr : PD X keys values pos (RA X xw mr)) :
    PD X (some k :: keys) (e :: values) pos (RA X xw fun ρ S => (mk ρ S).bnd fun x S1 => (mv ρ S1).bnd fun y S2 => (mr ρ S2).bnd fun z S3 => .ok (.l (x.av :: y.av :: z.list)) S3) := ⟨fun pins s σ H Q I ⟨R, ρ, S, he, W, h⟩ => by
  refine pairTrees_cons_walk (thn (hk.run pins s σ H _ I (rd_bndA he W h)) fun v1 s1 ⟨x, H1, I1, r1, R1, S1, xr, E1, W1, rx, he1, h1⟩ => ?_)
  refine thn (hv.run pins s1 σ H1 _ I1 (rd_bndA he1 W1 h1)) fun v2 s2 ⟨y, H2, I2, r2, R2, S2, yr, E2, W2, ry, he2, h2⟩ => ?_
  refine thn (hr.run pins s2 σ H2 _ I2 (rdA_bndA he2 W2 h2)) fun vs s3 ⟨ys, H3, I3, r3, R3, S3, zr, E3, W3, rz, he3, h3⟩ => ?_
  exact ⟨x :: y :: ys, H3, I3, .cons r1 (.cons r2 r3), h3 R3 H3 _ (.refl _ _) W3 (.cons ((rx.mono E2.le).mono E3.le) (.cons (ry.mono E3.le) rz))⟩⟩
theorem flat_length : ∀ (vs : List (Value × Value)), (vs.flatMap fun p => [p.1, p.2]).length = 2 * vs.length
  | [] => rfl
  | _ :: vs => by rw [List.flatMap_cons, List.length_append, flat_length vs, List.length_cons]; simp; omega
theorem dputs_length : ∀ {xs : List AV} {acc kvs : List (AV × AV)}, dputs acc xs = some kvs → kvs.length ≤ acc.length + xs.length
  | [], _, _, h => by cases h; exact Nat.le_refl _
  | [_], _, _, h => by cases h
  | k :: v :: xs, acc, kvs, h => by
    unfold dputs at h
    split at h
    · have := dputs_length h
      have q := dput_length acc k v
      simp only [List.length_cons]
      omega
    · cases h
/-- a display -/
theorem s_dic (hu : X.A.units + 64 < cLine) (hp : PD X keys values pos (RA X xw m)) (hall : keys.all (·.isSome) = true) (hl : keys.length = values.length) (h0 : keys ≠ []) (hlen : keys.length ≤ 15) :
    PE X (.Dict keys values pos) (RE X xw fun ρ S => (m ρ S).bnd fun x S1 => match dputs [] x.list with
      | some kvs => .ok (.d kvs) S1
      | none => .stop) := by
  have hn := pairTrees_length keys values X.env pos hall hl
  refine ⟨fun pins s σ H Q I ⟨R, ρ, S, he, W, h⟩ => ?_⟩
  rw [arm_eval_Dict, zip_pairTrees keys values X.env pos hall hl, dictDisplay_pairs (pairTrees keys values X.env pos) (fun z => h0 (by rw [z] at hn; exact List.length_eq_zero_iff.mp hn.symm)) (by omega)]
  refine wpAny_bind (wpAny_standAt (wpAny_bind ?_))
  unfold subDict
  refine wpAny_bind (wpAny_alloc ?_)
  refine wpAny_bind (wpAny_holding ?_)
  rw [if_pos (by rw [hn]; exact hlen)]
  have hD : H s.heap.objs.size = none := I.hok.fresh (Nat.le_refl _)
  have I1 := xdic_new (tk := s.toks) I
  have W1 : Wd X.K X.w R S (upd H s.heap.objs.size (xdic s.heap.objs.size #[] 0)) := W.grow hD
  have E1 : Ext R H R (upd H s.heap.objs.size (xdic s.heap.objs.size #[] 0)) := (Ext.refl R H).grow hD
  dsimp only at h
  cases e1 : m ρ S with
  | exc c S1 =>
    rw [e1] at h
    exact wpAny_bind (wpAny_mono (hp.run pins _ σ _ (fun _ _ => False) I1 ⟨R, ρ, S, he, W1, by rw [e1]; exact fun R' H' E' W' => h R' H' (E1.trans E') W'⟩) (fun vs s2 ⟨ys, H2, I2, r2, z⟩ => z.elim) fun _ _ z => z)
  | stop => rw [e1] at h; exact h.elim
  | ok x S1 =>
    rw [e1] at h
    have h' : Post X.K X.w xw R H (match dputs [] x.list with
      | some kvs => .ok (.d kvs) S1
      | none => .stop) Q := h
    split at h'
    · rename_i kvs ek
      refine wpAny_bind (wpAny_mono (wpAny_evalPairs_len (hp.run pins _ σ _ (fun ys H' => ∃ R2, Ext R (upd H s.heap.objs.size (xdic s.heap.objs.size #[] 0)) R2 H' ∧ Wd X.K X.w R2 S1 H' ∧ RepVs X.K X.w R2 x.list ys) I1 ⟨R, ρ, S, he, W1, by rw [e1]; exact fun R' H' ys E' W' r => ⟨R', E', W', r⟩⟩)) (fun vs s2 h2 => ?_) fun _ _ z => z)
      obtain ⟨hvl, ys, H2, I2, r2, R2, E2, W2, rx⟩ := h2
      refine wpAny_holding ?_
      have hD2 : H2 s.heap.objs.size = some (xdic s.heap.objs.size #[] 0) := E2.frame _ _ upd_same (W.ne_of hD)
      have a2 : AccD X.K X.w R2 H2 s.heap.objs.size [] := ⟨⟨#[], 0, hD2, .nil⟩, (E2.newI _ (by rw [upd_same]; simp) (W.ne_of hD)).trans (W.none_of hD), E2.apart (by rw [upd_same]; simp) (W.ne_of hD)⟩
      have hz : ([] : List (AV × AV)).length + vs.length ≤ 100 := by rw [hvl, hn]; simp; omega
      have hkl : kvs.length ≤ line := by
        have q := dputs_length ek
        have q2 := rx.length
        have q3 := r2.length
        rw [flat_length, hvl, hn] at q3
        refine Nat.le_trans (show kvs.length ≤ 30 from ?_) (by decide)
        simp at q
        omega
      refine wpAny_bind (dict_puts hu vs _ _ [] kvs s2 H2 I2 W2 a2 rx r2 ek hz fun s3 u I3 W3 a3 => wpAny_pure (wpAny_pure (wpAny_pure ?_)))
      obtain ⟨es, ep, e3, rd⟩ := a3.ex
      exact ⟨.ref s.heap.objs.size, _, I3, rfl, h' R2 _ _ ((E1.trans E2).limbo hD) W3 ⟨_, es, ep, rfl, e3, hD, a3.I, a3.ne, hkl, rd⟩⟩
    · exact h'.elim
/-- {} -/
theorem s_dic0 : PE X (.Dict [] [] pos) (RE X xw fun _ S => .ok (.d []) S) := ⟨fun pins s σ H Q I ⟨R, ρ, S, he, W, h⟩ => by
  have hD : H s.heap.objs.size = none := I.hok.fresh (Nat.le_refl _)
  exact wpAny_Dict_empty ⟨.ref s.heap.objs.size, _, xdic_new (tk := s.toks) I, rfl, h R _ _ ((Ext.refl R H).grow hD) (W.grow hD) ⟨_, #[], 0, rfl, upd_same, hD, W.none_of hD, W.ne_of hD, Nat.zero_le _, .nil⟩⟩⟩
end
end DL

set_option Elab.async false
set_option linter.all false
set_option maxRecDepth 100000
set_option maxHeartbeats 4000000
namespace DL
open PySem PySem.Spec PyProof.Rows L2
/-! ### what is run is what is written: a check -/
structure LawG where
  P : Nat → Option FD
  defs : List (Str × Nat)
  gints : List (Str × Int)
  blts : List Str
  clss : List (Str × Nat)
  cls : Nat → Value
structure Ctx where
  N : List Str
  sc : Scope
  fn : Str → Bool
abbrev Ctx.inn (c : Ctx) (scope : Scope) : Ctx := ⟨c.N, relS scope c.sc, fun x => scope.names.lookup x == some .cell⟩
def visB (sc : Scope) (x : Str) : Bool := match sc.names.lookup x with
  | some .local => true
  | some .cell => true
  | some .free => true
  | _ => false
def locB (sc : Scope) (x : Str) : Bool := match sc.names.lookup x with
  | some .local => true
  | some .cell => true
  | _ => false
def isLoc (sc : Scope) (x : Str) : Bool := match sc.names.lookup x with
  | some .local => true
  | _ => false
def glB (sc : Scope) (x : Str) : Bool := (match sc.names.lookup x with
  | some .globalImplicit => true
  | _ => false) && (x != ("__name__" : Str)) && !(x == ("__debug__" : Str))
theorem vis_of {sc : Scope} {x : Str} (h : visB sc x = true) : Vis sc x := by
  unfold visB at h
  split at h
  · exact .inl ‹_›
  · exact .inr (.inl ‹_›)
  · exact .inr (.inr ‹_›)
  · cases h
theorem loc_of {sc : Scope} {x : Str} (h : locB sc x = true) : Loc sc x := by
  unfold locB at h
  split at h
  · exact .inl ‹_›
  · exact .inr ‹_›
  · cases h
theorem isLoc_of {sc : Scope} {x : Str} (h : isLoc sc x = true) : sc.names.lookup x = some .local := by
  unfold isLoc at h
  split at h
  · assumption
  · cases h
theorem gl_of {X : Cx} {x : Str} (h : glB X.env.scope x = true) : Gl X x ∧ x ≠ "__name__" ∧ (x == ("__debug__" : Str)) = false := by
  unfold glB at h
  rw [Bool.and_eq_true, Bool.and_eq_true] at h
  obtain ⟨⟨h1, h2⟩, h3⟩ := h
  refine ⟨?_, ?_, by simpa using h3⟩
  · split at h1
    · assumption
    · cases h1
  · exact bne_iff_ne.mp h2
def Ctx.tgt (c : Ctx) (x : Str) : Bool := locB c.sc x && (c.fn x || isLoc c.sc x)
mutual
def chkG (c : Ctx) : Tg → Expr → Bool
  | .var i, e => match e with
    | .Name x _ => decide (c.N[i]? = some x) && c.tgt x
    | _ => false
  | .tup t, e => match e with
    | .Tuple es _ _ => chkGs c t es
    | _ => false
  | .nil, _ => false
  | .cons _ _, _ => false
def chkGs (c : Ctx) : Tg → List Expr → Bool
  | .nil, es => match es with
    | [] => true
    | _ => false
  | .cons t ts, es => match es with
    | e :: es => plainE e && chkG c t e && chkGs c ts es
    | [] => false
  | .var _, _ => false
  | .tup _, _ => false
end
def cstOk (G : LawG) (c : Ctx) : AV → Expr → Bool
  | .non, .Constant .none _ _ => true
  | .bl b, .Constant (.bool b') _ _ => b == b'
  | .int i, .Constant (.int j) _ _ => i == j
  | .str x, .Constant (.str y) _ _ => x == y
  | .int i, .Name x _ => glB c.sc x && decide (G.gints.lookup x = some i)
  | _, _ => false
def binOk : BOp → Operator → Bool
  | .add, .Add => true
  | .sub, .Sub => true
  | .mul, .Mult => true
  | .fdiv, .FloorDiv => true
  | .mod, .Mod => true
  | .pow, .Pow => true
  | _, _ => false
def augOk : BOp → Operator → Bool
  | .add, .Add => true
  | .sub, .Sub => true
  | .mul, .Mult => true
  | _, _ => false
def cmpOkO : COp → CmpOp → Bool
  | .eq, .Eq => true
  | .ne, .NotEq => true
  | .lt, .Lt => true
  | .le, .LtE => true
  | .gt, .Gt => true
  | .ge, .GtE => true
  | .is, .Is => true
  | .isnot, .IsNot => true
  | _, _ => false
def biOk (f : BI) (x : Str) : Bool := match f with
  | .len => x == "len"
  | .all => x == "all"
  | .any => x == "any"
  | .sum => x == "sum"
  | .tuple => x == "tuple"
  | _ => false
def miOk (m : MI) (x : Str) : Bool := match m with
  | .append => x == "append"
  | .extend => x == "extend"
  | .popat => x == "pop"
  | .get2 => x == "get"
  | _ => false
def tyOk (t : Ty) (x : Str) : Bool := match t with
  | .int => x == "int"
  | .bool => x == "bool"
  | .str => x == "str"
  | .tuple => x == "tuple"
  | .list => x == "list"
  | .dict => x == "dict"
def blt (G : LawG) (c : Ctx) (x : Str) : Bool := glB c.sc x && decide (x ∈ G.blts)
def ownP (c : Ctx) (own : List Nat) : List (Str × Nat) := own.map fun i => (c.N.getD i "", i)
def subB (xs ys : List Nat) : Bool := xs.all fun j => decide (j ∈ ys)
def valE : Expr → Bool
  | .Name .. => true
  | .Call .. => true
  | .Subscript .. => true
  | _ => false
def isTupE : Expr → Bool
  | .Tuple .. => true
  | _ => false
def varOk (c : Ctx) (i : Nat) : Expr → Bool
  | .Name x _ => decide (c.N[i]? = some x) && visB c.sc x && !(x == ("__debug__" : Str)) && !(x == ("__classdict__" : Str))
  | _ => false
mutual
def chkE (G : LawG) (c : Ctx) : Ex → Expr → Bool
  | .var i, e => varOk c i e
  | .cst a, e => cstOk G c a e
  | .bin o a b, e => match e with
    | .BinOp x p y _ => binOk o p && chkE G c a x && chkE G c b y
    | _ => false
  | .neg a, e => match e with
    | .UnaryOp .USub x _ => chkE G c a x
    | _ => false
  | .nt a, e => match e with
    | .UnaryOp .Not x _ => chkE G c a x
    | _ => false
  | .and a b, e => match e with
    | .BoolOp .And [x, y] _ => chkE G c a x && chkE G c b y
    | .BoolOp .And (x :: y :: z :: r) p => chkE G c a x && chkE G c b (.BoolOp .And (y :: z :: r) p)
    | _ => false
  | .or a b, e => match e with
    | .BoolOp .Or [x, y] _ => chkE G c a x && chkE G c b y
    | .BoolOp .Or (x :: y :: z :: r) p => chkE G c a x && chkE G c b (.BoolOp .Or (y :: z :: r) p)
    | _ => false
  | .cmp o a b, e => match e with
    | .Compare x [p] [y] _ => cmpOkO o p && chkE G c a x && chkE G c b y && plainE y
    | _ => false
  | .chain o p a b d, e => match e with
    | .Compare x [q, r] [y, z] _ => cmpOkO o q && cmpOkO p r && chkE G c a x && chkE G c b y && chkE G c d z && plainE z
    | _ => false
  | .ite t a b, e => match e with
    | .IfExp u x y _ => chkT G c t u && chkE G c a x && chkE G c b y
    | _ => false
  | .tup es, e => match e with
    | .Tuple xs _ _ => chkA G c es xs && decide (xs.length ≤ 1000)
    | _ => false
  | .lst es, e => match e with
    | .List xs _ => chkA G c es xs && decide (xs.length ≤ 1000)
    | _ => false
  | .dic es, e => match e with
    | .Dict ks vs _ => chkD G c es ks vs && decide (ks.length ≤ 15) && decide (ks.length = vs.length) && ks.all (·.isSome)
    | _ => false
  | .nil, _ => false
  | .cons _ _, _ => false
  | .sub a i, e => match e with
    | .Subscript x y _ => chkE G c a x && chkE G c i y && plainE y
    | _ => false
  | .bi f as, e => match e with
    | .Call (.Name n _) (x :: xs) [] _ => biOk f n && blt G c n && chkA G c as (x :: xs) && plainE x && xs.all plainE
    | _ => false
  | .isi a t, e => match e with
    | .Call (.Name n _) [x, .Name T _] [] _ => n == "isinstance" && blt G c n && tyOk t T && blt G c T && chkE G c a x && plainE x
    | _ => false
  | .call k as, e => match e with
    | .Call (.Name n _) (x :: xs) [] _ => glB c.sc n && decide (G.defs.lookup n = some k) && chkA G c as (x :: xs) && plainE x && xs.all plainE
    | .Call (.Name n _) [] [] _ => glB c.sc n && decide (G.defs.lookup n = some k) && chkA G c as []
    | _ => false
  | .mt m o as, e => match e with
    | .Call (.Attribute x n ap) (y :: ys) [] cp => miOk m n && chkE G c o x && notSuper x && chkA G c as (y :: ys) && plainE y && ys.all plainE && decide (ys.length < 20) && (ap.endLine == cp.line)
    | _ => false
  | .bx a, e => chkE G c a e
  | .rng _, _ => false
  | .rng2 _ _, _ => false
  | .zip _ _, _ => false
  | .vals _, _ => false
  | .comp own tg it ct el, e => match e with
    | .ListComp x [⟨t, i, ifs, a⟩] scope _ => decide (a = 0) && blkC c.N c.sc scope (ownP c own) && subB tg.vars own && chkI G c it t i && plainE i && chkG (c.inn scope) tg t && chkE G (c.inn scope) el x && (match ifs with
      | [] => (match ct with
        | .cst (.bl true) => true
        | _ => false)
      | [u] => chkT G (c.inn scope) ct u
      | _ => false)
    | _ => false
  | .comp2 own own1 tg it tg1 it1 ct el, e => match e with
    | .ListComp x [⟨t, i, ifs0, a⟩, ⟨t1, i1, ifs, a1⟩] scope _ => decide (a = 0) && decide (a1 = 0) && ifs0.isEmpty && blkC c.N c.sc scope (ownP c own) && subB own1 own && subB tg.vars own && subB tg1.vars own1 && chkI G c it t i && plainE i && chkG (c.inn scope) tg t && chkI G (c.inn scope) it1 t1 i1 && plainE i1 && chkG (c.inn scope) tg1 t1 && chkE G (c.inn scope) el x && (match ifs with
      | [] => (match ct with
        | .cst (.bl true) => true
        | _ => false)
      | [u] => chkT G (c.inn scope) ct u
      | _ => false)
    | _ => false
def chkT (G : LawG) (c : Ctx) : Ex → Expr → Bool
  | .nt a, e => match e with
    | .UnaryOp .Not x _ => chkT G c a x
    | _ => false
  | .and a b, e => match e with
    | .BoolOp .And [x, y] _ => chkT G c a x && chkT G c b y
    | .BoolOp .And (x :: y :: z :: r) p => chkT G c a x && chkT G c b (.BoolOp .And (y :: z :: r) p)
    | _ => false
  | .or a b, e => match e with
    | .BoolOp .Or [x, y] _ => chkT G c a x && chkT G c b y
    | .BoolOp .Or (x :: y :: z :: r) p => chkT G c a x && chkT G c b (.BoolOp .Or (y :: z :: r) p)
    | _ => false
  | .cmp o a b, e => match e with
    | .Compare x [p] [y] _ => cmpOkO o p && chkE G c a x && chkE G c b y && plainE y
    | _ => false
  | .chain o p a b d, e => match e with
    | .Compare x [q, r] [y, z] _ => cmpOkO o q && cmpOkO p r && chkE G c a x && chkE G c b y && chkE G c d z && plainE z
    | _ => false
  | .var i, e => varOk c i e
  | .sub a i, e => match e with
    | .Subscript x y _ => chkE G c a x && chkE G c i y && plainE y
    | _ => false
  | .bi f as, e => match e with
    | .Call (.Name n _) (x :: xs) [] _ => biOk f n && blt G c n && chkA G c as (x :: xs) && plainE x && xs.all plainE
    | _ => false
  | .isi a t, e => match e with
    | .Call (.Name n _) [x, .Name T _] [] _ => n == "isinstance" && blt G c n && tyOk t T && blt G c T && chkE G c a x && plainE x
    | _ => false
  | .call k as, e => match e with
    | .Call (.Name n _) (x :: xs) [] _ => glB c.sc n && decide (G.defs.lookup n = some k) && chkA G c as (x :: xs) && plainE x && xs.all plainE
    | .Call (.Name n _) [] [] _ => glB c.sc n && decide (G.defs.lookup n = some k) && chkA G c as []
    | _ => false
  | _, _ => false
def chkA (G : LawG) (c : Ctx) : Ex → List Expr → Bool
  | .nil, es => match es with
    | [] => true
    | _ => false
  | .cons a as, es => match es with
    | e :: es => plainE e && chkE G c a e && chkA G c as es
    | [] => false
  | _, _ => false
def chkD (G : LawG) (c : Ctx) : Ex → List (Option Expr) → List Expr → Bool
  | .nil, ks, vs => match ks, vs with
    | [], [] => true
    | _, _ => false
  | .cons a (.cons b r), ks, vs => match ks, vs with
    | some k :: ks, v :: vs => chkE G c a k && chkE G c b v && chkD G c r ks vs
    | _, _ => false
  | _, _, _ => false
def chkI (G : LawG) (c : Ctx) : Ex → Expr → Expr → Bool
  | .rng a, _, e => match e with
    | .Call (.Name n _) [x] [] _ => n == "range" && blt G c n && chkE G c a x && plainE x
    | _ => false
  | .rng2 a b, _, e => match e with
    | .Call (.Name n _) [x, y] [] _ => n == "range" && blt G c n && chkE G c a x && plainE x && chkE G c b y && plainE y
    | _ => false
  | .zip a b, t, e => match e with
    | .Call (.Name n _) [x, y] [] _ => isTupE t && n == "zip" && blt G c n && chkE G c a x && plainE x && chkE G c b y && plainE y
    | _ => false
  | .vals a, _, e => match e with
    | .Call (.Attribute x n ap) [] [] cp => n == "values" && chkE G c a x && notSuper x && (ap.endLine == cp.line)
    | _ => false
  | .var i, _, e => varOk c i e
  | .sub a i, _, e => match e with
    | .Subscript x y _ => chkE G c a x && chkE G c i y && plainE y
    | _ => false
  | .lst es, _, e => match e with
    | .List xs _ => chkA G c es xs && decide (xs.length ≤ 1000)
    | _ => false
  | .tup es, _, e => match e with
    | .Tuple xs _ _ => chkA G c es xs && decide (xs.length ≤ 1000)
    | _ => false
  | .bi f as, _, e => match e with
    | .Call (.Name n _) (x :: xs) [] _ => biOk f n && blt G c n && chkA G c as (x :: xs) && plainE x && xs.all plainE
    | _ => false
  | .call k as, _, e => match e with
    | .Call (.Name n _) (x :: xs) [] _ => glB c.sc n && decide (G.defs.lookup n = some k) && chkA G c as (x :: xs) && plainE x && xs.all plainE
    | .Call (.Name n _) [] [] _ => glB c.sc n && decide (G.defs.lookup n = some k) && chkA G c as []
    | _ => false
  | _, _, _ => false
end
end DL

set_option Elab.async false
set_option linter.all false
set_option maxRecDepth 100000
set_option maxHeartbeats 4000000
namespace DL
open PySem PySem.Spec PyProof.Rows L2
example (G : LawG) (c : Ctx) (e : Expr) : chkE G c (.neg .nil) (.UnaryOp .USub e ⟨0,0,0,0⟩) = false := rfl
/-- what the module holds -/
structure GOk (G : LawG) (n : Nat) (P : Program) (w : World) (K : PySem.W.Frag) (mg : Str → Option Value) (base : Heap) : Prop where
  defs : ∀ x k, G.defs.lookup x = some k → ∃ f fd ps, FnOk P w K mg base (L2.CX P w) n f fd ps (spF K w G.cls (callN G.P n k)) ∧ mg x = some (.ref f) ∧ PySem.W.keepIn K (.ref f) = true ∧ Binds K fd ps []
  gints : ∀ x i, G.gints.lookup x = some i → ∃ u, mg x = some u ∧ RelV (.int i) u
  none : ∀ x, x ∈ G.blts → mg x = none
  raises : ∀ x k, G.clss.lookup x = some k → ∃ C B newId initId bmB, G.cls k = .ref C ∧ mg x = some (.ref C) ∧ PySem.W.keepIn K (.ref C) = true ∧ PySem.ExcBaseFacts B newId initId bmB ∧ PySem.W.excIn K C bmB newId = true ∧ PySem.W.subIn K (.ref C) (.type "BaseException") = some true ∧ PySem.W.typeIn K (.ref C) = some (.type "type")
structure CtxOk (G : LawG) (n : Nat) (c : Ctx) (X : Cx) (xw : XWish) : Prop where
  N : X.N = c.N
  nd : c.N.Nodup
  sc : X.env.scope = c.sc
  fn : X.fn = c.fn
  calm : X.calm = true
  room : Room n X.A
  tk : Takes X (clsW G.cls xw)
  glob : GOk G n X.prog X.w X.K X.mg X.base
section
variable {G : LawG} {n : Nat} {c : Ctx} {X : Cx} {xw : XWish}
theorem CtxOk.hu (O : CtxOk G n c X xw) : X.A.units + 64 < cLine := by have := O.room.un; omega
theorem CtxOk.gl (O : CtxOk G n c X xw) {x : Str} (h : glB c.sc x = true) : Gl X x ∧ x ≠ "__name__" ∧ (x == ("__debug__" : Str)) = false := gl_of (by rw [O.sc]; exact h)
theorem CtxOk.blt (O : CtxOk G n c X xw) {x : Str} (h : blt G c x = true) : Gl X x ∧ X.mg x = none ∧ x ≠ "__name__" ∧ (x == ("__debug__" : Str)) = false := by
  unfold DL.blt at h
  rw [Bool.and_eq_true] at h
  obtain ⟨a, b, d⟩ := O.gl h.1
  exact ⟨a, O.glob.none x (of_decide_eq_true h.2), b, d⟩
theorem CtxOk.inn (O : CtxOk G n c X xw) (scope : Scope) (s : Shared) (H : Hp) (C : Addr) (cl : List (Str × Addr)) (fp : List Addr) : CtxOk G n (c.inn scope) (X.blk s H scope (compEnvC scope cl C X.env) fp) noX where
  N := O.N
  nd := O.nd
  sc := by show relS scope X.env.scope = _; rw [O.sc]
  fn := rfl
  calm := O.calm
  room := O.room
  tk := takes_no
  glob := O.glob
/-! targets -/
theorem assign_plain {e : Expr} {es : List Expr} {env : PySem.Env} (h : plainE e = true) : assignEach (e :: es) env = (false, assign e env) :: assignEach es env := by
  cases e <;> first | rfl | cases h
theorem assign_none {env : PySem.Env} : ∀ {es : List Expr}, (∀ e ∈ es, plainE e = true) → (assignEach es env).findIdx? (·.1) = none
  | [], _ => rfl
  | e :: es, h => by
    rw [assign_plain (h e List.mem_cons_self), List.findIdx?_cons]
    simp only [Bool.false_eq_true, if_false]
    rw [assign_none fun e' he => h e' (List.mem_cons_of_mem _ he)]
    rfl
theorem assign_len {env : PySem.Env} : ∀ {es : List Expr}, (∀ e ∈ es, plainE e = true) → (assignEach es env).length = es.length
  | [], _ => rfl
  | e :: es, h => by
    rw [assign_plain (h e List.mem_cons_self), List.length_cons, List.length_cons, assign_len fun e' he => h e' (List.mem_cons_of_mem _ he)]
theorem chkGs_plain : ∀ {ts : Tg} {es : List Expr}, chkGs c ts es = true → (∀ e ∈ es, plainE e = true) ∧ ∀ xs ρ ρ', bindTs ts xs ρ = some ρ' → xs.length = es.length
  | .nil, es, h => by
    cases es with
    | nil => exact ⟨fun e he => (by cases he), fun xs ρ ρ' hb => (by cases xs with | nil => rfl | cons => cases hb)⟩
    | cons => simp [chkGs] at h
  | .cons t ts, es, h => by
    cases es with
    | nil => simp [chkGs] at h
    | cons e es =>
      have h' : (plainE e = true ∧ chkG c t e = true) ∧ chkGs c ts es = true := by simpa [chkGs] using h
      obtain ⟨p, q⟩ := chkGs_plain h'.2
      refine ⟨fun e' he => ?_, fun xs ρ ρ' hb => ?_⟩
      · rcases List.mem_cons.mp he with rfl | he
        · exact h'.1.1
        · exact p e' he
      · cases xs with
        | nil => cases hb
        | cons x xs =>
          have hb' : (bindT t x ρ).bind (fun ρ1 => bindTs ts xs ρ1) = some ρ' := hb
          obtain ⟨ρ1, b1, b2⟩ := bind_some hb'
          rw [List.length_cons, List.length_cons, q xs ρ1 ρ' b2]
  | .var _, _, h => by simp [chkGs] at h
  | .tup _, _, h => by simp [chkGs] at h
theorem CtxOk.tgt (O : CtxOk G n c X xw) {x : Str} (h : c.tgt x = true) : Loc X.env.scope x ∧ (X.fn x = true ∨ X.env.scope.names.lookup x = some .local) := by
  unfold Ctx.tgt at h
  rw [Bool.and_eq_true, Bool.or_eq_true] at h
  rw [O.sc, O.fn]
  refine ⟨loc_of h.1, ?_⟩
  rcases h.2 with q | q
  · exact .inl q
  · exact .inr (isLoc_of q)
mutual
theorem g_ok (O : CtxOk G n c X xw) : ∀ {t : Tg} {e : Expr}, chkG c t e = true → PG X e (gT X.K X.w t)
  | .var i, e, h => by
    cases e with
    | Name x pos =>
      have h' : decide (c.N[i]? = some x) = true ∧ c.tgt x = true := by simpa [chkG] using h
      obtain ⟨a, b⟩ := O.tgt h'.2
      exact g_var (by rw [O.N]; exact O.nd) (by rw [O.N]; exact of_decide_eq_true h'.1) a b
    | _ => simp [chkG] at h
  | .tup t, e, h => by
    cases e with
    | Tuple es k pos =>
      have h' : chkGs c t es = true := by simpa [chkG] using h
      obtain ⟨p, q⟩ := chkGs_plain h'
      exact g_tup O.calm (gs_ok O h') (assign_none p) fun xs ρ ρ' hb => by rw [assign_len p]; exact q xs ρ ρ' hb
    | _ => simp [chkG] at h
  | .nil, _, h => by simp [chkG] at h
  | .cons _ _, _, h => by simp [chkG] at h
theorem gs_ok (O : CtxOk G n c X xw) : ∀ {t : Tg} {es : List Expr}, chkGs c t es = true → PGs X es (gTs X.K X.w t)
  | .nil, es, h => by
    cases es with
    | nil => exact g_nil
    | cons => simp [chkGs] at h
  | .cons t ts, es, h => by
    cases es with
    | nil => simp [chkGs] at h
    | cons e es =>
      have h' : (plainE e = true ∧ chkG c t e = true) ∧ chkGs c ts es = true := by simpa [chkGs] using h
      exact g_cons (g_ok O h'.1.2) (gs_ok O h'.2) (by rw [assign_plain h'.1.1]; rfl)
  | .var _, _, h => by simp [chkGs] at h
  | .tup _, _, h => by simp [chkGs] at h
end
/-! small parts -/
variable {cl : Orc}
theorem var_ok (O : CtxOk G n c X xw) {i : Nat} {e : Expr} (h : varOk c i e = true) : PE X e (RE X xw (ev cl (.var i))) := by
  cases e with
  | Name x pos =>
    have h' : ((decide (c.N[i]? = some x) = true ∧ visB c.sc x = true) ∧ (x == ("__debug__" : Str)) = false) ∧ (x == ("__classdict__" : Str)) = false := by
      unfold varOk at h
      rw [Bool.and_eq_true, Bool.and_eq_true, Bool.and_eq_true] at h
      obtain ⟨⟨⟨a, b⟩, d⟩, e⟩ := h
      exact ⟨⟨⟨a, b⟩, by rw [Bool.not_eq_true'] at d; exact d⟩, by rw [Bool.not_eq_true'] at e; exact e⟩
    obtain ⟨⟨⟨a, b⟩, d⟩, e⟩ := h'
    exact s_var (by rw [O.N]; exact of_decide_eq_true a) (by rw [O.sc]; exact vis_of b) d e
  | _ => cases h
theorem cst_ok (O : CtxOk G n c X xw) {a : AV} {e : Expr} (h : cstOk G c a e = true) : PE X e (RE X xw (ev cl (.cst a))) := by
  unfold cstOk at h
  split at h
  · exact s_cst pe_non fun R => .non
  · cases (beq_iff_eq.mp h); exact s_cst pe_bl fun R => .bl _
  · cases (beq_iff_eq.mp h); exact s_cst pe_int fun R => .int _
  · cases (beq_iff_eq.mp h); exact s_cst pe_str fun R => .str _
  · rename_i i x pos
    rw [Bool.and_eq_true] at h
    obtain ⟨hg, hn, hd⟩ := O.gl h.1
    obtain ⟨u, e1, r⟩ := O.glob.gints x i (of_decide_eq_true h.2)
    exact s_cst (v := .int i) ⟨fun pins s σ H Q I q => ld_glob I hg e1 ⟨.int i, H, I, r, q⟩ hd⟩ fun R => .int _
  · cases h
theorem bin_ok {o : BOp} {p : Operator} (h : binOk o p = true) : OpR X (binaryOp p) (rOp X.K X.w xw (opBin o)) := by
  unfold binOk at h
  split at h
  · exact opr_add
  · exact opr_sub
  · exact opr_mul
  · exact opr_div
  · exact opr_mod
  · exact opr_pow
  · cases h
theorem aug_ok {o : BOp} {p : Operator} (h : augOk o p = true) : PIp X p (rAug (opAug o) X.K X.w) := by
  unfold augOk at h
  split at h
  · exact aug_add
  · exact aug_sub
  · exact aug_mul
  · cases h
theorem cmp_ok (hu : X.A.units + 64 < cLine) {o : COp} {p : CmpOp} (h : cmpOkO o p = true) : OpR X (compareOp p) (rCo X.K X.w (opCmp o)) := by
  unfold cmpOkO at h
  split at h
  · exact cor_eq hu
  · exact cor_ne hu
  · exact cor_lt
  · exact cor_le
  · exact cor_gt
  · exact cor_ge
  · exact cor_is
  · exact cor_isnot
  · cases h
theorem one_ok {op : BoolOp} {e : Expr} {t : TE} {pos : Pos} (h : PE X e t) : PE X (.BoolOp op [e] pos) t := ⟨fun pins s σ H Q I q => h.run pins s σ H Q I q⟩
theorem fold_ok {e : Expr} {env : PySem.Env} (h : plainE e = true) : ∀ x, foldedSetIterable e env x = pure x := by
  intro x
  cases e <;> first | rfl | cases h
theorem bi_ok (O : CtxOk G n c X xw) {f : BI} {x : Str} {e : Expr} {es : List Expr} {p pos : Pos} {ma : Env → Store → Res RV} (h : biOk f x = true) (hb : blt G c x = true) (ha : PA X (e :: es) (RA X xw ma)) (h1 : plainE e = true) (h2 : es.all plainE = true) :
    PE X (.Call (.Name x p) (e :: es) [] pos) (RE X xw fun ρ S => (ma ρ S).bnd fun x S1 => biCall f x.list S1) := by
  obtain ⟨g1, g2, g3, g4⟩ := O.blt hb
  unfold biOk at h
  split at h
  · cases (beq_iff_eq.mp h); exact s_biB (f := biLen) cal_len g1 g2 (by decide +kernel) ha g3 g4 h1 h2
  · cases (beq_iff_eq.mp h); exact s_biB (f := biAll) (cal_all O.calm) g1 g2 (by decide +kernel) ha g3 g4 h1 h2
  · cases (beq_iff_eq.mp h); exact s_biB (f := biAny) (cal_any O.calm) g1 g2 (by decide +kernel) ha g3 g4 h1 h2
  · cases (beq_iff_eq.mp h); exact s_biB (f := biSum) (cal_sum O.calm) g1 g2 (by decide +kernel) ha g3 g4 h1 h2
  · cases (beq_iff_eq.mp h); exact s_biT (f := biTuple) cal_tuple g1 g2 (by decide +kernel) ha g3 g4 h1 h2
  · cases h
theorem mi_ok (O : CtxOk G n c X xw) {m : MI} {x : Str} (h : miOk m x = true) : MthOk X xw x m := by
  unfold miOk at h
  split at h
  · cases (beq_iff_eq.mp h)
    refine ⟨fun k hk => ?_⟩
    cases k <;> first | cases hk; done | skip
    exact ⟨by decide, "list.append", F.plainAttrs_list, F.slot_list_append, F.type_list_append, mi_append⟩
  · cases (beq_iff_eq.mp h)
    refine ⟨fun k hk => ?_⟩
    cases k <;> first | cases hk; done | skip
    exact ⟨by decide, "list.extend", F.plainAttrs_list, F.slot_list_extend, F.type_list_extend, mi_extend⟩
  · cases (beq_iff_eq.mp h)
    refine ⟨fun k hk => ?_⟩
    cases k <;> first | cases hk; done | skip
    exact ⟨by decide, "list.pop", F.plainAttrs_list, F.slot_list_pop, F.type_list_pop, mi_popat⟩
  · cases (beq_iff_eq.mp h)
    refine ⟨fun k hk => ?_⟩
    cases k <;> first | cases hk; done | skip
    exact ⟨by decide, "dict.get", F.plainAttrs_dict, F.slot_dict_get, F.type_dict_get, mi_get2 O.hu⟩
  · cases h
theorem ty_ok {t : Ty} {T : Str} (h : tyOk t T = true) : bootBuiltins T = some (.type t.nm) := by
  unfold tyOk at h
  split at h
  all_goals (cases (beq_iff_eq.mp h); decide +kernel)
end
end DL

set_option Elab.async false
set_option linter.all false
set_option maxRecDepth 100000
set_option maxHeartbeats 8000000
namespace DL
open PySem PySem.Spec PyProof.Rows L2
section
variable {G : LawG} {n : Nat}
noncomputable abbrev orc (G : LawG) (n : Nat) : Orc := ⟨callN G.P n⟩
structure Main (G : LawG) (n : Nat) (x : Ex) : Prop where
  E : ∀ {c X xw}, CtxOk G n c X xw → ∀ e, chkE G c x e = true → PE X e (RE X xw (ev (orc G n) x))
  T : ∀ {c X xw}, CtxOk G n c X xw → ∀ e, chkT G c x e = true → PT X e (RT X xw (ev (orc G n) x)) ∧ ∀ op es pos, e = .BoolOp op es pos → PW X e (RT X xw (ev (orc G n) x))
  A : ∀ {c X xw}, CtxOk G n c X xw → ∀ es, chkA G c x es = true → PA X es (RA X xw (ev (orc G n) x)) ∧ ∀ ρ S r S', ev (orc G n) x ρ S = .ok r S' → r.list.length = es.length
  D : ∀ {c X xw}, CtxOk G n c X xw → ∀ ks vs pos, chkD G c x ks vs = true → PD X ks vs pos (RA X xw (ev (orc G n) x))
  I : ∀ {c X xw}, CtxOk G n c X xw → ∀ t e, chkI G c x t e = true → PI X t e (RI X xw (ev (orc G n) x))
theorem bnd_assoc {α β γ : Type} (m : Res α) (f : α → Store → Res β) (g : β → Store → Res γ) : (m.bnd f).bnd g = m.bnd fun a S => (f a S).bnd g := by cases m <;> rfl
theorem bnd_inv {α β : Type} {m : Res α} {f : α → Store → Res β} {b : β} {S' : Store} (h : m.bnd f = .ok b S') : ∃ a S, m = .ok a S ∧ f a S = .ok b S' := by
  cases m with
  | ok a S => exact ⟨a, S, rfl, h⟩
  | exc c S => cases h
  | stop => cases h
/-! the parts that several forms share -/
theorem call_ok {c : Ctx} {X : Cx} {xw : XWish} (O : CtxOk G n c X xw) {k : Nat} {as : Ex} (M : Main G n as) {e : Expr}
    (h : (match e with
    | .Call (.Name x _) (y :: ys) [] _ => glB c.sc x && decide (G.defs.lookup x = some k) && chkA G c as (y :: ys) && plainE y && ys.all plainE
    | .Call (.Name x _) [] [] _ => glB c.sc x && decide (G.defs.lookup x = some k) && chkA G c as []
    | _ => false) = true) : PE X e (RE X xw (ev (orc G n) (.call k as))) := by
  split at h
  · simp only [Bool.and_eq_true, decide_eq_true_eq] at h
    obtain ⟨⟨⟨⟨h1, h2⟩, h3⟩, h4⟩, h5⟩ := h
    obtain ⟨f, fd, ps, F, m1, m2, m3⟩ := O.glob.defs _ _ h2
    obtain ⟨g1, g2, g3⟩ := O.gl h1
    exact s_call F O.room g1 m1 m2 m3 O.tk (M.A O _ h3).1 g3 h4 h5
  · simp only [Bool.and_eq_true, decide_eq_true_eq] at h
    obtain ⟨⟨h1, h2⟩, h3⟩ := h
    obtain ⟨f, fd, ps, F, m1, m2, m3⟩ := O.glob.defs _ _ h2
    obtain ⟨g1, g2, g3⟩ := O.gl h1
    refine pe_imp (s_call0 (xw := xw) F O.room g1 m1 m2 m3 O.tk g3) fun σ H Q ⟨R, ρ, S, he, W, z⟩ => ⟨R, ρ, S, he, W, ?_⟩
    have hx : ev (orc G n) as ρ S = .ok (.l []) S := by
      cases as with
      | nil => rfl
      | cons a as => unfold chkA at h3; cases h3
      | _ => unfold chkA at h3; cases h3
    have z' : Post X.K X.w xw R H ((ev (orc G n) as ρ S).bnd fun x S1 => callN G.P n k x.list S1) Q := z
    rw [hx] at z'
    exact z'
  · cases h
theorem bi_ok' {c : Ctx} {X : Cx} {xw : XWish} (O : CtxOk G n c X xw) {f : BI} {as : Ex} (M : Main G n as) {e : Expr}
    (h : (match e with
    | .Call (.Name x _) (y :: ys) [] _ => biOk f x && blt G c x && chkA G c as (y :: ys) && plainE y && ys.all plainE
    | _ => false) = true) : PE X e (RE X xw (ev (orc G n) (.bi f as))) := by
  split at h
  · simp only [Bool.and_eq_true] at h
    obtain ⟨⟨⟨⟨h1, h2⟩, h3⟩, h4⟩, h5⟩ := h
    exact bi_ok O h1 h2 (M.A O _ h3).1 h4 h5
  · cases h
theorem isi_ok {c : Ctx} {X : Cx} {xw : XWish} (O : CtxOk G n c X xw) {a : Ex} {t : Ty} (M : Main G n a) {e : Expr}
    (h : (match e with
    | .Call (.Name x _) [y, .Name T _] [] _ => x == "isinstance" && blt G c x && tyOk t T && blt G c T && chkE G c a y && plainE y
    | _ => false) = true) : PE X e (RE X xw (ev (orc G n) (.isi a t))) := by
  split at h
  · simp only [Bool.and_eq_true, beq_iff_eq] at h
    obtain ⟨⟨⟨⟨⟨rfl, h2⟩, h3⟩, h4⟩, h5⟩, h6⟩ := h
    obtain ⟨g1, g2, g3, g4⟩ := O.blt h2
    obtain ⟨k1, k2, k3, k4⟩ := O.blt h4
    exact s_isi (M.E O _ h5) h6 g1 g2 k1 k2 (ty_ok h3) k3 k4
  · cases h
theorem sub_ok {c : Ctx} {X : Cx} {xw : XWish} (O : CtxOk G n c X xw) {a i : Ex} (M : Main G n a) (N : Main G n i) {e : Expr}
    (h : (match e with
    | .Subscript x y _ => chkE G c a x && chkE G c i y && plainE y
    | _ => false) = true) : PE X e (RE X xw (ev (orc G n) (.sub a i))) := by
  split at h
  · simp only [Bool.and_eq_true] at h
    exact s_sub O.hu (M.E O _ h.1.1) (N.E O _ h.1.2) (plainIx_of h.2)
  · cases h
theorem tup_ok {c : Ctx} {X : Cx} {xw : XWish} (O : CtxOk G n c X xw) {es : Ex} (M : Main G n es) {e : Expr}
    (h : (match e with
    | .Tuple xs _ _ => chkA G c es xs && decide (xs.length ≤ 1000)
    | _ => false) = true) : PE X e (RE X xw (ev (orc G n) (.tup es))) := by
  split at h
  · simp only [Bool.and_eq_true, decide_eq_true_eq] at h
    obtain ⟨p, q⟩ := M.A O _ h.1
    exact s_tup p fun ρ S r S' e => by rw [q ρ S r S' e]; exact h.2
  · cases h
theorem lst_ok {c : Ctx} {X : Cx} {xw : XWish} (O : CtxOk G n c X xw) {es : Ex} (M : Main G n es) {e : Expr}
    (h : (match e with
    | .List xs _ => chkA G c es xs && decide (xs.length ≤ 1000)
    | _ => false) = true) : PE X e (RE X xw (ev (orc G n) (.lst es))) := by
  split at h
  · simp only [Bool.and_eq_true, decide_eq_true_eq] at h
    obtain ⟨p, q⟩ := M.A O _ h.1
    exact s_lst p fun ρ S r S' e => by rw [q ρ S r S' e]; exact h.2
  · cases h
theorem t_of_E {X : Cx} {xw : XWish} {m : Env → Store → Res RV} {e : Expr} (h : PE X e (RE X xw m)) (hv : valE e = true) : PT X e (RT X xw m) ∧ ∀ op es pos, e = .BoolOp op es pos → PW X e (RT X xw m) := by
  refine ⟨?_, fun op es pos he => by rw [he] at hv; cases hv⟩
  cases e <;> first | (cases hv; done) | exact rdT_of h (fun whole => rfl)
theorem own_map (c : Ctx) (own : List Nat) : (ownP c own).map (·.2) = own := by
  unfold ownP
  rw [List.map_map]
  exact List.map_id own
theorem sub_of {xs ys : List Nat} (h : subB xs ys = true) : ∀ j ∈ xs, j ∈ ys := fun j hj => of_decide_eq_true (List.all_eq_true.mp h j hj)
theorem ifs_ok {c : Ctx} {X : Cx} {xw : XWish} (O : CtxOk G n c X xw) {ct : Ex} {ifs : List Expr} (h : (match ifs with
      | [] => (match ct with
        | .cst (.bl true) => true
        | _ => false)
      | [u] => chkT G c ct u
      | _ => false) = true) (M : Main G n ct) : PTs X ifs (rdT X.K X.w xw (ev (orc G n) ct)) := by
  split at h
  · split at h
    · exact pts_none fun ρ S => rfl
    · cases h
  · exact pts_one (M.T O _ h).1
  · cases h
theorem a_no {x : Ex} (h : ∀ c es, chkA G c x es = false) : ∀ {c X xw}, CtxOk G n c X xw → ∀ es, chkA G c x es = true → PA X es (RA X xw (ev (orc G n) x)) ∧ ∀ ρ S r S', ev (orc G n) x ρ S = .ok r S' → r.list.length = es.length := fun O es q => by rw [h] at q; cases q
theorem d_no {x : Ex} (h : ∀ c ks vs, chkD G c x ks vs = false) : ∀ {c X xw}, CtxOk G n c X xw → ∀ ks vs pos, chkD G c x ks vs = true → PD X ks vs pos (RA X xw (ev (orc G n) x)) := fun O ks vs pos q => by rw [h] at q; cases q
theorem t_no {x : Ex} (h : ∀ c e, chkT G c x e = false) : ∀ {c X xw}, CtxOk G n c X xw → ∀ e, chkT G c x e = true → PT X e (RT X xw (ev (orc G n) x)) ∧ ∀ op es pos, e = .BoolOp op es pos → PW X e (RT X xw (ev (orc G n) x)) := fun O e q => by rw [h] at q; cases q
theorem e_no {x : Ex} (h : ∀ c e, chkE G c x e = false) : ∀ {c X xw}, CtxOk G n c X xw → ∀ e, chkE G c x e = true → PE X e (RE X xw (ev (orc G n) x)) := fun O e q => by rw [h] at q; cases q
theorem i_no {x : Ex} (h : ∀ c t e, chkI G c x t e = false) : ∀ {c X xw}, CtxOk G n c X xw → ∀ t e, chkI G c x t e = true → PI X t e (RI X xw (ev (orc G n) x)) := fun O t e q => by rw [h] at q; cases q
theorem valE_call {e : Expr} {g : Str → Pos → List Expr → Pos → Bool} (h : (match e with
    | .Call (.Name x p) ys [] q => g x p ys q
    | _ => false) = true) : valE e = true := by
  split at h
  · rfl
  · cases h
def Tail (G : LawG) (n : Nat) : Ex → Prop
  | .cons b r => Main G n b ∧ Main G n r
  | _ => True
theorem main_all : ∀ x : Ex, Main G n x ∧ Tail G n x := by
  intro x
  induction x with
  | var i => exact ⟨⟨fun O e h => (by unfold chkE at h; exact var_ok O h), fun O e h => (by
      unfold chkT at h
      have h' := h
      refine t_of_E (var_ok O h') ?_
      cases e <;> first | rfl | cases h'), a_no (fun _ _ => by unfold chkA; rfl), d_no (fun _ _ _ => by unfold chkD; rfl), fun O t e h => (by unfold chkI at h; exact i_data (var_ok O h))⟩, trivial⟩
  | cst a => exact ⟨⟨fun O e h => (by unfold chkE at h; exact cst_ok O h), t_no (fun _ _ => by unfold chkT; rfl), a_no (fun _ _ => by unfold chkA; rfl), d_no (fun _ _ _ => by unfold chkD; rfl), i_no (fun _ _ _ => by unfold chkI; rfl)⟩, trivial⟩
  | bin o a b iha ihb =>
    refine ⟨⟨fun O e h => ?_, t_no (fun _ _ => by unfold chkT; rfl), a_no (fun _ _ => by unfold chkA; rfl), d_no (fun _ _ _ => by unfold chkD; rfl), i_no (fun _ _ _ => by unfold chkI; rfl)⟩, trivial⟩
    unfold chkE at h
    split at h
    · simp only [Bool.and_eq_true] at h
      exact s_bin (bin_ok h.1.1) (iha.1.E O _ h.1.2) (ihb.1.E O _ h.2)
    · cases h
  | neg a iha =>
    refine ⟨⟨fun O e h => ?_, t_no (fun _ _ => by unfold chkT; rfl), a_no (fun _ _ => by unfold chkA; rfl), d_no (fun _ _ _ => by unfold chkD; rfl), i_no (fun _ _ _ => by unfold chkI; rfl)⟩, trivial⟩
    unfold chkE at h
    split at h
    · exact s_neg (iha.1.E O _ h)
    · cases h
  | nt a iha =>
    refine ⟨⟨fun O e h => ?_, fun O e h => ?_, a_no (fun _ _ => by unfold chkA; rfl), d_no (fun _ _ _ => by unfold chkD; rfl), i_no (fun _ _ _ => by unfold chkI; rfl)⟩, trivial⟩
    · unfold chkE at h
      split at h
      · exact s_not (iha.1.E O _ h)
      · cases h
    · unfold chkT at h
      split at h
      · exact ⟨t_not (iha.1.T O _ h).1, fun op es pos he => by cases he⟩
      · cases h
  | and a b iha ihb =>
    refine ⟨⟨fun O e h => ?_, fun O e h => ?_, a_no (fun _ _ => by unfold chkA; rfl), d_no (fun _ _ _ => by unfold chkD; rfl), i_no (fun _ _ _ => by unfold chkI; rfl)⟩, trivial⟩
    · unfold chkE at h
      split at h
      · simp only [Bool.and_eq_true] at h
        exact s_and (iha.1.E O _ h.1) (one_ok (ihb.1.E O _ h.2))
      · simp only [Bool.and_eq_true] at h
        exact s_and (iha.1.E O _ h.1) (ihb.1.E O _ h.2)
      · cases h
    · unfold chkT at h
      split at h
      · simp only [Bool.and_eq_true] at h
        exact ⟨(t_and (iha.1.T O _ h.1).1 (pw_and1 (ihb.1.T O _ h.2).1)).pt, fun _ _ _ _ => t_and (iha.1.T O _ h.1).1 (pw_and1 (ihb.1.T O _ h.2).1)⟩
      · simp only [Bool.and_eq_true] at h
        exact ⟨(t_and (iha.1.T O _ h.1).1 ((ihb.1.T O _ h.2).2 _ _ _ rfl)).pt, fun _ _ _ _ => t_and (iha.1.T O _ h.1).1 ((ihb.1.T O _ h.2).2 _ _ _ rfl)⟩
      · cases h
  | or a b iha ihb =>
    refine ⟨⟨fun O e h => ?_, fun O e h => ?_, a_no (fun _ _ => by unfold chkA; rfl), d_no (fun _ _ _ => by unfold chkD; rfl), i_no (fun _ _ _ => by unfold chkI; rfl)⟩, trivial⟩
    · unfold chkE at h
      split at h
      · simp only [Bool.and_eq_true] at h
        exact s_or (iha.1.E O _ h.1) (one_ok (ihb.1.E O _ h.2))
      · simp only [Bool.and_eq_true] at h
        exact s_or (iha.1.E O _ h.1) (ihb.1.E O _ h.2)
      · cases h
    · unfold chkT at h
      split at h
      · simp only [Bool.and_eq_true] at h
        exact ⟨(t_or (iha.1.T O _ h.1).1 (pw_or1 (ihb.1.T O _ h.2).1)).pt, fun _ _ _ _ => t_or (iha.1.T O _ h.1).1 (pw_or1 (ihb.1.T O _ h.2).1)⟩
      · simp only [Bool.and_eq_true] at h
        exact ⟨(t_or (iha.1.T O _ h.1).1 ((ihb.1.T O _ h.2).2 _ _ _ rfl)).pt, fun _ _ _ _ => t_or (iha.1.T O _ h.1).1 ((ihb.1.T O _ h.2).2 _ _ _ rfl)⟩
      · cases h
  | cmp o a b iha ihb =>
    refine ⟨⟨fun O e h => ?_, fun O e h => ?_, a_no (fun _ _ => by unfold chkA; rfl), d_no (fun _ _ _ => by unfold chkD; rfl), i_no (fun _ _ _ => by unfold chkI; rfl)⟩, trivial⟩
    · unfold chkE at h
      split at h
      · simp only [Bool.and_eq_true] at h
        exact s_cmp (cmp_ok O.hu h.1.1.1) (iha.1.E O _ h.1.1.2) (ihb.1.E O _ h.1.2) (behind_plain h.2)
      · cases h
    · unfold chkT at h
      split at h
      · simp only [Bool.and_eq_true] at h
        exact ⟨t_cmp (cmp_ok O.hu h.1.1.1) (iha.1.E O _ h.1.1.2) (ihb.1.E O _ h.1.2) (behind_plain h.2), fun op es pos he => by cases he⟩
      · cases h
  | chain o p a b d iha ihb ihd =>
    refine ⟨⟨fun O e h => ?_, fun O e h => ?_, a_no (fun _ _ => by unfold chkA; rfl), d_no (fun _ _ _ => by unfold chkD; rfl), i_no (fun _ _ _ => by unfold chkI; rfl)⟩, trivial⟩
    · unfold chkE at h
      split at h
      · simp only [Bool.and_eq_true] at h
        exact s_chain (cmp_ok O.hu h.1.1.1.1.1) (cmp_ok O.hu h.1.1.1.1.2) (iha.1.E O _ h.1.1.1.2) (ihb.1.E O _ h.1.1.2) (ihd.1.E O _ h.1.2) (behind_plain h.2)
      · cases h
    · unfold chkT at h
      split at h
      · simp only [Bool.and_eq_true] at h
        exact ⟨t_chain (cmp_ok O.hu h.1.1.1.1.1) (cmp_ok O.hu h.1.1.1.1.2) (iha.1.E O _ h.1.1.1.2) (ihb.1.E O _ h.1.1.2) (ihd.1.E O _ h.1.2) (behind_plain h.2), fun op es pos he => by cases he⟩
      · cases h
  | ite t a b iht iha ihb =>
    refine ⟨⟨fun O e h => ?_, t_no (fun _ _ => by unfold chkT; rfl), a_no (fun _ _ => by unfold chkA; rfl), d_no (fun _ _ _ => by unfold chkD; rfl), i_no (fun _ _ _ => by unfold chkI; rfl)⟩, trivial⟩
    unfold chkE at h
    split at h
    · simp only [Bool.and_eq_true] at h
      exact s_ite (iht.1.T O _ h.1.1).1 (iha.1.E O _ h.1.2) (ihb.1.E O _ h.2)
    · cases h
  | tup es ih =>
    exact ⟨⟨fun O e h => tup_ok O ih.1 (by unfold chkE at h; exact h), t_no (fun _ _ => by unfold chkT; rfl), a_no (fun _ _ => by unfold chkA; rfl), d_no (fun _ _ _ => by unfold chkD; rfl), fun O t e h => i_data (tup_ok O ih.1 (by unfold chkI at h; exact h))⟩, trivial⟩
  | lst es ih =>
    exact ⟨⟨fun O e h => lst_ok O ih.1 (by unfold chkE at h; exact h), t_no (fun _ _ => by unfold chkT; rfl), a_no (fun _ _ => by unfold chkA; rfl), d_no (fun _ _ _ => by unfold chkD; rfl), fun O t e h => i_data (lst_ok O ih.1 (by unfold chkI at h; exact h))⟩, trivial⟩
  | dic es ih =>
    refine ⟨⟨fun O e h => ?_, t_no (fun _ _ => by unfold chkT; rfl), a_no (fun _ _ => by unfold chkA; rfl), d_no (fun _ _ _ => by unfold chkD; rfl), i_no (fun _ _ _ => by unfold chkI; rfl)⟩, trivial⟩
    unfold chkE at h
    split at h
    · rename_i ks vs pos
      simp only [Bool.and_eq_true, decide_eq_true_eq] at h
      obtain ⟨⟨⟨h1, h2⟩, h3⟩, h4⟩ := h
      cases ks with
      | nil =>
        cases vs with
        | cons => cases h3
        | nil =>
          refine pe_imp (s_dic0 (xw := ‹XWish›)) fun σ H Q ⟨R, ρ, S, he, W, z⟩ => ⟨R, ρ, S, he, W, ?_⟩
          have hx : ev (orc G n) es ρ S = .ok (.l []) S := by
            cases es with
            | nil => rfl
            | cons a as =>
              cases as with
              | cons b r => unfold chkD at h1; cases h1
              | _ => unfold chkD at h1; cases h1
            | _ => unfold chkD at h1; cases h1
          have z' : Post _ _ _ R H ((ev (orc G n) es ρ S).bnd fun x S1 => match dputs [] x.list with
            | some kvs => .ok (.d kvs) S1
            | none => .stop) Q := z
          rw [hx] at z'
          exact z'
      | cons k ks => exact s_dic O.hu (ih.1.D O _ _ pos h1) h4 h3 (by simp) h2
    · cases h
  | nil =>
    refine ⟨⟨e_no (fun _ _ => by unfold chkE; rfl), t_no (fun _ _ => by unfold chkT; rfl), fun O es h => ?_, fun O ks vs pos h => ?_, i_no (fun _ _ _ => by unfold chkI; rfl)⟩, trivial⟩
    · unfold chkA at h
      split at h
      · exact ⟨a_nil, fun ρ S r S' e => by cases e; rfl⟩
      · cases h
    · unfold chkD at h
      split at h
      · exact pd_nil
      · cases h
  | cons a as iha ihas =>
    refine ⟨⟨e_no (fun _ _ => by unfold chkE; rfl), t_no (fun _ _ => by unfold chkT; rfl), fun O es h => ?_, fun O ks vs pos h => ?_, i_no (fun _ _ _ => by unfold chkI; rfl)⟩, iha.1, ihas.1⟩
    · unfold chkA at h
      split at h
      · rename_i e es
        simp only [Bool.and_eq_true] at h
        obtain ⟨p, q⟩ := ihas.1.A O _ h.2
        refine ⟨a_cons (iha.1.E O _ h.1.2) p (starEach_plain h.1.1), fun ρ S r S' e => ?_⟩
        obtain ⟨x, S1, e1, e2⟩ := bnd_inv e
        obtain ⟨y, S2, e3, e4⟩ := bnd_inv e2
        cases e4
        show (x.av :: y.list).length = _
        rw [List.length_cons, List.length_cons, q _ _ _ _ e3]
      · cases h
    · cases as with
      | cons b r =>
        obtain ⟨Mb, Mr⟩ := ihas.2
        unfold chkD at h
        split at h
        · simp only [Bool.and_eq_true] at h
          have q := pd_cons (pos := pos) (iha.1.E O _ h.1.1) (Mb.E O _ h.1.2) (Mr.D O _ _ pos h.2)
          refine ⟨fun pins s σ H Q I ⟨R, ρ, S, he, W, z⟩ => q.run pins s σ H Q I ⟨R, ρ, S, he, W, ?_⟩⟩
          have e : ev (orc G n) (.cons a (.cons b r)) ρ S = (ev (orc G n) a ρ S).bnd fun x S1 => (ev (orc G n) b ρ S1).bnd fun y S2 => (ev (orc G n) r ρ S2).bnd fun z S3 => .ok (.l (x.av :: y.av :: z.list)) S3 := by
            show (ev (orc G n) a ρ S).bnd (fun x S1 => ((ev (orc G n) b ρ S1).bnd fun y S2 => (ev (orc G n) r ρ S2).bnd fun z S3 => (.ok (.l (y.av :: z.list)) S3 : Res RV)).bnd fun y S2 => (.ok (.l (x.av :: y.list)) S2 : Res RV)) = _
            congr 1
            funext x S1
            rw [bnd_assoc]
            congr 1
            funext y S2
            rw [bnd_assoc]
            rfl
          rw [e] at z
          exact z
        · cases h
      | _ => unfold chkD at h; cases h
  | sub a i iha ihi =>
    exact ⟨⟨fun O e h => sub_ok O iha.1 ihi.1 (by unfold chkE at h; exact h), fun O e h => t_of_E (sub_ok O iha.1 ihi.1 (by unfold chkT at h; exact h)) (by unfold chkT at h; split at h; rfl; cases h), a_no (fun _ _ => by unfold chkA; rfl), d_no (fun _ _ _ => by unfold chkD; rfl), fun O t e h => i_data (sub_ok O iha.1 ihi.1 (by unfold chkI at h; exact h))⟩, trivial⟩
  | bi f as ih =>
    exact ⟨⟨fun O e h => bi_ok' O ih.1 (by unfold chkE at h; exact h), fun O e h => t_of_E (bi_ok' O ih.1 (by unfold chkT at h; exact h)) (by unfold chkT at h; split at h; rfl; cases h), a_no (fun _ _ => by unfold chkA; rfl), d_no (fun _ _ _ => by unfold chkD; rfl), fun O t e h => i_data (bi_ok' O ih.1 (by unfold chkI at h; exact h))⟩, trivial⟩
  | isi a t ih =>
    exact ⟨⟨fun O e h => isi_ok O ih.1 (by unfold chkE at h; exact h), fun O e h => t_of_E (isi_ok O ih.1 (by unfold chkT at h; exact h)) (by unfold chkT at h; split at h; rfl; cases h), a_no (fun _ _ => by unfold chkA; rfl), d_no (fun _ _ _ => by unfold chkD; rfl), i_no (fun _ _ _ => by unfold chkI; rfl)⟩, trivial⟩
  | call k as ih =>
    exact ⟨⟨fun O e h => call_ok O ih.1 (by unfold chkE at h; exact h), fun O e h => t_of_E (call_ok O ih.1 (by unfold chkT at h; exact h)) (by unfold chkT at h; split at h; rfl; rfl; cases h), a_no (fun _ _ => by unfold chkA; rfl), d_no (fun _ _ _ => by unfold chkD; rfl), fun O t e h => i_data (call_ok O ih.1 (by unfold chkI at h; exact h))⟩, trivial⟩
  | mt m o as iho ih =>
    refine ⟨⟨fun O e h => ?_, t_no (fun _ _ => by unfold chkT; rfl), a_no (fun _ _ => by unfold chkA; rfl), d_no (fun _ _ _ => by unfold chkD; rfl), i_no (fun _ _ _ => by unfold chkI; rfl)⟩, trivial⟩
    unfold chkE at h
    split at h
    · simp only [Bool.and_eq_true, decide_eq_true_eq] at h
      obtain ⟨⟨⟨⟨⟨⟨⟨h1, h2⟩, h3⟩, h4⟩, h5⟩, h6⟩, h7⟩, h8⟩ := h
      exact s_mt (mi_ok O h1) (iho.1.E O _ h2) (ih.1.A O _ h4).1 h3 h5 h6 h7 h8
    · cases h
  | bx a ih =>
    exact ⟨⟨fun O e h => s_bx (ih.1.E O _ (by unfold chkE at h; exact h)), t_no (fun _ _ => by unfold chkT; rfl), a_no (fun _ _ => by unfold chkA; rfl), d_no (fun _ _ _ => by unfold chkD; rfl), i_no (fun _ _ _ => by unfold chkI; rfl)⟩, trivial⟩
  | rng a ih =>
    refine ⟨⟨e_no (fun _ _ => by unfold chkE; rfl), t_no (fun _ _ => by unfold chkT; rfl), a_no (fun _ _ => by unfold chkA; rfl), d_no (fun _ _ _ => by unfold chkD; rfl), fun O t e h => ?_⟩, trivial⟩
    unfold chkI at h
    split at h
    · simp only [Bool.and_eq_true, beq_iff_eq] at h
      obtain ⟨⟨⟨rfl, h2⟩, h3⟩, h4⟩ := h
      obtain ⟨g1, g2, g3, g4⟩ := O.blt h2
      exact i_rng1 g1 g2 (ih.1.E O _ h3) h4
    · cases h
  | rng2 a b iha ihb =>
    refine ⟨⟨e_no (fun _ _ => by unfold chkE; rfl), t_no (fun _ _ => by unfold chkT; rfl), a_no (fun _ _ => by unfold chkA; rfl), d_no (fun _ _ _ => by unfold chkD; rfl), fun O t e h => ?_⟩, trivial⟩
    unfold chkI at h
    split at h
    · simp only [Bool.and_eq_true, beq_iff_eq] at h
      obtain ⟨⟨⟨⟨⟨rfl, h2⟩, h3⟩, h4⟩, h5⟩, h6⟩ := h
      obtain ⟨g1, g2, g3, g4⟩ := O.blt h2
      exact i_rng2 g1 g2 (iha.1.E O _ h3) (ihb.1.E O _ h5) h4 h6
    · cases h
  | zip a b iha ihb =>
    refine ⟨⟨e_no (fun _ _ => by unfold chkE; rfl), t_no (fun _ _ => by unfold chkT; rfl), a_no (fun _ _ => by unfold chkA; rfl), d_no (fun _ _ _ => by unfold chkD; rfl), fun O t e h => ?_⟩, trivial⟩
    unfold chkI at h
    split at h
    · simp only [Bool.and_eq_true, beq_iff_eq] at h
      obtain ⟨⟨⟨⟨⟨⟨h1, rfl⟩, h2⟩, h3⟩, h4⟩, h5⟩, h6⟩ := h
      obtain ⟨g1, g2, g3, g4⟩ := O.blt h2
      cases t with
      | Tuple es k p => exact i_zip g1 g2 (iha.1.E O _ h3) (ihb.1.E O _ h5) h4 h6
      | _ => cases h1
    · cases h
  | vals a ih =>
    refine ⟨⟨e_no (fun _ _ => by unfold chkE; rfl), t_no (fun _ _ => by unfold chkT; rfl), a_no (fun _ _ => by unfold chkA; rfl), d_no (fun _ _ _ => by unfold chkD; rfl), fun O t e h => ?_⟩, trivial⟩
    unfold chkI at h
    split at h
    · simp only [Bool.and_eq_true, beq_iff_eq] at h
      obtain ⟨⟨⟨rfl, h2⟩, h3⟩, h4⟩ := h
      exact i_vals (ih.1.E O _ h2) h3 (by rw [h4]; exact beq_self_eq_true _)
    · cases h
  | comp own tg it ct el ihi ihc ihe =>
    refine ⟨⟨fun O e h => ?_, t_no (fun _ _ => by unfold chkT; rfl), a_no (fun _ _ => by unfold chkA; rfl), d_no (fun _ _ _ => by unfold chkD; rfl), i_no (fun _ _ _ => by unfold chkI; rfl)⟩, trivial⟩
    unfold chkE at h
    split at h
    · simp only [Bool.and_eq_true, decide_eq_true_eq] at h
      obtain ⟨⟨⟨⟨⟨⟨⟨rfl, h2⟩, h3⟩, h4⟩, h5⟩, h6⟩, h7⟩, h8⟩ := h
      have q := fun pos => s_lc (pos := pos) (xw := _) O.calm (by rw [O.N]; exact O.nd) (ihi.1.I O _ _ h4) (blkOk_by (by rw [O.N, O.sc]; exact h2)) (by rw [own_map]; exact sub_of h3) (fun s H C cl fp => g_ok (O.inn _ s H C cl fp) h6) (fun s H C cl fp => ifs_ok (O.inn _ s H C cl fp) h8 ihc.1) (fun s H C cl fp => ihe.1.E (O.inn _ s H C cl fp) _ h7) (fold_ok h5)
      simp only [own_map] at q
      exact q _
    · cases h
  | comp2 own own1 tg it tg1 it1 ct el ihi ihi1 ihc ihe =>
    refine ⟨⟨fun O e h => ?_, t_no (fun _ _ => by unfold chkT; rfl), a_no (fun _ _ => by unfold chkA; rfl), d_no (fun _ _ _ => by unfold chkD; rfl), i_no (fun _ _ _ => by unfold chkI; rfl)⟩, trivial⟩
    unfold chkE at h
    split at h
    · simp only [Bool.and_eq_true, decide_eq_true_eq] at h
      obtain ⟨⟨⟨⟨⟨⟨⟨⟨⟨⟨⟨⟨⟨⟨rfl, rfl⟩, h1⟩, h2⟩, h3⟩, h4⟩, h5⟩, h6⟩, h7⟩, h8⟩, h9⟩, h10⟩, h11⟩, h12⟩, h13⟩ := h
      have e0 := List.isEmpty_iff.mp h1
      subst e0
      have q := fun pos => s_lc2 (pos := pos) (xw := _) O.calm (by rw [O.N]; exact O.nd) (ihi.1.I O _ _ h6) (blkOk_by (by rw [O.N, O.sc]; exact h2)) (by rw [own_map]; exact sub_of h3) (by rw [own_map]; exact sub_of h4) (sub_of h5) (fun s H C cl fp => g_ok (O.inn _ s H C cl fp) h8) (fun s H C cl fp => ihi1.1.I (O.inn _ s H C cl fp) _ _ h9) (fun s H C cl fp => g_ok (O.inn _ s H C cl fp) h11) (fun s H C cl fp => ifs_ok (O.inn _ s H C cl fp) h13 ihc.1) (fun s H C cl fp => ihe.1.E (O.inn _ s H C cl fp) _ h12) (fold_ok h7) (fun env => fold_ok h10)
      simp only [own_map] at q
      exact q _
    · cases h
end
end DL

set_option Elab.async false
set_option linter.all false
set_option maxRecDepth 100000
set_option maxHeartbeats 8000000
namespace DL
open PySem PySem.Spec PyProof.Rows L2
/-! ### statements: the check -/
def isComp : Expr → Bool
  | .ListComp .. => true
  | .SetComp .. => true
  | .DictComp .. => true
  | _ => false
def isDisp : Expr → Bool
  | .Tuple .. => true
  | _ => false
def notStr : Expr → Bool
  | .Constant (.str _) _ _ => true
  | _ => false
def isLC : Expr → Bool
  | .ListComp .. => true
  | _ => false
mutual
def chkS1 (G : LawG) (c : Ctx) : Sm → Stmt → Bool
  | .pass, s => match s with
    | .Pass _ => true
    | .Expr e _ => notStr e
    | _ => false
  | .seq _ _, _ => false
  | .exp x, s => match s with
    | .Expr e _ => chkE G c x e && !isComp e
    | _ => false
  | .asg t x, s => match s with
    | .Assign [.Name y p] e _ => (match t with
      | .var i => decide (c.N[i]? = some y) && c.tgt y && chkE G c x e && (!isComp e || isLC e)
      | _ => false)
    | .Assign [.Tuple es k p] e _ => chkG c t (.Tuple es k p) && chkE G c x e && !isDisp e && !isComp e
    | _ => false
  | .sset o i x, s => match s with
    | .Assign [.Subscript a b _] e _ => chkE G c x e && chkE G c o a && chkE G c i b && plainE b
    | _ => false
  | .aug i o x, s => match s with
    | .AugAssign (.Name y _) p e _ => decide (c.N[i]? = some y) && c.tgt y && augOk o p && chkE G c x e
    | _ => false
  | .saug o i p x, s => match s with
    | .AugAssign (.Subscript a b _) q e _ => augOk p q && chkE G c o a && chkE G c i b && plainE b && chkE G c x e
    | _ => false
  | .ifs t a b, s => match s with
    | .If u as bs _ => chkT G c t u && chkSs G c a as && chkSs G c b bs
    | _ => false
  | .for_ t it b, s => match s with
    | .For tg e bs [] _ => chkI G c it tg e && plainE e && chkG c t tg && chkSs G c b bs
    | _ => false
  | .whl t b, s => match s with
    | .While u bs [] _ => chkT G c t u && chkSs G c b bs
    | _ => false
  | .ret x, s => match s with
    | .Return (some e) _ => chkE G c x e
    | _ => false
  | .raise k, s => match s with
    | .Raise (some (.Call (.Name x _) [] [] _)) none _ => glB c.sc x && decide (G.clss.lookup x = some k)
    | _ => false
def chkSs (G : LawG) (c : Ctx) : Sm → List Stmt → Bool
  | .seq a b, ss => match ss with
    | s :: ss => chkS1 G c a s && chkSs G c b ss
    | [] => false
  | .pass, ss => match ss with
    | [] => true
    | _ => false
  | _, _ => false
end
section
variable {G : LawG} {n : Nat}
structure StOk (G : LawG) (n : Nat) (c : Ctx) (X : Cx) (xw : XWish) : Prop where
  ok : CtxOk G n c X xw
  hp : PassesOwn (model X.prog X.w) X.A X.env X.xe
  kind : c.sc.kind = .function
structure MainS (G : LawG) (n : Nat) (x : Sm) : Prop where
  S1 : ∀ {c X xw}, StOk G n c X xw → ∀ s, chkS1 G c x s = true → PS X s (RS X xw (exS (orc G n) x))
  Ss : ∀ {c X xw}, StOk G n c X xw → ∀ ss, chkSs G c x ss = true → PSs X ss (RS X xw (exS (orc G n) x))
theorem sw_plain {e : Expr} {t : Option Expr} {l : Nat} {env : PySem.Env} (h : isComp e = false) : swapsWith e t l env = pure false := by
  cases e <;> first | rfl | cases h
theorem sw_sole {e : Expr} {t : Expr} {l : Nat} {env : PySem.Env} (h : isComp e = false) : swapsWithSole [t] e l env = pure false := by
  cases e <;> first | rfl | cases h
theorem sw_sub {e : Expr} {o i : Expr} {q : Pos} {l : Nat} {env : PySem.Env} : swapsWithSole [.Subscript o i q] e l env = pure false := by
  cases e <;> rfl
theorem ss_sub {e : Expr} {o i : Expr} {q : Pos} {env : PySem.Env} : swappedStores [.Subscript o i q] e env = pure none := by
  cases e <;> rfl
theorem ss_tup {e : Expr} {es : List Expr} {k : Nat} {q : Pos} {env : PySem.Env} (h : isDisp e = false) : swappedStores [.Tuple es k q] e env = pure none := by
  cases e <;> first | rfl | cases h
theorem as_sub {o i : Expr} {q : Pos} {env : PySem.Env} (h : plainE i = true) : ∀ v, assign (.Subscript o i q) env v = (do
      let ov ← holding [v] (eval o env)
      let iv ← holding [v, ov] (eval i env)
      standAt q
      holding [v, ov, iv] (setItem ov iv v)
      release [v, ov, iv] []) := by
  intro v
  cases i <;> first | rfl | cases h
theorem au_sub {i : Expr} (h : plainE i = true) : ∀ ov iv new, augStore i ov iv new = (do holding [new, ov, iv] (setItem ov iv new); release [new, ov, iv] []; pure .next) := by
  intro ov iv new
  cases i <;> first | rfl | cases h
theorem sw_not {elt : Expr} {gs : List Comprehension} {scope : Scope} {pos py : Pos} {y : Str} {l : Nat} {env : PySem.Env} {fl : Bool} (h : (env.blockKind == .function && env.kindOf y == some .local && py.line == pos.line && !(scope.names.any fun (n, k) => n == y && (k == .local || k == .cell))) = fl) :
    swapsWith (.ListComp elt gs scope pos) (some (.Name y py)) l env = pure fl := by
  unfold swapsWith
  show (pure _ : Sem Bool) = _
  rw [← h]
  rfl
/-- X(), X an own exception class -/
theorem pmk_own0 {X : Cx} {C : Addr} {bmB : List Value} {B newId initId : String} {x : Str} {p pos : Pos} (F : ExcBaseFacts B newId initId bmB) (q : PySem.W.excIn X.K C bmB newId = true) (gC : X.mg x = some (.ref C)) (kC : PySem.W.keepIn X.K (.ref C) = true) (r : Raises X (.ref C)) (hg : Gl X x)
    (hdb : (x == ("__debug__" : Str)) = false) : PMk X (.Call (.Name x p) [] [] pos) (fun _ H Q => Q (.ref C) none H) := by
  intro pins s σ H Q I h
  refine wpAny_Call_Name_kw (ld_glob I hg gC ?_ hdb)
  refine PySem.W.callWith_K0 I.kIn kC ?_
  show wpAny _ _ (call (.ref C) []) _ _ _
  obtain ⟨bm, N, nm, qn, bs, hdct, sn, sub, ab, col, dd, k0, k1, k2, k3, k5, mN, hC, hN, hni, T⟩ := L2.exc_obj I.kIn q
  refine wpAny_call_exc_subT F T hC hN hni (fun h' e hm => ?_) (Nat.zero_le _)
  exact mk_of I hm r h (L2.HOk.gone I.hok hm.new)
theorem kind_loc {env : PySem.Env} {y : Str} : (env.kindOf y == some .local) = isLoc env.scope y := by
  show (env.scope.names.lookup y == some .local) = _
  unfold isLoc
  cases env.scope.names.lookup y with
  | none => rfl
  | some k => cases k <;> rfl
/-- a name that gets its list ahead of the block's end -/
theorem lc_all : ∀ (x : Ex) {c : Ctx} {X : Cx} {xw : XWish}, CtxOk G n c X xw → ∀ {e : Expr}, chkE G c x e = true → ∀ {elt : Expr} {gs : List Comprehension} {scope : Scope} {q : Pos}, e = .ListComp elt gs scope q → ∀ {i : Nat} {y : Str} {py spos : Pos}, X.N[i]? = some y → X.env.scope.names.lookup y = some .local →
    swapsWith (.ListComp elt gs scope q) (some (.Name y py)) spos.line X.env = pure true → PS X (.Assign [.Name y py] (.ListComp elt gs scope q) spos) (tAsg (RE X xw (ev (orc G n) x)) (gName i)) := by
  intro x
  induction x with
  | bx a ih =>
    intro c X xw O e h elt gs scope q ee i y py spos hi hl hs
    unfold chkE at h
    exact ps_imp (ih O h ee hi hl hs) fun D σ H z => bx_rd z
  | comp own tg it ct el _ _ _ =>
    intro c X xw O e h elt gs scope q ee i y py spos hi hl hs
    unfold chkE at h
    split at h
    · cases ee
      simp only [Bool.and_eq_true, decide_eq_true_eq] at h
      obtain ⟨⟨⟨⟨⟨⟨⟨rfl, h2⟩, h3⟩, h4⟩, h5⟩, h6⟩, h7⟩, h8⟩ := h
      have p := ps_setLc (g := gT X.K X.w tg) (tt := rdT X.K X.w noX (ev (orc G n) ct)) (te := rdE X.K X.w noX (ev (orc G n) el)) (spos := spos) O.calm (by rw [O.N]; exact O.nd) hi hl hs ((main_all it).1.I O _ _ h4) (blkOk_by (by rw [O.N, O.sc]; exact h2)) (fun s H C cl fp => g_ok (O.inn _ s H C cl fp) h6) (fun s H C cl fp => ifs_ok (O.inn _ s H C cl fp) h8 (main_all ct).1) (fun s H C cl fp => (main_all el).1.E (O.inn _ s H C cl fp) _ h7) (fold_ok h5)
      refine ps_imp p fun D σ H z => ?_
      rw [own_map]
      exact lc_rd (sub_of h3) z
    · cases h
  | comp2 own own1 tg it tg1 it1 ct el _ _ _ _ =>
    intro c X xw O e h elt gs scope q ee i y py spos hi hl hs
    unfold chkE at h
    split at h
    · cases ee
      simp only [Bool.and_eq_true, decide_eq_true_eq] at h
      obtain ⟨⟨⟨⟨⟨⟨⟨⟨⟨⟨⟨⟨⟨⟨rfl, rfl⟩, h1⟩, h2⟩, h3⟩, h4⟩, h5⟩, h6⟩, h7⟩, h8⟩, h9⟩, h10⟩, h11⟩, h12⟩, h13⟩ := h
      have e0 := List.isEmpty_iff.mp h1
      subst e0
      have p := ps_setLc2 (wi1 := rdI X.K X.w noX (ev (orc G n) it1)) (g := gT X.K X.w tg) (g1 := gT X.K X.w tg1) (tt1 := rdT X.K X.w noX (ev (orc G n) ct)) (te := rdE X.K X.w noX (ev (orc G n) el)) (spos := spos) (vs1 := own1) O.calm (by rw [O.N]; exact O.nd) hi hl hs ((main_all it).1.I O _ _ h6) (blkOk_by (by rw [O.N, O.sc]; exact h2)) (by rw [own_map]; exact sub_of h3) (fun s H C cl fp => g_ok (O.inn _ s H C cl fp) h8) (fun _ _ _ _ _ => pts_nil) (fun s H C cl fp => (main_all it1).1.I (O.inn _ s H C cl fp) _ _ h9) (fun s H C cl fp => g_ok (O.inn _ s H C cl fp) h11) (fun s H C cl fp => ifs_ok (O.inn _ s H C cl fp) h13 (main_all ct).1) (fun s H C cl fp => (main_all el).1.E (O.inn _ s H C cl fp) _ h12) (fold_ok h7) (fun env => fold_ok h10)
      refine ps_imp p fun D σ H z => ?_
      rw [own_map]
      exact lc2_rd (sub_of h4) (sub_of h5) z
    · cases h
  | cst a =>
    intro c X xw O e h elt gs scope q ee
    subst ee
    unfold chkE at h
    cases a <;> cases h
  | _ =>
    intro c X xw O e h elt gs scope q ee
    subst ee
    unfold chkE at h
    cases h
theorem asg_ok {c : Ctx} {X : Cx} {xw : XWish} (O : StOk G n c X xw) {i : Nat} {x : Ex} {y : Str} {p q : Pos} {e : Expr} (h1 : c.N[i]? = some y) (h2 : c.tgt y = true) (h3 : chkE G c x e = true) (h4 : (!isComp e || isLC e) = true) :
    PS X (.Assign [.Name y p] e q) (RS X xw (asgM (.var i) (ev (orc G n) x))) := by
  obtain ⟨l1, l2⟩ := O.ok.tgt h2
  have hN : X.N.Nodup := by rw [O.ok.N]; exact O.ok.nd
  have hi : X.N[i]? = some y := by rw [O.ok.N]; exact h1
  by_cases hc : isComp e = true
  · have h4' : isLC e = true := by rw [hc] at h4; simpa using h4
    cases e with
    | ListComp elt gs scope q' =>
      have kf : (X.env.blockKind == ScopeKind.function) = true := by
        have : X.env.blockKind = .function := by
          unfold Env.blockKind
          rw [O.ok.sc, O.kind]
          rfl
        rw [this]
        rfl
      generalize hb : (X.env.blockKind == .function && X.env.kindOf y == some .local && p.line == q'.line && !(scope.names.any fun (n, k) => n == y && (k == .local || k == .cell))) = b
      have hs := sw_not (elt := elt) (gs := gs) (l := q.line) hb
      cases b with
      | false => exact st_set hN hi l1 ((main_all x).1.E O.ok _ h3) hs l2
      | true =>
        simp only [Bool.and_eq_true] at hb
        have hl : X.env.scope.names.lookup y = some .local := isLoc_of (by rw [← kind_loc]; exact hb.1.1.2)
        exact ps_imp (lc_all x O.ok h3 rfl hi hl hs) fun D σ H ⟨R, ρ, S, he, W, z⟩ => rdE_imp (asg_rd he W z) fun v H1 w => gName_of w
    | _ => cases h4'
  · exact st_set hN hi l1 ((main_all x).1.E O.ok _ h3) (sw_plain (by simpa using hc)) l2
theorem s1_no {x : Sm} (h : ∀ c s, chkS1 G c x s = false) : ∀ {c X xw}, StOk G n c X xw → ∀ s, chkS1 G c x s = true → PS X s (RS X xw (exS (orc G n) x)) := fun O s q => by rw [h] at q; cases q
theorem ss_no {x : Sm} (h : ∀ c s, chkSs G c x s = false) : ∀ {c X xw}, StOk G n c X xw → ∀ s, chkSs G c x s = true → PSs X s (RS X xw (exS (orc G n) x)) := fun O s q => by rw [h] at q; cases q
theorem main_S : ∀ x : Sm, MainS G n x := by
  intro x
  induction x with
  | pass =>
    refine ⟨fun O s h => ?_, fun O ss h => ?_⟩
    · unfold chkS1 at h
      split at h
      · exact st_pass
      · rename_i e p
        unfold notStr at h
        split at h
        · exact st_doc
        · cases h
      · cases h
    · unfold chkSs at h
      split at h
      · exact ss_nil
      · cases h
  | seq a b iha ihb =>
    refine ⟨s1_no (fun _ _ => by unfold chkS1; rfl), fun O ss h => ?_⟩
    unfold chkSs at h
    split at h
    · simp only [Bool.and_eq_true] at h
      exact ss_cons (iha.S1 O _ h.1) (ihb.Ss O _ h.2)
    · cases h
  | exp x =>
    refine ⟨fun O s h => ?_, ss_no (fun _ _ => by unfold chkSs; rfl)⟩
    unfold chkS1 at h
    split at h
    · simp only [Bool.and_eq_true, Bool.not_eq_true'] at h
      exact st_exp ((main_all x).1.E O.ok _ h.1) (sw_plain h.2)
    · cases h
  | asg t x =>
    refine ⟨fun O s h => ?_, ss_no (fun _ _ => by unfold chkSs; rfl)⟩
    unfold chkS1 at h
    split at h
    · rename_i y p e q
      split at h
      · rename_i i
        simp only [Bool.and_eq_true, decide_eq_true_eq] at h
        obtain ⟨⟨⟨h1, h2⟩, h3⟩, h4⟩ := h
        exact asg_ok O h1 h2 h3 h4
      · cases h
    · simp only [Bool.and_eq_true, Bool.not_eq_true'] at h
      obtain ⟨⟨⟨h1, h2⟩, h3⟩, h4⟩ := h
      exact st_asg ((main_all x).1.E O.ok _ h2) (g_ok O.ok h1) (sw_sole h4) (ss_tup h3) rfl
    · cases h
  | sset o i x =>
    refine ⟨fun O s h => ?_, ss_no (fun _ _ => by unfold chkSs; rfl)⟩
    unfold chkS1 at h
    split at h
    · simp only [Bool.and_eq_true] at h
      obtain ⟨⟨⟨h1, h2⟩, h3⟩, h4⟩ := h
      exact st_sset O.ok.hu ((main_all x).1.E O.ok _ h1) ((main_all o).1.E O.ok _ h2) ((main_all i).1.E O.ok _ h3) sw_sub ss_sub rfl (as_sub h4)
    · cases h
  | aug i o x =>
    refine ⟨fun O s h => ?_, ss_no (fun _ _ => by unfold chkSs; rfl)⟩
    unfold chkS1 at h
    split at h
    · simp only [Bool.and_eq_true, decide_eq_true_eq] at h
      obtain ⟨⟨⟨h1, h2⟩, h3⟩, h4⟩ := h
      obtain ⟨l1, l2⟩ := O.ok.tgt h2
      exact st_aug (by rw [O.ok.N]; exact O.ok.nd) (by rw [O.ok.N]; exact h1) l1 ((main_all x).1.E O.ok _ h4) (aug_ok h3) l2
    · cases h
  | saug o i p x =>
    refine ⟨fun O s h => ?_, ss_no (fun _ _ => by unfold chkSs; rfl)⟩
    unfold chkS1 at h
    split at h
    · simp only [Bool.and_eq_true] at h
      obtain ⟨⟨⟨⟨h1, h2⟩, h3⟩, h4⟩, h5⟩ := h
      exact st_saug O.ok.hu ((main_all o).1.E O.ok _ h2) ((main_all i).1.E O.ok _ h3) ((main_all x).1.E O.ok _ h5) (aug_ok h1) (au_sub h4)
    · cases h
  | ifs t a b iha ihb =>
    refine ⟨fun O s h => ?_, ss_no (fun _ _ => by unfold chkSs; rfl)⟩
    unfold chkS1 at h
    split at h
    · simp only [Bool.and_eq_true] at h
      exact st_if ((main_all t).1.T O.ok _ h.1.1).1 (iha.Ss O _ h.1.2) (ihb.Ss O _ h.2)
    · cases h
  | for_ t it b ihb =>
    refine ⟨fun O s h => ?_, ss_no (fun _ _ => by unfold chkSs; rfl)⟩
    unfold chkS1 at h
    split at h
    · simp only [Bool.and_eq_true] at h
      exact st_for O.hp O.ok.calm ((main_all it).1.I O.ok _ _ h.1.1.1) (g_ok O.ok h.1.2) (ihb.Ss O _ h.2) (fold_ok h.1.1.2)
    · cases h
  | whl t b ihb =>
    refine ⟨fun O s h => ?_, ss_no (fun _ _ => by unfold chkSs; rfl)⟩
    unfold chkS1 at h
    split at h
    · simp only [Bool.and_eq_true] at h
      exact st_whl O.hp ((main_all t).1.T O.ok _ h.1).1 (ihb.Ss O _ h.2)
    · cases h
  | ret x =>
    refine ⟨fun O s h => ?_, ss_no (fun _ _ => by unfold chkSs; rfl)⟩
    unfold chkS1 at h
    split at h
    · exact st_ret ((main_all x).1.E O.ok _ h)
    · cases h
  | raise k =>
    refine ⟨fun O s h => ?_, ss_no (fun _ _ => by unfold chkSs; rfl)⟩
    unfold chkS1 at h
    split at h
    · simp only [Bool.and_eq_true, decide_eq_true_eq] at h
      obtain ⟨g1, g2, g3⟩ := O.ok.gl h.1
      obtain ⟨C, B, newId, initId, bmB, e1, e2, e3, e4, e5, e6, e7⟩ := O.ok.glob.raises _ _ h.2
      refine ps_imp (ps_raise O.ok.calm O.ok.tk (pmk_own0 e4 e5 e2 e3 (raises_own e6 e7) g1 g3)) fun D σ H ⟨R, ρ, S, he, W, z⟩ => ⟨k, e1.symm, rfl, z R H (.refl R H) W⟩
    · cases h
/-! ### defs -/
/-- a def of the text and what is run for it -/
structure DefAt (G : LawG) (K : PySem.W.Frag) (mg : Str → Option Value) (x : Str) (k : Nat) (ps : List Str) : Prop where
  at_ : ∃ (qual : Str) (st : Stmt) (f : Addr) (fd : FuncData) (N : List Str) (body : Sm) (keep : Bool), Fun K x qual st f fd ∧ FnScope N ps (defScope st) ∧ mg x = some (.ref f) ∧ (∀ us : List Value, us.length = ps.length → bindArgs fd ⟨us, []⟩ = pure (ps.zip us)) ∧
    G.P k = some ⟨ps.length, N.length, body, keep⟩ ∧ chkSs G ⟨N, defScope st, fun _ => true⟩ body (defBody st) = true
structure Stat (G : LawG) (K : PySem.W.Frag) (mg : Str → Option Value) : Prop where
  defs : ∀ x k, G.defs.lookup x = some k → ∃ ps, DefAt G K mg x k ps
  gints : ∀ x i, G.gints.lookup x = some i → ∃ u, mg x = some u ∧ RelV (.int i) u
  none : ∀ x, x ∈ G.blts → mg x = none
  raises : ∀ x k, G.clss.lookup x = some k → ∃ C B newId initId bmB, G.cls k = .ref C ∧ mg x = some (.ref C) ∧ PySem.W.keepIn K (.ref C) = true ∧ PySem.ExcBaseFacts B newId initId bmB ∧ PySem.W.excIn K C bmB newId = true ∧ PySem.W.subIn K (.ref C) (.type "BaseException") = some true ∧ PySem.W.typeIn K (.ref C) = some (.type "type")
theorem start_rep {K : PySem.W.Frag} {w : World} {R : Rp} {as : List AV} {vs : List V} {N : List Str} {np : Nat} (r : RepVs K w R as vs) (h : as.length = np) : RepE K w R (as.map some ++ List.replicate (N.length - np) none) (L2.start N vs) := by
  have hl := r.length
  refine ⟨?_, fun i a e => ?_⟩
  · unfold L2.start
    rw [List.length_append, List.length_append, List.length_map, List.length_map, List.length_replicate, List.length_replicate]
    omega
  · by_cases hi : i < as.length
    · rw [List.getElem?_append_left (by rw [List.length_map]; exact hi), List.getElem?_map] at e
      cases ea : as[i]? with
      | none => rw [ea] at e; cases e
      | some b =>
        rw [ea] at e
        cases e
        obtain ⟨v, e1, r1⟩ := r.get ea
        refine ⟨v, ?_, r1⟩
        unfold L2.start
        rw [List.getElem?_append_left (by rw [List.length_map]; omega), List.getElem?_map, e1]
        rfl
    · rw [List.getElem?_append_right (by rw [List.length_map]; omega), List.getElem?_replicate] at e
      split at e <;> cases e
theorem spF_post {cls : Nat → Value} {call : List AV → Store → Res RV} {K : PySem.W.Frag} {w : World} {vs : List V} {H : Hp} {Q : VK} {E : XK} (h : spF K w cls call vs H Q E) : ∃ R S as, Wd K w R S H ∧ RepVs K w R as vs ∧ Post K w (fun c H' => E (cls c) none H') R H (call as S) Q := by
  obtain ⟨R, S, as, W, r, h⟩ := h
  refine ⟨R, S, as, W, r, ?_⟩
  cases e : call as S with
  | ok x S' => rw [e] at h; exact h
  | exc c S' => rw [e] at h; exact h
  | stop => rw [e] at h; exact h
structure FnAt (G : LawG) (n : Nat) (P : Program) (w : World) (K : PySem.W.Frag) (mg : Str → Option Value) (base : Heap) (x : Str) (k : Nat) (ps : List Str) : Prop where
  at_ : ∃ f fd, FnOk P w K mg base (L2.CX P w) n f fd ps (spF K w G.cls (callN G.P n k)) ∧ mg x = some (.ref f) ∧ PySem.W.keepIn K (.ref f) = true ∧ ∀ us : List Value, us.length = ps.length → bindArgs fd ⟨us, []⟩ = pure (ps.zip us)
theorem fn_zero {P : Program} {w : World} {K : PySem.W.Frag} {mg : Str → Option Value} {base : Heap} {x : Str} {k : Nat} {ps : List Str} (D : DefAt G K mg x k ps) : FnAt G 0 P w K mg base x k ps := by
  obtain ⟨qual, st, f, fd, N, body, keep, F, S, m1, b, hP, hc⟩ := D.at_
  refine ⟨f, fd, ⟨fun vs H Q E z => ?_, fun A outer s H args us vs Q E _ _ _ _ z => ?_⟩, m1, F.kp, b⟩
  · obtain ⟨R, S, as, W, r, z⟩ := z
    exact z.elim
  · obtain ⟨R, S, as, W, r, z⟩ := z
    exact z.elim
theorem fn_step' {P : Program} {w : World} {K : PySem.W.Frag} {mg : Str → Option Value} {base : Heap} {x : Str} {k : Nat} {ps : List Str} {qual : Str} {st : Stmt} {f : Addr} {fd : FuncData} {N : List Str} {body : Sm} {keep : Bool} (ih : GOk G n P w K mg base) (F : Fun K x qual st f fd) (S : FnScope N ps (defScope st)) (m1 : mg x = some (.ref f)) (b : ∀ us : List Value, us.length = ps.length → bindArgs fd ⟨us, []⟩ = pure (ps.zip us)) (hP : G.P k = some ⟨ps.length, N.length, body, keep⟩) (hc : chkSs G ⟨N, defScope st, fun _ => true⟩ body (defBody st) = true) : FnOk P w K mg base (L2.CX P w) (n + 1) f fd ps (spF K w G.cls (callN G.P (n + 1) k)) := by
  have step : ∀ as S, callN G.P (n + 1) k as S = if as.length = ps.length then retF keep S (exS (orc G n) body (as.map some ++ List.replicate (N.length - ps.length) none) S) else .stop := fun as S => by
    unfold callN
    rw [hP]
  refine F.okX S (fun vs H Q E z => ?_) (fun cdv A outer s H vs Q E hr z => ?_)
  · obtain ⟨R, S, as, W, r, z⟩ := spF_post z
    rw [step] at z
    split at z
    · rename_i hl
      rw [← r.length]
      exact hl
    · exact z.elim
  · obtain ⟨R, S0, as, W, r, z⟩ := spF_post z
    rw [step] at z
    split at z
    · rename_i hl
      have O : CtxOk G n ⟨N, defScope st, fun _ => true⟩ (cxOf (L2.CX P w) P w K mg base N qual (defScope st) f cdv A outer s H E) (fun c H' => E (G.cls c) none H') := ⟨rfl, S.nd, rfl, rfl, rfl, hr, (takes_of rfl rfl rfl rfl).imp fun c d σ H ⟨k, e1, e2, e3⟩ => by subst e1; subst e2; exact e3, ih⟩
      refine ⟨_, (main_S body).Ss ⟨O, passes_of rfl, S.kind⟩ _ hc, R, _, S0, start_rep r hl, W, retF_post W z⟩
    · exact z.elim
theorem fn_step {P : Program} {w : World} {K : PySem.W.Frag} {mg : Str → Option Value} {base : Heap} {x : Str} {k : Nat} {ps : List Str} (ih : GOk G n P w K mg base) (D : DefAt G K mg x k ps) : FnAt G (n + 1) P w K mg base x k ps := by
  obtain ⟨qual, st, f, fd, N, body, keep, F, S, m1, b, hP, hc⟩ := D.at_
  exact ⟨f, fd, fn_step' ih F S m1 b hP hc, m1, F.kp, b⟩
/-- THE RULE: every def of the text does what is run for it -/
theorem gok_all {P : Program} {w : World} {K : PySem.W.Frag} {mg : Str → Option Value} {base : Heap} (St : Stat G K mg) : ∀ n, GOk G n P w K mg base := by
  intro n
  induction n with
  | zero =>
    refine ⟨fun x k h => ?_, St.gints, St.none, St.raises⟩
    obtain ⟨ps, D⟩ := St.defs x k h
    obtain ⟨f, fd, F, m, kp, b⟩ := (fn_zero (P := P) (w := w) (base := base) D).at_
    exact ⟨f, fd, ps, F, m, kp, .all b⟩
  | succ n ih =>
    refine ⟨fun x k h => ?_, St.gints, St.none, St.raises⟩
    obtain ⟨ps, D⟩ := St.defs x k h
    obtain ⟨f, fd, F, m, kp, b⟩ := (fn_step ih D).at_
    exact ⟨f, fd, ps, F, m, kp, .all b⟩
/-- one def among the facts -/
theorem def_mk {K : PySem.W.Frag} {h : Heap} {mg : Str → Option Value} {x : Str} {k : Nat} {ps N : List Str} {st : Stmt} {f : Addr} {oc : Value} {od an : Option Addr} {osl : Array (Option Value)} {kV doc pm cdv ct : Value} {body : Sm} (X : K.In h) (g : h.Ns mainGlobals mg)
    (a : PySem.W.nsIn K mainGlobals x = some (some (.ref f))) (l : K.lookup f = some ⟨oc, od, .func (PySem.W.fnOf x x (defArgs st) (defBody st) (defScope st) .none kV doc pm an cdv ct), osl⟩)
    (c : PySem.W.codeIn K cdv x = true) (kp : PySem.W.keepIn K (.ref f) = true) (S : FnScope N ps (defScope st)) (b : ∀ (kV doc pm : Value) (an : Option Addr) (cdv ct : Value) (us : List Value), us.length = ps.length → bindArgs (PySem.W.fnOf x x (defArgs st) (defBody st) (defScope st) .none kV doc pm an cdv ct) ⟨us, []⟩ = pure (ps.zip us))
    (hP : G.P k = some ⟨ps.length, N.length, body, false⟩) (hc : chkSs G ⟨N, defScope st, fun _ => true⟩ body (defBody st) = true) : DefAt G K mg x k ps :=
  ⟨x, st, f, _, N, body, false, fun_mk l c kp, S, PySem.W.mg_of X g a, b kV doc pm an cdv ct, hP, hc⟩
theorem look_mem {β : Type} {x : Str} {k : β} : ∀ {l : List (Str × β)}, l.lookup x = some k → (x, k) ∈ l
  | (y, b) :: l, h => by
    rw [List.lookup_cons] at h
    split at h
    · rename_i e
      cases h
      rw [beq_iff_eq] at e
      rw [e]
      exact List.mem_cons_self
    · exact List.mem_cons_of_mem _ (look_mem h)
abbrev veBases : List Value := [.type "ValueError", .type "Exception", .type "BaseException", .type "object"]
/-- an own exception class among the facts -/
abbrev ExcAt (K : PySem.W.Frag) (mg : Str → Option Value) (cls : Nat → Value) (x : Str) (k : Nat) : Prop := ∃ C B newId initId bmB, cls k = .ref C ∧ mg x = some (.ref C) ∧ PySem.W.keepIn K (.ref C) = true ∧ PySem.ExcBaseFacts B newId initId bmB ∧ PySem.W.excIn K C bmB newId = true ∧ PySem.W.subIn K (.ref C) (.type "BaseException") = some true ∧ PySem.W.typeIn K (.ref C) = some (.type "type")
theorem cls_mk {K : PySem.W.Frag} {h : Heap} {mg : Str → Option Value} {cls : Nat → Value} {x : Str} {k : Nat} {C : Addr} (X : K.In h) (g : h.Ns mainGlobals mg) (a : PySem.W.nsIn K mainGlobals x = some (some (.ref C))) (k1 : PySem.W.keepIn K (.ref C) = true)
    (e1 : PySem.W.excIn K C veBases "ValueError.__new__" = true) (s1 : PySem.W.subIn K (.ref C) (.type "BaseException") = some true) (t1 : PySem.W.typeIn K (.ref C) = some (.type "type")) (hc : cls k = .ref C := by rfl) : ExcAt K mg cls x k :=
  ⟨C, _, _, _, _, hc, PySem.W.mg_of X g a, k1, F.excBase_ValueError, e1, s1, t1⟩
/-- a call that lets nothing out -/
def spOk (K : PySem.W.Frag) (w : World) (call : List AV → Store → Res RV) : Sp := fun vs H Q _ => ∃ R S as, Wd K w R S H ∧ RepVs K w R as vs ∧ match call as S with
  | .ok r S' => ∀ R' H' v, Ext R H R' H' → Wd K w R' S' H' → RepRV K w R' H H' r v → Q v H'
  | _ => False
theorem spOk_F {K : PySem.W.Frag} {w : World} {cls : Nat → Value} {call : List AV → Store → Res RV} {vs : List V} {H : Hp} {Q : VK} {E : XK} (h : spOk K w call vs H Q E) : spF K w cls call vs H Q E := by
  obtain ⟨R, S, as, W, r, h⟩ := h
  refine ⟨R, S, as, W, r, ?_⟩
  cases e : call as S with
  | ok x S' => rw [e] at h; exact h
  | exc c S' => rw [e] at h; exact h.elim
  | stop => rw [e] at h; exact h.elim
theorem law_end {P : Program} {w : World} {K : PySem.W.Frag} {mg : Str → Option Value} {fa : Addr} {x y : Str} {k : Nat} (hfa : mg x = some (.ref fa)) (St : Stat G K mg) (D : DefAt G K mg x k [y]) :
    ∃ fd : FuncData, (∀ (s : Shared) (u : Value), BindsTo s fd ⟨[u], []⟩ [(y, u)]) ∧ ∀ base : Heap, K.In base → base.Ns mainGlobals mg → FnOk P w K mg base (L2.CX P w) (n + 1) fa fd [y] (spOk K w (callN G.P (n + 1) k)) := by
  obtain ⟨qual, st, f, fd, N, body, keep, F, S, m1, b, hP, hc⟩ := id D.at_
  rw [m1] at hfa
  cases hfa
  refine ⟨fd, fun s u => .of_eq (b [u] rfl), fun base _ _ => ?_⟩
  exact (fn_step' (gok_all (P := P) (w := w) (base := base) St n) F S m1 b hP hc).imp fun vs H Q E h => spOk_F h
theorem cx_no {P : Program} {w : World} {outer : List PySem.Env} {H : Hp} {s : Shared} {e : Value} {s' : Shared} (h : L2.CX P w outer H s (fun _ _ _ => False) e s') : False := by
  obtain ⟨_, _, _, _, _, _, _, _, _, _, _, _, z⟩ := h
  exact z
/-- the law's call on a script -/
theorem law_sp {K : PySem.W.Frag} {w : World} {call : List AV → Store → Res RV} {H : Hp} {a : Addr} {ns : List Int} (hs : SqL K H a (ns.map V.int)) (hl : ns.length ≤ 63) (hc : call [.scr (ns.map AV.int)] [] = .ok (.v (.bl true)) []) : spOk K w call [.ref a] H (fun v _ => v = .bl true) fun _ _ _ => False := by
  have ri : ∀ (R : Rp) (ns : List Int), RepVs K w R (ns.map AV.int) (ns.map V.int) := fun R ns => by
    induction ns with
    | nil => exact .nil
    | cons n ns ih => exact .cons (.int n) ih
  refine ⟨⟨fun _ => 0, 0, H⟩, [], [.scr (ns.map AV.int)], ⟨rfl, fun b u h => h, fun l h => absurd h (Nat.not_lt_zero l), fun l h => absurd h (Nat.not_lt_zero l), fun l l' h => absurd h (Nat.not_lt_zero l), fun l o h => by cases h⟩, .cons (.scr hs (by rw [List.length_map]; exact Nat.le_trans hl (by decide)) (ri _ ns)) .nil, ?_⟩
  rw [hc]
  intro R' H' v E W x
  cases x
  rfl
end
end DL

set_option Elab.async false
set_option linter.all false
set_option maxRecDepth 100000
set_option maxHeartbeats 8000000
namespace DL
namespace K1
open PySem PySem.Spec PyProof.Rows L2
def topS (i : Nat) : Stmt := PySem.Challenge.pw_thinsums_k01_tables.main.body.getD i (.Pass ⟨0, 0, 0, 0⟩)
/-! what is run, printed by gen.py from the linked text -/
/-- is_between(thing, least, most) -/
def b_is_between : Sm := (.seq (.ret (.and (.isi (.var 0) .int) (.and (.nt (.isi (.var 0) .bool)) (.chain .le .le (.var 1) (.var 0) (.var 2)))))
  .pass)
abbrev N_is_between : List Str := ["thing", "least", "most"]
abbrev i_is_between : Nat := 0
/-- is_shape(thing) -/
def b_is_shape : Sm := (.seq (.ret (.and (.isi (.var 0) .tuple) (.and (.chain .le .le (.cst (.int 1)) (.bi .len (.cons (.var 0) .nil)) (.cst (.int 3))) (.bi .all (.cons (.comp [1] (.var 1) (.var 0) (.cst (.bl true)) (.call 0 (.cons (.var 1) (.cons (.cst (.int 1)) (.cons (.cst (.int 6)) .nil))))) .nil)))))
  .pass)
abbrev N_is_shape : List Str := ["thing", "one"]
abbrev i_is_shape : Nat := 1
/-- is_position(thing, shape) -/
def b_is_position : Sm := (.seq (.ifs (.or (.nt (.isi (.var 0) .tuple)) (.cmp .ne (.bi .len (.cons (.var 0) .nil)) (.bi .len (.cons (.var 1) .nil)))) (.seq (.ret (.cst (.bl false)))
  .pass) .pass)
  (.seq (.ret (.bi .all (.cons (.comp [2, 3] (.tup (.cons (.var 2) (.cons (.var 3) .nil))) (.zip (.var 0) (.var 1)) (.cst (.bl true)) (.call 0 (.cons (.var 2) (.cons (.cst (.int 0)) (.cons (.bin .sub (.var 3) (.cst (.int 1))) .nil))))) .nil)))
  .pass))
abbrev N_is_position : List Str := ["thing", "shape", "one", "length"]
abbrev i_is_position : Nat := 2
/-- is_table(thing) -/
def b_is_table : Sm := (.seq (.ifs (.or (.nt (.isi (.var 0) .tuple)) (.or (.cmp .ne (.bi .len (.cons (.var 0) .nil)) (.cst (.int 2))) (.or (.nt (.call 1 (.cons (.sub (.var 0) (.cst (.int 0))) .nil))) (.nt (.isi (.sub (.var 0) (.cst (.int 1))) .dict))))) (.seq (.ret (.cst (.bl false)))
  .pass) .pass)
  (.seq (.ifs (.nt (.bi .all (.cons (.comp [1] (.var 1) (.sub (.var 0) (.cst (.int 1))) (.cst (.bl true)) (.call 2 (.cons (.var 1) (.cons (.sub (.var 0) (.cst (.int 0))) .nil)))) .nil))) (.seq (.ret (.cst (.bl false)))
  .pass) .pass)
  (.seq (.ret (.bi .all (.cons (.comp [1] (.var 1) (.vals (.sub (.var 0) (.cst (.int 1)))) (.cst (.bl true)) (.and (.call 0 (.cons (.var 1) (.cons (.bin .sub (.cst (.int 0)) (.cst (.int 1000000))) (.cons (.cst (.int 1000000)) .nil)))) (.cmp .ne (.var 1) (.cst (.int 0))))) .nil)))
  .pass)))
abbrev N_is_table : List Str := ["thing", "one"]
abbrev i_is_table : Nat := 3
/-- need_table(thing) -/
def b_need_table : Sm := (.seq (.ifs (.nt (.call 3 (.cons (.var 0) .nil))) (.seq (.raise 0)
  .pass) .pass)
  .pass)
abbrev N_need_table : List Str := ["thing"]
abbrev i_need_table : Nat := 4
/-- cell(table, position) -/
def b_cell : Sm := (.seq (.exp (.call 4 (.cons (.var 0) .nil)))
  (.seq (.ifs (.nt (.call 2 (.cons (.var 1) (.cons (.sub (.var 0) (.cst (.int 0))) .nil)))) (.seq (.raise 1)
  .pass) .pass)
  (.seq (.ret (.mt .get2 (.sub (.var 0) (.cst (.int 1))) (.cons (.var 1) (.cons (.cst (.int 0)) .nil))))
  .pass)))
abbrev N_cell : List Str := ["table", "position"]
abbrev i_cell : Nat := 5
/-- all_positions(lengths) -/
def b_all_positions : Sm := (.seq (.asg (.var 1) (.lst (.cons (.tup .nil) .nil)))
  (.seq (.for_ (.var 2) (.var 0) (.seq (.asg (.var 1) (.comp2 [3, 4] [4] (.var 3) (.var 1) (.var 4) (.rng (.var 2)) (.cst (.bl true)) (.bin .add (.var 3) (.tup (.cons (.var 4) .nil)))))
  .pass))
  (.seq (.ret (.var 1))
  .pass)))
abbrev N_all_positions : List Str := ["lengths", "made", "length", "row", "place"]
abbrev i_all_positions : Nat := 6
/-- positions(shape) -/
def b_positions : Sm := (.seq (.ifs (.nt (.call 1 (.cons (.var 0) .nil))) (.seq (.raise 0)
  .pass) .pass)
  (.seq (.ret (.call 6 (.cons (.var 0) .nil)))
  .pass))
abbrev N_positions : List Str := ["shape"]
abbrev i_positions : Nat := 7
/-- _law_draw(_law_script, _law_town, _law_many) -/
def b__law_draw : Sm := (.seq (.ifs (.cmp .gt (.sub (.var 1) (.cst (.int 1))) (.cst (.int 0))) (.seq (.asg (.var 5) (.bin .mod (.sub (.var 1) (.cst (.int 1))) (.var 2)))
  (.seq (.sset (.var 1) (.cst (.int 1)) (.bin .fdiv (.sub (.var 1) (.cst (.int 1))) (.var 2)))
  (.seq (.ret (.var 5))
  .pass))) .pass)
  (.seq (.asg (.var 3) (.sub (.var 1) (.cst (.int 0))))
  (.seq (.saug (.var 1) (.cst (.int 0)) .add (.cst (.int 1)))
  (.seq (.ifs (.cmp .eq (.var 0) (.lst .nil)) (.seq (.ret (.bin .mod (.var 3) (.var 2)))
  .pass) .pass)
  (.seq (.ifs (.and (.cmp .lt (.var 3) (.bi .len (.cons (.var 0) .nil))) (.cmp .ge (.sub (.var 0) (.var 3)) (.bin .pow (.cst (.int 10)) (.cst (.int 18))))) (.seq (.sset (.var 1) (.cst (.int 1)) (.bin .mod (.bin .fdiv (.sub (.var 0) (.var 3)) (.var 2)) (.bin .mul (.bin .pow (.cst (.int 10)) (.cst (.int 60))) (.bin .pow (.cst (.int 10)) (.cst (.int 60))))))
  (.seq (.ret (.bin .mod (.sub (.var 0) (.var 3)) (.var 2)))
  .pass)) .pass)
  (.seq (.asg (.var 4) (.bin .mod (.bin .add (.bin .add (.bin .mul (.sub (.var 0) (.bin .mod (.var 3) (.bi .len (.cons (.var 0) .nil)))) (.cst (.int 1103515245))) (.bin .mul (.cst (.int 7919)) (.var 3))) (.cst (.int 12345))) (.cst (.int 2147483647))))
  (.seq (.ret (.bin .mod (.bin .mod (.bin .mod (.bin .pow (.var 4) (.cst (.int 5))) (.cst (.int 2147483647))) (.cst (.int 999983))) (.var 2)))
  .pass)))))))
abbrev N__law_draw : List Str := ["_law_script", "_law_town", "_law_many", "_law_at", "_law_mixed", "_law_one"]
abbrev i__law_draw : Nat := 8
/-- _law_pick(_law_script, _law_town, _law_some) -/
def b__law_pick : Sm := (.seq (.ret (.sub (.var 2) (.call 8 (.cons (.var 0) (.cons (.var 1) (.cons (.bi .len (.cons (.var 2) .nil)) .nil))))))
  .pass)
abbrev N__law_pick : List Str := ["_law_script", "_law_town", "_law_some"]
abbrev i__law_pick : Nat := 9
/-- _law_table(_law_script, _law_town, _law_shape_here) -/
def b__law_table : Sm := (.seq (.asg (.var 3) (.bx (.dic .nil)))
  (.seq (.for_ (.var 4) (.rng (.call 8 (.cons (.var 0) (.cons (.var 1) (.cons (.cst (.int 7)) .nil))))) (.seq (.asg (.var 5) (.bi .tuple (.cons (.comp [6] (.var 6) (.var 2) (.cst (.bl true)) (.call 8 (.cons (.var 0) (.cons (.var 1) (.cons (.var 6) .nil))))) .nil)))
  (.seq (.sset (.var 3) (.var 5) (.call 9 (.cons (.var 0) (.cons (.var 1) (.cons (.lst (.cons (.neg (.cst (.int 3))) (.cons (.cst (.int 1)) (.cons (.cst (.int 2)) (.cons (.cst (.int 7)) (.cons (.cst (.int 100)) .nil)))))) .nil)))))
  .pass)))
  (.seq (.ret (.tup (.cons (.var 2) (.cons (.var 3) .nil))))
  .pass)))
abbrev N__law_table : List Str := ["_law_script", "_law_town", "_law_shape_here", "_law_cells", "_law_k", "_law_position", "_law_length"]
abbrev i__law_table : Nat := 10
/-- _law_shape(_law_script, _law_town) -/
def b__law_shape : Sm := (.seq (.ret (.bi .tuple (.cons (.comp [2] (.var 2) (.rng (.bin .add (.cst (.int 1)) (.call 8 (.cons (.var 0) (.cons (.var 1) (.cons (.cst (.int 3)) .nil)))))) (.cst (.bl true)) (.bin .add (.cst (.int 1)) (.call 8 (.cons (.var 0) (.cons (.var 1) (.cons (.cst (.int 4)) .nil)))))) .nil)))
  .pass)
abbrev N__law_shape : List Str := ["_law_script", "_law_town", "_law_k"]
abbrev i__law_shape : Nat := 11
/-- _law_rows(_law_lengths_now) -/
def b__law_rows : Sm := (.seq (.asg (.var 1) (.lst (.cons (.tup .nil) .nil)))
  (.seq (.for_ (.var 2) (.var 0) (.seq (.asg (.var 3) (.bx (.lst .nil)))
  (.seq (.for_ (.var 4) (.var 1) (.seq (.exp (.mt .extend (.var 3) (.cons (.comp [5] (.var 5) (.rng (.var 2)) (.cst (.bl true)) (.bin .add (.var 4) (.tup (.cons (.var 5) .nil)))) .nil)))
  .pass))
  (.seq (.asg (.var 1) (.var 3))
  .pass))))
  (.seq (.ret (.var 1))
  .pass)))
abbrev N__law_rows : List Str := ["_law_lengths_now", "_law_made", "_law_length", "_law_longer", "_law_row", "_law_place"]
abbrev i__law_rows : Nat := 12
/-- _law_no_tables() -/
def b__law_no_tables : Sm := (.seq (.asg (.var 0) (.bx (.lst (.cons (.cst .non) (.cons (.tup .nil) (.cons (.tup (.cons (.tup (.cons (.cst (.int 2)) .nil)) .nil)) (.cons (.tup (.cons (.tup (.cons (.cst (.int 2)) .nil)) (.cons (.lst .nil) .nil))) (.cons (.tup (.cons (.tup (.cons (.cst (.int 2)) .nil)) (.cons (.dic (.cons (.tup (.cons (.cst (.int 2)) .nil)) (.cons (.cst (.int 1)) .nil))) .nil))) (.cons (.tup (.cons (.tup (.cons (.cst (.int 2)) .nil)) (.cons (.dic (.cons (.tup (.cons (.cst (.int 0)) .nil)) (.cons (.cst (.int 0)) .nil))) .nil))) (.cons (.tup (.cons (.tup (.cons (.cst (.int 2)) .nil)) (.cons (.dic (.cons (.cst (.int 0)) (.cons (.cst (.int 1)) .nil))) .nil))) .nil))))))))))
  (.seq (.exp (.mt .extend (.var 0) (.cons (.lst (.cons (.tup (.cons (.tup (.cons (.cst (.int 2)) .nil)) (.cons (.dic (.cons (.tup (.cons (.cst (.int 0)) (.cons (.cst (.int 0)) .nil))) (.cons (.cst (.int 1)) .nil))) .nil))) .nil)) .nil)))
  (.seq (.exp (.mt .extend (.var 0) (.cons (.lst (.cons (.lst (.cons (.tup (.cons (.cst (.int 2)) .nil)) (.cons (.dic .nil) .nil))) (.cons (.tup (.cons (.tup (.cons (.cst (.int 2)) .nil)) (.cons (.dic (.cons (.tup (.cons (.cst (.int 0)) .nil)) (.cons (.cst (.bl true)) .nil))) .nil))) (.cons (.tup (.cons (.tup (.cons (.cst (.int 2)) .nil)) (.cons (.dic (.cons (.tup (.cons (.cst (.int 0)) .nil)) (.cons (.cst (.str "1")) .nil))) .nil))) (.cons (.tup (.cons (.tup (.cons (.cst (.int 2)) .nil)) (.cons (.dic (.cons (.tup (.cons (.neg (.cst (.int 1))) .nil)) (.cons (.cst (.int 1)) .nil))) .nil))) .nil))))) .nil)))
  (.seq (.exp (.mt .extend (.var 0) (.cons (.lst (.cons (.tup (.cons (.tup (.cons (.cst (.int 2)) (.cons (.cst (.int 2)) .nil))) (.cons (.dic (.cons (.tup (.cons (.cst (.int 0)) .nil)) (.cons (.cst (.int 1)) .nil))) .nil))) (.cons (.cst (.int 7)) (.cons (.cst (.str "table")) .nil)))) .nil)))
  (.seq (.exp (.mt .extend (.var 0) (.cons (.lst (.cons (.tup (.cons (.tup (.cons (.cst (.int 2)) .nil)) (.cons (.dic (.cons (.tup (.cons (.cst (.int 0)) .nil)) (.cons (.cst (.int 1000001)) .nil))) .nil))) (.cons (.tup (.cons (.tup (.cons (.cst (.int 7)) .nil)) (.cons (.dic .nil) .nil))) (.cons (.tup (.cons (.tup .nil) (.cons (.dic .nil) .nil))) (.cons (.tup (.cons (.tup (.cons (.cst (.int 2)) .nil)) (.cons (.dic (.cons (.tup (.cons (.cst (.bl true)) .nil)) (.cons (.cst (.int 1)) .nil))) .nil))) (.cons (.tup (.cons (.tup (.cons (.cst (.int 2)) .nil)) (.cons (.dic .nil) (.cons (.cst (.int 0)) .nil)))) .nil)))))) .nil)))
  (.seq (.exp (.mt .extend (.var 0) (.cons (.lst (.cons (.tup (.cons (.tup (.cons (.cst (.int 2)) .nil)) (.cons (.dic (.cons (.tup (.cons (.cst (.int 1)) .nil)) (.cons (.neg (.cst (.int 1000001))) .nil))) .nil))) .nil)) .nil)))
  (.seq (.exp (.mt .extend (.var 0) (.cons (.lst (.cons (.tup (.cons (.tup (.cons (.cst (.int 0)) .nil)) (.cons (.dic .nil) .nil))) (.cons (.tup (.cons (.tup (.cons (.cst (.int 1)) (.cons (.cst (.int 1)) (.cons (.cst (.int 1)) (.cons (.cst (.int 1)) .nil))))) (.cons (.dic .nil) .nil))) (.cons (.tup (.cons (.tup (.cons (.cst (.int 2)) (.cons (.cst (.bl true)) .nil))) (.cons (.dic .nil) .nil))) (.cons (.tup (.cons (.lst (.cons (.cst (.int 2)) .nil)) (.cons (.dic .nil) .nil))) .nil))))) .nil)))
  (.seq (.exp (.mt .extend (.var 0) (.cons (.lst (.cons (.tup (.cons (.tup (.cons (.cst (.int 2)) .nil)) (.cons (.dic (.cons (.tup (.cons (.cst (.int 0)) .nil)) (.cons (.cst (.int 1)) (.cons (.tup (.cons (.cst (.int 1)) .nil)) (.cons (.cst .non) .nil))))) .nil))) (.cons (.tup (.cons (.tup (.cons (.cst (.int 2)) (.cons (.cst (.str "2")) .nil))) (.cons (.dic .nil) .nil))) (.cons (.tup (.cons (.cst (.int 2)) (.cons (.dic .nil) .nil))) .nil)))) .nil)))
  (.seq (.ret (.var 0))
  .pass)))))))))
abbrev N__law_no_tables : List Str := ["_law_bad"]
abbrev i__law_no_tables : Nat := 13
/-- _law_no_table(_law_script, _law_town) -/
def b__law_no_table : Sm := (.seq (.ret (.call 9 (.cons (.var 0) (.cons (.var 1) (.cons (.call 13 .nil) .nil)))))
  .pass)
abbrev N__law_no_table : List Str := ["_law_script", "_law_town"]
abbrev i__law_no_table : Nat := 14
/-- law(_law_script) -/
def b_law : Sm := (.seq (.asg (.var 1) (.bx (.lst (.cons (.cst (.int 0)) (.cons (.cst (.int 0)) .nil)))))
  (.seq (.asg (.var 2) (.call 11 (.cons (.var 0) (.cons (.var 1) .nil))))
  (.seq (.asg (.var 3) (.call 10 (.cons (.var 0) (.cons (.var 1) (.cons (.var 2) .nil)))))
  (.seq (.ifs (.or (.cmp .isnot (.call 1 (.cons (.var 2) .nil)) (.cst (.bl true))) (.cmp .isnot (.call 3 (.cons (.var 3) .nil)) (.cst (.bl true)))) (.seq (.ret (.cst (.bl false)))
  .pass) .pass)
  (.seq (.ifs (.cmp .isnot (.call 3 (.cons (.call 14 (.cons (.var 0) (.cons (.var 1) .nil))) .nil)) (.cst (.bl false))) (.seq (.ret (.cst (.bl false)))
  .pass) .pass)
  (.seq (.asg (.var 4) (.call 9 (.cons (.var 0) (.cons (.var 1) (.cons (.lst (.cons (.cst .non) (.cons (.tup .nil) (.cons (.tup (.cons (.cst (.int 0)) .nil)) (.cons (.tup (.cons (.cst (.int 7)) .nil)) (.cons (.tup (.cons (.cst (.int 1)) (.cons (.cst (.int 1)) (.cons (.cst (.int 1)) (.cons (.cst (.int 1)) .nil))))) (.cons (.lst (.cons (.cst (.int 2)) .nil)) (.cons (.tup (.cons (.cst (.bl true)) .nil)) (.cons (.tup (.cons (.cst (.str "2")) .nil)) (.cons (.cst (.int 5)) .nil)))))))))) .nil)))))
  (.seq (.ifs (.or (.cmp .isnot (.call 1 (.cons (.var 4) .nil)) (.cst (.bl false))) (.or (.cmp .isnot (.call 3 (.cons (.tup (.cons (.var 4) (.cons (.dic .nil) .nil))) .nil)) (.cst (.bl false))) (.cmp .isnot (.call 1 (.cons (.tup (.cons (.cst (.int 6)) (.cons (.cst (.int 6)) (.cons (.cst (.int 6)) .nil)))) .nil)) (.cst (.bl true))))) (.seq (.ret (.cst (.bl false)))
  .pass) .pass)
  (.seq (.ifs (.cmp .ne (.call 7 (.cons (.var 2) .nil)) (.call 12 (.cons (.var 2) .nil))) (.seq (.ret (.cst (.bl false)))
  .pass) .pass)
  (.seq (.ret (.cmp .eq (.comp [5] (.var 5) (.call 12 (.cons (.var 2) .nil)) (.cst (.bl true)) (.call 5 (.cons (.var 3) (.cons (.var 5) .nil)))) (.comp [5] (.var 5) (.call 12 (.cons (.var 2) .nil)) (.cst (.bl true)) (.mt .get2 (.sub (.var 3) (.cst (.int 1))) (.cons (.var 5) (.cons (.cst (.int 0)) .nil))))))
  .pass)))))))))
abbrev N_law : List Str := ["_law_script", "_law_town", "_law_shape_here", "_law_table_here", "_law_odd", "_law_one"]
abbrev i_law : Nat := 15
def tab : Nat → Option FD
  | 0 => some ⟨3, 3, b_is_between, false⟩
  | 1 => some ⟨1, 2, b_is_shape, false⟩
  | 2 => some ⟨2, 4, b_is_position, false⟩
  | 3 => some ⟨1, 2, b_is_table, false⟩
  | 4 => some ⟨1, 1, b_need_table, false⟩
  | 5 => some ⟨2, 2, b_cell, false⟩
  | 6 => some ⟨1, 5, b_all_positions, false⟩
  | 7 => some ⟨1, 1, b_positions, false⟩
  | 8 => some ⟨3, 6, b__law_draw, false⟩
  | 9 => some ⟨3, 3, b__law_pick, false⟩
  | 10 => some ⟨3, 7, b__law_table, false⟩
  | 11 => some ⟨2, 3, b__law_shape, false⟩
  | 12 => some ⟨1, 6, b__law_rows, false⟩
  | 13 => some ⟨0, 1, b__law_no_tables, false⟩
  | 14 => some ⟨2, 2, b__law_no_table, false⟩
  | 15 => some ⟨1, 6, b_law, false⟩
  | _ => none
def gDefs : List (Str × Nat) := [("is_between", 0), ("is_shape", 1), ("is_position", 2), ("is_table", 3), ("need_table", 4), ("cell", 5), ("all_positions", 6), ("positions", 7), ("_law_draw", 8), ("_law_pick", 9), ("_law_table", 10), ("_law_shape", 11), ("_law_rows", 12), ("_law_no_tables", 13), ("_law_no_table", 14), ("law", 15)]
def gInts : List (Str × Int) := [("MOST", 1000000)]
def gBlts : List Str := ["isinstance", "int", "bool", "tuple", "all", "len", "zip", "dict", "range"]
def gClss : List (Str × Nat) := [("NoTable", 0), ("NoPosition", 1)]
abbrev s_is_between : Stmt := topS 6
abbrev s_is_shape : Stmt := topS 7
abbrev s_is_position : Stmt := topS 8
abbrev s_is_table : Stmt := topS 9
abbrev s_need_table : Stmt := topS 10
abbrev s_cell : Stmt := topS 11
abbrev s_all_positions : Stmt := topS 12
abbrev s_positions : Stmt := topS 13
abbrev s__law_draw : Stmt := topS 15
abbrev s__law_pick : Stmt := topS 16
abbrev s__law_table : Stmt := topS 17
abbrev s__law_shape : Stmt := topS 18
abbrev s__law_rows : Stmt := topS 20
abbrev s__law_no_tables : Stmt := topS 21
abbrev s__law_no_table : Stmt := topS 22
abbrev s_law : Stmt := topS 23
abbrev G (cls : Nat → Value) : LawG := ⟨tab, gDefs, gInts, gBlts, gClss, cls⟩
theorem sc_is_between : FnScope N_is_between ["thing", "least", "most"] (defScope s_is_between) := ⟨rfl, rfl, rfl, by decide +kernel, rfl, by decide +kernel, by decide +kernel⟩
theorem ck_is_between (cls : Nat → Value) : chkSs (G cls) ⟨N_is_between, defScope s_is_between, fun _ => true⟩ b_is_between (defBody s_is_between) = true := by kernel_rfl
theorem sc_is_shape : FnScope N_is_shape ["thing"] (defScope s_is_shape) := ⟨rfl, rfl, rfl, by decide +kernel, rfl, by decide +kernel, by decide +kernel⟩
theorem ck_is_shape (cls : Nat → Value) : chkSs (G cls) ⟨N_is_shape, defScope s_is_shape, fun _ => true⟩ b_is_shape (defBody s_is_shape) = true := by kernel_rfl
theorem sc_is_position : FnScope N_is_position ["thing", "shape"] (defScope s_is_position) := ⟨rfl, rfl, rfl, by decide +kernel, rfl, by decide +kernel, by decide +kernel⟩
theorem ck_is_position (cls : Nat → Value) : chkSs (G cls) ⟨N_is_position, defScope s_is_position, fun _ => true⟩ b_is_position (defBody s_is_position) = true := by kernel_rfl
theorem sc_is_table : FnScope N_is_table ["thing"] (defScope s_is_table) := ⟨rfl, rfl, rfl, by decide +kernel, rfl, by decide +kernel, by decide +kernel⟩
theorem ck_is_table (cls : Nat → Value) : chkSs (G cls) ⟨N_is_table, defScope s_is_table, fun _ => true⟩ b_is_table (defBody s_is_table) = true := by kernel_rfl
theorem sc_need_table : FnScope N_need_table ["thing"] (defScope s_need_table) := ⟨rfl, rfl, rfl, by decide +kernel, rfl, by decide +kernel, by decide +kernel⟩
theorem ck_need_table (cls : Nat → Value) : chkSs (G cls) ⟨N_need_table, defScope s_need_table, fun _ => true⟩ b_need_table (defBody s_need_table) = true := by kernel_rfl
theorem sc_cell : FnScope N_cell ["table", "position"] (defScope s_cell) := ⟨rfl, rfl, rfl, by decide +kernel, rfl, by decide +kernel, by decide +kernel⟩
theorem ck_cell (cls : Nat → Value) : chkSs (G cls) ⟨N_cell, defScope s_cell, fun _ => true⟩ b_cell (defBody s_cell) = true := by kernel_rfl
theorem sc_all_positions : FnScope N_all_positions ["lengths"] (defScope s_all_positions) := ⟨rfl, rfl, rfl, by decide +kernel, rfl, by decide +kernel, by decide +kernel⟩
theorem ck_all_positions (cls : Nat → Value) : chkSs (G cls) ⟨N_all_positions, defScope s_all_positions, fun _ => true⟩ b_all_positions (defBody s_all_positions) = true := by kernel_rfl
theorem sc_positions : FnScope N_positions ["shape"] (defScope s_positions) := ⟨rfl, rfl, rfl, by decide +kernel, rfl, by decide +kernel, by decide +kernel⟩
theorem ck_positions (cls : Nat → Value) : chkSs (G cls) ⟨N_positions, defScope s_positions, fun _ => true⟩ b_positions (defBody s_positions) = true := by kernel_rfl
theorem sc__law_draw : FnScope N__law_draw ["_law_script", "_law_town", "_law_many"] (defScope s__law_draw) := ⟨rfl, rfl, rfl, by decide +kernel, rfl, by decide +kernel, by decide +kernel⟩
theorem ck__law_draw (cls : Nat → Value) : chkSs (G cls) ⟨N__law_draw, defScope s__law_draw, fun _ => true⟩ b__law_draw (defBody s__law_draw) = true := by kernel_rfl
theorem sc__law_pick : FnScope N__law_pick ["_law_script", "_law_town", "_law_some"] (defScope s__law_pick) := ⟨rfl, rfl, rfl, by decide +kernel, rfl, by decide +kernel, by decide +kernel⟩
theorem ck__law_pick (cls : Nat → Value) : chkSs (G cls) ⟨N__law_pick, defScope s__law_pick, fun _ => true⟩ b__law_pick (defBody s__law_pick) = true := by kernel_rfl
theorem sc__law_table : FnScope N__law_table ["_law_script", "_law_town", "_law_shape_here"] (defScope s__law_table) := ⟨rfl, rfl, rfl, by decide +kernel, rfl, by decide +kernel, by decide +kernel⟩
theorem ck__law_table (cls : Nat → Value) : chkSs (G cls) ⟨N__law_table, defScope s__law_table, fun _ => true⟩ b__law_table (defBody s__law_table) = true := by kernel_rfl
theorem sc__law_shape : FnScope N__law_shape ["_law_script", "_law_town"] (defScope s__law_shape) := ⟨rfl, rfl, rfl, by decide +kernel, rfl, by decide +kernel, by decide +kernel⟩
theorem ck__law_shape (cls : Nat → Value) : chkSs (G cls) ⟨N__law_shape, defScope s__law_shape, fun _ => true⟩ b__law_shape (defBody s__law_shape) = true := by kernel_rfl
theorem sc__law_rows : FnScope N__law_rows ["_law_lengths_now"] (defScope s__law_rows) := ⟨rfl, rfl, rfl, by decide +kernel, rfl, by decide +kernel, by decide +kernel⟩
theorem ck__law_rows (cls : Nat → Value) : chkSs (G cls) ⟨N__law_rows, defScope s__law_rows, fun _ => true⟩ b__law_rows (defBody s__law_rows) = true := by kernel_rfl
theorem sc__law_no_tables : FnScope N__law_no_tables [] (defScope s__law_no_tables) := ⟨rfl, rfl, rfl, by decide +kernel, rfl, by decide +kernel, by decide +kernel⟩
theorem ck__law_no_tables (cls : Nat → Value) : chkSs (G cls) ⟨N__law_no_tables, defScope s__law_no_tables, fun _ => true⟩ b__law_no_tables (defBody s__law_no_tables) = true := by kernel_rfl
theorem sc__law_no_table : FnScope N__law_no_table ["_law_script", "_law_town"] (defScope s__law_no_table) := ⟨rfl, rfl, rfl, by decide +kernel, rfl, by decide +kernel, by decide +kernel⟩
theorem ck__law_no_table (cls : Nat → Value) : chkSs (G cls) ⟨N__law_no_table, defScope s__law_no_table, fun _ => true⟩ b__law_no_table (defBody s__law_no_table) = true := by kernel_rfl
theorem sc_law : FnScope N_law ["_law_script"] (defScope s_law) := ⟨rfl, rfl, rfl, by decide +kernel, rfl, by decide +kernel, by decide +kernel⟩
theorem ck_law (cls : Nat → Value) : chkSs (G cls) ⟨N_law, defScope s_law, fun _ => true⟩ b_law (defBody s_law) = true := by kernel_rfl
end K1
end DL

set_option Elab.async false
set_option linter.all false
set_option maxRecDepth 100000
set_option maxHeartbeats 2000000
namespace DL
open PySem
/-! ### plain steps -/
mutual
theorem mapRef_id (f : Nat → Option AV) : ∀ a : AV, a.rb 0 = true → a.mapRef f = some a
  | .non, _ => rfl
  | .bl _, _ => rfl
  | .int _, _ => rfl
  | .str _, _ => rfl
  | .tup xs, h => by
    have h' : AV.rbs 0 xs = true := by simpa [AV.rb] using h
    simp [AV.mapRef, mapRefs_id f xs h']
  | .lst xs, h => by
    have h' : AV.rbs 0 xs = true := by simpa [AV.rb] using h
    simp [AV.mapRef, mapRefs_id f xs h']
  | .dct kvs, h => by
    have h' : AV.rbd 0 kvs = true := by simpa [AV.rb] using h
    simp [AV.mapRef, mapRefd_id f kvs h']
  | .ref l, h => by simp [AV.rb] at h
  | .gl _, _ => rfl
  | .scr xs, h => by
    have h' : AV.rbs 0 xs = true := by simpa [AV.rb] using h
    simp [AV.mapRef, h']
theorem mapRefs_id (f : Nat → Option AV) : ∀ xs : List AV, AV.rbs 0 xs = true → AV.mapRefs f xs = some xs
  | [], _ => rfl
  | x :: xs, h => by
    have h' : x.rb 0 = true ∧ AV.rbs 0 xs = true := by simpa [AV.rbs] using h
    simp [AV.mapRefs, mapRef_id f x h'.1, mapRefs_id f xs h'.2]
theorem mapRefd_id (f : Nat → Option AV) : ∀ xs : List (AV × AV), AV.rbd 0 xs = true → AV.mapRefd f xs = some xs
  | [], _ => rfl
  | (k, v) :: xs, h => by
    have h' : (k.rb 0 = true ∧ v.rb 0 = true) ∧ AV.rbd 0 xs = true := by simpa [AV.rbd] using h
    simp [AV.mapRefd, mapRef_id f k h'.1.1, mapRef_id f v h'.1.2, mapRefd_id f xs h'.2]
end
theorem cutS_same {S S' : Store} (h : S'.length = S.length) : cutS S S' = some S' := if_pos h
theorem retF_v {S S' : Store} {a : AV} (h : a.rb 0 = true) (hl : S'.length = S.length) : retF false S (.ok (.rt (.v a)) S') = .ok (.v a) S' := by
  have e : retR S.length S' (.v a) = some (.v a) := by
    show retV S.length S' a = _
    unfold retV
    split
    · simp [AV.rb] at h
    · rw [mapRef_id _ _ h]; rfl
  show retire S (.v a) S' = _
  unfold retire
  rw [e, cutS_same hl]
theorem retF_l {S S' : Store} {xs : List AV} (h : AV.rbs 0 xs = true) (hl : S'.length = S.length) : retF false S (.ok (.rt (.l xs)) S') = .ok (.l xs) S' := by
  have e : retR S.length S' (.l xs) = some (.l xs) := by
    show (AV.mapRefs _ xs).map RV.l = _
    rw [mapRefs_id _ _ h]; rfl
  show retire S (.l xs) S' = _
  unfold retire
  rw [e, cutS_same hl]
theorem retF_n {S S' : Store} {ρ : Env} (hl : S'.length = S.length) : retF false S (.ok (.nx ρ) S') = .ok (.v .non) S' := by
  show retire S (.v .non) S' = _
  unfold retire
  rw [cutS_same hl]
  rfl
theorem call_eq {P : Nat → Option FD} {n k : Nat} {args : List AV} {S : Store} {fd : FD} (h : P k = some fd) (hl : args.length = fd.np) : callN P (n + 1) k args S = retF fd.keep S (exS ⟨callN P n⟩ fd.body (args.map some ++ List.replicate (fd.nn - fd.np) none) S) := by
  unfold callN
  rw [h]
  exact if_pos hl
theorem look_ref {S : Store} {t : Nat} {xs : List AV} (h : S[t]? = some (.lst xs)) : (AV.ref t).look S = some (.lst xs) := by
  show S[t]?.bind AO.av? = _
  rw [h]
  rfl
theorem sub_ref {S : Store} {t : Nat} {xs : List AV} {i : AV} (h : S[t]? = some (.lst xs)) : subOp (.ref t) i S = match i with
  | .int i => L2.atI xs i
  | _ => none := by
  unfold subOp
  rw [look_ref h]
  all_goals (cases i <;> rfl)
theorem div_ok {i j : Int} {S : Store} (h : 0 < j) (h2 : j < 1073741824) : opDiv (.int i) (.int j) S = .ok (.v (.int (i / j))) S := if_pos ⟨h, h2⟩
theorem mod_ok {i j : Int} {S : Store} (h : 0 < j) : opMod (.int i) (.int j) S = .ok (.v (.int (i % j))) S := if_pos h
theorem mul_ok {i j : Int} {S : Store} (h : -(2 ^ 64) < j ∧ j < 2 ^ 64) : opMul (.int i) (.int j) S = .ok (.v (.int (i * j))) S := if_pos (.inl (.inr h))
theorem pow_ok {i j : Int} {S : Store} (h : 0 ≤ j ∧ j ≤ 1000000 ∧ i.natAbs < 2 ^ 64) : opPow (.int i) (.int j) S = .ok (.v (.int (i ^ j.toNat))) S := if_pos h
theorem set_ref {S : Store} {t : Nat} {xs : List AV} {i : Int} {v : AV} {k : Nat} (h : S[t]? = some (.lst xs)) (hk : L2.ixN xs.length i = some k) : subSet (.ref t) (.int i) v S = some (S.set t (.lst (xs.set k v))) := by
  unfold subSet
  dsimp only
  rw [h]
  dsimp only
  rw [hk]
  rfl
/-! ### what may be compared -/
structure Lay (k : Nat) (a : AV) : Prop where
  plain : a.plain = true
  lay : a.pd.canLay0 = true
  dp : a.pd.depth ≤ k
theorem Lay.mono {k j : Nat} {a : AV} (h : Lay k a) (hk : k ≤ j) : Lay j a := ⟨h.plain, h.lay, Nat.le_trans h.dp hk⟩
theorem lay_int (i : Int) : Lay 0 (.int i) := ⟨rfl, rfl, Nat.le_refl _⟩
theorem lay_all {k : Nat} : ∀ {xs : List AV}, (∀ x ∈ xs, Lay k x) → AV.plains xs = true ∧ PyData.canLayAll0 (AV.pds xs) = true ∧ PyData.depthAll (AV.pds xs) ≤ k
  | [], _ => ⟨by simp [AV.plains], by simp [AV.pds, PyData.canLayAll0], by simp [AV.pds, PyData.depthAll]⟩
  | x :: xs, h => by
    obtain ⟨a, b, c⟩ := lay_all fun y hy => h y (List.mem_cons_of_mem _ hy)
    have q := h x List.mem_cons_self
    refine ⟨by simp [AV.plains, a, q.plain], by simp [AV.pds, PyData.canLayAll0, b, q.lay], ?_⟩
    simp only [AV.pds, PyData.depthAll]
    exact Nat.max_le.mpr ⟨q.dp, c⟩
theorem lay_tup {k : Nat} {xs : List AV} (h : ∀ x ∈ xs, Lay k x) : Lay (k + 1) (.tup xs) := by
  obtain ⟨a, b, c⟩ := lay_all h
  exact ⟨by simpa [AV.plain] using a, by simpa [AV.pd, PyData.canLay0] using b, by simp only [AV.pd, PyData.depth]; omega⟩
theorem lay_lst {k : Nat} {xs : List AV} (h : ∀ x ∈ xs, Lay k x) : Lay (k + 1) (.lst xs) := by
  obtain ⟨a, b, c⟩ := lay_all h
  exact ⟨by simpa [AV.plain] using a, by simpa [AV.pd, PyData.canLay0] using b, by simp only [AV.pd, PyData.depth]; omega⟩
theorem Lay.cmp {k : Nat} {a : AV} (h : Lay k a) (hk : k ≤ 64) : a.cmpOk = true := by
  unfold AV.cmpOk SeqAt.shaped
  rw [h.plain, h.lay, decide_eq_true (Nat.le_trans h.dp hk)]
  rfl
mutual
theorem eqv_refl : ∀ d : PyData, d.canLay0 = true → PyData.eqv d d = true
  | .none, _ => by simp [PyData.eqv]
  | .bool _, _ => by simp [PyData.eqv]
  | .int _, _ => by simp [PyData.eqv]
  | .str _, _ => by simp [PyData.eqv]
  | .list xs, h => by simpa [PyData.eqv] using eqvAll_refl xs (by simpa [PyData.canLay0] using h)
  | .tuple xs, h => by simpa [PyData.eqv] using eqvAll_refl xs (by simpa [PyData.canLay0] using h)
  | .dict _, h => by simp [PyData.canLay0] at h
theorem eqvAll_refl : ∀ ds : List PyData, PyData.canLayAll0 ds = true → PyData.eqvAll ds ds = true
  | [], _ => by simp [PyData.eqvAll]
  | d :: ds, h => by
    have h' : d.canLay0 = true ∧ PyData.canLayAll0 ds = true := by simpa [PyData.canLayAll0] using h
    simp [PyData.eqvAll, eqv_refl d h'.1, eqvAll_refl ds h'.2]
end
theorem eq_self {k : Nat} {a b : AV} {x : AV} {S : Store} (h : Lay k x) (hk : k ≤ 64) (ha : a.look S = some x) (hb : b.look S = some x) : eqOp a b S = some true := by
  unfold eqOp
  rw [ha, hb]
  dsimp only
  rw [h.cmp hk]
  show some (PyData.eqv x.pd x.pd) = _
  rw [eqv_refl _ h.lay]
theorem eq_ints (i j : Int) (S : Store) : eqOp (.int i) (.int j) S = some (i == j) := by
  unfold eqOp
  show (if (AV.int i).cmpOk && (AV.int j).cmpOk then some ((AV.int i).eqv (.int j)) else none) = _
  rw [(lay_int i).cmp (by decide), (lay_int j).cmp (by decide)]
  simp [AV.eqv, AV.pd, PyData.eqv]
theorem lay_ints (ns : List Int) : Lay 1 (.lst (ns.map .int)) := lay_lst fun x hx => by
  obtain ⟨i, _, rfl⟩ := List.mem_map.mp hx
  exact lay_int i
theorem eq_nil (ns : List Int) (S : Store) : eqOp (.scr (ns.map .int)) (.lst []) S = some (decide (ns = [])) := by
  unfold eqOp
  show (if (AV.lst (ns.map .int)).cmpOk && (AV.lst []).cmpOk then some ((AV.lst (ns.map .int)).eqv (.lst [])) else none) = _
  rw [(lay_ints ns).cmp (by decide), show (AV.lst []).cmpOk = true from (lay_ints []).cmp (by decide)]
  cases ns <;> simp [AV.eqv, AV.pd, AV.pds, PyData.eqv, PyData.eqvAll]
/-! ### comprehensions -/
theorem loop_map {f : AV → List AV → Store → Res (List AV)} {g : AV → AV} {w : Option (Nat × AO)} {S : Store} (hw : stays w S) : ∀ {xs : List AV}, (∀ x ∈ xs, ∀ acc, f x acc S = .ok (acc ++ [g x]) S) → ∀ acc, loopA f w xs acc S = .ok (acc ++ xs.map g) S
  | [], _, acc => by simp [loopA]
  | x :: xs, h, acc => by
    unfold loopA
    rw [h x List.mem_cons_self acc]
    dsimp only
    rw [if_pos hw, loop_map hw (fun y hy => h y (List.mem_cons_of_mem _ hy)) (acc ++ [g x])]
    simp
theorem comp_map {cl : Orc} {own : List Nat} {tg : Tg} {it c e : Ex} {ρ : Env} {S S1 : Store} {r : RV} {xs : List AV} {w : Option (Nat × AO)} (g : AV → AV) (hi : ev cl it ρ S = .ok r S1) (hx : itemsOf S1 r.av = some (xs, w)) (hw : stays w S1) (he : ∀ x ∈ xs, ∀ acc, compF own tg (ev cl c) (ev cl e) ρ x acc S1 = .ok (acc ++ [g x]) S1) : ev cl (.comp own tg it c e) ρ S = .ok (.l (xs.map g)) S1 := by
  show compM own tg (ev cl it) (ev cl c) (ev cl e) ρ S = _
  unfold compM
  rw [hi, bnd_ok, hx]
  dsimp only
  rw [loop_map hw he []]
  rfl
theorem bools_map (f : AV → Bool) : ∀ xs : List AV, AV.bools (xs.map fun x => AV.bl (f x)) = some (xs.map f)
  | [] => rfl
  | x :: xs => by simp [AV.bools, bools_map f xs]
theorem all_map (f : AV → Bool) (xs : List AV) (S : Store) : biAll S [.lst (xs.map fun x => AV.bl (f x))] = .ok (.v (.bl (xs.all f))) S := by
  simp [biAll, AV.listOf, AV.look, bools_map]
namespace K1
theorem draw_ok (n : Nat) (ns : List Int) (t : Nat) (S : Store) (a c m : Int) (h : S[t]? = some (.lst [.int a, .int c])) (h0 : 0 ≤ a) (h1 : 0 ≤ c) (hm : 0 < m) (hm2 : m < 1000000) :
    ∃ d a' c' : Int, 0 ≤ d ∧ d < m ∧ 0 ≤ a' ∧ 0 ≤ c' ∧ callN tab (n + 1) 8 [.scr (ns.map .int), .ref t, .int m] S = .ok (.v (.int d)) (S.set t (.lst [.int a', .int c'])) := by
  rw [call_eq (fd := ⟨3, 6, b__law_draw, false⟩) rfl rfl]
  have at0 : ∀ x y : AV, L2.atI [x, y] 0 = some x := fun _ _ => rfl
  have at1 : ∀ x y : AV, L2.atI [x, y] 1 = some y := fun _ _ => rfl
  have ht : t < S.length := (List.getElem?_eq_some_iff.mp h).1
  have st1 : ∀ v : AV, subSet (.ref t) (.int 1) v S = some (S.set t (.lst [.int a, v])) := fun v => set_ref (i := 1) (k := 1) h rfl
  have st0 : ∀ v : AV, subSet (.ref t) (.int 0) v S = some (S.set t (.lst [v, .int c])) := fun v => set_ref (i := 0) (k := 0) h rfl
  by_cases hc : 0 < c
  · refine ⟨c % m, a, c / m, Int.emod_nonneg _ (by omega), Int.emod_lt_of_pos _ hm, h0, Int.ediv_nonneg h1 (by omega), ?_⟩
    have e : exS ⟨callN tab n⟩ b__law_draw (List.map some [.scr (ns.map .int), .ref t, .int m] ++ List.replicate 3 none) S = .ok (.rt (.v (.int (c % m)))) (S.set t (.lst [.int a, .int (c / m)])) := by
      simp [b__law_draw, exS, ev, bnd_ok, sub_ref h, at1, opCmp, ltOp, hc, RV.bool?, RV.av, opBin, mod_ok hm, bindT, setE, div_ok hm (by omega : m < 1073741824), st1]
    show retF false S (exS ⟨callN tab n⟩ b__law_draw (List.map some [.scr (ns.map .int), .ref t, .int m] ++ List.replicate 3 none) S) = _
    rw [e]
    exact retF_v (by simp [AV.rb]) (by simp)
  · have hc0 : c = 0 := by omega
    subst hc0
    have h1' : (S.set t (.lst [.int (a + 1), .int 0]))[t]? = some (.lst [.int (a + 1), .int 0]) := List.getElem?_set_self ht
    have fin : ∀ (d a' c' : Int), 0 ≤ d → d < m → 0 ≤ a' → 0 ≤ c' → exS ⟨callN tab n⟩ b__law_draw (List.map some [.scr (ns.map .int), .ref t, .int m] ++ List.replicate 3 none) S = .ok (.rt (.v (.int d))) (S.set t (.lst [.int a', .int c'])) →
      ∃ d a' c' : Int, 0 ≤ d ∧ d < m ∧ 0 ≤ a' ∧ 0 ≤ c' ∧ retF false S (exS ⟨callN tab n⟩ b__law_draw (List.map some [.scr (ns.map .int), .ref t, .int m] ++ List.replicate 3 none) S) = .ok (.v (.int d)) (S.set t (.lst [.int a', .int c'])) := fun d a' c' g1 g2 g3 g4 e => ⟨d, a', c', g1, g2, g3, g4, by rw [e]; exact retF_v (by simp [AV.rb]) (by simp)⟩
    by_cases hn : ns = []
    · subst hn
      refine fin (a % m) (a + 1) 0 (Int.emod_nonneg _ (by omega)) (Int.emod_lt_of_pos _ hm) (by omega) (by omega) ?_
      have hsc : ∀ S, eqOp (.scr []) (.lst []) S = some true := fun S => eq_nil [] S
      simp [b__law_draw, exS, ev, bnd_ok, sub_ref h, at1, at0, opCmp, ltOp, RV.bool?, RV.av, RV.list, opBin, mod_ok hm, bindT, setE, st0, opAug, hsc]
    · have hsc : ∀ S, eqOp (.scr (ns.map .int)) (.lst []) S = some false := fun S => by rw [eq_nil]; simp [hn]
      have hlen : ∀ S, biLen S [.scr (ns.map .int)] = .ok (.v (.int ns.length)) S := fun S => by simp [biLen, lenOf, AV.look]
      have hpos : 0 < ns.length := List.length_pos_iff.mpr hn
      have hge : ∀ i : Int, 0 ≤ i → i < ns.length → ∃ z, ∀ S, subOp (.scr (ns.map .int)) (.int i) S = some (.int z) := fun i g1 g2 => by
        obtain ⟨j, rfl⟩ := Int.eq_ofNat_of_zero_le g1
        have hj : j < ns.length := by omega
        refine ⟨ns[j], fun S => ?_⟩
        show L2.atI (ns.map AV.int) (Int.ofNat j) = _
        exact L2.atI_nat (j := j) (by rw [List.getElem?_map, List.getElem?_eq_getElem hj]; rfl)
      obtain ⟨z2, hz2⟩ := hge (a % ns.length) (Int.emod_nonneg _ (by omega)) (Int.emod_lt_of_pos _ (by omega))
      have m1 : ∀ i S, opMod (.int i) (.int 2147483647) S = .ok (.v (.int (i % 2147483647))) S := fun i S => mod_ok (by decide)
      have m2 : ∀ i S, opMod (.int i) (.int 999983) S = .ok (.v (.int (i % 999983))) S := fun i S => mod_ok (by decide)
      have m3 : ∀ i S, opMod (.int i) (.int ns.length) S = .ok (.v (.int (i % ns.length))) S := fun i S => mod_ok (by omega)
      have p1 : ∀ S, opPow (.int 10) (.int 18) S = .ok (.v (.int (10 ^ 18))) S := fun S => pow_ok (by decide)
      have p2 : ∀ S, opPow (.int 10) (.int 60) S = .ok (.v (.int (10 ^ 60))) S := fun S => pow_ok (by decide)
      have p3 : ∀ i S, opPow (.int (i % 2147483647)) (.int 5) S = .ok (.v (.int ((i % 2147483647) ^ 5))) S := fun i S => pow_ok ⟨by decide, by decide, by
        have := Int.emod_nonneg i (show (2147483647 : Int) ≠ 0 by decide)
        have := Int.emod_lt_of_pos i (show (0 : Int) < 2147483647 by decide)
        omega⟩
      have u1 : ∀ i S, opMul (.int i) (.int 1103515245) S = .ok (.v (.int (i * 1103515245))) S := fun i S => mul_ok (by decide)
      have u2 : ∀ i S, opMul (.int 7919) (.int i) S = .ok (.v (.int (7919 * i))) S := fun i S => if_pos (.inl (.inl (by decide)))
      have u3 : ∀ S, opMul (.int 1000000000000000000000000000000000000000000000000000000000000) (.int 1000000000000000000000000000000000000000000000000000000000000) S = .ok (.v (.int 1000000000000000000000000000000000000000000000000000000000000000000000000000000000000000000000000000000000000000000000000)) S := fun S => if_pos (.inr ⟨Nat.lt_of_lt_of_le (show (1000000000000000000000000000000000000000000000000000000000000 : Int).natAbs < 2 ^ 250 by decide) (Nat.pow_le_pow_right (by decide) (by decide)), Nat.lt_of_lt_of_le (show (1000000000000000000000000000000000000000000000000000000000000 : Int).natAbs < 2 ^ 250 by decide) (Nat.pow_le_pow_right (by decide) (by decide))⟩)
      have m4 : ∀ i S, opMod (.int i) (.int 1000000000000000000000000000000000000000000000000000000000000000000000000000000000000000000000000000000000000000000000000) S = .ok (.v (.int (i % 1000000000000000000000000000000000000000000000000000000000000000000000000000000000000000000000000000000000000000000000000))) S := fun i S => mod_ok (by decide)
      have st2 : ∀ v, subSet (.ref t) (.int 1) v (S.set t (.lst [.int (a + 1), .int 0])) = some (S.set t (.lst [.int (a + 1), v])) := fun v => by
        rw [set_ref (i := 1) (k := 1) h1' rfl, List.set_set]
        rfl
      have lt18 : ∀ z : Int, leOp (.int 1000000000000000000) (.int z) = some (decide (1000000000000000000 ≤ z)) := fun z => rfl
      have tl : ∀ e, 0 ≤ e % m ∧ e % m < m := fun e => ⟨Int.emod_nonneg _ (by omega), Int.emod_lt_of_pos _ hm⟩
      by_cases hlt : a < ns.length
      · obtain ⟨z, hz⟩ := hge a h0 hlt
        by_cases hz18 : (1000000000000000000 : Int) ≤ z
        · refine fin (z % m) (a + 1) (z / m % 1000000000000000000000000000000000000000000000000000000000000000000000000000000000000000000000000000000000000000000000000) (tl z).1 (tl z).2 (by omega) (Int.emod_nonneg _ (by decide)) ?_
          simp [b__law_draw, exS, ev, bnd_ok, sub_ref h, at1, at0, opCmp, ltOp, lt18, RV.bool?, RV.av, RV.list, opBin, mod_ok hm, bindT, setE, st0, st2, opAug, hsc, biCall, hlen, hlt, hz, hz18, p1, p2, u3, m4, div_ok hm (by omega : m < 1073741824)]
        · refine fin ((((z2 * 1103515245 + 7919 * a + 12345) % 2147483647) ^ 5 % 2147483647 % 999983) % m) (a + 1) 0 (tl (((z2 * 1103515245 + 7919 * a + 12345) % 2147483647) ^ 5 % 2147483647 % 999983)).1 (tl (((z2 * 1103515245 + 7919 * a + 12345) % 2147483647) ^ 5 % 2147483647 % 999983)).2 (by omega) (by omega) ?_
          simp [b__law_draw, exS, ev, bnd_ok, sub_ref h, at1, at0, opCmp, ltOp, lt18, RV.bool?, RV.av, RV.list, opBin, opAdd, mod_ok hm, m1, m2, m3, p3, u1, u2, hz2, bindT, setE, st0, st2, opAug, hsc, biCall, hlen, hlt, hz, hz18, p1, p2, u3, m4]
      · refine fin ((((z2 * 1103515245 + 7919 * a + 12345) % 2147483647) ^ 5 % 2147483647 % 999983) % m) (a + 1) 0 (tl (((z2 * 1103515245 + 7919 * a + 12345) % 2147483647) ^ 5 % 2147483647 % 999983)).1 (tl (((z2 * 1103515245 + 7919 * a + 12345) % 2147483647) ^ 5 % 2147483647 % 999983)).2 (by omega) (by omega) ?_
        simp [b__law_draw, exS, ev, bnd_ok, sub_ref h, at1, at0, opCmp, ltOp, lt18, RV.bool?, RV.av, RV.list, opBin, opAdd, mod_ok hm, m1, m2, m3, p3, u1, u2, hz2, bindT, setE, st0, st2, opAug, hsc, biCall, hlen, hlt]
end K1
end DL

set_option Elab.async false
set_option linter.all false
set_option maxRecDepth 100000
set_option maxHeartbeats 2000000
namespace DL
open PySem
/-- no place, no def, no script (not below) -/
def AV.vis : AV → Bool
  | .ref _ => false
  | .gl _ => false
  | .scr _ => false
  | _ => true
theorem vis_look {a : AV} (h : a.vis = true) (S : Store) : a.look S = some a := by
  cases a <;> first | rfl | cases h
theorem compF_one {own : List Nat} {i : Nat} {mc me : Env → Store → Res RV} {ρ : Env} {x : AV} {acc : List AV} {S : Store} {y : RV} (hc : ∀ ρ S, mc ρ S = .ok (.v (.bl true)) S) (he : me (setE (wipeE ρ own) i x) S = .ok y S) : compF own (.var i) mc me ρ x acc S = .ok (acc ++ [y.av]) S := by
  unfold compF bindT
  dsimp only
  rw [hc, bnd_ok]
  dsimp only [RV.bool?]
  rw [he, bnd_ok]
def sqk (r : Res Fl) (k : Env → Store → Res Fl) : Res Fl := r.bnd fun fl S1 => match fl with
  | .nx ρ' => k ρ' S1
  | .rt r => .ok (.rt r) S1
theorem sqk_nx {ρ : Env} {S : Store} {k : Env → Store → Res Fl} : sqk (.ok (.nx ρ) S) k = k ρ S := rfl
theorem sqk_rt {r : RV} {S : Store} {k : Env → Store → Res Fl} : sqk (.ok (.rt r) S) k = .ok (.rt r) S := rfl
def ifk (r : Res RV) (f g : Store → Res Fl) : Res Fl := r.bnd fun x S1 => match x.bool? with
  | some true => f S1
  | some false => g S1
  | none => .stop
theorem ifk_t {S : Store} {f g : Store → Res Fl} : ifk (.ok (.v (.bl true)) S) f g = f S := rfl
theorem ifk_f {S : Store} {f g : Store → Res Fl} : ifk (.ok (.v (.bl false)) S) f g = g S := rfl
section
variable (cl : Orc) (ρ : Env) (S : Store)
theorem x_pass : exS cl .pass ρ S = .ok (.nx ρ) S := rfl
theorem x_seq (a b : Sm) : exS cl (.seq a b) ρ S = sqk (exS cl a ρ S) (exS cl b) := rfl
theorem x_exp (e : Ex) : exS cl (.exp e) ρ S = (ev cl e ρ S).bnd fun _ S1 => .ok (.nx ρ) S1 := rfl
theorem x_asg (t : Tg) (e : Ex) : exS cl (.asg t e) ρ S = (ev cl e ρ S).bnd fun x S1 => match bindT t x.av ρ with
    | some ρ' => .ok (.nx ρ') S1
    | none => .stop := rfl
theorem x_sset (o i e : Ex) : exS cl (.sset o i e) ρ S = (ev cl e ρ S).bnd fun v S1 => (ev cl o ρ S1).bnd fun x S2 => (ev cl i ρ S2).bnd fun y S3 => match subSet x.av y.av v.av S3 with
    | some S4 => .ok (.nx ρ) S4
    | none => .stop := rfl
theorem x_ifs (c : Ex) (a b : Sm) : exS cl (.ifs c a b) ρ S = ifk (ev cl c ρ S) (exS cl a ρ) (exS cl b ρ) := rfl
theorem x_ret (e : Ex) : exS cl (.ret e) ρ S = (ev cl e ρ S).bnd fun x S1 => .ok (.rt x) S1 := rfl
theorem x_raise (c : Nat) : exS cl (.raise c) ρ S = .exc c S := rfl
theorem x_for (t : Tg) (it : Ex) (b : Sm) : exS cl (.for_ t it b) ρ S = forM t (ev cl it) (exS cl b) ρ S := rfl
end
namespace K1
def btw (a : AV) (l m : Int) : Bool := match a with
  | .int i => decide (l ≤ i) && decide (i ≤ m)
  | _ => false
theorem is_between_ok (n : Nat) (a : AV) (l m : Int) (S : Store) (h : a.vis = true) : callN tab (n + 1) 0 [a, .int l, .int m] S = .ok (.v (.bl (btw a l m))) S := by
  rw [call_eq (fd := ⟨3, 3, b_is_between, false⟩) rfl rfl]
  have e : exS ⟨callN tab n⟩ b_is_between (List.map some [a, .int l, .int m] ++ List.replicate 0 none) S = .ok (.rt (.v (.bl (btw a l m)))) S := by
    cases a with
    | int i =>
      by_cases h1 : l ≤ i
      · by_cases h2 : i ≤ m
        · simp [b_is_between, exS, ev, bnd_ok, isTy, AV.look, AV.isTy, RV.bool?, RV.av, opCmp, leOp, btw, h1, h2]
        · simp [b_is_between, exS, ev, bnd_ok, isTy, AV.look, AV.isTy, RV.bool?, RV.av, opCmp, leOp, btw, h1, h2]
      · simp [b_is_between, exS, ev, bnd_ok, isTy, AV.look, AV.isTy, RV.bool?, RV.av, opCmp, leOp, btw, h1]
    | ref _ => cases h
    | gl _ => cases h
    | scr _ => cases h
    | _ => simp [b_is_between, exS, ev, bnd_ok, isTy, AV.look, AV.isTy, RV.bool?, RV.av, btw]
  show retF false S (exS ⟨callN tab n⟩ b_is_between (List.map some [a, .int l, .int m] ++ List.replicate 0 none) S) = _
  rw [e]
  exact retF_v (by simp [AV.rb]) rfl
def shp : AV → Bool
  | .tup xs => decide (1 ≤ xs.length) && decide (xs.length ≤ 3) && xs.all fun x => btw x 1 6
  | _ => false
def okS : AV → Bool
  | .tup xs => xs.all AV.vis
  | a => a.vis
theorem okS_vis {a : AV} (h : okS a = true) : a.vis = true := by
  cases a <;> first | rfl | exact h
theorem is_shape_ok (n : Nat) (a : AV) (S : Store) (h : okS a = true) : callN tab (n + 2) 1 [a] S = .ok (.v (.bl (shp a))) S := by
  rw [call_eq (fd := ⟨1, 2, b_is_shape, false⟩) rfl rfl]
  have e : exS ⟨callN tab (n + 1)⟩ b_is_shape (List.map some [a] ++ List.replicate 1 none) S = .ok (.rt (.v (.bl (shp a)))) S := by
    cases a with
    | tup xs =>
      have hv : ∀ x ∈ xs, x.vis = true := List.all_eq_true.mp h
      have hcomp : ∀ S, ev ⟨callN tab (n + 1)⟩ (.comp [1] (.var 1) (.var 0) (.cst (.bl true)) (.call 0 (.cons (.var 1) (.cons (.cst (.int 1)) (.cons (.cst (.int 6)) .nil))))) [some (.tup xs), none] S = .ok (.l (xs.map fun x => AV.bl (btw x 1 6))) S := by
        intro S
        refine comp_map (w := none) _ (r := .v (.tup xs)) (by simp [ev]) rfl trivial fun x hx acc => compF_one (y := .v (.bl (btw x 1 6))) (fun ρ S => rfl) ?_
        simp [ev, bnd_ok, setE, wipeE, RV.av, RV.list, is_between_ok n x 1 6 S (hv x hx)]
      have hl : ∀ S, biLen S [.tup xs] = .ok (.v (.int xs.length)) S := fun S => by simp [biLen, lenOf, AV.look]
      by_cases h1 : 1 ≤ xs.length
      · have h1' : (1 : Int) ≤ xs.length := by omega
        by_cases h2 : xs.length ≤ 3
        · have h2' : (xs.length : Int) ≤ 3 := by omega
          simp [b_is_shape, x_pass, x_seq, x_ret, sqk_rt, ev, ↓hcomp, bnd_ok, isTy, AV.look, AV.isTy, RV.bool?, RV.av, RV.list, opCmp, leOp, shp, biCall, hl, h1', h2', all_map, h1, h2]
        · have h2' : ¬ (xs.length : Int) ≤ 3 := by omega
          simp [b_is_shape, x_pass, x_seq, x_ret, sqk_rt, ev, ↓hcomp, bnd_ok, isTy, AV.look, AV.isTy, RV.bool?, RV.av, RV.list, opCmp, leOp, shp, biCall, hl, h1', h2', all_map, h1, h2]
      · have h1' : ¬ (1 : Int) ≤ xs.length := by omega
        simp [b_is_shape, x_pass, x_seq, x_ret, sqk_rt, ev, ↓hcomp, bnd_ok, isTy, AV.look, AV.isTy, RV.bool?, RV.av, RV.list, opCmp, leOp, shp, biCall, hl, h1', all_map, h1]
    | ref _ => cases h
    | gl _ => cases h
    | scr _ => cases h
    | _ => simp [b_is_shape, exS, ev, bnd_ok, isTy, AV.look, AV.isTy, RV.bool?, RV.av, shp]
  show retF false S (exS ⟨callN tab (n + 1)⟩ b_is_shape (List.map some [a] ++ List.replicate 1 none) S) = _
  rw [e]
  exact retF_v (by simp [AV.rb]) rfl
end K1
end DL

set_option Elab.async false
set_option linter.all false
set_option maxRecDepth 100000
set_option maxHeartbeats 2000000
namespace DL
open PySem
theorem compF_two {own : List Nat} {i j : Nat} {mc me : Env → Store → Res RV} {ρ : Env} {x z : AV} {acc : List AV} {S : Store} {y : RV} (hc : ∀ ρ S, mc ρ S = .ok (.v (.bl true)) S) (he : me (setE (setE (wipeE ρ own) i x) j z) S = .ok y S) : compF own (.tup (.cons (.var i) (.cons (.var j) .nil))) mc me ρ (.tup [x, z]) acc S = .ok (acc ++ [y.av]) S := by
  unfold compF
  have e : bindT (.tup (.cons (.var i) (.cons (.var j) .nil))) (.tup [x, z]) (wipeE ρ own) = some (setE (setE (wipeE ρ own) i x) j z) := rfl
  rw [e]
  dsimp only
  rw [hc, bnd_ok]
  dsimp only [RV.bool?]
  rw [he, bnd_ok]
theorem isTy_tup (xs : List AV) (S : Store) : isTy S (.tup xs) .tuple = some true := rfl
namespace K1
def pf : AV → Bool
  | .tup [x, .int l] => btw x 0 (l - 1)
  | _ => false
def tup2 (p : AV × AV) : AV := .tup [p.1, p.2]
def psn (a : AV) (ss : List AV) : Bool := match a with
  | .tup xs => decide (xs.length = ss.length) && ((xs.zip ss).map tup2).all pf
  | _ => false
theorem is_position_ok (n : Nat) (a : AV) (ss : List AV) (S : Store) (hs : ∀ y ∈ ss, ∃ l, y = .int l) (h : okS a = true) : callN tab (n + 2) 2 [a, .tup ss] S = .ok (.v (.bl (psn a ss))) S := by
  rw [call_eq (fd := ⟨2, 4, b_is_position, false⟩) rfl rfl]
  have e : exS ⟨callN tab (n + 1)⟩ b_is_position (List.map some [a, .tup ss] ++ List.replicate 2 none) S = .ok (.rt (.v (.bl (psn a ss)))) S := by
    cases a with
    | tup xs =>
      have hv : ∀ x ∈ xs, x.vis = true := List.all_eq_true.mp h
      obtain ⟨zs, hzs⟩ : ∃ zs, zs = (xs.zip ss).map tup2 := ⟨_, rfl⟩
      have hpsn : psn (.tup xs) ss = (decide (xs.length = ss.length) && zs.all pf) := by rw [hzs]; rfl
      have hcomp : ∀ S, ev ⟨callN tab (n + 1)⟩ (.comp [2, 3] (.tup (.cons (.var 2) (.cons (.var 3) .nil))) (.zip (.var 0) (.var 1)) (.cst (.bl true)) (.call 0 (.cons (.var 2) (.cons (.cst (.int 0)) (.cons (.bin .sub (.var 3) (.cst (.int 1))) .nil))))) [some (.tup xs), some (.tup ss), none, none] S = .ok (.l (zs.map fun x => AV.bl (pf x))) S := by
        intro S
        refine comp_map (w := none) (xs := zs) (fun x => AV.bl (pf x)) (r := .l zs) (by simp [ev, bnd_ok, RV.av, zipOp, AV.fixed, hzs, tup2]) rfl trivial fun x hx acc => ?_
        rw [hzs] at hx
        obtain ⟨⟨p, q⟩, hm, rfl⟩ := List.mem_map.mp hx
        obtain ⟨l, rfl⟩ := hs q (List.of_mem_zip hm).2
        refine compF_two (y := .v (.bl (btw p 0 (l - 1)))) (fun ρ S => rfl) ?_
        simp [ev, bnd_ok, setE, wipeE, RV.av, RV.list, opBin, opSub, is_between_ok n p 0 (l - 1) S (hv p (List.of_mem_zip hm).1)]
      have hl : ∀ xs S, biLen S [.tup xs] = .ok (.v (.int xs.length)) S := fun xs S => by simp [biLen, lenOf, AV.look]
      by_cases h1 : xs.length = ss.length
      · simp [b_is_position, x_pass, x_seq, x_ret, x_ifs, sqk_rt, sqk_nx, ifk_t, ifk_f, ev, ↓hcomp, bnd_ok, isTy, AV.look, AV.isTy, RV.bool?, RV.av, RV.list, opCmp, eq_ints, biCall, hl, all_map, h1, hpsn]
      · have h1' : ((xs.length : Int) == ss.length) = false := by simp; omega
        simp [b_is_position, x_pass, x_seq, x_ret, x_ifs, sqk_rt, sqk_nx, ifk_t, ifk_f, ev, ↓hcomp, bnd_ok, isTy, AV.look, AV.isTy, RV.bool?, RV.av, RV.list, opCmp, eq_ints, biCall, hl, all_map, h1, h1', hpsn]
    | ref _ => cases h
    | gl _ => cases h
    | scr _ => cases h
    | _ => simp [b_is_position, x_pass, x_seq, x_ret, x_ifs, sqk_rt, sqk_nx, ifk_t, ifk_f, ev, bnd_ok, isTy, AV.look, AV.isTy, RV.bool?, RV.av, psn]
  show retF false S (exS ⟨callN tab (n + 1)⟩ b_is_position (List.map some [a, .tup ss] ++ List.replicate 2 none) S) = _
  rw [e]
  exact retF_v (by simp [AV.rb]) rfl
theorem shp_ints {ss : List AV} (h : shp (.tup ss) = true) : ∀ y ∈ ss, ∃ l, y = .int l := fun y hy => by
  have h' : (decide (1 ≤ ss.length) && decide (ss.length ≤ 3) && ss.all fun x => btw x 1 6) = true := h
  rw [Bool.and_eq_true] at h'
  have := List.all_eq_true.mp h'.2 y hy
  unfold btw at this
  split at this
  · exact ⟨_, rfl⟩
  · cases this
theorem shp_tup {a : AV} (h : shp a = true) : ∃ ss, a = .tup ss := by
  cases a <;> first | exact ⟨_, rfl⟩ | cases h
def vf (x : AV) : Bool := btw x (-1000000) 1000000 && match x with
  | .int i => !(i == 0)
  | _ => false
def tbl : AV → Bool
  | .tup [s, .dct kvs] => shp s && (match s with
    | .tup ss => (kvs.map (·.1)).all (fun k => psn k ss) && (kvs.map (·.2)).all vf
    | _ => false)
  | _ => false
def okT : AV → Bool
  | .tup [s, .dct kvs] => okS s && kvs.all fun p => okS p.1 && p.2.vis
  | .tup [s, d] => okS s && d.vis
  | a => a.vis
theorem is_table_ok (n : Nat) (a : AV) (S : Store) (h : okT a = true) : callN tab (n + 3) 3 [a] S = .ok (.v (.bl (tbl a))) S := by
  rw [call_eq (fd := ⟨1, 2, b_is_table, false⟩) rfl rfl]
  have at0 : ∀ x y : AV, L2.atI [x, y] 0 = some x := fun _ _ => rfl
  have at1 : ∀ x y : AV, L2.atI [x, y] 1 = some y := fun _ _ => rfl
  have e : exS ⟨callN tab (n + 2)⟩ b_is_table (List.map some [a] ++ List.replicate 1 none) S = .ok (.rt (.v (.bl (tbl a)))) S := by
    have hl : ∀ xs S, biLen S [.tup xs] = .ok (.v (.int xs.length)) S := fun xs S => by simp [biLen, lenOf, AV.look]
    by_cases ht : ∃ s d, a = .tup [s, d]
    · obtain ⟨s, d, rfl⟩ := ht
      have hs : okS s = true ∧ d.vis = true := by
        cases d <;> first | (simpa [okT, AV.vis] using h) | (simp [okT, AV.vis] at h ⊢; first | exact h.1 | exact h)
      by_cases h1 : shp s = true
      · obtain ⟨ss, rfl⟩ := shp_tup h1
        by_cases hd : ∃ kvs, d = .dct kvs
        · obtain ⟨kvs, rfl⟩ := hd
          have hk : ∀ p ∈ kvs, okS p.1 = true ∧ p.2.vis = true := fun p hp => by
            have : (okS (.tup ss) && kvs.all fun p => okS p.1 && p.2.vis) = true := h
            rw [Bool.and_eq_true] at this
            have := List.all_eq_true.mp this.2 p hp
            rwa [Bool.and_eq_true] at this
          obtain ⟨ks, hks⟩ : ∃ ks, ks = kvs.map (·.1) := ⟨_, rfl⟩
          obtain ⟨vs, hvs⟩ : ∃ vs, vs = kvs.map (·.2) := ⟨_, rfl⟩
          have htbl : tbl (.tup [.tup ss, .dct kvs]) = (shp (.tup ss) && (ks.all (fun k => psn k ss) && vs.all vf)) := by rw [hks, hvs]; rfl
          have hc1 : ∀ S, ev ⟨callN tab (n + 2)⟩ (.comp [1] (.var 1) (.sub (.var 0) (.cst (.int 1))) (.cst (.bl true)) (.call 2 (.cons (.var 1) (.cons (.sub (.var 0) (.cst (.int 0))) .nil)))) [some (.tup [.tup ss, .dct kvs]), none] S = .ok (.l (ks.map fun x => AV.bl (psn x ss))) S := by
            intro S
            refine comp_map (w := none) (xs := ks) (fun x => AV.bl (psn x ss)) (r := .v (.dct kvs)) (by simp [ev, bnd_ok, RV.av, subOp, AV.look, at1]) (by rw [hks]; rfl) trivial fun x hx acc => compF_one (y := .v (.bl (psn x ss))) (fun ρ S => rfl) ?_
            rw [hks] at hx
            obtain ⟨p, hp, rfl⟩ := List.mem_map.mp hx
            simp [ev, bnd_ok, setE, wipeE, RV.av, RV.list, subOp, AV.look, at0, is_position_ok n p.1 ss S (shp_ints h1) (hk p hp).1]
          have hc2 : ∀ S, ev ⟨callN tab (n + 2)⟩ (.comp [1] (.var 1) (.vals (.sub (.var 0) (.cst (.int 1)))) (.cst (.bl true)) (.and (.call 0 (.cons (.var 1) (.cons (.bin .sub (.cst (.int 0)) (.cst (.int 1000000))) (.cons (.cst (.int 1000000)) .nil)))) (.cmp .ne (.var 1) (.cst (.int 0))))) [some (.tup [.tup ss, .dct kvs]), none] S = .ok (.l (vs.map fun x => AV.bl (vf x))) S := by
            intro S
            refine comp_map (w := none) (xs := vs) (fun x => AV.bl (vf x)) (r := .l vs) (by simp [ev, bnd_ok, RV.av, subOp, AV.look, at1, valsOp, hvs]) rfl trivial fun x hx acc => compF_one (y := .v (.bl (vf x))) (fun ρ S => rfl) ?_
            rw [hvs] at hx
            obtain ⟨p, hp, rfl⟩ := List.mem_map.mp hx
            have hb := fun S => is_between_ok (n + 1) p.2 (-1000000) 1000000 S (hk p hp).2
            cases hbt : btw p.2 (-1000000) 1000000 with
            | false => simp [ev, bnd_ok, setE, wipeE, RV.av, RV.list, opBin, opSub, hb, hbt, RV.bool?, vf]
            | true =>
              have : ∃ i, p.2 = .int i := by
                unfold btw at hbt
                split at hbt
                · exact ⟨_, by assumption⟩
                · cases hbt
              obtain ⟨i, hi⟩ := this
              rw [hi] at hb hbt ⊢
              simp [ev, bnd_ok, setE, wipeE, RV.av, RV.list, opBin, opSub, hb, hbt, RV.bool?, vf, opCmp, eq_ints]
          have hsh := fun S => is_shape_ok n (.tup ss) S hs.1
          cases hps : ks.all (fun k => psn k ss) with
          | true => simp [b_is_table, x_pass, x_seq, x_ret, x_ifs, sqk_rt, sqk_nx, ifk_t, ifk_f, ev, ↓hc1, ↓hc2, bnd_ok, isTy, AV.look, AV.isTy, RV.bool?, RV.av, RV.list, opCmp, eq_ints, biCall, hl, all_map, subOp, at0, at1, hsh, h1, hps, htbl]
          | false => simp [b_is_table, x_pass, x_seq, x_ret, x_ifs, sqk_rt, sqk_nx, ifk_t, ifk_f, ev, ↓hc1, ↓hc2, bnd_ok, isTy, AV.look, AV.isTy, RV.bool?, RV.av, RV.list, opCmp, eq_ints, biCall, hl, all_map, subOp, at0, at1, hsh, h1, hps, htbl]
        · have htb : tbl (.tup [.tup ss, d]) = false := by
            cases d <;> first | rfl | exact absurd ⟨_, rfl⟩ hd
          have hty : ∀ S, isTy S d .dict = some false := fun S => by
            unfold isTy
            rw [vis_look hs.2]
            cases d <;> first | rfl | exact absurd ⟨_, rfl⟩ hd | cases hs.2
          have hsh := fun S => is_shape_ok n (.tup ss) S hs.1
          rw [htb]
          simp [b_is_table, x_pass, x_seq, x_ret, x_ifs, sqk_rt, sqk_nx, ifk_t, ifk_f, ev, bnd_ok, hty, isTy_tup, RV.bool?, RV.av, RV.list, opCmp, eq_ints, biCall, hl, subOp, AV.look, at0, at1, hsh, h1]
      · have h1' : shp s = false := by simpa using h1
        have hsh := fun S => is_shape_ok n s S hs.1
        have htb : tbl (.tup [s, d]) = false := by
          cases d <;> first | rfl | (show (shp s && _) = false; rw [h1']; rfl)
        rw [htb]
        simp [b_is_table, x_pass, x_seq, x_ret, x_ifs, sqk_rt, sqk_nx, ifk_t, ifk_f, ev, bnd_ok, isTy_tup, RV.bool?, RV.av, RV.list, opCmp, eq_ints, biCall, hl, subOp, AV.look, at0, at1, hsh, h1']
    · have htb : tbl a = false := by
        unfold tbl
        split
        · exact absurd ⟨_, _, rfl⟩ ht
        · rfl
      rw [htb]
      cases a with
      | tup xs =>
        have hx : ¬ xs.length = 2 := fun z => by
          match xs, z with
          | [x, y], _ => exact ht ⟨_, _, rfl⟩
        have hx' : ((xs.length : Int) == 2) = false := by simp; omega
        simp [b_is_table, x_pass, x_seq, x_ret, x_ifs, sqk_rt, sqk_nx, ifk_t, ifk_f, ev, bnd_ok, isTy_tup, RV.bool?, RV.av, RV.list, opCmp, eq_ints, biCall, hl, hx']
      | ref _ => cases h
      | gl _ => cases h
      | scr _ => cases h
      | _ => simp [b_is_table, x_pass, x_seq, x_ret, x_ifs, sqk_rt, sqk_nx, ifk_t, ifk_f, ev, bnd_ok, isTy, AV.look, AV.isTy, RV.bool?, RV.av]
  show retF false S (exS ⟨callN tab (n + 2)⟩ b_is_table (List.map some [a] ++ List.replicate 1 none) S) = _
  rw [e]
  exact retF_v (by simp [AV.rb]) rfl
theorem need_table_ok (n : Nat) (a : AV) (S : Store) (h : okT a = true) (ht : tbl a = true) : callN tab (n + 4) 4 [a] S = .ok (.v .non) S := by
  rw [call_eq (fd := ⟨1, 1, b_need_table, false⟩) rfl rfl]
  have e : exS ⟨callN tab (n + 3)⟩ b_need_table (List.map some [a] ++ List.replicate 0 none) S = .ok (.nx [some a]) S := by
    have q := fun S => is_table_ok n a S h
    simp [b_need_table, x_pass, x_seq, x_ret, x_ifs, sqk_rt, sqk_nx, ifk_t, ifk_f, ev, bnd_ok, RV.bool?, RV.av, RV.list, q, ht]
  show retF false S (exS ⟨callN tab (n + 3)⟩ b_need_table (List.map some [a] ++ List.replicate 0 none) S) = _
  rw [e]
  exact retF_n rfl
theorem cell_ok (n : Nat) (ss : List AV) (kvs : List (AV × AV)) (k : AV) (S : Store) (h : okT (.tup [.tup ss, .dct kvs]) = true) (ht : tbl (.tup [.tup ss, .dct kvs]) = true) (hk : okS k = true) (hp : psn k ss = true) (hd : keyOk kvs k = true) (hv : ∀ p ∈ kvs, p.2.rb 0 = true) :
    callN tab (n + 5) 5 [.tup [.tup ss, .dct kvs], k] S = .ok (.v ((dget kvs k).getD (.int 0))) S := by
  rw [call_eq (fd := ⟨2, 2, b_cell, false⟩) rfl rfl]
  have at0 : ∀ x y : AV, L2.atI [x, y] 0 = some x := fun _ _ => rfl
  have at1 : ∀ x y : AV, L2.atI [x, y] 1 = some y := fun _ _ => rfl
  have hs : shp (.tup ss) = true := by
    have : (shp (.tup ss) && _) = true := ht
    rw [Bool.and_eq_true] at this
    exact this.1
  have e : exS ⟨callN tab (n + 4)⟩ b_cell (List.map some [.tup [.tup ss, .dct kvs], k] ++ List.replicate 0 none) S = .ok (.rt (.v ((dget kvs k).getD (.int 0)))) S := by
    have q := fun S => need_table_ok n _ S h ht
    have q2 := fun S => is_position_ok (n + 2) k ss S (shp_ints hs) hk
    have q3 : ∀ S, miGet2 (.dct kvs) [k, .int 0] S = .ok (.v ((dget kvs k).getD (.int 0))) S := fun S => by
      unfold miGet2
      show (if keyOk kvs k = true then _ else _) = _
      rw [if_pos hd]
    have q4 : ∀ S, kindOf S (.dct kvs) = some .dict := fun S => rfl
    simp [b_cell, x_pass, x_seq, x_ret, x_ifs, x_exp, sqk_rt, sqk_nx, ifk_t, ifk_f, ev, bnd_ok, RV.bool?, RV.av, RV.list, q, q2, hp, subOp, AV.look, at0, at1, q4, miHas, miCall, q3]
  show retF false S (exS ⟨callN tab (n + 4)⟩ b_cell (List.map some [.tup [.tup ss, .dct kvs], k] ++ List.replicate 0 none) S) = _
  rw [e]
  refine retF_v ?_ rfl
  cases e2 : dget kvs k with
  | none => rfl
  | some v =>
    obtain ⟨p, hp, rfl⟩ := Option.map_eq_some_iff.mp e2
    exact hv p (List.mem_of_find?_eq_some hp)
end K1
end DL

set_option Elab.async false
set_option linter.all false
set_option maxRecDepth 100000
set_option maxHeartbeats 2000000
namespace DL
open PySem
theorem loop_flat {f : AV → List AV → Store → Res (List AV)} {h : AV → List AV} {w : Option (Nat × AO)} {S : Store} (hw : stays w S) (B : Nat) : ∀ {xs : List AV}, (∀ x ∈ xs, ∀ acc, acc.length + (h x).length ≤ B → f x acc S = .ok (acc ++ h x) S) → ∀ acc, acc.length + ((xs.map h).flatten).length ≤ B → loopA f w xs acc S = .ok (acc ++ (xs.map h).flatten) S
  | [], _, acc, _ => by simp [loopA]
  | x :: xs, hh, acc, hB => by
    have e : ((x :: xs).map h).flatten = h x ++ (xs.map h).flatten := rfl
    rw [e, List.length_append] at hB
    unfold loopA
    rw [hh x List.mem_cons_self acc (by omega)]
    dsimp only
    rw [if_pos hw, loop_flat hw B (fun y hy => hh y (List.mem_cons_of_mem _ hy)) (acc ++ h x) (by rw [List.length_append]; omega), e]
    simp
theorem comp2_map {cl : Orc} {own own1 : List Nat} {i j : Nat} {it it1 c e : Ex} {ρ : Env} {S : Store} {r : RV} {xs : List AV} {w : Option (Nat × AO)} (g : AV → AV → AV) (ys : List AV) (hi : ev cl it ρ S = .ok r S) (hx : itemsOf S r.av = some (xs, w)) (hw : stays w S)
    (hin : ∀ x ∈ xs, ∃ r1, ev cl it1 (setE (wipeE ρ own) i x) S = .ok r1 S ∧ itemsOf S r1.av = some (ys, none)) (hc : ∀ ρ S, ev cl c ρ S = .ok (.v (.bl true)) S)
    (he : ∀ x ∈ xs, ∀ y ∈ ys, ∃ z : RV, ev cl e (setE (wipeE (setE (wipeE ρ own) i x) own1) j y) S = .ok z S ∧ z.av = g x y) (hz : ((xs.map fun x => ys.map (g x)).flatten).length < line) :
    ev cl (.comp2 own own1 (.var i) it (.var j) it1 c e) ρ S = .ok (.l (xs.map fun x => ys.map (g x)).flatten) S := by
  show compM2 own own1 (.var i) (ev cl it) (.var j) (ev cl it1) (ev cl c) (ev cl e) ρ S = _
  unfold compM2
  rw [hi, bnd_ok, hx]
  dsimp only
  rw [loop_flat (h := fun x => ys.map (g x)) hw (line - 1) (fun x hxm acc hB => ?_) [] (by simp only [List.length_nil]; omega)]
  · rw [bnd_ok, List.nil_append, if_pos (by omega)]
  · obtain ⟨r1, e1, e2⟩ := hin x hxm
    unfold compF2 bindT
    dsimp only
    rw [e1, bnd_ok, e2]
    dsimp only
    have fl : (ys.map fun y => [g x y]).flatten = ys.map (g x) := by
      clear he hB e1 e2 hin hz
      induction ys with
      | nil => rfl
      | cons y ys ih => rw [List.map_cons, List.map_cons, List.flatten_cons, ih]; rfl
    have := loop_flat (f := compF1 own1 (.var j) (ev cl c) (ev cl e) (setE (wipeE ρ own) i x)) (h := fun y => [g x y]) (w := none) (S := S) trivial (line - 1) (xs := ys) (fun y hy acc hB => ?_) acc (by rw [fl]; exact hB)
    · rw [fl] at this
      exact this
    · obtain ⟨z, e3, e4⟩ := he x hxm y hy
      unfold compF1 bindT
      dsimp only
      rw [hc, bnd_ok]
      dsimp only [RV.bool?]
      rw [e3, bnd_ok, e4]
      rw [if_pos (by rw [List.length_singleton] at hB; omega)]
namespace K1
def rng (l : Int) : List AV := (List.range l.toNat).map fun (i : Nat) => AV.int i
def stepR (rs : List (List AV)) (l : Int) : List (List AV) := (rs.map fun r => (rng l).map fun y => r ++ [y]).flatten
def rowsF (ls : List Int) : List (List AV) := ls.foldl stepR [[]]
theorem stepR_len (rs : List (List AV)) (l : Int) : (stepR rs l).length = rs.length * l.toNat := by
  unfold stepR
  induction rs with
  | nil => simp
  | cons r rs ih =>
    rw [List.map_cons, List.flatten_cons, List.length_append, ih]
    simp [rng]
    rw [Nat.succ_mul]
    omega
theorem stepR_mem {rs : List (List AV)} {l : Int} {r : List AV} (h : r ∈ stepR rs l) : ∃ r0 ∈ rs, ∃ i : Nat, (i : Int) < l ∧ r = r0 ++ [.int i] := by
  unfold stepR at h
  obtain ⟨L, hL, hr⟩ := List.mem_flatten.mp h
  obtain ⟨r0, h0, rfl⟩ := List.mem_map.mp hL
  obtain ⟨y, hy, rfl⟩ := List.mem_map.mp hr
  obtain ⟨i, hi, rfl⟩ := List.mem_map.mp hy
  exact ⟨r0, h0, i, by have := List.mem_range.mp hi; omega, rfl⟩
/-- small enough -/
structure Sm' (rs : List (List AV)) (ls : List Int) : Prop where
  n : rs.length * 6 ^ ls.length ≤ 1000
  r : ∀ r ∈ rs, r.length + ls.length ≤ 100
  l : ∀ l ∈ ls, 0 ≤ l ∧ l ≤ 6
theorem Sm'.step {rs : List (List AV)} {l : Int} {ls : List Int} (h : Sm' rs (l :: ls)) : Sm' (stepR rs l) ls := by
  have hl := h.l l List.mem_cons_self
  refine ⟨?_, fun r hr => ?_, fun x hx => h.l x (List.mem_cons_of_mem _ hx)⟩
  · rw [stepR_len]
    have := h.n
    rw [List.length_cons, Nat.pow_succ] at this
    have h6 : l.toNat ≤ 6 := by omega
    calc rs.length * l.toNat * 6 ^ ls.length ≤ rs.length * 6 * 6 ^ ls.length := Nat.mul_le_mul_right _ (Nat.mul_le_mul_left _ h6)
      _ = rs.length * (6 ^ ls.length * 6) := by rw [Nat.mul_assoc, Nat.mul_comm 6]
      _ ≤ 1000 := this
  · obtain ⟨r0, h0, i, _, rfl⟩ := stepR_mem hr
    have := h.r r0 h0
    rw [List.length_append, List.length_singleton]
    rw [List.length_cons] at this
    omega
theorem Sm'.bd {rs : List (List AV)} {ls : List Int} (h : Sm' rs ls) : rs.length ≤ 1000 := Nat.le_trans (Nat.le_mul_of_pos_right _ (Nat.pow_pos (by decide))) h.n
theorem line_big : 2000 < line := by decide
theorem itemsOf_rng (l : Int) (h : 0 ≤ l ∧ l ≤ 6) (S : Store) : rngOp (.int l) S = .ok (.l (rng l)) S := if_pos ⟨by omega, by omega⟩
theorem pos_loop (n : Nat) (L : AV) (S : Store) : ∀ (ls : List Int) (rs : List (List AV)) (x2 : Option AV), Sm' rs ls → ∃ y2, loopF (forF (.var 2) (exS ⟨callN tab n⟩ (.seq (.asg (.var 1) (.comp2 [3, 4] [4] (.var 3) (.var 1) (.var 4) (.rng (.var 2)) (.cst (.bl true)) (.bin .add (.var 3) (.tup (.cons (.var 4) .nil))))) .pass))) none (ls.map .int) [some L, some (.lst (rs.map .tup)), x2, none, none] S = .ok (.nx [some L, some (.lst ((ls.foldl stepR rs).map .tup)), y2, none, none]) S
  | [], rs, x2, _ => ⟨x2, rfl⟩
  | l :: ls, rs, x2, h => by
    have hl := h.l l List.mem_cons_self
    have hcomp : ev ⟨callN tab n⟩ (.comp2 [3, 4] [4] (.var 3) (.var 1) (.var 4) (.rng (.var 2)) (.cst (.bl true)) (.bin .add (.var 3) (.tup (.cons (.var 4) .nil)))) [some L, some (.lst (rs.map .tup)), some (.int l), none, none] S = .ok (.l ((stepR rs l).map .tup)) S := by
      have e0 : (((rs.map AV.tup).map fun x => (rng l).map fun y => match x with
          | .tup r => AV.tup (r ++ [y])
          | _ => .non).flatten) = (stepR rs l).map .tup := by
        unfold stepR
        clear h
        induction rs with
        | nil => rfl
        | cons r rs ih =>
          rw [List.map_cons, List.map_cons, List.flatten_cons, ih, List.map_cons, List.flatten_cons, List.map_append, List.map_map]
          rfl
      rw [← e0]
      refine comp2_map (r := .v (.lst (rs.map .tup))) (xs := rs.map .tup) (w := none) (fun x y => match x with
          | .tup r => AV.tup (r ++ [y])
          | _ => .non) (rng l) (by simp [ev]) rfl trivial (fun x hx => ⟨.l (rng l), by simp [ev, bnd_ok, setE, wipeE, RV.av, itemsOf_rng l hl], rfl⟩) (fun ρ S => rfl) (fun x hx y hy => ?_) ?_
      · obtain ⟨r, hr, rfl⟩ := List.mem_map.mp hx
        have hr' := h.r r hr
        refine ⟨.v (.tup (r ++ [y])), ?_, rfl⟩
        have hlen : r.length + 1 ≤ line := by have := line_big; omega
        simp [ev, bnd_ok, setE, wipeE, RV.av, RV.list, opBin, opAdd, hlen]
      · rw [e0, List.length_map]
        have := h.step.bd
        have := line_big
        omega
    obtain ⟨y2, hy⟩ := pos_loop n L S ls (stepR rs l) (some (.int l)) h.step
    refine ⟨y2, ?_⟩
    have e1 : forF (.var 2) (exS ⟨callN tab n⟩ (.seq (.asg (.var 1) (.comp2 [3, 4] [4] (.var 3) (.var 1) (.var 4) (.rng (.var 2)) (.cst (.bl true)) (.bin .add (.var 3) (.tup (.cons (.var 4) .nil))))) .pass)) (.int l) [some L, some (.lst (rs.map .tup)), x2, none, none] S = .ok (.nx [some L, some (.lst ((stepR rs l).map .tup)), some (.int l), none, none]) S := by
      show exS _ _ [some L, some (.lst (rs.map .tup)), some (.int l), none, none] S = _
      rw [x_seq, x_asg, hcomp]
      rfl
    rw [List.map_cons]
    unfold loopF
    rw [e1]
    exact (if_pos trivial).trans hy
theorem rb_rows {k : Nat} : ∀ {rs : List (List AV)}, (∀ r ∈ rs, AV.rbs k r = true) → AV.rbs k (rs.map .tup) = true
  | [], _ => rfl
  | r :: rs, h => by
    have q := rb_rows fun x hx => h x (List.mem_cons_of_mem _ hx)
    have q2 := h r List.mem_cons_self
    simp [AV.rbs, AV.rb, q, q2]
theorem rbs_append {k : Nat} : ∀ {xs ys : List AV}, AV.rbs k xs = true → AV.rbs k ys = true → AV.rbs k (xs ++ ys) = true
  | [], _, _, h => h
  | x :: xs, ys, h, h2 => by
    have h' : x.rb k = true ∧ AV.rbs k xs = true := by simpa [AV.rbs] using h
    simp [AV.rbs, h'.1, rbs_append h'.2 h2]
theorem rows_rb : ∀ (ls : List Int) (rs : List (List AV)), (∀ r ∈ rs, AV.rbs 0 r = true) → ∀ r ∈ ls.foldl stepR rs, AV.rbs 0 r = true
  | [], _, h => h
  | l :: ls, rs, h => rows_rb ls (stepR rs l) fun r hr => by
    obtain ⟨r0, h0, i, _, rfl⟩ := stepR_mem hr
    exact rbs_append (h r0 h0) rfl
theorem all_positions_ok (n : Nat) (ls : List Int) (S : Store) (h : Sm' [[]] ls) : callN tab (n + 1) 6 [.tup (ls.map .int)] S = .ok (.v (.lst ((rowsF ls).map .tup))) S := by
  rw [call_eq (fd := ⟨1, 5, b_all_positions, false⟩) rfl rfl]
  obtain ⟨y2, hy⟩ := pos_loop n (.tup (ls.map .int)) S ls [[]] none h
  have e : exS ⟨callN tab n⟩ b_all_positions (List.map some [.tup (ls.map .int)] ++ List.replicate 4 none) S = .ok (.rt (.v (.lst ((rowsF ls).map .tup)))) S := by
    have e1 : exS ⟨callN tab n⟩ (.asg (.var 1) (.lst (.cons (.tup .nil) .nil))) [some (.tup (ls.map .int)), none, none, none, none] S = .ok (.nx [some (.tup (ls.map .int)), some (.lst [.tup []]), none, none, none]) S := rfl
    show exS ⟨callN tab n⟩ b_all_positions [some (.tup (ls.map .int)), none, none, none, none] S = _
    unfold b_all_positions
    rw [x_seq, e1, sqk_nx, x_seq, x_for]
    unfold forM
    show sqk (loopF _ none (ls.map .int) _ S) _ = _
    rw [show (AV.lst [.tup []]) = .lst (([[]] : List (List AV)).map .tup) from rfl, hy, sqk_nx, x_seq]
    rfl
  show retF false S (exS ⟨callN tab n⟩ b_all_positions (List.map some [.tup (ls.map .int)] ++ List.replicate 4 none) S) = _
  rw [e]
  refine retF_v ?_ rfl
  have : AV.rbs 0 ((rowsF ls).map .tup) = true := rb_rows (rows_rb ls [[]] fun r hr => by rw [List.mem_singleton] at hr; rw [hr]; rfl)
  simpa [AV.rb] using this
theorem ints_okS (ls : List Int) : okS (.tup (ls.map .int)) = true := List.all_eq_true.mpr fun x hx => by
  obtain ⟨l, _, rfl⟩ := List.mem_map.mp hx
  rfl
theorem positions_ok (n : Nat) (ls : List Int) (S : Store) (h : Sm' [[]] ls) (hs : shp (.tup (ls.map .int)) = true) : callN tab (n + 3) 7 [.tup (ls.map .int)] S = .ok (.v (.lst ((rowsF ls).map .tup))) S := by
  have q := fun S => all_positions_ok (n + 1) ls S h
  have q2 := fun S => is_shape_ok n _ S (ints_okS ls)
  rw [call_eq (fd := ⟨1, 1, b_positions, false⟩) rfl rfl]
  have e : exS ⟨callN tab (n + 2)⟩ b_positions (List.map some [.tup (ls.map .int)] ++ List.replicate 0 none) S = .ok (.rt (.v (.lst ((rowsF ls).map .tup)))) S := by
    simp [b_positions, x_pass, x_seq, x_ret, x_ifs, sqk_rt, sqk_nx, ifk_t, ifk_f, ev, bnd_ok, RV.bool?, RV.av, RV.list, q, q2, hs]
  show retF false S (exS ⟨callN tab (n + 2)⟩ b_positions (List.map some [.tup (ls.map .int)] ++ List.replicate 0 none) S) = _
  rw [e]
  refine retF_v ?_ rfl
  have : AV.rbs 0 ((rowsF ls).map .tup) = true := rb_rows (rows_rb ls [[]] fun r hr => by rw [List.mem_singleton] at hr; rw [hr]; rfl)
  simpa [AV.rb] using this
/-! ### draws -/
theorem pick_ok (n : Nat) (ns : List Int) (t : Nat) (S : Store) (a c : Int) (some' : AV) (xs : List AV) (h : S[t]? = some (.lst [.int a, .int c])) (h0 : 0 ≤ a) (h1 : 0 ≤ c) (hs : some' = .lst xs) (hx : 0 < xs.length) (hx2 : xs.length < 1000) (hv : ∀ x ∈ xs, x.rb 0 = true) :
    ∃ x a' c', x ∈ xs ∧ 0 ≤ a' ∧ 0 ≤ c' ∧ callN tab (n + 2) 9 [.scr (ns.map .int), .ref t, some'] S = .ok (.v x) (S.set t (.lst [.int a', .int c'])) := by
  subst hs
  obtain ⟨d, a', c', d0, d1, a0, c0, e1⟩ := draw_ok n ns t S a c xs.length h h0 h1 (by omega) (by omega)
  obtain ⟨j, rfl⟩ := Int.eq_ofNat_of_zero_le d0
  have hj : j < xs.length := by omega
  refine ⟨xs[j], a', c', List.getElem_mem hj, a0, c0, ?_⟩
  rw [call_eq (fd := ⟨3, 3, b__law_pick, false⟩) rfl rfl]
  have hl : ∀ S, biLen S [.lst xs] = .ok (.v (.int xs.length)) S := fun S => by simp [biLen, lenOf, AV.look]
  have hsub : ∀ S, subOp (.lst xs) (.int (Int.ofNat j)) S = some xs[j] := fun S => L2.atI_nat (j := j) (List.getElem?_eq_getElem hj)
  have e : exS ⟨callN tab (n + 1)⟩ b__law_pick (List.map some [.scr (ns.map .int), .ref t, .lst xs] ++ List.replicate 0 none) S = .ok (.rt (.v xs[j])) (S.set t (.lst [.int a', .int c'])) := by
    have hsub' : ∀ S, subOp (.lst xs) (.int j) S = some xs[j] := hsub
    have e1' : callN tab (n + 1) 8 [.scr (ns.map .int), .ref t, .int xs.length] S = .ok (.v (.int j)) (S.set t (.lst [.int a', .int c'])) := e1
    simp [b__law_pick, x_pass, x_seq, x_ret, sqk_rt, ev, bnd_ok, RV.av, RV.list, biCall, hl, e1', hsub']
  show retF false S (exS ⟨callN tab (n + 1)⟩ b__law_pick (List.map some [.scr (ns.map .int), .ref t, .lst xs] ++ List.replicate 0 none) S) = _
  rw [e]
  exact retF_v (hv _ (List.getElem_mem hj)) (by rw [List.length_set])
end K1
end DL

set_option Elab.async false
set_option linter.all false
set_option maxRecDepth 100000
set_option maxHeartbeats 800000
namespace DL
open PySem
inductive Z2 (T : AV → AV → Prop) : List AV → List AV → Prop
  | nil : Z2 T [] []
  | cons {x y : AV} {xs ys : List AV} : T x y → Z2 T xs ys → Z2 T (x :: xs) (y :: ys)
/-- the town's two numbers -/
abbrev tw (a c : Int) : AO := .lst [.int a, .int c]
theorem loop_draw {f : AV → List AV → Store → Res (List AV)} {S : Store} {t : Nat} {T : AV → AV → Prop} : ∀ {xs : List AV}, (∀ x ∈ xs, ∀ acc a c, 0 ≤ a → 0 ≤ c → ∃ y a' c', T x y ∧ 0 ≤ a' ∧ 0 ≤ c' ∧ f x acc (S.set t (tw a c)) = .ok (acc ++ [y]) (S.set t (tw a' c'))) → ∀ acc a c, 0 ≤ a → 0 ≤ c → ∃ ys a' c', Z2 T xs ys ∧ 0 ≤ a' ∧ 0 ≤ c' ∧ loopA f none xs acc (S.set t (tw a c)) = .ok (acc ++ ys) (S.set t (tw a' c'))
  | [], _, acc, a, c, h0, h1 => ⟨[], a, c, .nil, h0, h1, by simp [loopA]⟩
  | x :: xs, h, acc, a, c, h0, h1 => by
    obtain ⟨y, a1, c1, t1, q0, q1, e1⟩ := h x List.mem_cons_self acc a c h0 h1
    obtain ⟨ys, a2, c2, t2, p0, p1, e2⟩ := loop_draw (fun z hz => h z (List.mem_cons_of_mem _ hz)) (acc ++ [y]) a1 c1 q0 q1
    refine ⟨y :: ys, a2, c2, .cons t1 t2, p0, p1, ?_⟩
    unfold loopA
    rw [e1]
    dsimp only
    rw [if_pos (show stays none (S.set t (tw a1 c1)) from trivial), e2]
    simp
theorem compF_draw {own : List Nat} {i : Nat} {mc me : Env → Store → Res RV} {ρ : Env} {x : AV} {acc : List AV} {S S' : Store} {y : RV} (hc : ∀ ρ S, mc ρ S = .ok (.v (.bl true)) S) (he : me (setE (wipeE ρ own) i x) S = .ok y S') : compF own (.var i) mc me ρ x acc S = .ok (acc ++ [y.av]) S' := by
  unfold compF bindT
  dsimp only
  rw [hc, bnd_ok]
  dsimp only [RV.bool?]
  rw [he, bnd_ok]
theorem ev_bi1 {cl : Orc} {f : BI} {x : Ex} {ρ : Env} {S S' : Store} {r : RV} (h : ev cl x ρ S = .ok r S') : ev cl (.bi f (.cons x .nil)) ρ S = biCall f [r.av] S' := by
  show ((ev cl x ρ S).bnd _).bnd _ = _
  rw [h]
  rfl
theorem cutS_more {S S' : Store} {o : AO} {os : List AO} (hl : S'.length = S.length) (h : ∀ l, l < S.length → S'[l]? = S[l]? ∨ ∃ o, S'[l]? = some o ∧ o.rb S.length = true) : cutS S (S' ++ o :: os) = some S' := by
  unfold cutS
  rw [if_neg (by rw [List.length_append, List.length_cons]; omega), if_pos (fun l hl' => ?_), ← hl, List.take_left]
  rw [List.getElem?_append_left (by omega)]
  exact h l hl'
theorem retF_new {S : Store} {xs : List AV} (h : AV.rbs 0 xs = true) : retF false S (.ok (.rt (.v (.ref S.length))) (S ++ [.lst xs])) = .ok (.l xs) S := by
  have e : retR S.length (S ++ [.lst xs]) (.v (.ref S.length)) = some (.l xs) := by
    show retV S.length (S ++ [.lst xs]) (.ref S.length) = _
    unfold retV
    dsimp only
    rw [if_neg (Nat.lt_irrefl _), show (S ++ [AO.lst xs])[S.length]? = some (.lst xs) by simp]
    dsimp only
    rw [mapRefs_id _ _ h]
    rfl
  show retire S _ _ = _
  unfold retire
  rw [e, cutS_more rfl fun l _ => .inl rfl]
theorem call_v {P : Nat → Option FD} {n k : Nat} {args : List AV} {S S' : Store} {fd : FD} {a : AV} (hP : P k = some fd) (hl : args.length = fd.np) (hk : fd.keep = false) (e : exS ⟨callN P n⟩ fd.body (args.map some ++ List.replicate (fd.nn - fd.np) none) S = .ok (.rt (.v a)) S') (h : a.rb 0 = true) (hS : S'.length = S.length) : callN P (n + 1) k args S = .ok (.v a) S' := by
  rw [call_eq hP hl, e, hk]
  exact retF_v h hS
theorem rbs_ints : ∀ ls : List Int, AV.rbs 0 (ls.map .int) = true
  | [] => rfl
  | l :: ls => by simp [AV.rbs, AV.rb, rbs_ints ls]
namespace K1
theorem draw_at (n : Nat) (ns : List Int) (t : Nat) (S : Store) (a c m : Int) (ht : t < S.length) (h0 : 0 ≤ a) (h1 : 0 ≤ c) (hm : 0 < m) (hm2 : m < 1000000) :
    ∃ d a' c' : Int, 0 ≤ d ∧ d < m ∧ 0 ≤ a' ∧ 0 ≤ c' ∧ callN tab (n + 1) 8 [.scr (ns.map .int), .ref t, .int m] (S.set t (tw a c)) = .ok (.v (.int d)) (S.set t (tw a' c')) := by
  obtain ⟨d, a', c', d0, d1, a0, c0, e⟩ := draw_ok n ns t (S.set t (tw a c)) a c m (List.getElem?_set_self ht) h0 h1 hm hm2
  rw [List.set_set] at e
  exact ⟨d, a', c', d0, d1, a0, c0, e⟩
theorem pick_at (n : Nat) (ns : List Int) (t : Nat) (S : Store) (a c : Int) (xs : List AV) (ht : t < S.length) (h0 : 0 ≤ a) (h1 : 0 ≤ c) (hx : 0 < xs.length) (hx2 : xs.length < 1000) (hv : ∀ x ∈ xs, x.rb 0 = true) :
    ∃ x a' c', x ∈ xs ∧ 0 ≤ a' ∧ 0 ≤ c' ∧ callN tab (n + 2) 9 [.scr (ns.map .int), .ref t, .lst xs] (S.set t (tw a c)) = .ok (.v x) (S.set t (tw a' c')) := by
  obtain ⟨x, a', c', hxm, a0, c0, e⟩ := pick_ok n ns t (S.set t (tw a c)) a c (.lst xs) xs (List.getElem?_set_self ht) h0 h1 rfl hx hx2 hv
  rw [List.set_set] at e
  exact ⟨x, a', c', hxm, a0, c0, e⟩
theorem shape_ok (n : Nat) (ns : List Int) (t : Nat) (S : Store) (a c : Int) (ht : t < S.length) (h0 : 0 ≤ a) (h1 : 0 ≤ c) :
    ∃ (ls : List Int) (a' c' : Int), 1 ≤ ls.length ∧ ls.length ≤ 3 ∧ (∀ l ∈ ls, 1 ≤ l ∧ l ≤ 4) ∧ 0 ≤ a' ∧ 0 ≤ c' ∧ callN tab (n + 2) 11 [.scr (ns.map .int), .ref t] (S.set t (tw a c)) = .ok (.v (.tup (ls.map .int))) (S.set t (tw a' c')) := by
  obtain ⟨d, a1, c1, d0, d1, p0, p1, e1⟩ := draw_at n ns t S a c 3 ht h0 h1 (by decide) (by decide)
  have T : ∀ x ∈ rng (1 + d), ∀ acc a c, 0 ≤ a → 0 ≤ c → ∃ y a' c', (∃ l : Int, y = .int l ∧ 1 ≤ l ∧ l ≤ 4) ∧ 0 ≤ a' ∧ 0 ≤ c' ∧ compF [2] (.var 2) (ev ⟨callN tab (n + 1)⟩ (.cst (.bl true))) (ev ⟨callN tab (n + 1)⟩ (.bin .add (.cst (.int 1)) (.call 8 (.cons (.var 0) (.cons (.var 1) (.cons (.cst (.int 4)) .nil)))))) [some (.scr (ns.map .int)), some (.ref t), none] x acc (S.set t (tw a c)) = .ok (acc ++ [y]) (S.set t (tw a' c')) := fun x hx acc a c h0 h1 => by
    obtain ⟨d, a2, c2, d0, d1, p0, p1, e⟩ := draw_at n ns t S a c 4 ht h0 h1 (by decide) (by decide)
    refine ⟨.int (1 + d), a2, c2, ⟨1 + d, rfl, by omega, by omega⟩, p0, p1, compF_draw (y := .v (.int (1 + d))) (fun _ _ => rfl) ?_⟩
    simp [ev, bnd_ok, setE, wipeE, RV.av, RV.list, opBin, opAdd, e]
  obtain ⟨ys, a2, c2, z, q0, q1, e2⟩ := loop_draw T [] a1 c1 p0 p1
  have zi : ∀ {xs ys : List AV}, Z2 (fun x y => ∃ l : Int, y = .int l ∧ 1 ≤ l ∧ l ≤ 4) xs ys → ∃ ls : List Int, ys = ls.map .int ∧ ls.length = xs.length ∧ ∀ l ∈ ls, 1 ≤ l ∧ l ≤ 4 := by
    intro xs ys z
    induction z with
    | nil => exact ⟨[], rfl, rfl, fun l h => by cases h⟩
    | cons h _ ih =>
      obtain ⟨l, rfl, h1, h2⟩ := h
      obtain ⟨ls, rfl, h3, h4⟩ := ih
      refine ⟨l :: ls, rfl, by rw [List.length_cons, List.length_cons, h3], fun x hx => ?_⟩
      rcases List.mem_cons.mp hx with rfl | hx
      · exact ⟨h1, h2⟩
      · exact h4 x hx
  obtain ⟨ls, rfl, hl, hb⟩ := zi z
  have hrl : (rng (1 + d)).length = (1 + d).toNat := by simp [rng]
  refine ⟨ls, a2, c2, by omega, by omega, hb, q0, q1, ?_⟩
  have ecomp : ev ⟨callN tab (n + 1)⟩ (.comp [2] (.var 2) (.rng (.bin .add (.cst (.int 1)) (.call 8 (.cons (.var 0) (.cons (.var 1) (.cons (.cst (.int 3)) .nil)))))) (.cst (.bl true)) (.bin .add (.cst (.int 1)) (.call 8 (.cons (.var 0) (.cons (.var 1) (.cons (.cst (.int 4)) .nil)))))) [some (.scr (ns.map .int)), some (.ref t), none] (S.set t (tw a c)) = .ok (.l (ls.map .int)) (S.set t (tw a2 c2)) := by
    have ei : ev ⟨callN tab (n + 1)⟩ (.rng (.bin .add (.cst (.int 1)) (.call 8 (.cons (.var 0) (.cons (.var 1) (.cons (.cst (.int 3)) .nil)))))) [some (.scr (ns.map .int)), some (.ref t), none] (S.set t (tw a c)) = .ok (.l (rng (1 + d))) (S.set t (tw a1 c1)) := by
      simp [ev, bnd_ok, RV.av, RV.list, opBin, opAdd, e1]
      exact itemsOf_rng (1 + d) (by omega) _
    show compM _ _ _ _ _ _ _ = _
    unfold compM
    rw [ei, bnd_ok]
    dsimp only [RV.av, itemsOf]
    rw [e2]
    rfl
  have e : exS ⟨callN tab (n + 1)⟩ b__law_shape (List.map some [.scr (ns.map .int), .ref t] ++ List.replicate 1 none) (S.set t (tw a c)) = .ok (.rt (.v (.tup (ls.map .int)))) (S.set t (tw a2 c2)) := by
    unfold b__law_shape
    show exS ⟨callN tab (n + 1)⟩ _ [some (.scr (ns.map .int)), some (.ref t), none] (S.set t (tw a c)) = _
    rw [x_seq, x_ret, ev_bi1 ecomp]
    rfl
  exact call_v (fd := ⟨2, 3, b__law_shape, false⟩) rfl rfl rfl e (by simpa [AV.rb] using rbs_ints ls) (by rw [List.length_set, List.length_set])
/-! what are no tables -/
def bad0 : List AV := [.non, .tup [], .tup [.tup [.int 2]], .tup [.tup [.int 2], .lst []], .tup [.tup [.int 2], .dct [(.tup [.int 2], .int 1)]], .tup [.tup [.int 2], .dct [(.tup [.int 0], .int 0)]], .tup [.tup [.int 2], .dct [(.int 0, .int 1)]]]
def bad1 : List AV := [.tup [.tup [.int 2], .dct [(.tup [.int 0, .int 0], .int 1)]]]
def bad2 : List AV := [.lst [.tup [.int 2], .dct []], .tup [.tup [.int 2], .dct [(.tup [.int 0], .bl true)]], .tup [.tup [.int 2], .dct [(.tup [.int 0], .str "1")]], .tup [.tup [.int 2], .dct [(.tup [.int (-1)], .int 1)]]]
def bad3 : List AV := [.tup [.tup [.int 2, .int 2], .dct [(.tup [.int 0], .int 1)]], .int 7, .str "table"]
def bad4 : List AV := [.tup [.tup [.int 2], .dct [(.tup [.int 0], .int 1000001)]], .tup [.tup [.int 7], .dct []], .tup [.tup [], .dct []], .tup [.tup [.int 2], .dct [(.tup [.bl true], .int 1)]], .tup [.tup [.int 2], .dct [], .int 0]]
def bad5 : List AV := [.tup [.tup [.int 2], .dct [(.tup [.int 1], .int (-1000001))]]]
def bad6 : List AV := [.tup [.tup [.int 0], .dct []], .tup [.tup [.int 1, .int 1, .int 1, .int 1], .dct []], .tup [.tup [.int 2, .bl true], .dct []], .tup [.lst [.int 2], .dct []]]
def bad7 : List AV := [.tup [.tup [.int 2], .dct [(.tup [.int 0], .int 1), (.tup [.int 1], .non)]], .tup [.tup [.int 2, .str "2"], .dct []], .tup [.int 2, .dct []]]
def bads : List AV := bad0 ++ bad1 ++ bad2 ++ bad3 ++ bad4 ++ bad5 ++ bad6 ++ bad7
theorem bads_ok : ∀ x ∈ bads, okT x = true ∧ tbl x = false ∧ x.rb 0 = true := by
  have h : (bads.all fun x => okT x && !tbl x && x.rb 0) = true := by decide +kernel
  intro x hx
  have := List.all_eq_true.mp h x hx
  simp only [Bool.and_eq_true, Bool.not_eq_true'] at this
  exact ⟨this.1.1, this.1.2, this.2⟩
theorem ext_step {cl : Orc} {S : Store} {k : Nat} {xs ys : List AV} {e : Ex} {ρ : Env} (hk : S[k]? = some (.lst xs)) (hr : ρ[0]? = some (some (.ref k))) (he : ev cl e ρ S = .ok (.l ys) S) (hl : xs.length + ys.length ≤ 1000) : exS cl (.exp (.mt .extend (.var 0) (.cons e .nil))) ρ S = .ok (.nx ρ) (S.set k (.lst (xs ++ ys))) := by
  have hl' : xs.length + ys.length ≤ line := Nat.le_trans hl (Nat.le_of_lt (Nat.lt_trans (by decide) line_big))
  have hko : kindOf S (.ref k) = some .list := by unfold kindOf; rw [look_ref hk]
  have hla : S.lstAt k = some xs := by unfold Store.lstAt; rw [hk]
  simp [x_exp, ev, hr, bnd_ok, RV.av, RV.list, hko, miHas, he, miCall, miExtend, hla, AV.listX, hl']
theorem no_tables_ok (n : Nat) (S : Store) : callN tab (n + 1) 13 [] S = .ok (.l bads) S := by
  rw [call_eq (fd := ⟨0, 1, b__law_no_tables, false⟩) rfl rfl]
  have gs : ∀ o, (S ++ [o])[S.length]? = some o := fun o => by simp
  have ss : ∀ o o', (S ++ [o]).set S.length o' = S ++ [o'] := fun o o' => by simp
  have e : exS ⟨callN tab n⟩ b__law_no_tables [none] S = .ok (.rt (.v (.ref S.length))) (S ++ [.lst bads]) := by
    unfold b__law_no_tables
    rw [x_seq, x_asg]
    show sqk (.ok (.nx [some (.ref S.length)]) (S ++ [.lst bad0])) _ = _
    rw [sqk_nx, x_seq, ext_step (ys := bad1) (gs _) rfl rfl (by decide), sqk_nx, ss, x_seq, ext_step (ys := bad2) (gs _) rfl rfl (by decide), sqk_nx, ss, x_seq, ext_step (ys := bad3) (gs _) rfl rfl (by decide), sqk_nx, ss, x_seq, ext_step (ys := bad4) (gs _) rfl rfl (by decide), sqk_nx, ss,
      x_seq, ext_step (ys := bad5) (gs _) rfl rfl (by decide), sqk_nx, ss, x_seq, ext_step (ys := bad6) (gs _) rfl rfl (by decide), sqk_nx, ss, x_seq, ext_step (ys := bad7) (gs _) rfl rfl (by decide), sqk_nx, ss]
    rfl
  show retF false S (exS ⟨callN tab n⟩ b__law_no_tables [none] S) = _
  rw [e]
  exact retF_new (by decide +kernel)
theorem no_table_ok (n : Nat) (ns : List Int) (t : Nat) (S : Store) (a c : Int) (ht : t < S.length) (h0 : 0 ≤ a) (h1 : 0 ≤ c) :
    ∃ x a' c', x ∈ bads ∧ 0 ≤ a' ∧ 0 ≤ c' ∧ callN tab (n + 3) 14 [.scr (ns.map .int), .ref t] (S.set t (tw a c)) = .ok (.v x) (S.set t (tw a' c')) := by
  obtain ⟨x, a', c', hx, a0, c0, e⟩ := pick_at n ns t S a c bads ht h0 h1 (by decide) (by decide) fun x hx => (bads_ok x hx).2.2
  refine ⟨x, a', c', hx, a0, c0, ?_⟩
  rw [call_eq (fd := ⟨2, 2, b__law_no_table, false⟩) rfl rfl]
  have e2 : exS ⟨callN tab (n + 2)⟩ b__law_no_table (List.map some [.scr (ns.map .int), .ref t] ++ List.replicate 0 none) (S.set t (tw a c)) = .ok (.rt (.v x)) (S.set t (tw a' c')) := by
    have q := fun S => no_tables_ok (n + 1) S
    simp [b__law_no_table, x_pass, x_seq, x_ret, sqk_rt, ev, bnd_ok, RV.av, RV.list, q, e]
  show retF false (S.set t (tw a c)) (exS ⟨callN tab (n + 2)⟩ b__law_no_table (List.map some [.scr (ns.map .int), .ref t] ++ List.replicate 0 none) (S.set t (tw a c))) = _
  rw [e2]
  exact retF_v (bads_ok x hx).2.2 (by simp)
end K1
end DL

set_option Elab.async false
set_option linter.all false
set_option maxRecDepth 100000
set_option maxHeartbeats 800000
namespace DL
open PySem
theorem ints_key : ∀ {zs : List AV}, (∀ z ∈ zs, ∃ i, z = AV.int i) → ∃ ks, AV.keyTs zs = some ks ∧ NestedKey.depthAll ks ≤ 0
  | [], _ => ⟨[], by simp [AV.keyTs], by simp [NestedKey.depthAll]⟩
  | z :: zs, h => by
    obtain ⟨i, rfl⟩ := h z List.mem_cons_self
    obtain ⟨ks, e, d⟩ := ints_key fun y hy => h y (List.mem_cons_of_mem _ hy)
    exact ⟨.num i :: ks, by simp [AV.keyTs, AV.keyT, e], by simp only [NestedKey.depthAll, NestedKey.depth]; omega⟩
theorem ints_keyD {zs : List AV} (h : ∀ z ∈ zs, ∃ i, z = AV.int i) : (AV.tup zs).keyD = true := by
  obtain ⟨ks, e, d⟩ := ints_key h
  have : (AV.tup zs).keyT = some (.tup ks) := by simp [AV.keyT, e]
  unfold AV.keyD
  rw [this]
  show (true && decide (NestedKey.depth (.tup ks) ≤ 8)) = true
  rw [decide_eq_true (by simp only [NestedKey.depth]; omega)]
  rfl
theorem dput_mem {kvs : List (AV × AV)} {k v : AV} {p : AV × AV} (h : p ∈ dput kvs k v) : (p.1 = k ∨ ∃ q ∈ kvs, p.1 = q.1) ∧ (p.2 = v ∨ ∃ q ∈ kvs, p.2 = q.2) := by
  unfold dput at h
  split at h
  · obtain ⟨q, hq, rfl⟩ := List.mem_map.mp h
    split
    · exact ⟨.inr ⟨q, hq, rfl⟩, .inl rfl⟩
    · exact ⟨.inr ⟨q, hq, rfl⟩, .inr ⟨q, hq, rfl⟩⟩
  · rcases List.mem_append.mp h with h | h
    · exact ⟨.inr ⟨p, h, rfl⟩, .inr ⟨p, h, rfl⟩⟩
    · rw [List.mem_singleton] at h
      subst h
      exact ⟨.inl rfl, .inl rfl⟩
namespace K1
def vals : List AV := [.int (-3), .int 1, .int 2, .int 7, .int 100]
/-- a place of the table's -/
structure KeyAt (ss : List AV) (k : AV) : Prop where
  ex : ∃ zs, k = .tup zs ∧ (∀ z ∈ zs, ∃ i, z = AV.int i) ∧ psn (.tup zs) ss = true
structure TabOk (ss : List AV) (kvs : List (AV × AV)) : Prop where
  k : ∀ p ∈ kvs, KeyAt ss p.1
  v : ∀ p ∈ kvs, p.2 ∈ vals
theorem KeyAt.keyD {ss : List AV} {k : AV} (h : KeyAt ss k) : k.keyD = true := by
  obtain ⟨zs, rfl, h1, _⟩ := h.ex
  exact ints_keyD h1
theorem TabOk.ok {ss : List AV} {kvs : List (AV × AV)} {k : AV} (h : TabOk ss kvs) (hk : KeyAt ss k) : keyOk kvs k = true := by
  unfold keyOk
  rw [Bool.or_eq_true]
  exact .inr (Bool.and_eq_true_iff.mpr ⟨hk.keyD, List.all_eq_true.mpr fun p hp => (h.k p hp).keyD⟩)
theorem TabOk.put {ss : List AV} {kvs : List (AV × AV)} {k v : AV} (h : TabOk ss kvs) (hk : KeyAt ss k) (hv : v ∈ vals) : TabOk ss (dput kvs k v) := by
  refine ⟨fun p hp => ?_, fun p hp => ?_⟩
  · rcases (dput_mem hp).1 with e | ⟨q, hq, e⟩
    · rw [e]; exact hk
    · rw [e]; exact h.k q hq
  · rcases (dput_mem hp).2 with e | ⟨q, hq, e⟩
    · rw [e]; exact hv
    · rw [e]; exact h.v q hq
theorem z2_key {ss ys : List AV} (z : Z2 (fun x y => ∃ l d : Int, x = .int l ∧ y = .int d ∧ 0 ≤ d ∧ d < l) ss ys) : KeyAt ss (.tup ys) := by
  have q : ys.length = ss.length ∧ ((ys.zip ss).map tup2).all pf = true ∧ ∀ z ∈ ys, ∃ i, z = AV.int i := by
    induction z with
    | nil => exact ⟨rfl, rfl, fun z h => by cases h⟩
    | cons h _ ih =>
      obtain ⟨l, d, rfl, rfl, h1, h2⟩ := h
      obtain ⟨i1, i2, i3⟩ := ih
      refine ⟨by rw [List.length_cons, List.length_cons, i1], ?_, fun z hz => ?_⟩
      · rw [List.zip_cons_cons, List.map_cons, List.all_cons, i2]
        show (btw (.int d) 0 (l - 1) && true) = true
        unfold btw
        dsimp only
        rw [decide_eq_true h1, decide_eq_true (by omega)]
        rfl
      · rcases List.mem_cons.mp hz with rfl | hz
        · exact ⟨d, rfl⟩
        · exact i3 z hz
  refine ⟨ys, rfl, q.2.2, ?_⟩
  show (decide (ys.length = ss.length) && ((ys.zip ss).map tup2).all pf) = true
  rw [decide_eq_true q.1, q.2.1]
  rfl
theorem vals_ok : ∀ x ∈ vals, x.rb 0 = true ∧ x.vis = true ∧ vf x = true := by
  have h : (vals.all fun x => x.rb 0 && x.vis && vf x) = true := by decide +kernel
  intro x hx
  have := List.all_eq_true.mp h x hx
  simp only [Bool.and_eq_true] at this
  exact ⟨this.1.1, this.1.2, this.2⟩
theorem ints_rb {zs : List AV} (h : ∀ z ∈ zs, ∃ i, z = AV.int i) : AV.rbs 0 zs = true := by
  induction zs with
  | nil => rfl
  | cons z zs ih =>
    obtain ⟨i, rfl⟩ := h z List.mem_cons_self
    simp [AV.rbs, AV.rb, ih fun y hy => h y (List.mem_cons_of_mem _ hy)]
theorem TabOk.rb {ss : List AV} : ∀ {kvs : List (AV × AV)}, TabOk ss kvs → AV.rbd 0 kvs = true
  | [], _ => rfl
  | (k, v) :: kvs, h => by
    obtain ⟨zs, e, h1, _⟩ := (h.k (k, v) List.mem_cons_self).ex
    have e' : k = .tup zs := e
    subst e'
    have q := TabOk.rb (kvs := kvs) ⟨fun p hp => h.k p (List.mem_cons_of_mem _ hp), fun p hp => h.v p (List.mem_cons_of_mem _ hp)⟩
    have hv := (vals_ok v (h.v (.tup zs, v) List.mem_cons_self)).1
    simp [AV.rbd, AV.rb, ints_rb h1, q, hv]
theorem TabOk.tbl {ss : List AV} {kvs : List (AV × AV)} (h : TabOk ss kvs) (hs : shp (.tup ss) = true) : K1.tbl (.tup [.tup ss, .dct kvs]) = true := by
  show (shp (.tup ss) && ((kvs.map (·.1)).all (fun k => psn k ss) && (kvs.map (·.2)).all vf)) = true
  rw [hs, List.all_eq_true.mpr (fun x hx => ?_), List.all_eq_true.mpr (fun x hx => ?_)]
  · rfl
  · obtain ⟨p, hp, rfl⟩ := List.mem_map.mp hx
    exact (vals_ok _ (h.v p hp)).2.2
  · obtain ⟨p, hp, rfl⟩ := List.mem_map.mp hx
    obtain ⟨zs, e, _, h2⟩ := (h.k p hp).ex
    rw [e]
    exact h2
theorem TabOk.okT {ss : List AV} {kvs : List (AV × AV)} (h : TabOk ss kvs) (hs : okS (.tup ss) = true) : K1.okT (.tup [.tup ss, .dct kvs]) = true := by
  show (okS (.tup ss) && kvs.all fun p => okS p.1 && p.2.vis) = true
  rw [hs, List.all_eq_true.mpr fun p hp => ?_]
  · rfl
  · obtain ⟨zs, e, h1, _⟩ := (h.k p hp).ex
    rw [e, (vals_ok _ (h.v p hp)).2.1]
    have : okS (.tup zs) = true := List.all_eq_true.mpr fun z hz => by obtain ⟨i, rfl⟩ := h1 z hz; rfl
    rw [this]
    rfl
/-! the table -/
abbrev tabBody : Sm := .seq (.asg (.var 5) (.bi .tuple (.cons (.comp [6] (.var 6) (.var 2) (.cst (.bl true)) (.call 8 (.cons (.var 0) (.cons (.var 1) (.cons (.var 6) .nil))))) .nil))) (.seq (.sset (.var 3) (.var 5) (.call 9 (.cons (.var 0) (.cons (.var 1) (.cons (.lst (.cons (.neg (.cst (.int 3))) (.cons (.cst (.int 1)) (.cons (.cst (.int 2)) (.cons (.cst (.int 7)) (.cons (.cst (.int 100)) .nil)))))) .nil))))) .pass)
theorem tab_turn (n : Nat) (ns ls : List Int) (t : Nat) (S : Store) (kvs : List (AV × AV)) (a c : Int) (x4 x5 : Option AV) (ht : t < S.length) (hl : ∀ l ∈ ls, 1 ≤ l ∧ l ≤ 4) (h0 : 0 ≤ a) (h1 : 0 ≤ c) (hT : TabOk (ls.map .int) kvs) (hz : kvs.length ≤ 100) :
    ∃ kvs' a' c' y5, TabOk (ls.map .int) kvs' ∧ kvs'.length ≤ kvs.length + 1 ∧ 0 ≤ a' ∧ 0 ≤ c' ∧ exS ⟨callN tab (n + 2)⟩ tabBody [some (.scr (ns.map .int)), some (.ref t), some (.tup (ls.map .int)), some (.ref S.length), x4, x5, none] ((S ++ [AO.dct kvs]).set t (tw a c)) = .ok (.nx [some (.scr (ns.map .int)), some (.ref t), some (.tup (ls.map .int)), some (.ref S.length), x4, y5, none]) ((S ++ [AO.dct kvs']).set t (tw a' c')) := by
  have ht' : ∀ o, t < (S ++ [o]).length := fun o => by rw [List.length_append]; omega
  have T : ∀ x ∈ ls.map AV.int, ∀ acc a c, 0 ≤ a → 0 ≤ c → ∃ y a' c', (∃ l d : Int, x = .int l ∧ y = .int d ∧ 0 ≤ d ∧ d < l) ∧ 0 ≤ a' ∧ 0 ≤ c' ∧ compF [6] (.var 6) (ev ⟨callN tab (n + 2)⟩ (.cst (.bl true))) (ev ⟨callN tab (n + 2)⟩ (.call 8 (.cons (.var 0) (.cons (.var 1) (.cons (.var 6) .nil))))) [some (.scr (ns.map .int)), some (.ref t), some (.tup (ls.map .int)), some (.ref S.length), x4, x5, none] x acc ((S ++ [AO.dct kvs]).set t (tw a c)) = .ok (acc ++ [y]) ((S ++ [AO.dct kvs]).set t (tw a' c')) := fun x hx acc a c h0 h1 => by
    obtain ⟨l, hm, rfl⟩ := List.mem_map.mp hx
    have hlb := hl l hm
    obtain ⟨d, a2, c2, d0, d1, p0, p1, e⟩ := draw_at (n + 1) ns t (S ++ [AO.dct kvs]) a c l (ht' _) h0 h1 (by omega) (by omega)
    refine ⟨.int d, a2, c2, ⟨l, d, rfl, rfl, d0, d1⟩, p0, p1, compF_draw (y := .v (.int d)) (fun _ _ => rfl) ?_⟩
    simp [ev, bnd_ok, setE, wipeE, RV.av, RV.list, e]
  obtain ⟨ys, a1, c1, z, q0, q1, e1⟩ := loop_draw T [] a c h0 h1
  have hk := z2_key z
  obtain ⟨v, a2, c2, hv, r0, r1, e2⟩ := pick_at n ns t (S ++ [AO.dct kvs]) a1 c1 vals (ht' _) q0 q1 (by decide) (by decide) fun x hx => (vals_ok x hx).1
  refine ⟨dput kvs (.tup ys) v, a2, c2, some (.tup ys), hT.put hk hv, dput_length _ _ _, r0, r1, ?_⟩
  have ecomp : ev ⟨callN tab (n + 2)⟩ (.comp [6] (.var 6) (.var 2) (.cst (.bl true)) (.call 8 (.cons (.var 0) (.cons (.var 1) (.cons (.var 6) .nil))))) [some (.scr (ns.map .int)), some (.ref t), some (.tup (ls.map .int)), some (.ref S.length), x4, x5, none] ((S ++ [AO.dct kvs]).set t (tw a c)) = .ok (.l ys) ((S ++ [AO.dct kvs]).set t (tw a1 c1)) := by
    show compM _ _ _ _ _ _ _ = _
    unfold compM
    show (Res.ok (RV.v (.tup (ls.map .int))) _).bnd _ = _
    rw [bnd_ok]
    dsimp only [RV.av, itemsOf]
    rw [e1]
    rfl
  have hset : subSet (.ref S.length) (.tup ys) v ((S ++ [AO.dct kvs]).set t (tw a2 c2)) = some ((S ++ [AO.dct (dput kvs (.tup ys) v)]).set t (tw a2 c2)) := by
    unfold subSet
    dsimp only
    rw [List.getElem?_set_ne (by omega), show (S ++ [AO.dct kvs])[S.length]? = some (.dct kvs) by simp]
    dsimp only
    rw [if_pos ⟨hT.ok hk, Nat.lt_of_le_of_lt hz (Nat.lt_trans (by decide) line_big)⟩, List.set_comm _ _ (by omega)]
    congr 2
    simp
  rw [x_seq, x_asg, ev_bi1 ecomp]
  show sqk (.ok (.nx [some (.scr (ns.map .int)), some (.ref t), some (.tup (ls.map .int)), some (.ref S.length), x4, some (.tup ys), none]) _) _ = _
  rw [sqk_nx, x_seq, x_sset]
  have ep : ev ⟨callN tab (n + 2)⟩ (.call 9 (.cons (.var 0) (.cons (.var 1) (.cons (.lst (.cons (.neg (.cst (.int 3))) (.cons (.cst (.int 1)) (.cons (.cst (.int 2)) (.cons (.cst (.int 7)) (.cons (.cst (.int 100)) .nil)))))) .nil)))) [some (.scr (ns.map .int)), some (.ref t), some (.tup (ls.map .int)), some (.ref S.length), x4, some (.tup ys), none] ((S ++ [AO.dct kvs]).set t (tw a1 c1)) = .ok (.v v) ((S ++ [AO.dct kvs]).set t (tw a2 c2)) := e2
  rw [ep, bnd_ok]
  show sqk (match subSet (.ref S.length) (.tup ys) v ((S ++ [AO.dct kvs]).set t (tw a2 c2)) with
    | some S4 => .ok (.nx _) S4
    | none => .stop) _ = _
  rw [hset]
  rfl
end K1
end DL

set_option Elab.async false
set_option linter.all false
set_option maxRecDepth 100000
set_option maxHeartbeats 800000
namespace DL
open PySem
theorem retF_at {S : Store} {o : AO} {os : List AO} {k : Nat} {xs : List AV} (hk : S.length ≤ k) (hx : (S ++ o :: os)[k]? = some (.lst xs)) (h : AV.rbs 0 xs = true) : retF false S (.ok (.rt (.v (.ref k))) (S ++ o :: os)) = .ok (.l xs) S := by
  have e : retR S.length (S ++ o :: os) (.v (.ref k)) = some (.l xs) := by
    show retV S.length (S ++ o :: os) (.ref k) = _
    unfold retV
    dsimp only
    rw [if_neg (Nat.not_lt.mpr hk), hx]
    dsimp only
    rw [mapRefs_id _ _ h]
    rfl
  show retire S _ _ = _
  unfold retire
  rw [e, cutS_more rfl fun l _ => .inl rfl]
namespace K1
theorem tab_loop (n : Nat) (ns ls : List Int) (t : Nat) (S : Store) (ht : t < S.length) (hl : ∀ l ∈ ls, 1 ≤ l ∧ l ≤ 4) : ∀ (xs : List AV) (kvs : List (AV × AV)) (a c : Int) (x4 x5 : Option AV), 0 ≤ a → 0 ≤ c → TabOk (ls.map .int) kvs → kvs.length + xs.length ≤ 100 →
    ∃ kvs' a' c' y4 y5, TabOk (ls.map .int) kvs' ∧ 0 ≤ a' ∧ 0 ≤ c' ∧ loopF (forF (.var 4) (exS ⟨callN tab (n + 2)⟩ tabBody)) none xs [some (.scr (ns.map .int)), some (.ref t), some (.tup (ls.map .int)), some (.ref S.length), x4, x5, none] ((S ++ [AO.dct kvs]).set t (tw a c)) = .ok (.nx [some (.scr (ns.map .int)), some (.ref t), some (.tup (ls.map .int)), some (.ref S.length), y4, y5, none]) ((S ++ [AO.dct kvs']).set t (tw a' c'))
  | [], kvs, a, c, x4, x5, h0, h1, hT, _ => ⟨kvs, a, c, x4, x5, hT, h0, h1, rfl⟩
  | x :: xs, kvs, a, c, x4, x5, h0, h1, hT, hz => by
    rw [List.length_cons] at hz
    obtain ⟨k1, a1, c1, y5, t1, z1, p0, p1, e1⟩ := tab_turn n ns ls t S kvs a c (some x) x5 ht hl h0 h1 hT (by omega)
    obtain ⟨k2, a2, c2, y4, y5', t2, q0, q1, e2⟩ := tab_loop n ns ls t S ht hl xs k1 a1 c1 (some x) y5 p0 p1 t1 (by omega)
    refine ⟨k2, a2, c2, y4, y5', t2, q0, q1, ?_⟩
    unfold loopF
    have e3 : forF (.var 4) (exS ⟨callN tab (n + 2)⟩ tabBody) x [some (.scr (ns.map .int)), some (.ref t), some (.tup (ls.map .int)), some (.ref S.length), x4, x5, none] ((S ++ [AO.dct kvs]).set t (tw a c)) = _ := e1
    rw [e3]
    exact (if_pos trivial).trans e2
theorem table_ok (n : Nat) (ns ls : List Int) (t : Nat) (S : Store) (a c : Int) (ht : t < S.length) (hl : ∀ l ∈ ls, 1 ≤ l ∧ l ≤ 4) (h0 : 0 ≤ a) (h1 : 0 ≤ c) :
    ∃ kvs a' c', TabOk (ls.map .int) kvs ∧ 0 ≤ a' ∧ 0 ≤ c' ∧ callN tab (n + 3) 10 [.scr (ns.map .int), .ref t, .tup (ls.map .int)] (S.set t (tw a c)) = .ok (.v (.tup [.tup (ls.map .int), .dct kvs])) (S.set t (tw a' c')) := by
  have app : ∀ (X : AO) (o : AO), (S ++ [o]).set t X = S.set t X ++ [o] := fun X o => by rw [List.set_append_left _ _ ht]
  have ht' : ∀ o, t < (S ++ [o]).length := fun o => by rw [List.length_append]; omega
  obtain ⟨d, a1, c1, d0, d1, p0, p1, e1⟩ := draw_at (n + 1) ns t (S ++ [AO.dct []]) a c 7 (ht' _) h0 h1 (by decide) (by decide)
  have hrl : (rng d).length = d.toNat := by simp [rng]
  obtain ⟨kvs, a2, c2, y4, y5, hT, q0, q1, e2⟩ := tab_loop n ns ls t S ht hl (rng d) [] a1 c1 none none p0 p1 ⟨fun p h => (by cases h), fun p h => (by cases h)⟩ (by rw [hrl]; simp; omega)
  refine ⟨kvs, a2, c2, hT, q0, q1, ?_⟩
  have e : exS ⟨callN tab (n + 2)⟩ b__law_table [some (.scr (ns.map .int)), some (.ref t), some (.tup (ls.map .int)), none, none, none, none] (S.set t (tw a c)) = .ok (.rt (.v (.tup [.tup (ls.map .int), .ref S.length]))) (S.set t (tw a2 c2) ++ [AO.dct kvs]) := by
    unfold b__law_table
    rw [x_seq, x_asg]
    show sqk (.ok (.nx [some (.scr (ns.map .int)), some (.ref t), some (.tup (ls.map .int)), some (.ref (S.set t (tw a c)).length), none, none, none]) (S.set t (tw a c) ++ [AO.dct []])) _ = _
    rw [sqk_nx, List.length_set, ← app, x_seq, x_for]
    unfold forM
    have ei : ev ⟨callN tab (n + 2)⟩ (.rng (.call 8 (.cons (.var 0) (.cons (.var 1) (.cons (.cst (.int 7)) .nil))))) [some (.scr (ns.map .int)), some (.ref t), some (.tup (ls.map .int)), some (.ref S.length), none, none, none] ((S ++ [AO.dct []]).set t (tw a c)) = .ok (.l (rng d)) ((S ++ [AO.dct []]).set t (tw a1 c1)) := by
      simp [ev, bnd_ok, RV.av, RV.list, e1]
      exact itemsOf_rng d (by omega) _
    rw [ei, bnd_ok]
    dsimp only [RV.av, itemsOf]
    rw [e2, sqk_nx, app]
    rfl
  rw [call_eq (fd := ⟨3, 7, b__law_table, false⟩) rfl rfl]
  refine Eq.trans (congrArg (retF false (S.set t (tw a c))) e) ?_
  have hlen : (S.set t (tw a c)).length = S.length := List.length_set
  have er : retR (S.set t (tw a c)).length (S.set t (tw a2 c2) ++ [AO.dct kvs]) (.v (.tup [.tup (ls.map .int), .ref S.length])) = some (.v (.tup [.tup (ls.map .int), .dct kvs])) := by
    rw [hlen]
    have et : thaw S.length (S.set t (tw a2 c2) ++ [AO.dct kvs]).length (S.set t (tw a2 c2) ++ [AO.dct kvs]) 3 S.length = some (.dct kvs) := by
      unfold thaw
      rw [if_neg (Nat.lt_irrefl _), if_neg (by simp), show (S.set t (tw a2 c2) ++ [AO.dct kvs])[S.length]? = some (.dct kvs) by rw [List.getElem?_append_right (by simp)]; simp]
      dsimp only
      rw [mapRefd_id _ _ hT.rb]
      rfl
    show (AV.mapRef _ (.tup [.tup (ls.map .int), .ref S.length])).map RV.v = _
    have em : ∀ f : Nat → Option AV, f S.length = some (.dct kvs) → AV.mapRef f (.tup [.tup (ls.map .int), .ref S.length]) = some (.tup [.tup (ls.map .int), .dct kvs]) := fun f hf => by
      simp [AV.mapRef, AV.mapRefs, mapRefs_id f _ (rbs_ints ls), hf]
    rw [em _ et]
    rfl
  show retire _ _ _ = _
  unfold retire
  rw [er, cutS_more (by rw [List.length_set, List.length_set]) fun l hl => ?_]
  by_cases hlt : l = t
  · subst hlt
    exact .inr ⟨tw a2 c2, List.getElem?_set_self ht, by simp [AO.rb, AV.rbs, AV.rb]⟩
  · refine .inl ?_
    rw [List.getElem?_set_ne (Ne.symm hlt), List.getElem?_set_ne (Ne.symm hlt)]
/-! all rows, by a list that grows -/
abbrev inB : Sm := .seq (.exp (.mt .extend (.var 3) (.cons (.comp [5] (.var 5) (.rng (.var 2)) (.cst (.bl true)) (.bin .add (.var 4) (.tup (.cons (.var 5) .nil)))) .nil))) .pass
abbrev outB : Sm := .seq (.asg (.var 3) (.bx (.lst .nil))) (.seq (.for_ (.var 4) (.var 1) inB) (.seq (.asg (.var 1) (.var 3)) .pass))
theorem in_loop (n : Nat) (L made : AV) (l : Int) (S1 : Store) (w : Option (Nat × AO)) (hl : 0 ≤ l ∧ l ≤ 6) (hw : ∀ o, stays w (S1 ++ [o])) : ∀ (rs : List (List AV)) (acc : List AV) (x4 : Option AV), (∀ r ∈ rs, r.length ≤ 100) → acc.length + (stepR rs l).length ≤ 1000 →
    ∃ y4, loopF (forF (.var 4) (exS ⟨callN tab n⟩ inB)) w (rs.map .tup) [some L, some made, some (.int l), some (.ref S1.length), x4, none] (S1 ++ [AO.lst acc]) = .ok (.nx [some L, some made, some (.int l), some (.ref S1.length), y4, none]) (S1 ++ [AO.lst (acc ++ (stepR rs l).map .tup)])
  | [], acc, x4, _, _ => ⟨x4, by show Res.ok _ _ = _; simp [stepR]⟩
  | r :: rs, acc, x4, hr, hz => by
    have es : stepR (r :: rs) l = ((rng l).map fun y => r ++ [y]) ++ stepR rs l := rfl
    rw [es, List.length_append, List.length_map] at hz
    obtain ⟨y4, e2⟩ := in_loop n L made l S1 w hl hw rs (acc ++ ((rng l).map fun y => AV.tup (r ++ [y]))) (some (.tup r)) (fun x hx => hr x (List.mem_cons_of_mem _ hx)) (by rw [List.length_append, List.length_map]; omega)
    refine ⟨y4, ?_⟩
    have hr' := hr r List.mem_cons_self
    have ecomp : ev ⟨callN tab n⟩ (.comp [5] (.var 5) (.rng (.var 2)) (.cst (.bl true)) (.bin .add (.var 4) (.tup (.cons (.var 5) .nil)))) [some L, some made, some (.int l), some (.ref S1.length), some (.tup r), none] (S1 ++ [AO.lst acc]) = .ok (.l ((rng l).map fun y => AV.tup (r ++ [y]))) (S1 ++ [AO.lst acc]) := by
      refine comp_map (w := none) (xs := rng l) (fun y => AV.tup (r ++ [y])) (r := .l (rng l)) (by simp [ev, bnd_ok, RV.av, itemsOf_rng l hl]) rfl trivial fun y hy acc => compF_one (y := .v (.tup (r ++ [y]))) (fun ρ S => rfl) ?_
      have hlen : r.length + 1 ≤ line := by have := line_big; omega
      simp [ev, bnd_ok, setE, wipeE, RV.av, RV.list, opBin, opAdd, hlen]
    have gs : (S1 ++ [AO.lst acc])[S1.length]? = some (.lst acc) := by simp
    have hlx : acc.length + ((rng l).map fun y => AV.tup (r ++ [y])).length ≤ line := by rw [List.length_map]; have := line_big; omega
    have e1 : forF (.var 4) (exS ⟨callN tab n⟩ inB) (.tup r) [some L, some made, some (.int l), some (.ref S1.length), x4, none] (S1 ++ [AO.lst acc]) = .ok (.nx [some L, some made, some (.int l), some (.ref S1.length), some (.tup r), none]) (S1 ++ [AO.lst (acc ++ (rng l).map fun y => AV.tup (r ++ [y]))]) := by
      show exS ⟨callN tab n⟩ inB [some L, some made, some (.int l), some (.ref S1.length), some (.tup r), none] (S1 ++ [AO.lst acc]) = _
      have hko : kindOf (S1 ++ [AO.lst acc]) (.ref S1.length) = some .list := by unfold kindOf; rw [look_ref gs]
      have hla : Store.lstAt (S1 ++ [AO.lst acc]) S1.length = some acc := by unfold Store.lstAt; rw [gs]
      have em : ev ⟨callN tab n⟩ (.mt .extend (.var 3) (.cons (.comp [5] (.var 5) (.rng (.var 2)) (.cst (.bl true)) (.bin .add (.var 4) (.tup (.cons (.var 5) .nil)))) .nil)) [some L, some made, some (.int l), some (.ref S1.length), some (.tup r), none] (S1 ++ [AO.lst acc]) = .ok (.v .non) ((S1 ++ [AO.lst acc]).set S1.length (.lst (acc ++ (rng l).map fun y => AV.tup (r ++ [y])))) := by
        show (match kindOf (S1 ++ [AO.lst acc]) (.ref S1.length) with
          | some k => if miHas k .extend then ((ev ⟨callN tab n⟩ (.comp [5] (.var 5) (.rng (.var 2)) (.cst (.bl true)) (.bin .add (.var 4) (.tup (.cons (.var 5) .nil)))) [some L, some made, some (.int l), some (.ref S1.length), some (.tup r), none] (S1 ++ [AO.lst acc])).bnd fun x S1 => (Res.ok (RV.l []) S1).bnd fun y S2 => Res.ok (RV.l (x.av :: y.list)) S2).bnd fun y S2 => miCall k .extend (.ref S1.length) y.list S2 else .stop
          | none => .stop) = _
        rw [hko, ecomp]
        show miExtend (.ref S1.length) [.lst _] (S1 ++ [AO.lst acc]) = _
        unfold miExtend
        dsimp only
        rw [hla]
        show (if acc.length + ((rng l).map fun y => AV.tup (r ++ [y])).length ≤ line then _ else _) = _
        rw [if_pos hlx]
      rw [x_seq, x_exp, em]
      show sqk (.ok (.nx _) ((S1 ++ [AO.lst acc]).set S1.length _)) _ = _
      rw [sqk_nx, x_pass]
      congr 1
      simp
    rw [List.map_cons]
    unfold loopF
    rw [e1]
    refine (if_pos (hw _)).trans ?_
    rw [e2, es, List.map_append, List.append_assoc, List.map_map]
    rfl
/-- what a list that is walked may be -/
def MadeOk (S : Store) (a : AV) (rs : List (List AV)) : Prop := a = .lst (rs.map .tup) ∨ ∃ k, a = .ref k ∧ S[k]? = some (.lst (rs.map .tup))
theorem MadeOk.items {S : Store} {a : AV} {rs : List (List AV)} (h : MadeOk S a rs) (T : Store) : ∃ w, itemsOf (S ++ T) a = some (rs.map .tup, w) ∧ ∀ o, stays w (S ++ [o]) := by
  rcases h with rfl | ⟨k, rfl, e⟩
  · exact ⟨none, rfl, fun o => trivial⟩
  · have hk : k < S.length := (List.getElem?_eq_some_iff.mp e).1
    have e' : ∀ T : Store, (S ++ T)[k]? = some (.lst (rs.map .tup)) := fun T => by rw [List.getElem?_append_left hk]; exact e
    refine ⟨some (k, .lst (rs.map .tup)), ?_, fun o => e' [o]⟩
    show (match (S ++ T)[k]? with
      | some (.lst xs) => some (xs, some (k, AO.lst xs))
      | some (.fz (.lst xs)) => some (xs, none)
      | some (.fz (.dct kvs)) => some (List.map Prod.fst kvs, none)
      | _ => none) = _
    rw [e']
theorem out_turn (n : Nat) (L a : AV) (l : Int) (rs : List (List AV)) (S1 : Store) (x2 x3 x4 : Option AV) (hl : 0 ≤ l ∧ l ≤ 6) (hm : MadeOk S1 a rs) (hr : ∀ r ∈ rs, r.length ≤ 100) (hz : (stepR rs l).length ≤ 1000) :
    ∃ y4, forF (.var 2) (exS ⟨callN tab n⟩ outB) (.int l) [some L, some a, x2, x3, x4, none] S1 = .ok (.nx [some L, some (.ref S1.length), some (.int l), some (.ref S1.length), y4, none]) (S1 ++ [AO.lst ((stepR rs l).map .tup)]) := by
  obtain ⟨w, ei, hw⟩ := hm.items [AO.lst []]
  obtain ⟨y4, e⟩ := in_loop n L a l S1 w hl hw rs [] x4 hr (by simpa using hz)
  refine ⟨y4, ?_⟩
  show exS ⟨callN tab n⟩ outB [some L, some a, some (.int l), x3, x4, none] S1 = _
  rw [x_seq, x_asg]
  show sqk (.ok (.nx [some L, some a, some (.int l), some (.ref S1.length), x4, none]) (S1 ++ [AO.lst []])) _ = _
  rw [sqk_nx, x_seq, x_for]
  unfold forM
  show sqk ((Res.ok (RV.v a) (S1 ++ [AO.lst []])).bnd _) _ = _
  rw [bnd_ok]
  dsimp only [RV.av]
  rw [ei]
  dsimp only
  rw [e, sqk_nx, List.nil_append]
  rfl
theorem out_loop (n : Nat) (L : AV) : ∀ (ls : List Int) (rs : List (List AV)) (a : AV) (S1 : Store) (x2 x3 x4 : Option AV), MadeOk S1 a rs → Sm' rs ls → ∃ T a' y2 y3 y4, loopF (forF (.var 2) (exS ⟨callN tab n⟩ outB)) none (ls.map .int) [some L, some a, x2, x3, x4, none] S1 = .ok (.nx [some L, some a', y2, y3, y4, none]) (S1 ++ T) ∧ (ls ≠ [] → ∃ k, a' = .ref k ∧ S1.length ≤ k ∧ (S1 ++ T)[k]? = some (.lst ((ls.foldl stepR rs).map .tup)))
  | [], rs, a, S1, x2, x3, x4, _, _ => ⟨[], a, x2, x3, x4, by rw [List.append_nil]; rfl, fun h => absurd rfl h⟩
  | l :: ls, rs, a, S1, x2, x3, x4, hm, h => by
    have hl := h.l l List.mem_cons_self
    obtain ⟨z4, e1⟩ := out_turn n L a l rs S1 x2 x3 x4 hl hm (fun r hr => by have := h.r r hr; rw [List.length_cons] at this; omega) h.step.bd
    obtain ⟨T, a', y2, y3, y4, e2, h2⟩ := out_loop n L ls (stepR rs l) (.ref S1.length) (S1 ++ [AO.lst ((stepR rs l).map .tup)]) (some (.int l)) (some (.ref S1.length)) z4 (.inr ⟨_, rfl, by simp⟩) h.step
    rw [List.append_assoc] at e2 h2
    have e3 : loopF (forF (.var 2) (exS ⟨callN tab n⟩ outB)) none ((l :: ls).map .int) [some L, some a, x2, x3, x4, none] S1 = loopF (forF (.var 2) (exS ⟨callN tab n⟩ outB)) none (ls.map .int) [some L, some (.ref S1.length), some (.int l), some (.ref S1.length), z4, none] (S1 ++ [AO.lst ((stepR rs l).map .tup)]) := by
      rw [List.map_cons]
      conv => lhs; unfold loopF
      rw [e1]
      exact if_pos trivial
    cases ls with
    | nil =>
      refine ⟨[AO.lst ((stepR rs l).map .tup)], .ref S1.length, some (.int l), some (.ref S1.length), z4, by rw [e3]; rfl, fun _ => ⟨S1.length, rfl, Nat.le_refl _, by simp⟩⟩
    | cons l2 ls2 =>
      refine ⟨[AO.lst ((stepR rs l).map .tup)] ++ T, a', y2, y3, y4, by rw [e3, e2], fun _ => ?_⟩
      obtain ⟨k, k1, k2, k3⟩ := h2 (by simp)
      exact ⟨k, k1, by rw [List.length_append] at k2; omega, k3⟩
theorem rows_ok (n : Nat) (ls : List Int) (S : Store) (h : Sm' [[]] ls) (hne : ls ≠ []) : callN tab (n + 1) 12 [.tup (ls.map .int)] S = .ok (.l ((rowsF ls).map .tup)) S := by
  obtain ⟨T, a', y2, y3, y4, e, h2⟩ := out_loop n (.tup (ls.map .int)) ls [[]] (.lst [.tup []]) S none none none (.inl rfl) h
  obtain ⟨k, rfl, k2, k3⟩ := h2 hne
  rw [call_eq (fd := ⟨1, 6, b__law_rows, false⟩) rfl rfl]
  have e2 : exS ⟨callN tab n⟩ b__law_rows [some (.tup (ls.map .int)), none, none, none, none, none] S = .ok (.rt (.v (.ref k))) (S ++ T) := by
    unfold b__law_rows
    rw [x_seq, x_asg]
    show sqk (.ok (.nx [some (.tup (ls.map .int)), some (.lst [.tup []]), none, none, none, none]) S) _ = _
    rw [sqk_nx, x_seq, x_for]
    unfold forM
    show sqk (loopF _ none (ls.map .int) _ S) _ = _
    rw [e, sqk_nx]
    rfl
  refine Eq.trans (congrArg (retF false S) e2) ?_
  have hrb : AV.rbs 0 ((rowsF ls).map .tup) = true := rb_rows (rows_rb ls [[]] fun r hr => by rw [List.mem_singleton] at hr; rw [hr]; rfl)
  cases T with
  | nil =>
    rw [List.append_nil] at k3
    have := (List.getElem?_eq_some_iff.mp k3).1
    omega
  | cons o os => exact retF_at k2 k3 hrb
end K1
end DL

set_option Elab.async false
set_option linter.all false
set_option maxRecDepth 100000
set_option maxHeartbeats 1000000
namespace DL
open PySem
theorem Z2.snoc {T : AV → AV → Prop} {x y : AV} : ∀ {xs ys : List AV}, Z2 T xs ys → T x y → Z2 T (xs ++ [x]) (ys ++ [y])
  | _, _, .nil, h => .cons h .nil
  | _, _, .cons a b, h => .cons a (b.snoc h)
namespace K1
abbrev below (x y : AV) : Prop := ∃ l d : Int, x = .int l ∧ y = .int d ∧ 0 ≤ d ∧ d < l
theorem rows_z2 : ∀ (ls pre : List Int) (rs : List (List AV)), (∀ r ∈ rs, Z2 below (pre.map .int) r) → ∀ r ∈ ls.foldl stepR rs, Z2 below ((pre ++ ls).map .int) r
  | [], pre, rs, h, r, hr => by rw [List.append_nil]; exact h r hr
  | l :: ls, pre, rs, h, r, hr => by
    have := rows_z2 ls (pre ++ [l]) (stepR rs l) (fun x hx => ?_) r hr
    · rwa [List.append_assoc] at this
    · obtain ⟨r0, h0, i, hi, rfl⟩ := stepR_mem hx
      rw [List.map_append]
      exact (h r0 h0).snoc ⟨l, i, rfl, rfl, by omega, hi⟩
theorem rows_key (ls : List Int) : ∀ r ∈ rowsF ls, KeyAt (ls.map .int) (.tup r) := fun r hr => z2_key (rows_z2 ls [] [[]] (fun r hr => by rw [List.mem_singleton] at hr; rw [hr]; exact .nil) r hr)
theorem vals_lay : ∀ x ∈ vals, Lay 0 x := by
  intro x hx
  have : ∃ i, x = AV.int i := by
    unfold vals at hx
    simp only [List.mem_cons, List.not_mem_nil, or_false] at hx
    rcases hx with rfl | rfl | rfl | rfl | rfl <;> exact ⟨_, rfl⟩
  obtain ⟨i, rfl⟩ := this
  exact lay_int i
theorem get_vals {ss : List AV} {kvs : List (AV × AV)} (h : TabOk ss kvs) (k : AV) : Lay 0 ((dget kvs k).getD (.int 0)) := by
  cases e : dget kvs k with
  | none => exact lay_int 0
  | some v =>
    obtain ⟨p, hp, rfl⟩ := Option.map_eq_some_iff.mp e
    exact vals_lay _ (h.v p (List.mem_of_find?_eq_some hp))
def odds : List AV := [.non, .tup [], .tup [.int 0], .tup [.int 7], .tup [.int 1, .int 1, .int 1, .int 1], .lst [.int 2], .tup [.bl true], .tup [.str "2"], .int 5]
theorem odds_ok : ∀ x ∈ odds, okS x = true ∧ shp x = false ∧ okT (.tup [x, .dct []]) = true ∧ tbl (.tup [x, .dct []]) = false ∧ x.rb 0 = true := by
  have h : (odds.all fun x => okS x && !shp x && okT (.tup [x, .dct []]) && !tbl (.tup [x, .dct []]) && x.rb 0) = true := by decide +kernel
  intro x hx
  have := List.all_eq_true.mp h x hx
  simp only [Bool.and_eq_true, Bool.not_eq_true'] at this
  exact ⟨this.1.1.1.1, this.1.1.1.2, this.1.1.2, this.1.2, this.2⟩
theorem law_true (ns : List Int) (hl : ns.length ≤ 63) (hb : ∀ z ∈ ns, Builtin.Int.intBits z ≤ 1048576) : callN tab 30 15 [.scr (ns.map AV.int)] [] = .ok (.v (.bl true)) [] := by
  obtain ⟨ls, a1, c1, l1, l3, hls, p0, p1, e1⟩ := shape_ok 27 ns 0 [tw 0 0] 0 0 (by decide) (by decide) (by decide)
  obtain ⟨kvs, a2, c2, hT, q0, q1, e2⟩ := table_ok 26 ns ls 0 [tw 0 0] a1 c1 (by decide) hls p0 p1
  obtain ⟨nt, a3, c3, hnt, r0, r1, e3⟩ := no_table_ok 26 ns 0 [tw 0 0] a2 c2 (by decide) q0 q1
  obtain ⟨od, a4, c4, hod, s0, s1, e4⟩ := pick_at 27 ns 0 [tw 0 0] a3 c3 odds (by decide) r0 r1 (by decide) (by decide) fun x hx => (odds_ok x hx).2.2.2.2
  obtain ⟨o1, o2, o3, o4, o5⟩ := odds_ok od hod
  obtain ⟨b1, b2, b3⟩ := bads_ok nt hnt
  have hne : ls ≠ [] := fun z => by rw [z] at l1; simp at l1
  have hsm : Sm' [[]] ls := by
    refine ⟨?_, fun r hr => by rw [List.mem_singleton] at hr; rw [hr]; simp; omega, fun l hl => by have := hls l hl; omega⟩
    have : 6 ^ ls.length ≤ 6 ^ 3 := Nat.pow_le_pow_right (by decide) l3
    simp only [List.length_singleton, Nat.one_mul]
    omega
  have hshp : shp (.tup (ls.map .int)) = true := by
    show (decide (1 ≤ (ls.map AV.int).length) && decide ((ls.map AV.int).length ≤ 3) && (ls.map AV.int).all fun x => btw x 1 6) = true
    rw [List.length_map, decide_eq_true l1, decide_eq_true l3]
    refine List.all_eq_true.mpr fun x hx => ?_
    obtain ⟨l, hm, rfl⟩ := List.mem_map.mp hx
    have := hls l hm
    show (decide (1 ≤ l) && decide (l ≤ 6)) = true
    rw [decide_eq_true this.1, decide_eq_true (by omega)]
    rfl
  have f1 : callN tab 29 11 [.scr (ns.map .int), .ref 0] [tw 0 0] = .ok (.v (.tup (ls.map .int))) [tw a1 c1] := e1
  have f2 : callN tab 29 10 [.scr (ns.map .int), .ref 0, .tup (ls.map .int)] [tw a1 c1] = .ok (.v (.tup [.tup (ls.map .int), .dct kvs])) [tw a2 c2] := e2
  have f3 : callN tab 29 14 [.scr (ns.map .int), .ref 0] [tw a2 c2] = .ok (.v nt) [tw a3 c3] := e3
  have f4 : callN tab 29 9 [.scr (ns.map .int), .ref 0, .lst [.non, .tup [], .tup [.int 0], .tup [.int 7], .tup [.int 1, .int 1, .int 1, .int 1], .lst [.int 2], .tup [.bl true], .tup [.str "2"], .int 5]] [tw a3 c3] = .ok (.v od) [tw a4 c4] := e4
  have f5 : ∀ S, callN tab 29 1 [.tup (ls.map .int)] S = .ok (.v (.bl true)) S := fun S => by rw [← hshp]; exact is_shape_ok 27 _ S (ints_okS ls)
  have f6 : ∀ S, callN tab 29 3 [.tup [.tup (ls.map .int), .dct kvs]] S = .ok (.v (.bl true)) S := fun S => by rw [← hT.tbl hshp]; exact is_table_ok 26 _ S (hT.okT (ints_okS ls))
  have f7 : ∀ S, callN tab 29 3 [nt] S = .ok (.v (.bl false)) S := fun S => by rw [← b2]; exact is_table_ok 26 _ S b1
  have f8 : ∀ S, callN tab 29 1 [od] S = .ok (.v (.bl false)) S := fun S => by rw [← o2]; exact is_shape_ok 27 _ S o1
  have f9 : ∀ S, callN tab 29 3 [.tup [od, .dct []]] S = .ok (.v (.bl false)) S := fun S => by rw [← o4]; exact is_table_ok 26 _ S o3
  have f10 : ∀ S, callN tab 29 1 [.tup [.int 6, .int 6, .int 6]] S = .ok (.v (.bl true)) S := fun S => is_shape_ok 27 _ S rfl
  have f11 : ∀ S, callN tab 29 7 [.tup (ls.map .int)] S = .ok (.v (.lst ((rowsF ls).map .tup))) S := fun S => positions_ok 26 ls S hsm hshp
  have f12 : ∀ S, callN tab 29 12 [.tup (ls.map .int)] S = .ok (.l ((rowsF ls).map .tup)) S := fun S => rows_ok 28 ls S hsm hne
  have hrow : Lay 2 (.lst ((rowsF ls).map .tup)) := lay_lst fun x hx => by
    obtain ⟨r, hr, rfl⟩ := List.mem_map.mp hx
    obtain ⟨zs, e, hz, _⟩ := (rows_key ls r hr).ex
    cases e
    exact lay_tup fun y hy => by obtain ⟨i, rfl⟩ := hz y hy; exact lay_int i
  have f13 : ∀ S, eqOp (.lst ((rowsF ls).map .tup)) (.lst ((rowsF ls).map .tup)) S = some true := fun S => eq_self hrow (by decide) rfl rfl
  obtain ⟨g, hg⟩ : ∃ g : AV → AV, g = fun x => (dget kvs x).getD (.int 0) := ⟨_, rfl⟩
  obtain ⟨rows, hrows⟩ : ∃ rows, rows = (rowsF ls).map AV.tup := ⟨_, rfl⟩
  have hgl : Lay 1 (.lst (rows.map g)) := lay_lst fun x hx => by
    obtain ⟨r, hr, rfl⟩ := List.mem_map.mp hx
    rw [hg]
    exact get_vals hT r
  have f14 : ∀ S, eqOp (.lst (rows.map g)) (.lst (rows.map g)) S = some true := fun S => eq_self hgl (by decide) rfl rfl
  have hk : ∀ x ∈ rows, KeyAt (ls.map .int) x := fun x hx => by
    rw [hrows] at hx
    obtain ⟨r, hr, rfl⟩ := List.mem_map.mp hx
    exact rows_key ls r hr
  have hi : ∀ (x1 x3 x4 : Option AV) S, ev ⟨callN tab 29⟩ (.call 12 (.cons (.var 2) .nil)) [some (.scr (ns.map .int)), x1, some (.tup (ls.map .int)), x3, x4, none] S = .ok (.l rows) S := fun x1 x3 x4 S => by
    rw [hrows]
    exact f12 S
  have at1 : ∀ x y : AV, L2.atI [x, y] 1 = some y := fun _ _ => rfl
  have hc1 : ∀ S, ev ⟨callN tab 29⟩ (.comp [5] (.var 5) (.call 12 (.cons (.var 2) .nil)) (.cst (.bl true)) (.call 5 (.cons (.var 3) (.cons (.var 5) .nil)))) [some (.scr (ns.map .int)), some (.ref 0), some (.tup (ls.map .int)), some (.tup [.tup (ls.map .int), .dct kvs]), some od, none] S = .ok (.l (rows.map g)) S := fun S => by
    refine comp_map (w := none) (xs := rows) g (r := .l rows) (hi _ _ _ S) rfl trivial fun x hx acc => compF_one (y := .v (g x)) (fun ρ S => rfl) ?_
    obtain ⟨zs, e, h1, h2⟩ := (hk x hx).ex
    have hok : okS x = true := by rw [e]; exact List.all_eq_true.mpr fun z hz => by obtain ⟨i, rfl⟩ := h1 z hz; rfl
    have := cell_ok 24 (ls.map .int) kvs x S (hT.okT (ints_okS ls)) (hT.tbl hshp) hok (by rw [e]; exact h2) (hT.ok (hk x hx)) fun p hp => (vals_ok _ (hT.v p hp)).1
    rw [hg]
    exact this
  have hc2 : ∀ S, ev ⟨callN tab 29⟩ (.comp [5] (.var 5) (.call 12 (.cons (.var 2) .nil)) (.cst (.bl true)) (.mt .get2 (.sub (.var 3) (.cst (.int 1))) (.cons (.var 5) (.cons (.cst (.int 0)) .nil)))) [some (.scr (ns.map .int)), some (.ref 0), some (.tup (ls.map .int)), some (.tup [.tup (ls.map .int), .dct kvs]), some od, none] S = .ok (.l (rows.map g)) S := fun S => by
    refine comp_map (w := none) (xs := rows) g (r := .l rows) (hi _ _ _ S) rfl trivial fun x hx acc => compF_one (y := .v (g x)) (fun ρ S => rfl) ?_
    have q3 : ∀ S, miGet2 (.dct kvs) [x, .int 0] S = .ok (.v (g x)) S := fun S => by
      rw [hg]
      exact if_pos (hT.ok (hk x hx))
    have q4 : ∀ S, kindOf S (.dct kvs) = some .dict := fun S => rfl
    simp [ev, bnd_ok, setE, wipeE, RV.av, RV.list, subOp, AV.look, at1, q4, miHas, miCall, q3]
  have e : exS ⟨callN tab 29⟩ b_law [some (.scr (ns.map .int)), none, none, none, none, none] [] = .ok (.rt (.v (.bl true))) [tw a4 c4] := by
    unfold b_law
    rw [x_seq, x_asg]
    show sqk (.ok (.nx [some (.scr (ns.map .int)), some (.ref 0), none, none, none, none]) [tw 0 0]) _ = _
    simp [sqk_nx, sqk_rt, x_seq, x_asg, x_ifs, x_ret, x_pass, ifk_t, ifk_f, ev, ↓hc1, ↓hc2, bnd_ok, RV.av, RV.list, RV.bool?, bindT, setE, f1, f2, f3, f4, f5, f6, f7, f8, f9, f10, f11, f12, f13, f14, opCmp, isOp, dputs]
  rw [call_eq (fd := ⟨1, 6, b_law, false⟩) rfl rfl]
  refine Eq.trans (congrArg (retF false []) e) ?_
  show retire [] (.v (.bl true)) [tw a4 c4] = _
  unfold retire
  rw [show cutS [] [tw a4 c4] = some [] from cutS_more (S := []) (S' := []) rfl fun l h => absurd h (Nat.not_lt_zero l)]
  rfl
end K1
end DL

set_option Elab.async false
set_option linter.all false
set_option maxRecDepth 100000
set_option maxHeartbeats 8000000
namespace DL
namespace K1
open PySem PySem.Spec PyProof.Rows L2
theorem all_mk {P : Program} {w : World} {K : PySem.W.Frag} {h : Heap} {mg : Str → Option Value} {fa : Addr} (X : K.In h) (g : h.Ns mainGlobals mg) (hfa : mg "law" = some (.ref fa))
    {C_NoTable : Addr}
    {C_NoPosition : Addr}
    {f_is_between : Addr} {od_is_between an_is_between : Option Addr} {sl_is_between : Array (Option Value)} {oc_is_between kV_is_between dc_is_between pm_is_between cd_is_between ct_is_between : Value}
    {f_is_shape : Addr} {od_is_shape an_is_shape : Option Addr} {sl_is_shape : Array (Option Value)} {oc_is_shape kV_is_shape dc_is_shape pm_is_shape cd_is_shape ct_is_shape : Value}
    {f_is_position : Addr} {od_is_position an_is_position : Option Addr} {sl_is_position : Array (Option Value)} {oc_is_position kV_is_position dc_is_position pm_is_position cd_is_position ct_is_position : Value}
    {f_is_table : Addr} {od_is_table an_is_table : Option Addr} {sl_is_table : Array (Option Value)} {oc_is_table kV_is_table dc_is_table pm_is_table cd_is_table ct_is_table : Value}
    {f_need_table : Addr} {od_need_table an_need_table : Option Addr} {sl_need_table : Array (Option Value)} {oc_need_table kV_need_table dc_need_table pm_need_table cd_need_table ct_need_table : Value}
    {f_cell : Addr} {od_cell an_cell : Option Addr} {sl_cell : Array (Option Value)} {oc_cell kV_cell dc_cell pm_cell cd_cell ct_cell : Value}
    {f_all_positions : Addr} {od_all_positions an_all_positions : Option Addr} {sl_all_positions : Array (Option Value)} {oc_all_positions kV_all_positions dc_all_positions pm_all_positions cd_all_positions ct_all_positions : Value}
    {f_positions : Addr} {od_positions an_positions : Option Addr} {sl_positions : Array (Option Value)} {oc_positions kV_positions dc_positions pm_positions cd_positions ct_positions : Value}
    {f__law_draw : Addr} {od__law_draw an__law_draw : Option Addr} {sl__law_draw : Array (Option Value)} {oc__law_draw kV__law_draw dc__law_draw pm__law_draw cd__law_draw ct__law_draw : Value}
    {f__law_pick : Addr} {od__law_pick an__law_pick : Option Addr} {sl__law_pick : Array (Option Value)} {oc__law_pick kV__law_pick dc__law_pick pm__law_pick cd__law_pick ct__law_pick : Value}
    {f__law_table : Addr} {od__law_table an__law_table : Option Addr} {sl__law_table : Array (Option Value)} {oc__law_table kV__law_table dc__law_table pm__law_table cd__law_table ct__law_table : Value}
    {f__law_shape : Addr} {od__law_shape an__law_shape : Option Addr} {sl__law_shape : Array (Option Value)} {oc__law_shape kV__law_shape dc__law_shape pm__law_shape cd__law_shape ct__law_shape : Value}
    {f__law_rows : Addr} {od__law_rows an__law_rows : Option Addr} {sl__law_rows : Array (Option Value)} {oc__law_rows kV__law_rows dc__law_rows pm__law_rows cd__law_rows ct__law_rows : Value}
    {f__law_no_tables : Addr} {od__law_no_tables an__law_no_tables : Option Addr} {sl__law_no_tables : Array (Option Value)} {oc__law_no_tables kV__law_no_tables dc__law_no_tables pm__law_no_tables cd__law_no_tables ct__law_no_tables : Value}
    {f__law_no_table : Addr} {od__law_no_table an__law_no_table : Option Addr} {sl__law_no_table : Array (Option Value)} {oc__law_no_table kV__law_no_table dc__law_no_table pm__law_no_table cd__law_no_table ct__law_no_table : Value}
    {f_law : Addr} {od_law an_law : Option Addr} {sl_law : Array (Option Value)} {oc_law kV_law dc_law pm_law cd_law ct_law : Value}
    {T_MOST : Tok} (n_MOST : PySem.W.nsIn K mainGlobals "MOST" = some (some (.int 1000000 T_MOST)))
    (z_isinstance : PySem.W.nsIn K mainGlobals "isinstance" = some none)
    (z_int : PySem.W.nsIn K mainGlobals "int" = some none)
    (z_bool : PySem.W.nsIn K mainGlobals "bool" = some none)
    (z_tuple : PySem.W.nsIn K mainGlobals "tuple" = some none)
    (z_all : PySem.W.nsIn K mainGlobals "all" = some none)
    (z_len : PySem.W.nsIn K mainGlobals "len" = some none)
    (z_zip : PySem.W.nsIn K mainGlobals "zip" = some none)
    (z_dict : PySem.W.nsIn K mainGlobals "dict" = some none)
    (z_range : PySem.W.nsIn K mainGlobals "range" = some none)
    (a_NoTable : PySem.W.nsIn K mainGlobals "NoTable" = some (some (.ref C_NoTable))) (k_NoTable : PySem.W.keepIn K (.ref C_NoTable) = true) (e_NoTable : PySem.W.excIn K C_NoTable veBases "ValueError.__new__" = true) (u_NoTable : PySem.W.subIn K (.ref C_NoTable) (.type "BaseException") = some true) (t_NoTable : PySem.W.typeIn K (.ref C_NoTable) = some (.type "type"))
    (a_NoPosition : PySem.W.nsIn K mainGlobals "NoPosition" = some (some (.ref C_NoPosition))) (k_NoPosition : PySem.W.keepIn K (.ref C_NoPosition) = true) (e_NoPosition : PySem.W.excIn K C_NoPosition veBases "ValueError.__new__" = true) (u_NoPosition : PySem.W.subIn K (.ref C_NoPosition) (.type "BaseException") = some true) (t_NoPosition : PySem.W.typeIn K (.ref C_NoPosition) = some (.type "type"))
    (a_is_between : PySem.W.nsIn K mainGlobals "is_between" = some (some (.ref f_is_between))) (l_is_between : K.lookup f_is_between = some ⟨oc_is_between, od_is_between, .func (PySem.W.fnOf "is_between" "is_between" (defArgs s_is_between) (defBody s_is_between) (defScope s_is_between) .none kV_is_between dc_is_between pm_is_between an_is_between cd_is_between ct_is_between), sl_is_between⟩) (c_is_between : PySem.W.codeIn K cd_is_between "is_between" = true) (k_is_between : PySem.W.keepIn K (.ref f_is_between) = true)
    (a_is_shape : PySem.W.nsIn K mainGlobals "is_shape" = some (some (.ref f_is_shape))) (l_is_shape : K.lookup f_is_shape = some ⟨oc_is_shape, od_is_shape, .func (PySem.W.fnOf "is_shape" "is_shape" (defArgs s_is_shape) (defBody s_is_shape) (defScope s_is_shape) .none kV_is_shape dc_is_shape pm_is_shape an_is_shape cd_is_shape ct_is_shape), sl_is_shape⟩) (c_is_shape : PySem.W.codeIn K cd_is_shape "is_shape" = true) (k_is_shape : PySem.W.keepIn K (.ref f_is_shape) = true)
    (a_is_position : PySem.W.nsIn K mainGlobals "is_position" = some (some (.ref f_is_position))) (l_is_position : K.lookup f_is_position = some ⟨oc_is_position, od_is_position, .func (PySem.W.fnOf "is_position" "is_position" (defArgs s_is_position) (defBody s_is_position) (defScope s_is_position) .none kV_is_position dc_is_position pm_is_position an_is_position cd_is_position ct_is_position), sl_is_position⟩) (c_is_position : PySem.W.codeIn K cd_is_position "is_position" = true) (k_is_position : PySem.W.keepIn K (.ref f_is_position) = true)
    (a_is_table : PySem.W.nsIn K mainGlobals "is_table" = some (some (.ref f_is_table))) (l_is_table : K.lookup f_is_table = some ⟨oc_is_table, od_is_table, .func (PySem.W.fnOf "is_table" "is_table" (defArgs s_is_table) (defBody s_is_table) (defScope s_is_table) .none kV_is_table dc_is_table pm_is_table an_is_table cd_is_table ct_is_table), sl_is_table⟩) (c_is_table : PySem.W.codeIn K cd_is_table "is_table" = true) (k_is_table : PySem.W.keepIn K (.ref f_is_table) = true)
    (a_need_table : PySem.W.nsIn K mainGlobals "need_table" = some (some (.ref f_need_table))) (l_need_table : K.lookup f_need_table = some ⟨oc_need_table, od_need_table, .func (PySem.W.fnOf "need_table" "need_table" (defArgs s_need_table) (defBody s_need_table) (defScope s_need_table) .none kV_need_table dc_need_table pm_need_table an_need_table cd_need_table ct_need_table), sl_need_table⟩) (c_need_table : PySem.W.codeIn K cd_need_table "need_table" = true) (k_need_table : PySem.W.keepIn K (.ref f_need_table) = true)
    (a_cell : PySem.W.nsIn K mainGlobals "cell" = some (some (.ref f_cell))) (l_cell : K.lookup f_cell = some ⟨oc_cell, od_cell, .func (PySem.W.fnOf "cell" "cell" (defArgs s_cell) (defBody s_cell) (defScope s_cell) .none kV_cell dc_cell pm_cell an_cell cd_cell ct_cell), sl_cell⟩) (c_cell : PySem.W.codeIn K cd_cell "cell" = true) (k_cell : PySem.W.keepIn K (.ref f_cell) = true)
    (a_all_positions : PySem.W.nsIn K mainGlobals "all_positions" = some (some (.ref f_all_positions))) (l_all_positions : K.lookup f_all_positions = some ⟨oc_all_positions, od_all_positions, .func (PySem.W.fnOf "all_positions" "all_positions" (defArgs s_all_positions) (defBody s_all_positions) (defScope s_all_positions) .none kV_all_positions dc_all_positions pm_all_positions an_all_positions cd_all_positions ct_all_positions), sl_all_positions⟩) (c_all_positions : PySem.W.codeIn K cd_all_positions "all_positions" = true) (k_all_positions : PySem.W.keepIn K (.ref f_all_positions) = true)
    (a_positions : PySem.W.nsIn K mainGlobals "positions" = some (some (.ref f_positions))) (l_positions : K.lookup f_positions = some ⟨oc_positions, od_positions, .func (PySem.W.fnOf "positions" "positions" (defArgs s_positions) (defBody s_positions) (defScope s_positions) .none kV_positions dc_positions pm_positions an_positions cd_positions ct_positions), sl_positions⟩) (c_positions : PySem.W.codeIn K cd_positions "positions" = true) (k_positions : PySem.W.keepIn K (.ref f_positions) = true)
    (a__law_draw : PySem.W.nsIn K mainGlobals "_law_draw" = some (some (.ref f__law_draw))) (l__law_draw : K.lookup f__law_draw = some ⟨oc__law_draw, od__law_draw, .func (PySem.W.fnOf "_law_draw" "_law_draw" (defArgs s__law_draw) (defBody s__law_draw) (defScope s__law_draw) .none kV__law_draw dc__law_draw pm__law_draw an__law_draw cd__law_draw ct__law_draw), sl__law_draw⟩) (c__law_draw : PySem.W.codeIn K cd__law_draw "_law_draw" = true) (k__law_draw : PySem.W.keepIn K (.ref f__law_draw) = true)
    (a__law_pick : PySem.W.nsIn K mainGlobals "_law_pick" = some (some (.ref f__law_pick))) (l__law_pick : K.lookup f__law_pick = some ⟨oc__law_pick, od__law_pick, .func (PySem.W.fnOf "_law_pick" "_law_pick" (defArgs s__law_pick) (defBody s__law_pick) (defScope s__law_pick) .none kV__law_pick dc__law_pick pm__law_pick an__law_pick cd__law_pick ct__law_pick), sl__law_pick⟩) (c__law_pick : PySem.W.codeIn K cd__law_pick "_law_pick" = true) (k__law_pick : PySem.W.keepIn K (.ref f__law_pick) = true)
    (a__law_table : PySem.W.nsIn K mainGlobals "_law_table" = some (some (.ref f__law_table))) (l__law_table : K.lookup f__law_table = some ⟨oc__law_table, od__law_table, .func (PySem.W.fnOf "_law_table" "_law_table" (defArgs s__law_table) (defBody s__law_table) (defScope s__law_table) .none kV__law_table dc__law_table pm__law_table an__law_table cd__law_table ct__law_table), sl__law_table⟩) (c__law_table : PySem.W.codeIn K cd__law_table "_law_table" = true) (k__law_table : PySem.W.keepIn K (.ref f__law_table) = true)
    (a__law_shape : PySem.W.nsIn K mainGlobals "_law_shape" = some (some (.ref f__law_shape))) (l__law_shape : K.lookup f__law_shape = some ⟨oc__law_shape, od__law_shape, .func (PySem.W.fnOf "_law_shape" "_law_shape" (defArgs s__law_shape) (defBody s__law_shape) (defScope s__law_shape) .none kV__law_shape dc__law_shape pm__law_shape an__law_shape cd__law_shape ct__law_shape), sl__law_shape⟩) (c__law_shape : PySem.W.codeIn K cd__law_shape "_law_shape" = true) (k__law_shape : PySem.W.keepIn K (.ref f__law_shape) = true)
    (a__law_rows : PySem.W.nsIn K mainGlobals "_law_rows" = some (some (.ref f__law_rows))) (l__law_rows : K.lookup f__law_rows = some ⟨oc__law_rows, od__law_rows, .func (PySem.W.fnOf "_law_rows" "_law_rows" (defArgs s__law_rows) (defBody s__law_rows) (defScope s__law_rows) .none kV__law_rows dc__law_rows pm__law_rows an__law_rows cd__law_rows ct__law_rows), sl__law_rows⟩) (c__law_rows : PySem.W.codeIn K cd__law_rows "_law_rows" = true) (k__law_rows : PySem.W.keepIn K (.ref f__law_rows) = true)
    (a__law_no_tables : PySem.W.nsIn K mainGlobals "_law_no_tables" = some (some (.ref f__law_no_tables))) (l__law_no_tables : K.lookup f__law_no_tables = some ⟨oc__law_no_tables, od__law_no_tables, .func (PySem.W.fnOf "_law_no_tables" "_law_no_tables" (defArgs s__law_no_tables) (defBody s__law_no_tables) (defScope s__law_no_tables) .none kV__law_no_tables dc__law_no_tables pm__law_no_tables an__law_no_tables cd__law_no_tables ct__law_no_tables), sl__law_no_tables⟩) (c__law_no_tables : PySem.W.codeIn K cd__law_no_tables "_law_no_tables" = true) (k__law_no_tables : PySem.W.keepIn K (.ref f__law_no_tables) = true)
    (a__law_no_table : PySem.W.nsIn K mainGlobals "_law_no_table" = some (some (.ref f__law_no_table))) (l__law_no_table : K.lookup f__law_no_table = some ⟨oc__law_no_table, od__law_no_table, .func (PySem.W.fnOf "_law_no_table" "_law_no_table" (defArgs s__law_no_table) (defBody s__law_no_table) (defScope s__law_no_table) .none kV__law_no_table dc__law_no_table pm__law_no_table an__law_no_table cd__law_no_table ct__law_no_table), sl__law_no_table⟩) (c__law_no_table : PySem.W.codeIn K cd__law_no_table "_law_no_table" = true) (k__law_no_table : PySem.W.keepIn K (.ref f__law_no_table) = true)
    (a_law : PySem.W.nsIn K mainGlobals "law" = some (some (.ref f_law))) (l_law : K.lookup f_law = some ⟨oc_law, od_law, .func (PySem.W.fnOf "law" "law" (defArgs s_law) (defBody s_law) (defScope s_law) .none kV_law dc_law pm_law an_law cd_law ct_law), sl_law⟩) (c_law : PySem.W.codeIn K cd_law "law" = true) (k_law : PySem.W.keepIn K (.ref f_law) = true)
    : ∃ fd : FuncData, (∀ (s : Shared) (u : Value), BindsTo s fd ⟨[u], []⟩ [("_law_script", u)]) ∧ ∀ base : Heap, K.In base → base.Ns mainGlobals mg → FnOk P w K mg base (L2.CX P w) 30 fa fd ["_law_script"] (spOk K w (callN tab 30 15)) := by
  let cls : Nat → Value := fun k => match k with | 0 => .ref C_NoTable | 1 => .ref C_NoPosition | _ => .none
  have d_is_between : DefAt (G cls) K mg "is_between" 0 ["thing", "least", "most"] := def_mk X g a_is_between l_is_between c_is_between k_is_between sc_is_between (fun _ _ _ _ _ _ us hl => match us, hl with | [_, _, _], _ => rfl) rfl (ck_is_between cls)
  have d_is_shape : DefAt (G cls) K mg "is_shape" 1 ["thing"] := def_mk X g a_is_shape l_is_shape c_is_shape k_is_shape sc_is_shape (fun _ _ _ _ _ _ us hl => match us, hl with | [_], _ => rfl) rfl (ck_is_shape cls)
  have d_is_position : DefAt (G cls) K mg "is_position" 2 ["thing", "shape"] := def_mk X g a_is_position l_is_position c_is_position k_is_position sc_is_position (fun _ _ _ _ _ _ us hl => match us, hl with | [_, _], _ => rfl) rfl (ck_is_position cls)
  have d_is_table : DefAt (G cls) K mg "is_table" 3 ["thing"] := def_mk X g a_is_table l_is_table c_is_table k_is_table sc_is_table (fun _ _ _ _ _ _ us hl => match us, hl with | [_], _ => rfl) rfl (ck_is_table cls)
  have d_need_table : DefAt (G cls) K mg "need_table" 4 ["thing"] := def_mk X g a_need_table l_need_table c_need_table k_need_table sc_need_table (fun _ _ _ _ _ _ us hl => match us, hl with | [_], _ => rfl) rfl (ck_need_table cls)
  have d_cell : DefAt (G cls) K mg "cell" 5 ["table", "position"] := def_mk X g a_cell l_cell c_cell k_cell sc_cell (fun _ _ _ _ _ _ us hl => match us, hl with | [_, _], _ => rfl) rfl (ck_cell cls)
  have d_all_positions : DefAt (G cls) K mg "all_positions" 6 ["lengths"] := def_mk X g a_all_positions l_all_positions c_all_positions k_all_positions sc_all_positions (fun _ _ _ _ _ _ us hl => match us, hl with | [_], _ => rfl) rfl (ck_all_positions cls)
  have d_positions : DefAt (G cls) K mg "positions" 7 ["shape"] := def_mk X g a_positions l_positions c_positions k_positions sc_positions (fun _ _ _ _ _ _ us hl => match us, hl with | [_], _ => rfl) rfl (ck_positions cls)
  have d__law_draw : DefAt (G cls) K mg "_law_draw" 8 ["_law_script", "_law_town", "_law_many"] := def_mk X g a__law_draw l__law_draw c__law_draw k__law_draw sc__law_draw (fun _ _ _ _ _ _ us hl => match us, hl with | [_, _, _], _ => rfl) rfl (ck__law_draw cls)
  have d__law_pick : DefAt (G cls) K mg "_law_pick" 9 ["_law_script", "_law_town", "_law_some"] := def_mk X g a__law_pick l__law_pick c__law_pick k__law_pick sc__law_pick (fun _ _ _ _ _ _ us hl => match us, hl with | [_, _, _], _ => rfl) rfl (ck__law_pick cls)
  have d__law_table : DefAt (G cls) K mg "_law_table" 10 ["_law_script", "_law_town", "_law_shape_here"] := def_mk X g a__law_table l__law_table c__law_table k__law_table sc__law_table (fun _ _ _ _ _ _ us hl => match us, hl with | [_, _, _], _ => rfl) rfl (ck__law_table cls)
  have d__law_shape : DefAt (G cls) K mg "_law_shape" 11 ["_law_script", "_law_town"] := def_mk X g a__law_shape l__law_shape c__law_shape k__law_shape sc__law_shape (fun _ _ _ _ _ _ us hl => match us, hl with | [_, _], _ => rfl) rfl (ck__law_shape cls)
  have d__law_rows : DefAt (G cls) K mg "_law_rows" 12 ["_law_lengths_now"] := def_mk X g a__law_rows l__law_rows c__law_rows k__law_rows sc__law_rows (fun _ _ _ _ _ _ us hl => match us, hl with | [_], _ => rfl) rfl (ck__law_rows cls)
  have d__law_no_tables : DefAt (G cls) K mg "_law_no_tables" 13 [] := def_mk X g a__law_no_tables l__law_no_tables c__law_no_tables k__law_no_tables sc__law_no_tables (fun _ _ _ _ _ _ us hl => match us, hl with | [], _ => rfl) rfl (ck__law_no_tables cls)
  have d__law_no_table : DefAt (G cls) K mg "_law_no_table" 14 ["_law_script", "_law_town"] := def_mk X g a__law_no_table l__law_no_table c__law_no_table k__law_no_table sc__law_no_table (fun _ _ _ _ _ _ us hl => match us, hl with | [_, _], _ => rfl) rfl (ck__law_no_table cls)
  have d_law : DefAt (G cls) K mg "law" 15 ["_law_script"] := def_mk X g a_law l_law c_law k_law sc_law (fun _ _ _ _ _ _ us hl => match us, hl with | [_], _ => rfl) rfl (ck_law cls)
  have St : Stat (G cls) K mg := by
    refine ⟨fun x k h => ?_, fun x i h => ?_, ?_, fun x k h => ?_⟩
    · have q : ∀ p ∈ gDefs, ∃ ps, DefAt (G cls) K mg p.1 p.2 ps := by
        unfold gDefs
        refine List.forall_mem_cons.mpr ⟨⟨_, d_is_between⟩, ?_⟩
        refine List.forall_mem_cons.mpr ⟨⟨_, d_is_shape⟩, ?_⟩
        refine List.forall_mem_cons.mpr ⟨⟨_, d_is_position⟩, ?_⟩
        refine List.forall_mem_cons.mpr ⟨⟨_, d_is_table⟩, ?_⟩
        refine List.forall_mem_cons.mpr ⟨⟨_, d_need_table⟩, ?_⟩
        refine List.forall_mem_cons.mpr ⟨⟨_, d_cell⟩, ?_⟩
        refine List.forall_mem_cons.mpr ⟨⟨_, d_all_positions⟩, ?_⟩
        refine List.forall_mem_cons.mpr ⟨⟨_, d_positions⟩, ?_⟩
        refine List.forall_mem_cons.mpr ⟨⟨_, d__law_draw⟩, ?_⟩
        refine List.forall_mem_cons.mpr ⟨⟨_, d__law_pick⟩, ?_⟩
        refine List.forall_mem_cons.mpr ⟨⟨_, d__law_table⟩, ?_⟩
        refine List.forall_mem_cons.mpr ⟨⟨_, d__law_shape⟩, ?_⟩
        refine List.forall_mem_cons.mpr ⟨⟨_, d__law_rows⟩, ?_⟩
        refine List.forall_mem_cons.mpr ⟨⟨_, d__law_no_tables⟩, ?_⟩
        refine List.forall_mem_cons.mpr ⟨⟨_, d__law_no_table⟩, ?_⟩
        refine List.forall_mem_cons.mpr ⟨⟨_, d_law⟩, ?_⟩
        exact fun _ z => nomatch z
      exact q _ (look_mem h)
    · have q : ∀ p ∈ gInts, ∃ u, mg p.1 = some u ∧ RelV (.int p.2) u := by
        unfold gInts
        refine List.forall_mem_cons.mpr ⟨⟨_, PySem.W.mg_of X g n_MOST, _, rfl⟩, ?_⟩
        exact fun _ z => nomatch z
      exact q _ (look_mem h)
    · show ∀ x, x ∈ gBlts → mg x = none
      unfold gBlts
      refine List.forall_mem_cons.mpr ⟨PySem.W.mg_none_of X g z_isinstance, ?_⟩
      refine List.forall_mem_cons.mpr ⟨PySem.W.mg_none_of X g z_int, ?_⟩
      refine List.forall_mem_cons.mpr ⟨PySem.W.mg_none_of X g z_bool, ?_⟩
      refine List.forall_mem_cons.mpr ⟨PySem.W.mg_none_of X g z_tuple, ?_⟩
      refine List.forall_mem_cons.mpr ⟨PySem.W.mg_none_of X g z_all, ?_⟩
      refine List.forall_mem_cons.mpr ⟨PySem.W.mg_none_of X g z_len, ?_⟩
      refine List.forall_mem_cons.mpr ⟨PySem.W.mg_none_of X g z_zip, ?_⟩
      refine List.forall_mem_cons.mpr ⟨PySem.W.mg_none_of X g z_dict, ?_⟩
      refine List.forall_mem_cons.mpr ⟨PySem.W.mg_none_of X g z_range, ?_⟩
      exact fun _ z => nomatch z
    · have q : ∀ p ∈ gClss, ExcAt K mg cls p.1 p.2 := by
        unfold gClss
        refine List.forall_mem_cons.mpr ⟨cls_mk X g a_NoTable k_NoTable e_NoTable u_NoTable t_NoTable, ?_⟩
        refine List.forall_mem_cons.mpr ⟨cls_mk X g a_NoPosition k_NoPosition e_NoPosition u_NoPosition t_NoPosition, ?_⟩
        exact fun _ z => nomatch z
      exact q _ (look_mem h)
  exact law_end hfa St d_law
end K1
end DL
open PySem PySem.W PyProof.Rows
set_option maxHeartbeats 0 in
theorem PySem.Challenge.cw_thinsums_k01_tables_holds : PySem.Challenge.rw_thinsums_k01_tables.Holds := by
  w_on; o_law; k_head; (case hw => w_witness2)
  k_fill
  refine L2.walk_ofB (l := PySem.Challenge.rw_thinsums_k01_tables) (n := 63) (k := 30) (x := "_law_script") (CX := fun w => L2.CX PySem.Challenge.rw_thinsums_k01_tables.prog w) (sp := fun w => DL.spOk _ w (DL.callN DL.K1.tab 30 15)) rfl (by decide) rfl ⟨rfl, by decide, by decide⟩ (fun w h Y => PySem.W.kIn_of Y) ?F (fun _ _ a ns hl hb _ hS => DL.law_sp hS hl (DL.K1.law_true ns hl hb)) (fun _ _ _ _ _ h => DL.cx_no h)
  case F =>
    intro w mg fa h KX G hmg
    refine' DL.K1.all_mk KX G hmg ?n_MOST ?z_isinstance ?z_int ?z_bool ?z_tuple ?z_all ?z_len ?z_zip ?z_dict ?z_range ?a_NoTable ?k_NoTable ?e_NoTable ?u_NoTable ?t_NoTable ?a_NoPosition ?k_NoPosition ?e_NoPosition ?u_NoPosition ?t_NoPosition ?a_is_between ?l_is_between ?c_is_between ?k_is_between ?a_is_shape ?l_is_shape ?c_is_shape ?k_is_shape ?a_is_position ?l_is_position ?c_is_position ?k_is_position ?a_is_table ?l_is_table ?c_is_table ?k_is_table ?a_need_table ?l_need_table ?c_need_table ?k_need_table ?a_cell ?l_cell ?c_cell ?k_cell ?a_all_positions ?l_all_positions ?c_all_positions ?k_all_positions ?a_positions ?l_positions ?c_positions ?k_positions ?a__law_draw ?l__law_draw ?c__law_draw ?k__law_draw ?a__law_pick ?l__law_pick ?c__law_pick ?k__law_pick ?a__law_table ?l__law_table ?c__law_table ?k__law_table ?a__law_shape ?l__law_shape ?c__law_shape ?k__law_shape ?a__law_rows ?l__law_rows ?c__law_rows ?k__law_rows ?a__law_no_tables ?l__law_no_tables ?c__law_no_tables ?k__law_no_tables ?a__law_no_table ?l__law_no_table ?c__law_no_table ?k__law_no_table ?a_law ?l_law ?c_law ?k_law
    (case n_MOST => k_is)
    (case z_isinstance => k_is)
    (case z_int => k_is)
    (case z_bool => k_is)
    (case z_tuple => k_is)
    (case z_all => k_is)
    (case z_len => k_is)
    (case z_zip => k_is)
    (case z_dict => k_is)
    (case z_range => k_is)
    (case a_NoTable => k_is)
    (case k_NoTable => k_is)
    (case e_NoTable => first | k_exc | k_is)
    (case u_NoTable => k_is)
    (case t_NoTable => k_is)
    (case a_NoPosition => k_is)
    (case k_NoPosition => k_is)
    (case e_NoPosition => first | k_exc | k_is)
    (case u_NoPosition => k_is)
    (case t_NoPosition => k_is)
    (case a_is_between => k_is)
    (case l_is_between => k_is)
    (case c_is_between => k_is)
    (case k_is_between => k_is)
    (case a_is_shape => k_is)
    (case l_is_shape => k_is)
    (case c_is_shape => k_is)
    (case k_is_shape => k_is)
    (case a_is_position => k_is)
    (case l_is_position => k_is)
    (case c_is_position => k_is)
    (case k_is_position => k_is)
    (case a_is_table => k_is)
    (case l_is_table => k_is)
    (case c_is_table => k_is)
    (case k_is_table => k_is)
    (case a_need_table => k_is)
    (case l_need_table => k_is)
    (case c_need_table => k_is)
    (case k_need_table => k_is)
    (case a_cell => k_is)
    (case l_cell => k_is)
    (case c_cell => k_is)
    (case k_cell => k_is)
    (case a_all_positions => k_is)
    (case l_all_positions => k_is)
    (case c_all_positions => k_is)
    (case k_all_positions => k_is)
    (case a_positions => k_is)
    (case l_positions => k_is)
    (case c_positions => k_is)
    (case k_positions => k_is)
    (case a__law_draw => k_is)
    (case l__law_draw => k_is)
    (case c__law_draw => k_is)
    (case k__law_draw => k_is)
    (case a__law_pick => k_is)
    (case l__law_pick => k_is)
    (case c__law_pick => k_is)
    (case k__law_pick => k_is)
    (case a__law_table => k_is)
    (case l__law_table => k_is)
    (case c__law_table => k_is)
    (case k__law_table => k_is)
    (case a__law_shape => k_is)
    (case l__law_shape => k_is)
    (case c__law_shape => k_is)
    (case k__law_shape => k_is)
    (case a__law_rows => k_is)
    (case l__law_rows => k_is)
    (case c__law_rows => k_is)
    (case k__law_rows => k_is)
    (case a__law_no_tables => k_is)
    (case l__law_no_tables => k_is)
    (case c__law_no_tables => k_is)
    (case k__law_no_tables => k_is)
    (case a__law_no_table => k_is)
    (case l__law_no_table => k_is)
    (case c__law_no_table => k_is)
    (case k__law_no_table => k_is)
    (case a_law => k_is)
    (case l_law => k_is)
    (case c_law => k_is)
    (case k_law => k_is)

