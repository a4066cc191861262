import PyProof.Rows.All
import Wide.All
import OpenK.AllK
import Wide.FinOn
import HandS.ForMost
import HandS.Flow
import HandS.Walk
import HandS.Style
import HandS.IsInst
import HandS.Deep
import KE.KDictKeyed
import PyProof.StrOps2
import HandS.TupAny
import HandS.TupLen
import KE.GoesEnum
import HandS.HeadHook4
import HandS.HeadEnd
import HandS.Codes
import HandS.Head3
import PySem.Challenge.RW_errandway_k14_plans_walked
section PIx1
set_option Elab.async false
set_option linter.all false
set_option maxRecDepth 100000
/-! Ix1: a small functional language: data, store, syntax, what it does. -/
namespace Ix
open PySem

/-- pure data; fl: a list that never changes; loc: a changeable object by its number -/
inductive D where
  | non | bl (b : Bool) | int (i : Int) | str (x : List Nat) | tup (xs : List D) | fl (xs : List D) | loc (l : Nat)
  deriving Inhabited
/-- what stands in the store -/
inductive C where
  | lst (xs : List D) | dct (kvs : List (D × D)) | lck (kvs : List (D × D)) | ins (c : Nat) (fs : List (Nat × D))
abbrev Store := List C
inductive R (α : Type) where
  | ok (a : α) (s : Store)
  | ex (c : Nat) (d : D) (s : Store)
  | no
abbrev M (α : Type) := Store → R α
def M.bind {α β : Type} (m : M α) (f : α → M β) : M β := fun s => match m s with
  | .ok a s' => f a s'
  | .ex c d s' => .ex c d s'
  | .no => .no
def M.pure {α : Type} (a : α) : M α := fun s => .ok a s
instance : Monad M where
  pure := M.pure
  bind := M.bind
def stuck {α : Type} : M α := fun _ => .no
def newC (c : C) : M D := fun s => .ok (.loc s.length) (s ++ [c])
def getC (l : Nat) : M C := fun s => match s[l]? with
  | some c => .ok c s
  | none => .no
def setC (l : Nat) (c : C) : M Unit := fun s => .ok () (s.set l c)
def ofO {α : Type} : Option α → M α
  | some a => pure a
  | none => stuck
/-- what is read off the store -/
def rd {α : Type} (f : Store → Option α) : M α := fun s => match f s with
  | some a => .ok a s
  | none => .no
abbrev En := List (Option D)
/-- the line of lengths -/
abbrev SL : Nat := 16777216

inductive Bo where | add | sub | mul | fdiv | mod | pow
  deriving DecidableEq
inductive Co where | eq | ne | lt | le | gt | ge | isin | nin | is_ | isn
  deriving DecidableEq
inductive Ty where | int | bool | str | tuple | list
  deriving DecidableEq
/-- builtin functions by value -/
inductive Bl where | len | max | min | tuple | list | sum | all | any | abs | int | str | sorted | dict | repr
  deriving DecidableEq
/-- methods of built-in types -/
inductive Mt where | append | join | pop | extend | split | insert | index | get | setdefault
  deriving DecidableEq
mutual
inductive T where
  | nm (i : Nat)
  | tup (ts : Ts)
inductive Ts where
  | nil
  | cons (t : T) (ts : Ts)
end
mutual
inductive E where
  | var (i : Nat)
  | con (d : D)
  | glo (d : D)
  | bin (o : Bo) (a b : E)
  | neg (a : E)
  | not (a : E)
  | and (es : Es)
  | or (es : Es)
  | cmp (o : Co) (a b : E)
  | cmp2 (o o' : Co) (a b c : E)
  | ife (c a b : E)
  | tup (es : Es)
  | lst (es : Es)
  | dnew
  | ix (a b : E)
  | sl (a : E) (lo hi : O)
  | call (f : Nat) (es : Es)
  | bc (b : Bl) (es : Es)
  | isi (a : E) (t : Ty)
  | mt (m : Mt) (a : E) (es : Es)
  | comp (own : List Nat) (t : T) (i : I) (c : O) (e : E)
inductive Es where
  | nil
  | cons (e : E) (es : Es)
inductive O where
  | none
  | some (e : E)
inductive I where
  | plain (e : E)
  | rng (es : Es)
  | enum (e : E)
end
inductive S where
  | skip
  | seq (a b : S)
  | asg (t : T) (e : E)
  | setix (a b e : E)
  | expr (e : E)
  | ret (e : E)
  | if_ (c : E) (a b : S)
  | for_ (t : T) (i : I) (b : S)
  | while_ (c : E) (b : S)
  | brk
  | cont
  | no

/-! ### values -/
/-- as the model's nested data -/
def py (st : Store) : Nat → D → Option PyData
  | 0, _ => none
  | _ + 1, .non => some .none
  | _ + 1, .bl b => some (.bool b)
  | _ + 1, .int i => some (.int i)
  | _ + 1, .str x => some (.str ⟨x.toArray⟩)
  | n + 1, .tup xs => (xs.mapM (py st n)).map .tuple
  | n + 1, .fl xs => (xs.mapM (py st n)).map .list
  | n + 1, .loc l => match st[l]? with
    | some (.lst xs) => (xs.mapM (py st n)).map .list
    | _ => none
def eqD (st : Store) (a b : D) : Option Bool := match py st 60 a, py st 60 b with
  | some x, some y => if SeqAt.shaped x && SeqAt.shaped y then some (PyData.eqv x y) else none
  | _, _ => none
/-- as a key -/
def nk : Nat → D → Option NestedKey
  | 0, _ => none
  | _ + 1, .non => some .none
  | _ + 1, .bl b => some (.num (if b then 1 else 0))
  | _ + 1, .int i => some (.num i)
  | _ + 1, .str x => some (.text ⟨x.toArray⟩)
  | n + 1, .tup xs => (xs.mapM (nk n)).map .tup
  | _ + 1, _ => none
def truthO (st : Store) : D → Option Bool
  | .non => some false
  | .bl b => some b
  | .int i => some (i != 0)
  | .str x => if x.length ≤ SL then some (x.length != 0) else none
  | .tup xs => some (!xs.isEmpty)
  | .fl xs => some (!xs.isEmpty)
  | .loc l => match st[l]? with
    | some (.lst xs) => some (!xs.isEmpty)
    | _ => none
def truth (d : D) : M Bool := rd fun s => truthO s d
def small64 (i : Int) : Bool := decide (-(2 ^ 64) < i) && decide (i < 2 ^ 64)
/-- the items of a list -/
def lstO (st : Store) : D → Option (List D)
  | .fl xs => some xs
  | .loc l => match st[l]? with
    | some (.lst xs) => some xs
    | _ => none
  | _ => none
/-- the items of a list or a tuple -/
def itemsO (st : Store) : D → Option (List D)
  | .tup xs => some xs
  | d => lstO st d
def lst2 (a b : D) (st : Store) : Option (List D × List D) := match lstO st a, lstO st b with
  | some xs, some ys => some (xs, ys)
  | _, _ => none
def binD : Bo → D → D → M D
  | .add, .int i, .int j => pure (.int (i + j))
  | .sub, .int i, .int j => pure (.int (i - j))
  | .mul, .int i, .int j => if small64 i || small64 j then pure (.int (i * j)) else stuck
  | .fdiv, .int i, .int j => if decide (j ≠ 0) && decide (j.natAbs < 1073741824) then pure (.int (i.fdiv j)) else stuck
  | .mod, .int i, .int j => if decide (j ≠ 0) then pure (.int (i.fmod j)) else stuck
  | .pow, .int i, .int j => if decide (0 ≤ j) && decide (j ≤ 1000000) && decide (i.natAbs < 2 ^ 64) then pure (.int (i ^ j.toNat)) else stuck
  | .add, .str x, .str y => if x.length + y.length ≤ SL then pure (.str (x ++ y)) else stuck
  | .mul, .str x, .int k => if x.length ≤ 100000 && decide (-1000000 ≤ k) && decide (k ≤ 100) then pure (.str (List.replicate k.toNat x).flatten) else stuck
  | .add, .tup xs, .tup ys => if xs.length + ys.length ≤ SL then pure (.tup (xs ++ ys)) else stuck
  | .add, .loc a, .loc b => do
    let p ← rd (lst2 (.loc a) (.loc b))
    if p.1.length + p.2.length ≤ SL then newC (.lst (p.1 ++ p.2)) else stuck
  | _, _, _ => stuck
/-- a text within a text -/
def inStr (x y : List Nat) : Bool := !(Builtin.Str.occurrences (⟨y.toArray⟩ : Str) (⟨x.toArray⟩ : Str) 0 y.length 1).isEmpty
/-- the kind of a key's dict: 1 numbers and texts, 2 tuples -/
def kinds (d : D) : Nat := match d with
  | .int _ => 1
  | .str _ => 1
  | .tup _ => 2
  | _ => 0
/-- may it be asked of a dict with these? -/
def kOk (k : D) (kvs : List (D × D)) : Bool := match kvs with
  | [] => kinds k != 0
  | p :: _ => kinds k != 0 && kinds p.1 == kinds k
/-- flat data as a value -/
def flV : D → Option L2.V
  | .non => some .non
  | .bl b => some (.bl b)
  | .int i => some (.int i)
  | .str x => some (.str ⟨x.toArray⟩)
  | _ => none
def inList (st : Store) (x y : D) : Option Bool := match py st 60 x, py st 60 y with
  | some d, some (.list ds) => if SeqAt.shaped d && SeqAt.shaped (.list ds) then some (ds.any fun z => PyData.eqv z d) else none
  | _, _ => none
def keyIn (k : NestedKey) (kvs : List (D × D)) : Bool := kvs.any fun p => nk 8 p.1 == some k
def inKs (x : D) (kvs : List (D × D)) : Option Bool := match nk 8 x with
  | some k => if kOk x kvs then some (keyIn k kvs) else none
  | none => none
def inO (st : Store) (x y : D) : Option Bool := match y with
  | .str y => (match x with
    | .str z => some (inStr z y)
    | _ => none)
  | .tup ys => (match flV x, ys.mapM flV with
    | some v, some vs => some (L2.inV v vs)
    | _, _ => none)
  | .fl ys => inList st x (.fl ys)
  | .loc l => (match st[l]? with
    | some (.lst _) => inList st x (.loc l)
    | some (.dct kvs) => inKs x kvs
    | some (.lck kvs) => inKs x kvs
    | _ => none)
  | _ => none
def isD : D → D → Option Bool
  | x, .non => some (match x with | .non => true | _ => false)
  | .bl c, .bl b => some (c == b)
  | _, _ => none
def cmpI (p : Int → Int → Bool) : D → D → Option Bool
  | .int i, .int j => some (p i j)
  | _, _ => none
def cmpO (o : Co) (st : Store) (a b : D) : Option Bool := match o with
  | .eq => eqD st a b
  | .ne => (eqD st a b).map (!·)
  | .lt => cmpI (fun i j => decide (i < j)) a b
  | .le => cmpI (fun i j => decide (i ≤ j)) a b
  | .gt => cmpI (fun i j => decide (j < i)) a b
  | .ge => cmpI (fun i j => decide (j ≤ i)) a b
  | .isin => inO st a b
  | .nin => (inO st a b).map (!·)
  | .is_ => isD a b
  | .isn => (isD a b).map (!·)
def cmpB (o : Co) (a b : D) : M Bool := rd fun s => cmpO o s a b
abbrev ixN := L2.ixN
abbrev atI {α : Type} (xs : List α) (i : Int) : Option α := L2.atI xs i
def lookK (k : NestedKey) : List (D × D) → Option D
  | [] => none
  | (a, v) :: r => if nk 8 a == some k then some v else lookK k r
def putK (k : NestedKey) (a v : D) (kvs : List (D × D)) : List (D × D) :=
  if keyIn k kvs then kvs.map (fun p => if nk 8 p.1 == some k then (p.1, v) else p) else kvs ++ [(a, v)]
def atKD (k : D) (kvs : List (D × D)) : Option D := match nk 8 k with
  | some q => if kOk k kvs then lookK q kvs else none
  | none => none
def atO (xs : List D) : D → Option D
  | .int i => atI xs i
  | _ => none
def ixO (st : Store) (x k : D) : Option D := match x with
  | .tup xs => atO xs k
  | .fl xs => atO xs k
  | .str x => (match k with
    | .int i => if x.length ≤ SL then (atI x i).map fun c => .str [c] else none
    | _ => none)
  | .loc l => (match st[l]? with
    | some (.lst xs) => atO xs k
    | some (.dct kvs) => atKD k kvs
    | some (.lck kvs) => atKD k kvs
    | _ => none)
  | _ => none
def ixD (x k : D) : M D := rd fun s => ixO s x k
def setIxD (o k v : D) : M Unit := match o with
  | .loc l => fun s => match s[l]? with
    | some (.lst xs) => (match k with
      | .int i => match ixN xs.length i with
        | some j => .ok () (s.set l (.lst (xs.set j v)))
        | none => .no
      | _ => .no)
    | some (.dct kvs) => (match nk 8 k with
      | some q => if kOk k kvs && decide (kvs.length < SL) then .ok () (s.set l (.dct (putK q k v kvs))) else .no
      | none => .no)
    | _ => .no
  | _ => stuck
/-- a slice's bounds -/
abbrev sIx := HT.sIx
def cutL {α : Type} (xs : List α) (lo hi : Option Int) : List α := (xs.drop (sIx xs.length 0 lo)).take (sIx xs.length xs.length hi - sIx xs.length 0 lo)
def slD (x : D) (lo hi : Option Int) : M D := match x with
  | .tup xs => pure (.tup (cutL xs lo hi))
  | .str x => if x.length ≤ SL then pure (.str (cutL x lo hi)) else stuck
  | d => do
    let xs ← rd fun s => lstO s d
    newC (.lst (cutL xs lo hi))
def lenO (st : Store) : D → Option Nat
  | .str x => if x.length ≤ SL then some x.length else none
  | .tup xs => some xs.length
  | .fl xs => some xs.length
  | .loc l => match st[l]? with
    | some (.lst xs) => some xs.length
    | some (.dct kvs) => some kvs.length
    | some (.lck kvs) => some kvs.length
    | _ => none
  | _ => none
def tyO (st : Store) (d : D) (t : Ty) : Option Bool := match d with
  | .non => some false
  | .bl _ => some (t == .bool || t == .int)
  | .int _ => some (t == .int)
  | .str _ => some (t == .str)
  | .tup _ => some (t == .tuple)
  | .fl _ => some (t == .list)
  | .loc l => match st[l]? with
    | some (.lst _) => some (t == .list)
    | _ => none
def intsOf : List D → Option (List Int)
  | [] => some []
  | .int i :: r => (intsOf r).map (i :: ·)
  | _ => none
def strsOf : List D → Option (List (List Nat))
  | [] => some []
  | .str x :: r => (strsOf r).map (x :: ·)
  | _ => none
def blsOf : List D → Option (List Bool)
  | [] => some []
  | .bl b :: r => (blsOf r).map (b :: ·)
  | _ => none
def bcO (b : Bl) (st : Store) (xs : List D) : Option D := match b, xs with
  | .len, [x] => (lenO st x).map fun (n : Nat) => D.int (n : Int)
  | .max, [.int i, .int j] => some (.int (if j > i then j else i))
  | .min, [.int i, .int j] => some (.int (if j < i then j else i))
  | .abs, [.int i] => some (.int (if i < 0 then -i else i))
  | .int, [.int i] => some (.int i)
  | .int, [.bl k] => some (.int (if k then 1 else 0))
  | .tuple, [x] => (itemsO st x).map .tup
  | .sum, [x] => ((lstO st x).bind intsOf).map fun ns => .int ns.sum
  | .all, [x] => ((lstO st x).bind blsOf).map fun bs => .bl (bs.all id)
  | .any, [x] => ((lstO st x).bind blsOf).map fun bs => .bl (bs.any id)
  | _, _ => none
def bcD (b : Bl) (xs : List D) : M D := match b, xs with
  | .list, [x] => do
    let ys ← rd fun s => itemsO s x
    newC (.lst ys)
  | b, xs => rd fun s => bcO b s xs
def joinL (sep : List Nat) : List (List Nat) → List Nat
  | [] => []
  | [x] => x
  | x :: r => x ++ sep ++ joinL sep r
def joinO (z : List Nat) (st : Store) (x : D) : Option D := match (itemsO st x).bind strsOf with
  | some xs => if (xs.map List.length).sum + z.length * xs.length ≤ SL then some (.str (joinL z xs)) else none
  | none => none
def appendD (x : D) (ys : List D) : M D := match x, ys with
  | .loc l, [y] => fun s => match s[l]? with
    | some (.lst xs) => if xs.length < SL then .ok .non (s.set l (.lst (xs ++ [y]))) else .no
    | _ => .no
  | _, _ => stuck
def popD (x : D) (ys : List D) : M D := match x, ys with
  | .loc l, [] => fun s => match s[l]? with
    | some (.lst xs) => match xs[xs.length - 1]? with
      | some y => .ok y (s.set l (.lst xs.dropLast))
      | none => .no
    | _ => .no
  | _, _ => stuck
def joinD (x : D) (ys : List D) : M D := match x, ys with
  | .str z, [x] => rd fun s => joinO z s x
  | _, _ => stuck
/-- has it such a method? -/
def mtTyO (m : Mt) (st : Store) (x : D) : Option Unit := match m with
  | .append => (match x with
    | .loc l => (match st[l]? with
      | some (.lst _) => some ()
      | _ => none)
    | _ => none)
  | .pop => (match x with
    | .loc l => (match st[l]? with
      | some (.lst _) => some ()
      | _ => none)
    | _ => none)
  | .join => (match x with
    | .str _ => some ()
    | _ => none)
  | _ => none
def mtD : Mt → D → List D → M D
  | .append => appendD
  | .pop => popD
  | .join => joinD
  | _ => fun _ _ => stuck

/-! ### what is walked -/
inductive It where
  | tup (xs : List D) | lst (l : Nat) | rng (lo c : Int) (n : Nat) | enum (it : It)
/-- the i-th item, if there is one -/
def nxt : It → Nat → M (Option D)
  | .tup xs, i => pure xs[i]?
  | .lst l, i => do
    let xs ← rd fun s => lstO s (.loc l)
    pure xs[i]?
  | .rng lo c n, i => pure (if i < n then some (.int (lo + i * c)) else none)
  | .enum it, i => do
    let r ← nxt it i
    pure (r.map fun d => .tup [.int i, d])
def itOf : D → M It
  | .tup xs => pure (.tup xs)
  | .fl xs => pure (.tup xs)
  | .str x => pure (.tup (x.map fun c => .str [c]))
  | .loc l => do
    let _ ← rd fun s => lstO s (.loc l)
    pure (.lst l)
  | _ => stuck
/-- what is walked by enumerate -/
def itOfE : D → M It
  | .str _ => stuck
  | d => itOf d
def in62 (i : Int) : Bool := decide (-(2 ^ 62) ≤ i) && decide (i < 2 ^ 62)
def rngOf : List D → M It
  | [.int j] => if in62 j then pure (.rng 0 1 j.toNat) else stuck
  | [.int i, .int j] => if in62 i && in62 j then pure (.rng i 1 (j - i).toNat) else stuck
  | [.int i, .int j, .int c] => if decide (c ≠ 0) && decide (c.natAbs < 1073741824) && Builtin.Range.small i j c && decide (0 ≤ Builtin.Range.rangeSize i j c) then pure (.rng i c (Builtin.Range.rangeSize i j c).toNat) else stuck
  | _ => stuck
def setV (v : En) (i : Nat) (d : D) : En := v.set i (some d)
/-- a name's value -/
def atV (v : En) (i : Nat) : Option D := match v[i]? with
  | some d => d
  | none => none
mutual
def T.slots : T → List Nat
  | .nm i => [i]
  | .tup ts => ts.slots
def Ts.slots : Ts → List Nat
  | .nil => []
  | .cons t ts => t.slots ++ ts.slots
end
def Ts.len : Ts → Nat
  | .nil => 0
  | .cons _ ts => ts.len + 1
mutual
def bindT : T → D → En → M En
  | .nm i, d, v => pure (setV v i d)
  | .tup ts, .tup xs, v => if xs.length = ts.len then bindTs ts xs v else stuck
  | .tup _, _, _ => stuck
def bindTs : Ts → List D → En → M En
  | .nil, [], v => pure v
  | .cons t ts, d :: ds, v => do
    let v' ← bindT t d v
    bindTs ts ds v'
  | _, _, _ => stuck
end
def wipeV (v : En) : List Nat → En
  | [] => v
  | i :: r => (wipeV v r).set i none
/-- a comprehension's loop -/
def compL (it : It) (turn : D → M (Option D)) : Nat → Nat → List D → M (List D)
  | 0, _, _ => stuck
  | f + 1, i, acc => do
    match ← nxt it i with
    | none => pure acc
    | some d => match ← turn d with
      | none => compL it turn f (i + 1) acc
      | some y => if acc.length < SL then compL it turn f (i + 1) (acc ++ [y]) else stuck
/-- where nothing may be raised -/
def noEx {α : Type} (m : M α) : M α := fun s => match m s with
  | .ok a s' => .ok a s'
  | _ => .no
/-- a comprehension's turn -/
def turnL (own : List Nat) (t : T) (fc : En → M Bool) (fe : En → M D) (v : En) (d : D) : M (Option D) := noEx (do
  let v' ← bindT t d (wipeV v own)
  let k ← fc v'
  if k then do
    let y ← fe v'
    pure (some y)
  else pure none)
structure Cf where
  fu : Nat
  call : Nat → List D → M D
mutual
def ev (c : Cf) : E → En → M D
  | .var i, v => rd fun _ => atV v i
  | .con d, _ => pure d
  | .glo d, _ => pure d
  | .bin o a b, v => do
    let x ← ev c a v
    let y ← ev c b v
    binD o x y
  | .neg a, v => do
    match ← ev c a v with
    | .int i => pure (.int (-i))
    | _ => stuck
  | .not a, v => do
    let x ← ev c a v
    let k ← truth x
    pure (.bl (!k))
  | .and es, v => evAnd c es v
  | .or es, v => evOr c es v
  | .cmp o a b, v => do
    let x ← ev c a v
    let y ← ev c b v
    let k ← cmpB o x y
    pure (.bl k)
  | .cmp2 o o' a b e, v => do
    let x ← ev c a v
    let y ← ev c b v
    let k ← cmpB o x y
    if k then do
      let z ← ev c e v
      let k' ← cmpB o' y z
      pure (.bl k')
    else pure (.bl false)
  | .ife t a b, v => do
    let x ← ev c t v
    let k ← truth x
    if k then ev c a v else ev c b v
  | .tup es, v => do
    let xs ← evs c es v
    if xs.length ≤ SL then pure (.tup xs) else stuck
  | .lst es, v => do
    let xs ← evs c es v
    if xs.length ≤ SL then newC (.lst xs) else stuck
  | .dnew, _ => newC (.dct [])
  | .ix a b, v => do
    let x ← ev c a v
    let y ← ev c b v
    ixD x y
  | .sl a lo hi, v => do
    let x ← ev c a v
    let l ← evO c lo v
    let h ← evO c hi v
    slD x l h
  | .call f es, v => do
    let xs ← evs c es v
    c.call f xs
  | .bc b es, v => do
    let xs ← evs c es v
    bcD b xs
  | .isi a t, v => do
    let x ← ev c a v
    let k ← rd fun s => tyO s x t
    pure (.bl k)
  | .mt m a es, v => do
    let x ← ev c a v
    let _ ← rd fun s => mtTyO m s x
    let xs ← evs c es v
    mtD m x xs
  | .comp own t i q e, v => do
    let it ← evI c i v
    let xs ← compL it (turnL own t (evC c q) (ev c e) v) c.fu 0 []
    newC (.lst xs)
def evs (c : Cf) : Es → En → M (List D)
  | .nil, _ => pure []
  | .cons e es, v => do
    let x ← ev c e v
    let xs ← evs c es v
    pure (x :: xs)
def evAnd (c : Cf) : Es → En → M D
  | .nil, _ => stuck
  | .cons e .nil, v => ev c e v
  | .cons e es, v => do
    let x ← ev c e v
    let k ← truth x
    if k then evAnd c es v else pure x
def evOr (c : Cf) : Es → En → M D
  | .nil, _ => stuck
  | .cons e .nil, v => ev c e v
  | .cons e es, v => do
    let x ← ev c e v
    let k ← truth x
    if k then pure x else evOr c es v
/-- a slice's end -/
def evO (c : Cf) : O → En → M (Option Int)
  | .none, _ => pure none
  | .some e, v => do
    match ← ev c e v with
    | .int i => pure (some i)
    | _ => stuck
/-- a comprehension's test -/
def evC (c : Cf) : O → En → M Bool
  | .none, _ => pure true
  | .some e, v => do
    let x ← ev c e v
    truth x
def evI (c : Cf) : I → En → M It
  | .plain e, v => do
    let x ← ev c e v
    itOf x
  | .rng es, v => do
    let xs ← evs c es v
    rngOf xs
  | .enum e, v => do
    let x ← ev c e v
    let it ← itOfE x
    pure (.enum it)
end
def Es.len : Es → Nat
  | .nil => 0
  | .cons _ es => es.len + 1
theorem ok_bind {α β : Type} {f : M α} {k : α → M β} {st st' : Store} {b : β} (h : (Bind.bind (m := M) f k) st = .ok b st') : ∃ a s, f st = .ok a s ∧ k a s = .ok b st' := by
  have h' : M.bind f k st = .ok b st' := h
  unfold M.bind at h'
  split at h'
  · rename_i a s e
    exact ⟨a, s, e, h'⟩
  · cases h'
  · cases h'
theorem evs_len {c : Cf} : ∀ (es : Es) (v : En) (st : Store) (ds : List D) (st' : Store), evs c es v st = .ok ds st' → ds.length = es.len
  | .nil, v, st, ds, st', h => by cases h; rfl
  | .cons e es, v, st, ds, st', h => by
    obtain ⟨x, s1, h1, h2⟩ := ok_bind h
    obtain ⟨xs, s2, h3, h4⟩ := ok_bind h2
    cases h4
    rw [List.length_cons, evs_len es v s1 xs _ h3]
    rfl
/-! ### statements -/
inductive Fl where
  | nx (v : En) | rt (d : D) | bk (v : En) | ct (v : En)
def forL (it : It) (turn : D → En → M Fl) : Nat → Nat → En → M Fl
  | 0, _, _ => stuck
  | f + 1, i, v => do
    match ← nxt it i with
    | none => pure (.nx v)
    | some d => match ← turn d v with
      | .nx v' => forL it turn f (i + 1) v'
      | .ct v' => forL it turn f (i + 1) v'
      | .bk v' => pure (.nx v')
      | .rt d => pure (.rt d)
def whileL (test : En → M Bool) (turn : En → M Fl) : Nat → En → M Fl
  | 0, _ => stuck
  | f + 1, v => do
    if ← test v then
      match ← turn v with
      | .nx v' => whileL test turn f v'
      | .ct v' => whileL test turn f v'
      | .bk v' => pure (.nx v')
      | .rt d => pure (.rt d)
    else pure (.nx v)
def ex (c : Cf) : S → En → M Fl
  | .skip, v => pure (.nx v)
  | .seq a b, v => do
    match ← ex c a v with
    | .nx v' => ex c b v'
    | f => pure f
  | .asg t e, v => do
    let x ← ev c e v
    let v' ← bindT t x v
    pure (.nx v')
  | .setix a b e, v => do
    let x ← ev c e v
    let o ← ev c a v
    let k ← ev c b v
    setIxD o k x
    pure (.nx v)
  | .expr e, v => do
    let _ ← ev c e v
    pure (.nx v)
  | .ret e, v => do
    let x ← ev c e v
    pure (.rt x)
  | .if_ t a b, v => do
    let x ← ev c t v
    let k ← truth x
    if k then ex c a v else ex c b v
  | .for_ t i b, v => do
    let it ← evI c i v
    forL it (fun d v => do
      let v' ← bindT t d v
      ex c b v') c.fu 0 v
  | .while_ t b, v => whileL (fun v => do
      let x ← ev c t v
      truth x) (fun v => ex c b v) c.fu v
  | .brk, v => pure (.bk v)
  | .cont, v => pure (.ct v)
  | .no, _ => stuck
/-- a def: its parameters' number, its slots' number, its body -/
structure Fd where
  ps : Nat
  n : Nat
  body : S
def run (c : Cf) (f : Fd) (xs : List D) : M D := do
  if xs.length = f.ps then
    match ← ex c f.body (xs.map some ++ List.replicate (f.n - xs.length) none) with
    | .rt d => pure d
    | .nx _ => pure .non
    | _ => stuck
  else stuck
/-- the call at a level -/
def callN (fu : Nat) (tb : Nat → Option Fd) : Nat → Nat → List D → M D
  | 0, _, _ => stuck
  | k + 1, f, xs => match tb f with
    | some fd => run ⟨fu, callN fu tb k⟩ fd xs
    | none => stuck
end Ix
end PIx1

section PIx2
set_option Elab.async false
set_option linter.all false
set_option maxRecDepth 100000
set_option autoImplicit false
/-! Ix2: the store beside the abstract heap. -/
namespace Ix
open PySem L2

/-- what is known of the module -/
structure Gx where
  cls : Nat → Addr
  fld : Nat → Str
  ent : NestedKey × Addr × Value → DictEntry

/-- a tuple, tracked or written; a list that is known or written -/
def TQ (K : PySem.W.Frag) (H : Hp) (a : Addr) (vs : List V) : Prop := H a = some (.tup vs) ∨
  ∃ (o : Obj) (its : Array Value) (n : Nat), K.lookup a = some o ∧ o.cls = .type "tuple" ∧ o.data = .seq its n ∧ its.size ≤ sizeLine ∧ Vals vs its.toList
def LQ (K : PySem.W.Frag) (H : Hp) (a : Addr) (vs : List V) : Prop := (∃ o, H a = some (.frz o (.lst vs))) ∨
  ∃ (o : Obj) (its : Array Value) (n : Nat), K.lookup a = some o ∧ o.cls = .type "list" ∧ o.dict = none ∧ o.data = .seq its n ∧ its.size ≤ sizeLine ∧ Vals vs its.toList
theorem TQ.sq {K : PySem.W.Frag} {H : Hp} {a : Addr} {vs : List V} (h : TQ K H a vs) : SqT K H a vs := h.imp (fun e => .inl e) id
theorem LQ.sq {K : PySem.W.Frag} {H : Hp} {a : Addr} {vs : List V} (h : LQ K H a vs) : SqL K H a vs := h.imp (fun e => .inr e) id
mutual
inductive RD (K : PySem.W.Frag) (m : List Addr) (H : Hp) : D → V → Prop
  | non : RD K m H .non .non
  | bl (b : Bool) : RD K m H (.bl b) (.bl b)
  | int (i : Int) : RD K m H (.int i) (.int i)
  | str (x : List Nat) : RD K m H (.str x) (.str ⟨x.toArray⟩)
  | tup {a : Addr} {vs : List V} {ds : List D} : TQ K H a vs → RDs K m H ds vs → RD K m H (.tup ds) (.ref a)
  | fl {a : Addr} {vs : List V} {ds : List D} : LQ K H a vs → RDs K m H ds vs → RD K m H (.fl ds) (.ref a)
  | loc {l : Nat} {a : Addr} : m[l]? = some a → RD K m H (.loc l) (.ref a)
inductive RDs (K : PySem.W.Frag) (m : List Addr) (H : Hp) : List D → List V → Prop
  | nil : RDs K m H [] []
  | cons {d : D} {ds : List D} {v : V} {vs : List V} : RD K m H d v → RDs K m H ds vs → RDs K m H (d :: ds) (v :: vs)
end
/-- a known object -/
def OB (a : Addr) (ob : Obj) : HO := .ext fun h => h.get? a = some ob
/-- the keys and values of a dict with numbers and texts -/
def KVR (K : PySem.W.Frag) (m : List Addr) (H : Hp) (kvs : List (D × D)) (ws : List (Key × V)) : Prop :=
  Paired (fun (p : D × D) (q : Key × V) => RD K m H p.1 (kV q.1) ∧ RD K m H p.2 q.2) kvs ws
/-- of one with tuples -/
def KTR (K : PySem.W.Frag) (m : List Addr) (H : Hp) (kvs : List (D × D)) (xs : List (NestedKey × Addr × Value)) : Prop :=
  Paired (fun (p : D × D) (q : NestedKey × Addr × Value) => nk 8 p.1 = some q.1 ∧ RD K m H p.1 (.ref q.2.1) ∧ kinds p.1 = 2 ∧ ∃ x, RD K m H p.2 x ∧ RelV x q.2.2) kvs xs
structure TupD (G : Gx) (a : Addr) (ob : Obj) (xs : List (NestedKey × Addr × Value)) : Prop where
  ex : ob.ExactDict
  da : ∃ es ep, ob.data = .dict es ep ∧ es.toList = xs.map G.ent
  nd : (xs.map (·.1)).Nodup
  sy : (a == sysModules) = false
  sz : xs.length ≤ sizeLine
def DRx (K : PySem.W.Frag) (G : Gx) (m : List Addr) (H : Hp) (a : Addr) (kvs : List (D × D)) (o : HO) : Prop :=
  (∃ ws, o = .dK ws ∧ KVR K m H kvs ws) ∨ (kvs ≠ [] ∧ ∃ ob xs, o = OB a ob ∧ TupD G a ob xs ∧ KTR K m H kvs xs)
def CR (K : PySem.W.Frag) (G : Gx) (m : List Addr) (H : Hp) (a : Addr) : C → Prop
  | .lst ds => ∃ vs, H a = some (.lst vs) ∧ RDs K m H ds vs
  | .dct kvs => ∃ o, H a = some o ∧ DRx K G m H a kvs o
  | .lck kvs => ∃ od o, H a = some (.frz od o) ∧ DRx K G m H a kvs o
  | .ins c fs => ∃ dx gs, H a = some (.ins (G.cls c) dx gs) ∧ Paired (fun (p : Nat × D) (q : Str × V) => q.1 = G.fld p.1 ∧ RD K m H p.2 q.2) fs gs
/-- the slots -/
def ER (K : PySem.W.Frag) (m : List Addr) (H : Hp) (v : En) (σ : St) : Prop :=
  v.length = σ.length ∧ ∀ (i : Nat) (d : D), v[i]? = some (some d) → ∃ x : V, σ[i]? = some (some x) ∧ RD K m H d x
structure Sm (K : PySem.W.Frag) (G : Gx) (m : List Addr) (σ : St) (H : Hp) (v : En) (st : Store) : Prop where
  len : m.length = st.length
  nd : m.Nodup
  con : ∀ (l : Nat) (c : C), st[l]? = some c → ∃ a : Addr, m[l]? = some a ∧ CR K G m H a c
  env : ER K m H v σ
/-- what every step keeps -/
structure Ext (m m' : List Addr) (H H' : Hp) : Prop where
  pre : m <+: m'
  new : ∀ x, x ∈ m' → x ∈ m ∨ H x = none
  tup : ∀ a xs, H a = some (.tup xs) → H' a = some (.tup xs)
  frz : ∀ a o u, H a = some (.frz o u) → H' a = some (.frz o u)
  out : ∀ a o, a ∉ m → H a = some o → H' a = some o
theorem Ext.refl {m : List Addr} {H : Hp} : Ext m m H H := ⟨List.prefix_refl _, fun _ h => .inl h, fun _ _ h => h, fun _ _ _ h => h, fun _ _ _ h => h⟩
theorem Ext.trans {m m1 m2 : List Addr} {H H1 H2 : Hp} (a : Ext m m1 H H1) (b : Ext m1 m2 H1 H2) : Ext m m2 H H2 := by
  have nw : ∀ x, x ∈ m2 → x ∈ m ∨ H x = none := fun x hx => by
    rcases b.new x hx with h | h
    · exact a.new x h
    · by_cases hm : x ∈ m
      · exact .inl hm
      · cases q : H x with
        | none => exact .inr rfl
        | some o => rw [a.out x o hm q] at h; cases h
  refine ⟨a.pre.trans b.pre, nw, fun c xs h => b.tup c xs (a.tup c xs h), fun c o u h => b.frz c o u (a.frz c o u h), fun c o n h => b.out c o (fun z => ?_) (a.out c o n h)⟩
  rcases a.new c z with q | q
  · exact n q
  · rw [h] at q; cases q
/-- what data lean on -/
structure Kp (m m' : List Addr) (H H' : Hp) : Prop where
  pre : m <+: m'
  tup : ∀ a xs, H a = some (.tup xs) → H' a = some (.tup xs)
  frz : ∀ a o u, H a = some (.frz o u) → H' a = some (.frz o u)
theorem Ext.kp {m m' : List Addr} {H H' : Hp} (x : Ext m m' H H') : Kp m m' H H' := ⟨x.pre, x.tup, x.frz⟩
theorem Kp.refl {m : List Addr} {H : Hp} : Kp m m H H := ⟨List.prefix_refl _, fun _ _ h => h, fun _ _ _ h => h⟩
theorem Kp.get {m m' : List Addr} {H H' : Hp} (p : Kp m m' H H') {l : Nat} {a : Addr} (h : m[l]? = some a) : m'[l]? = some a := by
  obtain ⟨r, rfl⟩ := p.pre
  rw [List.getElem?_append_left (List.getElem?_eq_some_iff.mp h).1]
  exact h
theorem Ext.get {m m' : List Addr} {H H' : Hp} (p : Ext m m' H H') {l : Nat} {a : Addr} (h : m[l]? = some a) : m'[l]? = some a := p.kp.get h
theorem TQ.kp {K : PySem.W.Frag} {m m' : List Addr} {H H' : Hp} {a : Addr} {vs : List V} (x : Kp m m' H H') (h : TQ K H a vs) : TQ K H' a vs := h.imp (fun e => x.tup _ _ e) id
theorem LQ.kp {K : PySem.W.Frag} {m m' : List Addr} {H H' : Hp} {a : Addr} {vs : List V} (x : Kp m m' H H') (h : LQ K H a vs) : LQ K H' a vs := h.imp (fun ⟨o, q⟩ => ⟨o, x.frz _ _ _ q⟩) id
mutual
theorem RD.kp {K : PySem.W.Frag} {m m' : List Addr} {H H' : Hp} (x : Kp m m' H H') : ∀ {d : D} {v : V}, RD K m H d v → RD K m' H' d v
  | _, _, .non => .non
  | _, _, .bl b => .bl b
  | _, _, .int i => .int i
  | _, _, .str z => .str z
  | _, _, .tup h r => .tup (h.kp x) (RDs.kp x r)
  | _, _, .fl h r => .fl (h.kp x) (RDs.kp x r)
  | _, _, .loc h => .loc (x.get h)
theorem RDs.kp {K : PySem.W.Frag} {m m' : List Addr} {H H' : Hp} (x : Kp m m' H H') : ∀ {ds : List D} {vs : List V}, RDs K m H ds vs → RDs K m' H' ds vs
  | _, _, .nil => .nil
  | _, _, .cons h r => .cons (RD.kp x h) (RDs.kp x r)
end
theorem KVR.kp {K : PySem.W.Frag} {m m' : List Addr} {H H' : Hp} (x : Kp m m' H H') {kvs : List (D × D)} {ws : List (Key × V)} (h : KVR K m H kvs ws) : KVR K m' H' kvs ws :=
  Paired.mapP h fun _ _ q => ⟨q.1.kp x, q.2.kp x⟩
theorem KTR.kp {K : PySem.W.Frag} {m m' : List Addr} {H H' : Hp} (x : Kp m m' H H') {kvs : List (D × D)} {ws : List (NestedKey × Addr × Value)} (h : KTR K m H kvs ws) : KTR K m' H' kvs ws :=
  Paired.mapP h fun _ _ q => ⟨q.1, q.2.1.kp x, q.2.2.1, let ⟨y, a, b⟩ := q.2.2.2; ⟨y, a.kp x, b⟩⟩
theorem DRx.kp {K : PySem.W.Frag} {G : Gx} {m m' : List Addr} {H H' : Hp} {a : Addr} {kvs : List (D × D)} {o : HO} (x : Kp m m' H H') (h : DRx K G m H a kvs o) : DRx K G m' H' a kvs o := by
  rcases h with ⟨ws, e, r⟩ | ⟨ne, ob, xs, e, t, r⟩
  · exact .inl ⟨ws, e, r.kp x⟩
  · exact .inr ⟨ne, ob, xs, e, t, r.kp x⟩
theorem DRx.no {K : PySem.W.Frag} {G : Gx} {m : List Addr} {H : Hp} {a : Addr} {kvs : List (D × D)} {o : HO} (h : DRx K G m H a kvs o) : (∀ xs, o ≠ .tup xs) ∧ (∀ od u, o ≠ .frz od u) ∧ Mut (some o) := by
  rcases h with ⟨ws, rfl, r⟩ | ⟨ne, ob, xs, rfl, t, r⟩
  · exact ⟨(fun _ z => nomatch z), (fun _ _ z => nomatch z), trivial⟩
  · exact ⟨(fun _ z => nomatch z), (fun _ _ z => nomatch z), trivial⟩
theorem ER.kp {K : PySem.W.Frag} {m m' : List Addr} {H H' : Hp} (x : Kp m m' H H') {v : En} {σ : St} (h : ER K m H v σ) : ER K m' H' v σ :=
  ⟨h.1, fun i d e => let ⟨y, a, b⟩ := h.2 i d e; ⟨y, a, b.kp x⟩⟩
/-- a container that itself is as it was -/
theorem CR.kp {K : PySem.W.Frag} {G : Gx} {m m' : List Addr} {H H' : Hp} {a : Addr} {c : C} (x : Kp m m' H H') (ha : ∀ o, H a = some o → H' a = some o) (h : CR K G m H a c) : CR K G m' H' a c := by
  cases c with
  | lst ds => obtain ⟨vs, e, r⟩ := h; exact ⟨vs, ha _ e, r.kp x⟩
  | dct kvs => obtain ⟨o, e, r⟩ := h; exact ⟨o, ha _ e, r.kp x⟩
  | lck kvs => obtain ⟨od, o, e, r⟩ := h; exact ⟨od, o, ha _ e, r.kp x⟩
  | ins c fs => obtain ⟨dx, gs, e, r⟩ := h; exact ⟨dx, gs, ha _ e, Paired.mapP r fun _ _ q => ⟨q.1, q.2.kp x⟩⟩
theorem TQ.ext {K : PySem.W.Frag} {m m' : List Addr} {H H' : Hp} {a : Addr} {vs : List V} (x : Ext m m' H H') (h : TQ K H a vs) : TQ K H' a vs := h.kp x.kp
theorem LQ.ext {K : PySem.W.Frag} {m m' : List Addr} {H H' : Hp} {a : Addr} {vs : List V} (x : Ext m m' H H') (h : LQ K H a vs) : LQ K H' a vs := h.kp x.kp
theorem RD.ext {K : PySem.W.Frag} {m m' : List Addr} {H H' : Hp} {d : D} {v : V} (x : Ext m m' H H') (h : RD K m H d v) : RD K m' H' d v := h.kp x.kp
theorem RDs.ext {K : PySem.W.Frag} {m m' : List Addr} {H H' : Hp} {d : List D} {v : List V} (x : Ext m m' H H') (h : RDs K m H d v) : RDs K m' H' d v := h.kp x.kp
theorem KVR.ext {K : PySem.W.Frag} {m m' : List Addr} {H H' : Hp} {kvs : List (D × D)} {ws : List (Key × V)} (x : Ext m m' H H') (h : KVR K m H kvs ws) : KVR K m' H' kvs ws := h.kp x.kp
theorem KTR.ext {K : PySem.W.Frag} {m m' : List Addr} {H H' : Hp} {kvs : List (D × D)} {ws : List (NestedKey × Addr × Value)} (x : Ext m m' H H') (h : KTR K m H kvs ws) : KTR K m' H' kvs ws := h.kp x.kp
theorem DRx.ext {K : PySem.W.Frag} {G : Gx} {m m' : List Addr} {H H' : Hp} {a : Addr} {kvs : List (D × D)} {o : HO} (x : Ext m m' H H') (h : DRx K G m H a kvs o) : DRx K G m' H' a kvs o := h.kp x.kp
theorem ER.ext {K : PySem.W.Frag} {m m' : List Addr} {H H' : Hp} {v : En} {σ : St} (x : Ext m m' H H') (h : ER K m H v σ) : ER K m' H' v σ := h.kp x.kp
theorem CR.ext {K : PySem.W.Frag} {G : Gx} {m m' : List Addr} {H H' : Hp} {a : Addr} {c : C} (x : Ext m m' H H') (ha : ∀ o, H a = some o → H' a = some o) (h : CR K G m H a c) : CR K G m' H' a c := h.kp x.kp ha
theorem CR.there {K : PySem.W.Frag} {G : Gx} {m : List Addr} {H : Hp} {a : Addr} {c : C} (h : CR K G m H a c) : ∃ o, H a = some o ∧ (∀ xs, o ≠ .tup xs) := by
  cases c with
  | lst ds => obtain ⟨vs, e, r⟩ := h; exact ⟨_, e, fun _ z => nomatch z⟩
  | dct kvs => obtain ⟨o, e, r⟩ := h; exact ⟨_, e, r.no.1⟩
  | lck kvs => obtain ⟨ws, o, e, r⟩ := h; exact ⟨_, e, fun _ z => nomatch z⟩
  | ins c fs => obtain ⟨dx, gs, e, r⟩ := h; exact ⟨_, e, fun _ z => nomatch z⟩

section
variable {K : PySem.W.Frag} {G : Gx} {m : List Addr} {σ : St} {H : Hp} {v : En} {st : Store}
theorem Sm.at {l : Nat} {c : C} {a : Addr} (S : Sm K G m σ H v st) (h : st[l]? = some c) (ha : m[l]? = some a) : CR K G m H a c := by
  obtain ⟨b, e, r⟩ := S.con l c h
  rw [ha] at e; cases e
  exact r
theorem Sm.get (S : Sm K G m σ H v st) {l : Nat} {a : Addr} (ha : m[l]? = some a) : ∃ c, st[l]? = some c ∧ CR K G m H a c := by
  have h1 := (List.getElem?_eq_some_iff.mp ha).1
  rw [S.len] at h1
  exact ⟨st[l], by simp [h1], S.at (by simp [h1]) ha⟩
theorem Sm.mem (S : Sm K G m σ H v st) {a : Addr} (ha : a ∈ m) : ∃ o, H a = some o ∧ ∀ xs, o ≠ .tup xs := by
  obtain ⟨l, hl⟩ := List.mem_iff_getElem?.mp ha
  obtain ⟨c, _, r⟩ := S.get hl
  exact r.there
theorem Sm.notmem (S : Sm K G m σ H v st) {p : Addr} (h : H p = none) : p ∉ m := fun z => by
  obtain ⟨o, e, _⟩ := S.mem z
  rw [h] at e; cases e
/-- the heap grew -/
theorem Sm.grow {H' : Hp} {σ' : St} (S : Sm K G m σ H v st) (x : Ext m m H H') (hm : ∀ a ∈ m, ∀ o, H a = some o → H' a = some o) : Sm K G m σ H' v st :=
  ⟨S.len, S.nd, fun l c e => let ⟨a, h1, h2⟩ := S.con l c e; ⟨a, h1, h2.ext x (hm a (List.mem_of_getElem? h1))⟩, S.env.ext x⟩
theorem ext_fresh {p : Addr} {o : HO} (h : H p = none) : Ext m m H (upd H p o) :=
  ⟨List.prefix_refl _, fun _ q => .inl q, fun a xs e => by rw [upd_ne (ne_of_none e h)]; exact e, fun a b u e => by rw [upd_ne (ne_of_none e h)]; exact e, fun a b _ e => by rw [upd_ne (ne_of_none e h)]; exact e⟩
/-- a new thing outside the store -/
theorem ext_alloc {p : Addr} {o : HO} (h : H p = none) : Ext m (m ++ [p]) H (upd H p o) :=
  ⟨List.prefix_append _ _, fun x hx => by
    rcases List.mem_append.mp hx with q | q
    · exact .inl q
    · exact .inr (by rw [List.mem_singleton.mp q]; exact h), (ext_fresh (m := m) h).tup, (ext_fresh (m := m) h).frz, (ext_fresh (m := m) h).out⟩
theorem Sm.fresh {p : Addr} {o : HO} (S : Sm K G m σ H v st) (h : H p = none) : Sm K G m σ (upd H p o) v st :=
  S.grow (σ' := σ) (ext_fresh h) fun a _ u e => by rw [upd_ne (ne_of_none e h)]; exact e
/-- a new thing of the store -/
theorem Sm.alloc {p : Addr} {o : HO} {c : C} (S : Sm K G m σ H v st) (h : H p = none) (r : CR K G (m ++ [p]) (upd H p o) p c) : Sm K G (m ++ [p]) σ (upd H p o) v (st ++ [c]) := by
  have x : Ext m (m ++ [p]) H (upd H p o) := ext_alloc h
  refine ⟨by simp [S.len], ?_, fun l d e => ?_, S.env.ext x⟩
  · rw [List.nodup_append]
    exact ⟨S.nd, by simp, fun a ha b hb e => by
      have e' : b = p := by simpa using hb
      subst e' e
      exact S.notmem h ha⟩
  · by_cases hl : l < st.length
    · rw [List.getElem?_append_left hl] at e
      obtain ⟨a, h1, h2⟩ := S.con l d e
      exact ⟨a, x.get h1, h2.ext x fun u q => by rw [upd_ne (ne_of_none q h)]; exact q⟩
    · have hl' : l = st.length := by
        have := (List.getElem?_eq_some_iff.mp e).1
        simp at this
        omega
      subst hl'
      simp at e
      subst e
      exact ⟨p, by rw [← S.len]; simp, r⟩
theorem kp_side {p : Addr} {xs : List V} {o : HO} (h : H p = some (.lst xs)) : Kp m m H (upd H p o) :=
  ⟨List.prefix_refl _, fun a ys e => by
    have : a ≠ p := fun z => by subst z; rw [h] at e; cases e
    rw [upd_ne this]; exact e, fun a b u e => by
    have : a ≠ p := fun z => by subst z; rw [h] at e; cases e
    rw [upd_ne this]; exact e⟩
/-- a list beside the store is written -/
theorem Sm.side {p : Addr} {xs : List V} {o : HO} (S : Sm K G m σ H v st) (hn : p ∉ m) (h : H p = some (.lst xs)) : Sm K G m σ (upd H p o) v st :=
  ⟨S.len, S.nd, fun l c e => let ⟨a, h1, h2⟩ := S.con l c e; ⟨a, h1, h2.kp (kp_side h) fun u q => by
    have : a ≠ p := fun z => by subst z; exact hn (List.mem_of_getElem? h1)
    rw [upd_ne this]; exact q⟩, S.env.kp (kp_side h)⟩
/-- .. comes into it -/
theorem Sm.adopt {p : Addr} {vs : List V} {ds : List D} (S : Sm K G m σ H v st) (hn : p ∉ m) (h : H p = some (.lst vs)) (r : RDs K m H ds vs) : Sm K G (m ++ [p]) σ H v (st ++ [.lst ds]) := by
  have x : Kp m (m ++ [p]) H H := ⟨List.prefix_append _ _, fun _ _ h => h, fun _ _ _ h => h⟩
  refine ⟨by simp [S.len], ?_, fun l d e => ?_, S.env.kp x⟩
  · rw [List.nodup_append]
    exact ⟨S.nd, by simp, fun a ha b hb e => by
      have e' : b = p := by simpa using hb
      subst e' e
      exact hn ha⟩
  · by_cases hl : l < st.length
    · rw [List.getElem?_append_left hl] at e
      obtain ⟨a, h1, h2⟩ := S.con l d e
      exact ⟨a, x.get h1, h2.kp x fun u q => q⟩
    · have hl' : l = st.length := by
        have := (List.getElem?_eq_some_iff.mp e).1
        simp at this
        omega
      subst hl'
      simp at e
      subst e
      exact ⟨p, by rw [← S.len]; simp, vs, h, r.kp x⟩
theorem Ext.side {m' : List Addr} {H0 : Hp} {p : Addr} {o : HO} (x : Ext m m' H0 H) (h : H0 p = none) : Ext m m' H0 (upd H p o) :=
  ⟨x.pre, x.new, fun a xs e => by rw [upd_ne (ne_of_none e h)]; exact x.tup a xs e, fun a b u e => by rw [upd_ne (ne_of_none e h)]; exact x.frz a b u e, fun a b n e => by rw [upd_ne (ne_of_none e h)]; exact x.out a b n e⟩
theorem Ext.adopt {m' : List Addr} {H0 : Hp} {p : Addr} (x : Ext m m' H0 H) (h : H0 p = none) : Ext m (m' ++ [p]) H0 H :=
  ⟨x.pre.trans (List.prefix_append _ _), fun a ha => by
    rcases List.mem_append.mp ha with q | q
    · exact x.new a q
    · exact .inr (by rw [List.mem_singleton.mp q]; exact h), x.tup, x.frz, x.out⟩
theorem ext_write {a : Addr} {o : HO} (ha : a ∈ m) (hw : ∀ u, H a = some u → (∀ xs, u ≠ .tup xs) ∧ ∀ o w, u ≠ .frz o w) : Ext m m H (upd H a o) :=
  ⟨List.prefix_refl _, fun _ q => .inl q, fun b xs e => by
    have : b ≠ a := fun z => by subst z; exact (hw _ e).1 _ rfl
    rw [upd_ne this]; exact e,
   fun b o' u e => by
    have : b ≠ a := fun z => by subst z; exact (hw _ e).2 _ _ rfl
    rw [upd_ne this]; exact e,
   fun b o' n e => by
    have : b ≠ a := fun z => by subst z; exact n ha
    rw [upd_ne this]; exact e⟩
/-- a thing of the store is written -/
theorem Sm.write {l : Nat} {a : Addr} {o : HO} {c : C} (S : Sm K G m σ H v st) (ha : m[l]? = some a) (x : Ext m m H (upd H a o)) (r : CR K G m (upd H a o) a c) : Sm K G m σ (upd H a o) v (st.set l c) := by
  refine ⟨by simp [S.len], S.nd, fun k d e => ?_, S.env.ext x⟩
  by_cases hk : k = l
  · subst hk
    have hl := (List.getElem?_eq_some_iff.mp ha).1
    rw [S.len] at hl
    rw [List.getElem?_set_self hl] at e
    cases e
    exact ⟨a, ha, r⟩
  · rw [List.getElem?_set_ne (Ne.symm hk)] at e
    obtain ⟨b, h1, h2⟩ := S.con k d e
    have hb : b ≠ a := fun z => by
      subst z
      obtain ⟨p1, q1⟩ := List.getElem?_eq_some_iff.mp ha
      obtain ⟨p2, q2⟩ := List.getElem?_eq_some_iff.mp h1
      exact hk ((List.getElem_inj S.nd).mp (q2.trans q1.symm))
    exact ⟨b, h1, h2.ext x fun u q => by rw [upd_ne hb]; exact q⟩
theorem RDs.length : ∀ {ds : List D} {vs : List V}, RDs K m H ds vs → ds.length = vs.length
  | _, _, .nil => rfl
  | _, _, .cons _ r => by rw [List.length_cons, List.length_cons, r.length]
theorem RDs.get : ∀ {ds : List D} {vs : List V} {i : Nat} {d : D}, RDs K m H ds vs → ds[i]? = some d → ∃ x, vs[i]? = some x ∧ RD K m H d x
  | _, _, _, _, .nil, e => by simp at e
  | _, _, 0, _, .cons h _, e => by simp at e; subst e; exact ⟨_, rfl, h⟩
  | _, _, i + 1, _, .cons _ r, e => by
    obtain ⟨x, a, b⟩ := r.get (i := i) (by simpa using e)
    exact ⟨x, by simpa using a, b⟩
theorem RDs.append : ∀ {ds es : List D} {vs ws : List V}, RDs K m H ds vs → RDs K m H es ws → RDs K m H (ds ++ es) (vs ++ ws)
  | _, _, _, _, .nil, s => s
  | _, _, _, _, .cons h r, s => .cons h (r.append s)
theorem RDs.take : ∀ {ds : List D} {vs : List V} (n : Nat), RDs K m H ds vs → RDs K m H (ds.take n) (vs.take n)
  | _, _, 0, _ => .nil
  | _, _, _ + 1, .nil => .nil
  | _, _, n + 1, .cons h r => .cons h (r.take n)
theorem RDs.drop : ∀ {ds : List D} {vs : List V} (n : Nat), RDs K m H ds vs → RDs K m H (ds.drop n) (vs.drop n)
  | _, _, 0, r => r
  | _, _, _ + 1, .nil => .nil
  | _, _, n + 1, .cons _ r => r.drop n
theorem RDs.set {d : D} {x : V} (h : RD K m H d x) : ∀ {ds : List D} {vs : List V} (i : Nat), RDs K m H ds vs → RDs K m H (ds.set i d) (vs.set i x)
  | _, _, _, .nil => .nil
  | _, _, 0, .cons _ r => .cons h r
  | _, _, i + 1, .cons q r => .cons q (r.set h i)
theorem RDs.dropLast {ds : List D} {vs : List V} (h : RDs K m H ds vs) : RDs K m H ds.dropLast vs.dropLast := by
  rw [List.dropLast_eq_take, List.dropLast_eq_take, h.length]
  exact h.take _
theorem ER.set {i : Nat} {d : D} {x : V} (h : ER K m H v σ) (r : RD K m H d x) : ER K m H (v.set i (some d)) (σ.set i (some x)) := by
  refine ⟨by simp [h.1], fun j e q => ?_⟩
  by_cases hj : j = i
  · subst hj
    have hl : j < v.length := by
      have := (List.getElem?_eq_some_iff.mp q).1
      simpa using this
    rw [List.getElem?_set_self hl] at q
    cases q
    exact ⟨x, by rw [List.getElem?_set_self (h.1 ▸ hl)], r⟩
  · rw [List.getElem?_set_ne (Ne.symm hj)] at q
    obtain ⟨y, a, b⟩ := h.2 j e q
    exact ⟨y, by rw [List.getElem?_set_ne (Ne.symm hj)]; exact a, b⟩
theorem Sm.env' {σ' : St} {v' : En} (S : Sm K G m σ H v st) (h : ER K m H v' σ') : Sm K G m σ' H v' st := ⟨S.len, S.nd, S.con, h⟩
theorem Sm.setV {i : Nat} {d : D} {x : V} (S : Sm K G m σ H v st) (r : RD K m H d x) : Sm K G m (σ.set i (some x)) H (Ix.setV v i d) st := S.env' (S.env.set r)
end
end Ix
end PIx2

section PIx3
set_option Elab.async false
set_option linter.all false
set_option maxRecDepth 100000
set_option autoImplicit false
/-! Ix3: what is wanted behind a run; operators by values. -/
namespace Ix
open PySem PySem.Spec L2
open PyProof.Rows hiding St

section
variable (K : PySem.W.Frag) (G : Gx) (EX : XK)
/-- an exception's field -/
def XR (m : List Addr) (H : Hp) (d : D) (od : Option Addr) : Prop := (d = .non ∧ od = none) ∨ ∃ x a v, d = .tup [x] ∧ od = some a ∧ H a = some (.xd [(("row" : Str), v)]) ∧ RD K m H x v
def PoX (m : List Addr) (H : Hp) (c : Nat) (d : D) (st' : Store) : Prop := ∀ m' od H', Ext m m' H H' → Sm K G m' [] H' [] st' → XR K m' H' d od → EX (.ref (G.cls c)) od H'
def Po {α β : Type} (rel : List Addr → Hp → α → β → Prop) (m : List Addr) (σ : St) (H : Hp) (v : En) (r : R α) (Q : β → Hp → Prop) : Prop := match r with
  | .ok a st' => ∀ m' b H', Ext m m' H H' → Sm K G m' σ H' v st' → rel m' H' a b → Q b H'
  | .ex c d st' => PoX K G EX m H c d st'
  | .no => False
def tP {α β : Type} (rel : List Addr → Hp → α → β → Prop) (f : En → M α) : St → Hp → (β → Hp → Prop) → Prop := fun σ H Q => ∃ m v st, Sm K G m σ H v st ∧ Po K G EX rel m σ H v (f v st) Q
end
/-- equal things -/
abbrev rE (α : Type) : List Addr → Hp → α → α → Prop := fun _ _ a b => a = b
abbrev rT : List Addr → Hp → Unit → Unit → Prop := fun _ _ _ _ => True
section
variable {K : PySem.W.Frag} {G : Gx} {EX : XK} {m : List Addr} {σ : St} {H : Hp} {v : En} {st : Store}
theorem PoX.shift {m1 : List Addr} {H1 : Hp} {c : Nat} {d : D} {st' : Store} (e : Ext m m1 H H1) (h : PoX K G EX m H c d st') : PoX K G EX m1 H1 c d st' :=
  fun m' od H' e' S x => h m' od H' (e.trans e') S x
theorem Po.shift {α β : Type} {rel : List Addr → Hp → α → β → Prop} {r : R α} {Q : β → Hp → Prop} {m1 : List Addr} {H1 : Hp} (e : Ext m m1 H H1) (h : Po K G EX rel m σ H v r Q) : Po K G EX rel m1 σ H1 v r Q := by
  cases r with
  | ok a st' => exact fun m' b H' e' S r => h m' b H' (e.trans e') S r
  | ex c d st' => exact PoX.shift e h
  | no => exact h
theorem Po.mono {α β γ : Type} {rel : List Addr → Hp → α → β → Prop} {rel' : List Addr → Hp → α → γ → Prop} {r : R α} {Q : β → Hp → Prop} {Q' : γ → Hp → Prop} (h : Po K G EX rel m σ H v r Q)
    (hQ : ∀ m' a c H' st', Ext m m' H H' → Sm K G m' σ H' v st' → rel' m' H' a c → ∃ b, rel m' H' a b ∧ (Q b H' → Q' c H')) : Po K G EX rel' m σ H v r Q' := by
  cases r with
  | ok a st' => exact fun m' c H' e S r => let ⟨b, h1, h2⟩ := hQ m' a c H' st' e S r; h2 (h m' b H' e S h1)
  | ex c d st' => exact h
  | no => exact h
theorem bind_run {α β : Type} (f : M α) (k : α → M β) (st : Store) : (Bind.bind (m := M) f k) st = (match f st with | .ok a s' => k a s' | .ex c d s' => .ex c d s' | .no => .no) := rfl
/-- what stands when a part has run -/
def Mid {α β γ δ : Type} (K : PySem.W.Frag) (G : Gx) (EX : XK) (relA : List Addr → Hp → α → β → Prop) (relC : List Addr → Hp → γ → δ → Prop) (m : List Addr) (σ : St) (H : Hp) (v : En) (k : α → M γ) (Q : δ → Hp → Prop) (b : β) (H1 : Hp) : Prop :=
  ∃ m1 st1 a, Ext m m1 H H1 ∧ Sm K G m1 σ H1 v st1 ∧ relA m1 H1 a b ∧ Po K G EX relC m1 σ H1 v (k a st1) Q
theorem Po.bind {α β γ δ : Type} {relA : List Addr → Hp → α → β → Prop} {relC : List Addr → Hp → γ → δ → Prop} {fa : M α} {k : α → M γ} {Q : δ → Hp → Prop}
    (h : Po K G EX relC m σ H v ((Bind.bind (m := M) fa k) st) Q) : Po K G EX relA m σ H v (fa st) (Mid K G EX relA relC m σ H v k Q) := by
  have e : (Bind.bind (m := M) fa k) st = (match fa st with | .ok a s' => k a s' | .ex c d s' => .ex c d s' | .no => .no) := rfl
  rw [e] at h
  cases q : fa st with
  | ok a st1 =>
    rw [q] at h
    exact fun m1 b H1 e1 S1 r1 => ⟨m1, st1, a, e1, S1, r1, h.shift e1⟩
  | ex c d st1 => rw [q] at h; exact h
  | no => rw [q] at h; exact h
theorem Po.ok {α β : Type} {rel : List Addr → Hp → α → β → Prop} {a : α} {b : β} {Q : β → Hp → Prop} (h : Po K G EX rel m σ H v (.ok a st) Q) (S : Sm K G m σ H v st) (r : rel m H a b) : Q b H := h m b H Ext.refl S r
theorem Po.pure {α β : Type} {rel : List Addr → Hp → α → β → Prop} {a : α} {b : β} {Q : β → Hp → Prop} (h : Po K G EX rel m σ H v ((Pure.pure a : M α) st) Q) (S : Sm K G m σ H v st) (r : rel m H a b) : Q b H := h m b H Ext.refl S r
/-- a new list of the store -/
theorem Po.newL {ds : List D} {vs : List V} {Q : VK} {p : Addr} (h : Po K G EX (RD K) m σ H v (newC (.lst ds) st) Q) (S : Sm K G m σ H v st) (r : RDs K m H ds vs) (hp : H p = none) : Q (.ref p) (upd H p (.lst vs)) := by
  have x : Ext m (m ++ [p]) H (upd H p (.lst vs)) := ext_alloc hp
  refine h (m ++ [p]) (.ref p) _ x (S.alloc hp ⟨vs, upd_same, r.ext x⟩) (.loc ?_)
  rw [← S.len]; simp
/-- a new tuple -/
theorem Po.newT {ds : List D} {vs : List V} {Q : VK} {p : Addr} (h : Po K G EX (RD K) m σ H v ((Pure.pure (.tup ds) : M D) st) Q) (S : Sm K G m σ H v st) (r : RDs K m H ds vs) (hp : H p = none) : Q (.ref p) (upd H p (.tup vs)) :=
  h m (.ref p) _ (ext_fresh hp) (S.fresh hp) (.tup (.inl upd_same) (r.ext (ext_fresh hp)))
theorem RD.list {l : Nat} {x : V} {xs : List D} (r : RD K m H (.loc l) x) (S : Sm K G m σ H v st) (e : st[l]? = some (.lst xs)) : ∃ a vs, x = .ref a ∧ m[l]? = some a ∧ H a = some (.lst vs) ∧ RDs K m H xs vs := by
  cases r with
  | loc ha =>
    obtain ⟨vs, h1, h2⟩ := S.at e ha
    exact ⟨_, vs, rfl, ha, h1, h2⟩
theorem rd_eq {α β : Type} {f : Store → Option α} {k : α → M β} {st : Store} : (Bind.bind (m := M) (rd f) k) st = (match f st with | some a => k a st | none => .no) := by
  show M.bind (rd f) k st = _
  unfold M.bind rd
  cases f st <;> rfl
theorem rd_some {α : Type} {f : Store → Option α} {st : Store} {a : α} (h : f st = some a) : rd f st = .ok a st := by
  unfold rd
  rw [h]
theorem rd_none {α : Type} {f : Store → Option α} {st : Store} (h : f st = none) : rd f st = .no := by
  unfold rd
  rw [h]
theorem lstO_RD {d : D} {x : V} {xs : List D} (r : RD K m H d x) (S : Sm K G m σ H v st) (e : lstO st d = some xs) : ∃ a vs, x = .ref a ∧ SqL K H a vs ∧ RDs K m H xs vs := by
  cases r with
  | fl hs rs =>
    cases e
    exact ⟨_, _, rfl, hs.sq, rs⟩
  | @loc l a hl =>
    have e' : (match st[l]? with | some (.lst xs) => some xs | _ => none) = some xs := e
    split at e'
    · rename_i ys h1
      cases e'
      obtain ⟨vs, h2, h3⟩ := S.at h1 hl
      exact ⟨_, vs, rfl, SqL.of h2, h3⟩
    · cases e'
  | _ => cases e
theorem itemsO_RD {d : D} {x : V} {xs : List D} (r : RD K m H d x) (S : Sm K G m σ H v st) (e : itemsO st d = some xs) : ∃ a vs, x = .ref a ∧ (SqL K H a vs ∨ TQ K H a vs) ∧ RDs K m H xs vs := by
  cases r with
  | tup hs rs => cases e; exact ⟨_, _, rfl, .inr hs, rs⟩
  | fl hs rs =>
    obtain ⟨a, vs, h1, h2, h3⟩ := lstO_RD (.fl hs rs) S e
    exact ⟨a, vs, h1, .inl h2, h3⟩
  | loc hl =>
    obtain ⟨a, vs, h1, h2, h3⟩ := lstO_RD (.loc hl) S e
    exact ⟨a, vs, h1, .inl h2, h3⟩
  | _ => cases e
theorem Po.rd {α β γ : Type} {rel : List Addr → Hp → β → γ → Prop} {f : Store → Option α} {k : α → M β} {Q : γ → Hp → Prop} (h : Po K G EX rel m σ H v ((Bind.bind (m := M) (rd f) k) st) Q) : ∃ a, f st = some a ∧ Po K G EX rel m σ H v (k a st) Q := by
  rw [rd_eq] at h
  split at h
  · rename_i a e
    exact ⟨a, e, h⟩
  · exact h.elim
theorem Po.rd1 {α γ : Type} {rel : List Addr → Hp → α → γ → Prop} {f : Store → Option α} {Q : γ → Hp → Prop} (h : Po K G EX rel m σ H v (Ix.rd f st) Q) : ∃ a, f st = some a ∧ Po K G EX rel m σ H v (.ok a st) Q := by
  unfold Ix.rd at h
  split at h
  · rename_i a e
    exact ⟨a, e, h⟩
  · exact h.elim
end
end Ix
end PIx3

section PIx4
set_option Elab.async false
set_option linter.all false
set_option maxRecDepth 100000
set_option autoImplicit false
set_option maxHeartbeats 1000000
/-! Ix4: operators by values. -/
namespace Ix
open PySem PySem.Spec L2
open PyProof.Rows hiding St

def bop : Bo → Operator
  | .add => .Add
  | .sub => .Sub
  | .mul => .Mult
  | .fdiv => .FloorDiv
  | .mod => .Mod
  | .pow => .Pow
def vP2 (K : PySem.W.Frag) (G : Gx) (EX : XK) (f : D → D → M D) : R2 := fun x y H Q => ∃ m σ v st d e, Sm K G m σ H v st ∧ RD K m H d x ∧ RD K m H e y ∧ Po K G EX (RD K) m σ H v (f d e st) Q

theorem str_ext {a b : Str} (h : a.cps.toList = b.cps.toList) : a = b := by
  obtain ⟨a⟩ := a; obtain ⟨b⟩ := b
  have : a = b := Array.toList_inj.mp h
  rw [this]
theorem app_codes (x y : List Nat) : (⟨x.toArray⟩ : Str) ++ (⟨y.toArray⟩ : Str) = ⟨(x ++ y).toArray⟩ := by
  show (⟨x.toArray ++ y.toArray⟩ : Str) = _
  rw [List.append_toArray]
theorem rep_codes (x : List Nat) : ∀ n : Nat, (List.foldl (fun x1 x2 => x1 ++ x2) #[] (List.replicate n x.toArray)) = (List.replicate n x).flatten.toArray := by
  have go : ∀ (n : Nat) (acc : List Nat), List.foldl (fun (x1 x2 : Array Nat) => x1 ++ x2) acc.toArray (List.replicate n x.toArray) = (acc ++ (List.replicate n x).flatten).toArray := by
    intro n
    induction n with
    | zero => intro acc; simp
    | succ n ih =>
      intro acc
      rw [List.replicate_succ, List.foldl_cons, List.append_toArray, ih]
      simp [List.replicate_succ, List.append_assoc]
  intro n
  have := go n []
  simpa using this

theorem lst_loc {st : Store} {l : Nat} {xs : List D} (e : lstO st (.loc l) = some xs) : st[l]? = some (.lst xs) := by
  have e' : (match st[l]? with | some (.lst xs) => some xs | _ => none) = some xs := e
  split at e'
  · rename_i h
    cases e'
    exact h
  · cases e'
section
variable {X : Cx} {G : Gx} {EX : XK}
theorem mul_str_ok {pins : List (Addr × Obj)} {s : Shared} {σ : St} {H : Hp} {x : List Nat} {k : Int} {v u : Value} {Q : VK} (I : Inv X pins σ H s) (rx : RelV (.str ⟨x.toArray⟩) v) (ry : RelV (.int k) u)
    (h1 : x.length ≤ 100000) (h2 : -1000000 ≤ k) (h3 : k ≤ 100) (h : Q (.str ⟨(List.replicate k.toNat x).flatten.toArray⟩) H) : wpAny (model X.prog X.w) X.A (binaryOp .Mult v u) (EP X pins σ Q) X.xe s := by
  obtain ⟨t, rfl⟩ := rx
  obtain ⟨t', rfl⟩ := ry
  have hlen : (⟨x.toArray⟩ : Str).length = x.length := by show x.toArray.size = _; simp
  refine PySem.P.mul_str (by rw [decide_eq_false (by omega), decide_eq_false (by omega)]; rfl) (fun hk hne => ?_) (fun hk hne => ?_) ?_
  · rw [hlen]
    have hb : (2 ^ 63 - 1) / k ≥ 100000 := by
      have e : (2 ^ 63 - 1 : Int) / 100 ≤ (2 ^ 63 - 1) / k := Int.le_ediv_of_mul_le (by omega) (by
        have : (2 ^ 63 - 1 : Int) / 100 * k ≤ (2 ^ 63 - 1 : Int) / 100 * 100 := Int.mul_le_mul_of_nonneg_left h3 (by decide)
        have h5 : (2 ^ 63 - 1 : Int) / 100 * 100 ≤ 2 ^ 63 - 1 := by decide
        omega)
      have : (2 ^ 63 - 1 : Int) / 100 ≥ 100000 := by decide
      omega
    omega
  · rw [hlen]
    have : x.length * k.toNat ≤ 100000 * 100 := Nat.mul_le_mul h1 (by omega)
    unfold Builtin.Str.tooLong
    rw [sizeLine_eq]
    exact decide_eq_false (by omega)
  · by_cases hk : k < 1
    · rw [if_pos hk]
      have e0 : k.toNat = 0 := by omega
      rw [e0] at h
      exact ⟨by decide, ⟨.str ⟨#[]⟩, H, I.tok _, ⟨_, rfl⟩, h⟩⟩
    · rw [if_neg hk]
      by_cases hne : (k == 1 || (⟨x.toArray⟩ : Str).length == 0) = true
      · rw [if_pos hne]
        rw [hlen] at hne
        have e : (List.replicate k.toNat x).flatten = x := by
          rcases Bool.or_eq_true_iff.mp hne with q | q
          · have : k = 1 := by simpa using q
            subst this
            simp
          · have : x = [] := by simpa using q
            subst this
            simp
        rw [e] at h
        exact ⟨.str ⟨x.toArray⟩, H, I, ⟨_, rfl⟩, h⟩
      · rw [if_neg hne]
        refine ⟨?_, ⟨.str ⟨(List.replicate k.toNat x).flatten.toArray⟩, H, I.tok _, ⟨s.toks, ?_⟩, h⟩⟩
        · show (Array.size _) ≤ _
          rw [rep_codes, List.size_toArray, List.length_flatten]
          simp
          rw [sizeLine_eq]
          have : k.toNat * x.length ≤ 100 * 100000 := Nat.mul_le_mul (by omega) h1
          omega
        · rw [rep_codes]
theorem op_bin (o : Bo) : OpR X (binaryOp (bop o)) (vP2 X.K G EX (binD o)) := by
  intro pins s σ H x y v u Q I rx ry h
  obtain ⟨m, τ, w, st, d, e, S, r1, r2, h⟩ := h
  unfold binD at h
  split at h
  · cases r1; cases r2
    exact op_add pins s σ H _ _ v u Q I rx ry ⟨_, _, rfl, rfl, h.pure S (.int _)⟩
  · cases r1; cases r2
    exact op_sub pins s σ H _ _ v u Q I rx ry ⟨_, _, rfl, rfl, h.pure S (.int _)⟩
  · cases r1; cases r2
    split at h
    · rename_i hc
      refine op_mul pins s σ H _ _ v u Q I rx ry ⟨_, _, rfl, rfl, ?_, h.pure S (.int _)⟩
      simp only [small64, Bool.or_eq_true, Bool.and_eq_true, decide_eq_true_eq] at hc
      exact hc
    · exact h.elim
  · cases r1; cases r2
    split at h
    · rename_i hc
      simp only [Bool.and_eq_true, decide_eq_true_eq] at hc
      exact op_fdivN pins s σ H _ _ v u Q I rx ry ⟨_, _, rfl, rfl, hc, h.pure S (.int _)⟩
    · exact h.elim
  · cases r1; cases r2
    split at h
    · rename_i hc
      simp only [decide_eq_true_eq] at hc
      exact op_modN pins s σ H _ _ v u Q I rx ry ⟨_, _, rfl, rfl, hc, h.pure S (.int _)⟩
    · exact h.elim
  · cases r1; cases r2
    split at h
    · rename_i hc
      simp only [Bool.and_eq_true, decide_eq_true_eq] at hc
      exact op_pow pins s σ H _ _ v u Q I rx ry ⟨_, _, rfl, rfl, ⟨hc.1.1, hc.1.2, hc.2⟩, h.pure S (.int _)⟩
    · exact h.elim
  · cases r1; cases r2
    split at h
    · rename_i hc
      refine op_add_str pins s σ H _ _ v u Q I rx ry ⟨_, _, rfl, rfl, ?_, ?_⟩
      · rw [sizeLine_eq]
        show Array.size _ + Array.size _ ≤ _
        simpa using hc
      · rw [app_codes]
        exact h.pure S (.str _)
    · exact h.elim
  · cases r1; cases r2
    split at h
    · rename_i hc
      simp only [Bool.and_eq_true, decide_eq_true_eq] at hc
      exact mul_str_ok I rx ry hc.1.1 hc.1.2 hc.2 (h.pure S (.str _))
    · exact h.elim
  · cases r1 with
    | @tup _ _ ds hs1 q1 =>
      cases r2 with
      | @tup _ _ es hs2 q2 =>
        split at h
        · rename_i hc
          refine op_catA pins s σ H _ _ v u Q I rx ry ⟨_, _, _, _, rfl, rfl, hs1.sq, hs2.sq, ?_, ?_⟩
          · rw [sizeLine_eq, ← q1.length, ← q2.length]; exact hc
          · have l1 := q1.length
            have l2 := q2.length
            refine ⟨fun e => ?_, fun e0 e => ?_, fun _ _ p hp => h.newT S (q1.append q2) hp⟩
            · subst e
              cases q1
              exact h.pure S (.tup hs2 (by simpa using q2))
            · subst e
              cases q2
              exact h.pure S (.tup hs1 (by simpa using q1))
        · exact h.elim
  · obtain ⟨p, e, h⟩ := h.rd
    unfold lst2 at e
    split at e
    · rename_i e1 e2
      cases e
      obtain ⟨a, vs, rfl, _, ha, qa⟩ := r1.list S (lst_loc e1)
      obtain ⟨b, ws, rfl, _, hb, qb⟩ := r2.list S (lst_loc e2)
      split at h
      · rename_i hc
        exact op_cat pins s σ H _ _ v u Q I rx ry ⟨_, _, _, _, rfl, rfl, ha, hb, by rw [sizeLine_eq, ← qa.length, ← qb.length]; exact hc, fun p hp => h.newL S (qa.append qb) hp⟩
      · exact h.elim
    · cases e
  · exact h.elim
end
end Ix
end PIx4

section PIx5
set_option Elab.async false
set_option linter.all false
set_option maxRecDepth 100000
set_option autoImplicit false
set_option maxHeartbeats 1000000
/-! Ix5: comparisons by values. -/
namespace Ix
open PySem PySem.Spec L2
open PyProof.Rows hiding St

def cop : Co → CmpOp
  | .eq => .Eq
  | .ne => .NotEq
  | .lt => .Lt
  | .le => .LtE
  | .gt => .Gt
  | .ge => .GtE
  | .isin => .In
  | .nin => .NotIn
  | .is_ => .Is
  | .isn => .IsNot
def cmpV (o : Co) (a b : D) : M D := do
  let k ← cmpB o a b
  pure (.bl k)
section
variable {K : PySem.W.Frag} {G : Gx} {EX : XK} {m : List Addr} {σ : St} {H : Hp} {v : En} {st : Store}
theorem mapM_cons {α β : Type} {f : α → Option β} {x : α} {xs : List α} {ys : List β} (h : (x :: xs).mapM f = some ys) : ∃ y zs, f x = some y ∧ xs.mapM f = some zs ∧ ys = y :: zs := by
  rw [List.mapM_cons] at h
  cases e : f x with
  | none => rw [e] at h; cases h
  | some y =>
    rw [e] at h
    cases q : xs.mapM f with
    | none =>
      rw [q] at h
      cases h
    | some zs =>
      rw [q] at h
      cases h
      exact ⟨y, zs, rfl, rfl, rfl⟩
theorem py_all (n : Nat) (ih : ∀ {d : D} {x : V} {p : PyData}, RD K m H d x → py st n d = some p → Dp K H x p) : ∀ {ds : List D} {xs : List V} {ps : List PyData}, RDs K m H ds xs → ds.mapM (py st n) = some ps → DpAll K H xs ps
  | _, _, ps, .nil, h => by
    have : ps = [] := by
      simp at h
      exact h
    subst this
    exact .nil
  | _, _, ps, .cons r rs, h => by
    obtain ⟨y, zs, h1, h2, rfl⟩ := mapM_cons h
    exact .cons (ih r h1) (py_all n ih rs h2)
theorem py_Dp (S : Sm K G m σ H v st) : ∀ (n : Nat) {d : D} {x : V} {p : PyData}, RD K m H d x → py st n d = some p → Dp K H x p
  | 0, _, _, _, _, h => by cases h
  | n + 1, _, _, _, .non, h => by cases h; exact .non
  | n + 1, _, _, _, .bl b, h => by cases h; exact .bl b
  | n + 1, _, _, _, .int i, h => by cases h; exact .int i
  | n + 1, _, _, _, .str z, h => by cases h; exact .str _
  | n + 1, .tup ds, _, p, .tup hs rs, h => by
    have h' : (ds.mapM (py st n)).map PyData.tuple = some p := h
    cases e : ds.mapM (py st n) with
    | none => rw [e] at h'; cases h'
    | some ps =>
      rw [e] at h'
      cases h'
      exact .tup hs.sq (py_all n (py_Dp S n) rs e)
  | n + 1, .fl ds, _, p, .fl hs rs, h => by
    have h' : (ds.mapM (py st n)).map PyData.list = some p := h
    cases e : ds.mapM (py st n) with
    | none => rw [e] at h'; cases h'
    | some ps =>
      rw [e] at h'
      cases h'
      exact .lst hs.sq (py_all n (py_Dp S n) rs e)
  | n + 1, .loc l, _, p, .loc ha, h => by
    have h' : (match st[l]? with | some (.lst xs) => (xs.mapM (py st n)).map PyData.list | _ => none) = some p := h
    split at h'
    · rename_i xs e1
      obtain ⟨vs, h1, h2⟩ := S.at e1 ha
      cases e : xs.mapM (py st n) with
      | none => rw [e] at h'; cases h'
      | some ps =>
        rw [e] at h'
        cases h'
        exact .lst (SqL.of h1) (py_all n (py_Dp S n) h2 e)
    · cases h'
theorem eqD_Dp (S : Sm K G m σ H v st) {a b : D} {x y : V} {k : Bool} (r1 : RD K m H a x) (r2 : RD K m H b y) (h : eqD st a b = some k) :
    ∃ d e, Dp K H x d ∧ Dp K H y e ∧ SeqAt.shaped d = true ∧ SeqAt.shaped e = true ∧ k = PyData.eqv d e := by
  unfold eqD at h
  split at h
  · rename_i d e h1 h2
    split at h
    · rename_i hc
      cases h
      rw [Bool.and_eq_true] at hc
      exact ⟨d, e, py_Dp S _ r1 h1, py_Dp S _ r2 h2, hc.1, hc.2, rfl⟩
    · cases h
  · cases h
theorem flV_RD {d : D} {x y : V} (r : RD K m H d x) (h : flV d = some y) : x = y ∧ flatV x = true := by
  cases r <;> first | (cases h; exact ⟨rfl, rfl⟩) | cases h
theorem flVs_RD : ∀ {ds : List D} {xs ys : List V}, RDs K m H ds xs → ds.mapM flV = some ys → xs = ys ∧ xs.all flatV = true
  | _, _, ys, .nil, h => by
    have : ys = [] := by
      simp at h
      exact h
    subst this
    exact ⟨rfl, rfl⟩
  | _, _, ys, .cons r rs, h => by
    obtain ⟨y, zs, h1, h2, rfl⟩ := mapM_cons h
    obtain ⟨e1, f1⟩ := flV_RD r h1
    obtain ⟨e2, f2⟩ := flVs_RD rs h2
    exact ⟨by rw [e1, e2], by rw [List.all_cons, f1, f2]; rfl⟩
theorem Po.map {α β : Type} {f : α → D} {g : M α} {Q : VK} (h : Po K G EX (RD K) m σ H v ((Bind.bind (m := M) g fun a => Pure.pure (f a)) st) Q) {a : α} (e : g st = .ok a st) : Po K G EX (RD K) m σ H v (.ok (f a) st) Q := by
  have e2 : (Bind.bind (m := M) g fun a => Pure.pure (f a)) st = .ok (f a) st := by
    show M.bind g _ st = _
    unfold M.bind
    rw [e]
    rfl
  rw [e2] at h
  exact h
theorem Po.map_no {α β : Type} {f : α → D} {g : M α} {Q : VK} (h : Po K G EX (RD K) m σ H v ((Bind.bind (m := M) g fun a => Pure.pure (f a)) st) Q) (e : g st = .no) : False := by
  have e2 : (Bind.bind (m := M) g fun a => Pure.pure (f a)) st = .no := by
    show M.bind g _ st = _
    unfold M.bind
    rw [e]
  rw [e2] at h
  exact h
end
end Ix
end PIx5

section PIx6
set_option Elab.async false
set_option linter.all false
set_option maxRecDepth 100000
set_option autoImplicit false
set_option maxHeartbeats 1000000
/-! Ix6: dicts. -/
namespace Ix
open PySem PySem.Spec L2
open PyProof.Rows hiding St

def kN : Key → NestedKey
  | .inl i => .num i
  | .inr x => .text x
theorem kN_inj {a b : Key} : kN a = kN b ↔ a = b := by
  cases a <;> cases b <;> simp [kN]
section
variable {K : PySem.W.Frag} {G : Gx} {EX : XK} {m : List Addr} {σ : St} {H : Hp} {v : En} {st : Store}
theorem nk_kV {d : D} {k : Key} (r : RD K m H d (kV k)) : nk 8 d = some (kN k) ∧ kinds d = 1 := by
  cases k with
  | inl i => cases r; exact ⟨rfl, rfl⟩
  | inr x =>
    generalize e : kV (.inr x) = y at r
    cases r <;> cases e
    exact ⟨rfl, rfl⟩
theorem kV_of {d : D} {x : V} (r : RD K m H d x) (h : kinds d = 1) : ∃ k, x = kV k := by
  cases r <;> first | exact ⟨.inl _, rfl⟩ | exact ⟨.inr _, rfl⟩ | (exact absurd h (by decide)) | (exact nomatch h)
theorem beq_kN {a b : Key} : (some (kN a) == some (kN b)) = decide (a = b) := by
  by_cases e : a = b
  · subst e; simp
  · rw [decide_eq_false e]
    exact beq_eq_false_iff_ne.mpr fun q => e (kN_inj.mp (Option.some.inj q))
theorem KVR.key : ∀ {kvs : List (D × D)} {ws : List (Key × V)} {k : Key}, KVR K m H kvs ws → keyIn (kN k) kvs = ws.any fun p => decide (p.1 = k)
  | _, _, k, .nil => rfl
  | _, _, k, .cons r rs => by
    show (nk 8 _ == some (kN k) || keyIn (kN k) _) = _
    rw [KVR.key rs, (nk_kV r.1).1, beq_kN]
    rfl
theorem KVR.look : ∀ {kvs : List (D × D)} {ws : List (Key × V)} {k : Key} {d : D}, KVR K m H kvs ws → lookK (kN k) kvs = some d → ∃ x, valV ws k = some x ∧ RD K m H d x
  | _, _, k, d, .nil, h => by cases h
  | (a, b) :: kvs, q :: ws, k, d, .cons r rs, h => by
    have h' : (if nk 8 a == some (kN k) then some b else lookK (kN k) kvs) = some d := h
    rw [(nk_kV r.1).1, beq_kN] at h'
    by_cases e : q.1 = k
    · rw [decide_eq_true e, if_pos rfl] at h'
      cases h'
      exact ⟨q.2, valV_pos e, r.2⟩
    · rw [decide_eq_false e, if_neg Bool.false_ne_true] at h'
      obtain ⟨x, h1, h2⟩ := KVR.look rs h'
      exact ⟨x, by rw [valV_neg e]; exact h1, h2⟩
theorem KVR.look0 : ∀ {kvs : List (D × D)} {ws : List (Key × V)} {k : Key}, KVR K m H kvs ws → lookK (kN k) kvs = none → valV ws k = none
  | _, _, k, .nil, h => rfl
  | (a, b) :: kvs, q :: ws, k, .cons r rs, h => by
    have h' : (if nk 8 a == some (kN k) then some b else lookK (kN k) kvs) = none := h
    rw [(nk_kV r.1).1, beq_kN] at h'
    by_cases e : q.1 = k
    · rw [decide_eq_true e, if_pos rfl] at h'
      cases h'
    · rw [decide_eq_false e, if_neg Bool.false_ne_true] at h'
      rw [valV_neg e]
      exact KVR.look0 rs h'
theorem Paired.snoc {α β : Type} {F : α → β → Prop} {x : α} {y : β} (r : F x y) : ∀ {as : List α} {bs : List β}, Paired F as bs → Paired F (as ++ [x]) (bs ++ [y])
  | _, _, .nil => .cons r .nil
  | _, _, .cons h t => .cons h (Paired.snoc r t)
theorem KVR.put {kvs : List (D × D)} {ws : List (Key × V)} {k : Key} {a d : D} {x : V} (h : KVR K m H kvs ws) (ra : RD K m H a (kV k)) (r : RD K m H d x) : KVR K m H (putK (kN k) a d kvs) (L2.putK ws k x) := by
  unfold putK L2.putK
  rw [h.key]
  split
  · have go : ∀ {kvs : List (D × D)} {ws : List (Key × V)}, KVR K m H kvs ws → KVR K m H (kvs.map fun p => if (nk 8 p.1 == some (kN k)) = true then (p.1, d) else p) (ws.map fun kv => if kv.1 = k then (kv.1, x) else kv) := by
      intro kvs ws h
      induction h with
      | nil => exact .nil
      | cons q qs ih =>
        rename_i p w _ _
        rw [List.map_cons, List.map_cons]
        refine .cons ?_ ih
        rw [(nk_kV q.1).1, beq_kN]
        by_cases e : w.1 = k
        · rw [decide_eq_true e, if_pos rfl, if_pos e]
          exact ⟨q.1, r⟩
        · rw [decide_eq_false e, if_neg Bool.false_ne_true, if_neg e]
          exact q
    exact go h
  · exact Paired.snoc (F := fun (p : D × D) (q : Key × V) => RD K m H p.1 (kV q.1) ∧ RD K m H p.2 q.2) ⟨ra, r⟩ h
theorem KVR.length {kvs : List (D × D)} {ws : List (Key × V)} (h : KVR K m H kvs ws) : kvs.length = ws.length := Paired.length h
end
end Ix
end PIx6

section PIx7
set_option Elab.async false
set_option linter.all false
set_option maxRecDepth 100000
set_option autoImplicit false
set_option maxHeartbeats 1000000
/-! Ix7: dicts with tuples as keys; a dict of either kind asked and stored in. -/
namespace Ix
open PySem PySem.Spec L2
open PyProof.Rows hiding St

theorem mapM_nk {n : Nat} {ds : List D} {k : NestedKey} (h : (ds.mapM (nk n)).map NestedKey.tup = some k) : ∃ ks, ds.mapM (nk n) = some ks ∧ k = .tup ks := by
  cases e : ds.mapM (nk n) with
  | none => rw [e] at h; cases h
  | some ks => rw [e] at h; cases h; exact ⟨ks, rfl, rfl⟩
section
variable {X : Cx} {G : Gx} {EX : XK} {m : List Addr} {pins : List (Addr × Obj)} {σ τ : St} {H : Hp} {s : Shared} {v : En} {st : Store}
theorem nk_all (n : Nat) (ih : ∀ {d : D} {x : V} {u : Value} {k : NestedKey}, RD X.K m H d x → RelV x u → nk n d = some k → NestedIs s.heap k u ∧ k.depth ≤ n) :
    ∀ {ds : List D} {xs : List V} {us : List Value} {ks : List NestedKey}, RDs X.K m H ds xs → Vals xs us → ds.mapM (nk n) = some ks → NestedAll s.heap ks us ∧ NestedKey.depthAll ks ≤ n
  | _, _, _, ks, .nil, .nil, h => by
    have : ks = [] := by simp at h; exact h
    subst this
    exact ⟨.nil, Nat.zero_le _⟩
  | _, _, _, ks, .cons r rs, .cons q qs, h => by
    obtain ⟨y, zs, h1, h2, rfl⟩ := mapM_cons h
    obtain ⟨a1, a2⟩ := ih r q h1
    obtain ⟨b1, b2⟩ := nk_all n ih rs qs h2
    exact ⟨.cons a1 b1, Nat.max_le.mpr ⟨a2, b2⟩⟩
theorem nk_is (I : Inv X pins σ H s) : ∀ (n : Nat) {d : D} {x : V} {u : Value} {k : NestedKey}, RD X.K m H d x → RelV x u → nk n d = some k → NestedIs s.heap k u ∧ k.depth ≤ n
  | 0, _, _, _, _, _, _, h => by cases h
  | n + 1, _, _, _, _, .non, r, h => by
    cases h; cases r
    exact ⟨.none, Nat.zero_le _⟩
  | n + 1, _, _, _, _, .bl b, r, h => by
    cases h; cases r
    exact ⟨.bool rfl, Nat.zero_le _⟩
  | n + 1, _, _, _, _, .int i, r, h => by
    cases h; obtain ⟨t, rfl⟩ := r
    exact ⟨.int i t, Nat.zero_le _⟩
  | n + 1, _, _, _, _, .str z, r, h => by
    cases h; obtain ⟨t, rfl⟩ := r
    exact ⟨.text _ t, Nat.zero_le _⟩
  | n + 1, .tup ds, _, _, k, .tup hs rs, r, h => by
    obtain ⟨ks, e, rfl⟩ := mapM_nk (show (ds.mapM (nk n)).map NestedKey.tup = some k from h)
    cases r
    obtain ⟨its, rv, ⟨o, ho, hc, j, hd⟩, hz⟩ := I.tuple hs.sq
    obtain ⟨a1, a2⟩ := nk_all n (nk_is I n) rs rv e
    exact ⟨.tup ho hc hd (by simpa using a1), Nat.succ_le_succ a2⟩
  | n + 1, .fl ds, _, _, k, .fl _ _, r, h => by cases h
  | n + 1, .loc l, _, _, k, .loc _, r, h => by cases h
/-- the dict as the library tells it -/
theorem tup_dict (hE : G.ent = entryOfKey (nestedKind X.prog X.w)) (I : Inv X pins σ H s) {a : Addr} {ob : Obj} {kvs : List (D × D)} {xs : List (NestedKey × Addr × Value)} (ho : Rd H a (OB a ob)) (T : TupD G a ob xs) (r : KTR X.K m H kvs xs) :
    s.heap.DictOfH (nestedKind X.prog X.w) a xs := by
  have hob : s.heap.get? a = some ob := (ho.ok I.hok : ObjOk X.prog X.w H s.heap a (OB a ob)).1
  obtain ⟨es, ep, hd, he⟩ := T.da
  refine ⟨ob, es, ep, hob, T.ex, hd, by rw [he, hE], fun x hx => ?_, T.nd⟩
  obtain ⟨i, hi⟩ := List.mem_iff_getElem?.mp hx
  have go : ∀ {kvs : List (D × D)} {xs : List (NestedKey × Addr × Value)} {i : Nat}, KTR X.K m H kvs xs → xs[i]? = some x → (nestedKind X.prog X.w).is s.heap x.1 x.2.1 := by
    intro kvs xs i h
    induction h generalizing i with
    | nil => intro e; simp at e
    | cons q qs ih =>
      intro e
      cases i with
      | zero =>
        simp at e
        subst e
        exact nk_is I 8 q.2.1 rfl q.1
      | succ i => exact ih (by simpa using e)
  exact go r hi
theorem beq_nk {a b : NestedKey} : (some a == some b) = decide (a = b) := by
  by_cases e : a = b
  · subst e; simp
  · rw [decide_eq_false e]
    exact beq_eq_false_iff_ne.mpr fun q => e (Option.some.inj q)
variable {K : PySem.W.Frag}
theorem KTR.key : ∀ {kvs : List (D × D)} {xs : List (NestedKey × Addr × Value)} {k : NestedKey}, KTR K m H kvs xs → keyIn k kvs = (atKey xs k).isSome
  | _, _, k, .nil => rfl
  | p :: kvs, q :: xs, k, .cons r rs => by
    show (nk 8 p.1 == some k || keyIn k kvs) = _
    rw [KTR.key rs, r.1, beq_nk]
    unfold atKey
    rw [List.find?_cons]
    by_cases e : q.1 = k
    · rw [decide_eq_true e]; rfl
    · rw [decide_eq_false e]; rfl
theorem KTR.look : ∀ {kvs : List (D × D)} {xs : List (NestedKey × Addr × Value)} {k : NestedKey} {d : D}, KTR K m H kvs xs → lookK k kvs = some d → ∃ p x, atKey xs k = some p ∧ RD K m H d x ∧ RelV x p.2
  | _, _, k, d, .nil, h => by cases h
  | (a, b) :: kvs, q :: xs, k, d, .cons r rs, h => by
    have h' : (if nk 8 a == some k then some b else lookK k kvs) = some d := h
    rw [show nk 8 a = some q.1 from r.1, beq_nk] at h'
    by_cases e : q.1 = k
    · rw [decide_eq_true e, if_pos rfl] at h'
      cases h'
      obtain ⟨x, h1, h2⟩ := r.2.2.2
      refine ⟨q.2, x, ?_, h1, h2⟩
      unfold atKey
      rw [List.find?_cons, decide_eq_true e]; rfl
    · rw [decide_eq_false e, if_neg Bool.false_ne_true] at h'
      obtain ⟨p, x, h1, h2, h3⟩ := KTR.look rs h'
      refine ⟨p, x, ?_, h2, h3⟩
      unfold atKey at h1 ⊢
      rw [List.find?_cons, decide_eq_false e]; exact h1
theorem KTR.put {kvs : List (D × D)} {xs : List (NestedKey × Addr × Value)} {k : NestedKey} {a d : D} {b : Addr} {x : V} {u : Value} (h : KTR K m H kvs xs) (hk : nk 8 a = some k) (ra : RD K m H a (.ref b)) (ka : kinds a = 2) (r : RD K m H d x) (ru : RelV x u) :
    KTR K m H (putK k a d kvs) (storedH xs k b u) := by
  unfold putK storedH
  rw [h.key]
  split
  · have go : ∀ {kvs : List (D × D)} {xs : List (NestedKey × Addr × Value)}, KTR K m H kvs xs → KTR K m H (kvs.map fun p => if (nk 8 p.1 == some k) = true then (p.1, d) else p) (xs.map (putAt k u)) := by
      intro kvs xs h
      induction h with
      | nil => exact .nil
      | cons q qs ih =>
        rename_i p w _ _
        rw [List.map_cons, List.map_cons]
        refine .cons ?_ ih
        rw [show nk 8 p.1 = some w.1 from q.1, beq_nk]
        unfold putAt
        by_cases e : w.1 = k
        · rw [decide_eq_true e, if_pos rfl, if_pos e]
          exact ⟨q.1, q.2.1, q.2.2.1, x, r, ru⟩
        · rw [decide_eq_false e, if_neg Bool.false_ne_true, if_neg e]
          exact q
    exact go h
  · exact Paired.snoc (F := fun (p : D × D) (q : NestedKey × Addr × Value) => nk 8 p.1 = some q.1 ∧ RD K m H p.1 (.ref q.2.1) ∧ kinds p.1 = 2 ∧ ∃ x, RD K m H p.2 x ∧ RelV x q.2.2) ⟨hk, ra, ka, x, r, ru⟩ h
theorem DRx.kind1 {a : Addr} {kvs : List (D × D)} {o : HO} {k : D} (h : DRx K G m H a kvs o) (hk : kOk k kvs = true) (h1 : kinds k = 1) : ∃ ws, o = .dK ws ∧ KVR K m H kvs ws := by
  rcases h with h | ⟨ne, ob, xs, e, t, r⟩
  · exact h
  · cases r with
    | nil => exact absurd rfl ne
    | cons q qs =>
      have : (kinds k != 0 && kinds _ == kinds k) = true := hk
      rw [h1, q.2.2.1] at this
      cases this
theorem DRx.kind2 {a : Addr} {kvs : List (D × D)} {o : HO} {k : D} (h : DRx K G m H a kvs o) (hk : kOk k kvs = true) (h1 : kinds k = 2) : (kvs = [] ∧ o = .dK []) ∨ ∃ ob xs, o = OB a ob ∧ TupD G a ob xs ∧ KTR K m H kvs xs := by
  rcases h with ⟨ws, e, r⟩ | ⟨ne, ob, xs, e, t, r⟩
  · cases r with
    | nil => exact .inl ⟨rfl, e⟩
    | cons q qs =>
      have : (kinds k != 0 && kinds _ == kinds k) = true := hk
      rw [h1, (nk_kV q.1).2] at this
      cases this
  · exact .inr ⟨ob, xs, e, t, r⟩
theorem kinds_cases {k : D} {kvs : List (D × D)} (hk : kOk k kvs = true) : kinds k = 1 ∨ kinds k = 2 := by
  have h0 : kinds k ≠ 0 := by
    intro e
    cases kvs with
    | nil => have : (kinds k != 0) = true := hk; rw [e] at this; cases this
    | cons p r => have : (kinds k != 0 && kinds p.1 == kinds k) = true := hk; rw [e] at this; cases this
  cases k <;> first | exact .inl rfl | exact .inr rfl | exact absurd rfl h0
theorem RD.tref {d : D} {x : V} (r : RD K m H d x) (h : kinds d = 2) : ∃ b, x = .ref b := by
  cases r <;> first | exact ⟨_, rfl⟩ | exact absurd h (by decide) | exact nomatch h
/-- an empty dict, for either kind of keys -/
theorem empty_dict (I : Inv X pins σ H s) {a : Addr} (e : Rd H a (.dK [])) : s.heap.DictOfH (nestedKind X.prog X.w) a [] ∧ (a == sysModules) = false := by
  obtain ⟨z, hd, vs, rel, dd⟩ := (e.ok I.hok : ObjOk X.prog X.w H s.heap a (.dK []))
  cases rel
  obtain ⟨es, ep, ⟨o, h1, h2, h3⟩, h4, _⟩ := dd.raw
  exact ⟨⟨o, es, ep, h1, h2, h3, by
    have : es = #[] := Array.eq_empty_of_size_eq_zero h4
    subst this; rfl, (fun _ z => nomatch z), List.nodup_nil⟩, hd⟩
section
variable {A : Around} {E : Value → Shared → Prop} {a : Addr} {o : HO} {kvs : List (D × D)} {k : D} {y : V} {u : Value} {q : NestedKey}
theorem dk_get {d : D} {Q : Value → Shared → Prop} (hE : G.ent = entryOfKey (nestedKind X.prog X.w)) (hu : A.units + 9 < cLine) (I : Inv X pins σ H s) (ho : Rd H a o) (hd : DRx X.K G m H a kvs o) (rk : RD X.K m H k y) (ry : RelV y u) (hq : nk 8 k = some q) (ok : kOk k kvs = true)
    (hl : lookK q kvs = some d) (h : ∀ x w s', Inv X pins σ H s' → RD X.K m H d x → RelV x w → Q w s') : wpAny (model X.prog X.w) A (getItem (.ref a) u) Q E s := by
  rcases kinds_cases ok with h1 | h1
  · obtain ⟨ws, rfl, r⟩ := hd.kind1 ok h1
    obtain ⟨key, rfl⟩ := kV_of rk h1
    have e := (nk_kV rk).1
    rw [hq] at e; cases e
    obtain ⟨x, hx, rx⟩ := r.look hl
    exact d_getItem (by omega) I (.inl ⟨ws, key, ho, rfl, hx.symm⟩) ry fun w' s' I' rw' => h x w' s' I' rx rw'
  · obtain ⟨b, rfl⟩ := rk.tref h1
    cases (show u = Value.ref b from ry)
    rcases hd.kind2 ok h1 with ⟨rfl, rfl⟩ | ⟨ob, xs, rfl, T, r⟩
    · cases hl
    · obtain ⟨p, x, hp, rx, rp⟩ := r.look hl
      exact wpAny_getItem_heap (knd := nestedKind X.prog X.w) (show A.units + 1 + 8 < cLine by omega) (nk_is I 8 rk rfl hq) (tup_dict hE I ho T r) hp (h x p.2 _ (I.tok _) rx rp)
theorem dk_in {Q : Value → Shared → Prop} (hE : G.ent = entryOfKey (nestedKind X.prog X.w)) (hu : A.units + 9 < cLine) (I : Inv X pins σ H s) (ho : Rd H a o) (hd : DRx X.K G m H a kvs o) (rk : RD X.K m H k y) (ry : RelV y u) (hq : nk 8 k = some q) (ok : kOk k kvs = true)
    (h : ∀ s', Inv X pins σ H s' → Q (.bool (keyIn q kvs)) s') : wpAny (model X.prog X.w) A (compareOp .In u (.ref a)) Q E s := by
  rcases kinds_cases ok with h1 | h1
  · obtain ⟨ws, rfl, r⟩ := hd.kind1 ok h1
    obtain ⟨key, rfl⟩ := kV_of rk h1
    have e := (nk_kV rk).1
    rw [hq] at e; cases e
    rw [r.key, valV_any] at h
    exact d_in (by omega) I (.inl ⟨ws, key, ho, rfl, rfl⟩) ry h
  · obtain ⟨b, rfl⟩ := rk.tref h1
    cases (show u = Value.ref b from ry)
    rcases hd.kind2 ok h1 with ⟨rfl, rfl⟩ | ⟨ob, xs, rfl, T, r⟩
    · obtain ⟨dd, sy⟩ := empty_dict I ho
      exact wpAny_in_heap (knd := nestedKind X.prog X.w) (show A.units + 1 + 8 < cLine by omega) (nk_is I 8 rk rfl hq) sy dd (h _ (I.tok _))
    · rw [r.key] at h
      exact wpAny_in_heap (knd := nestedKind X.prog X.w) (show A.units + 1 + 8 < cLine by omega) (nk_is I 8 rk rfl hq) T.sy (tup_dict hE I ho T r) (h _ (I.tok _))
theorem dk_nin {Q : Value → Shared → Prop} (hE : G.ent = entryOfKey (nestedKind X.prog X.w)) (hu : A.units + 9 < cLine) (I : Inv X pins σ H s) (ho : Rd H a o) (hd : DRx X.K G m H a kvs o) (rk : RD X.K m H k y) (ry : RelV y u) (hq : nk 8 k = some q) (ok : kOk k kvs = true)
    (h : ∀ s', Inv X pins σ H s' → Q (.bool (!keyIn q kvs)) s') : wpAny (model X.prog X.w) A (compareOp .NotIn u (.ref a)) Q E s := by
  rcases kinds_cases ok with h1 | h1
  · obtain ⟨ws, rfl, r⟩ := hd.kind1 ok h1
    obtain ⟨key, rfl⟩ := kV_of rk h1
    have e := (nk_kV rk).1
    rw [hq] at e; cases e
    rw [r.key, valV_any] at h
    exact d_notIn (by omega) I (.inl ⟨ws, key, ho, rfl, rfl⟩) ry h
  · obtain ⟨b, rfl⟩ := rk.tref h1
    cases (show u = Value.ref b from ry)
    have fin : ∀ {xs : List (NestedKey × Addr × Value)}, s.heap.DictOfH (nestedKind X.prog X.w) a xs → (a == sysModules) = false → (∀ s', Inv X pins σ H s' → Q (.bool (!(atKey xs q).isSome)) s') → wpAny (model X.prog X.w) A (compareOp .NotIn (.ref b) (.ref a)) Q E s := fun {xs} dd sy h => by
      show wpAny _ _ (do return .bool (!(← contains (.ref a) (.ref b)))) Q E s
      exact wpAny_bind (wpAny_contains_heap (knd := nestedKind X.prog X.w) (show A.units + 1 + 8 < cLine by omega) (nk_is I 8 rk rfl hq) sy dd (wpAny_pure (h _ (I.tok _))))
    rcases hd.kind2 ok h1 with ⟨rfl, rfl⟩ | ⟨ob, xs, rfl, T, r⟩
    · obtain ⟨dd, sy⟩ := empty_dict I ho
      exact fin dd sy h
    · rw [r.key] at h
      exact fin (tup_dict hE I ho T r) T.sy h
theorem dk_set {d : D} {x : V} {w : Value} {Q : Unit → Shared → Prop} (hE : G.ent = entryOfKey (nestedKind X.prog X.w)) (hu : A.units + 9 < cLine) (I : Inv X pins σ H s) (S : Sm X.K G m τ H v st) {l : Nat} (ha : m[l]? = some a) (hc : st[l]? = some (.dct kvs))
    (rk : RD X.K m H k y) (ry : RelV y u) (hq : nk 8 k = some q) (ok : kOk k kvs = true) (hz : kvs.length < SL) (rd : RD X.K m H d x) (rx : RelV x w)
    (h : ∀ H' s', Inv X pins σ H' s' → Ext m m H H' → Sm X.K G m τ H' v (st.set l (.dct (putK q k d kvs))) → Q () s') : wpAny (model X.prog X.w) A (setItem (.ref a) u w) Q E s := by
  obtain ⟨o, ho, hd⟩ := S.at hc ha
  have hm := List.mem_of_getElem? ha
  have xt : ∀ {o' : HO}, Ext m m H (upd H a o') := ext_write hm fun u hu' => by
    rw [ho] at hu'; cases hu'
    exact ⟨hd.no.1, hd.no.2.1⟩
  rcases kinds_cases ok with h1 | h1
  · obtain ⟨ws, rfl, r⟩ := hd.kind1 ok h1
    obtain ⟨key, rfl⟩ := kV_of rk h1
    have e := (nk_kV rk).1
    rw [hq] at e; cases e
    refine d_setItem (by omega) I (DPut.k ho (by rw [sizeLine_eq, ← r.length]; exact hz)) ry rx fun s' I' => h _ s' I' xt (S.write ha xt ⟨_, upd_same, .inl ⟨_, rfl, ?_⟩⟩)
    exact (r.put rk rd).ext xt
  · obtain ⟨b, rfl⟩ := rk.tref h1
    cases (show u = Value.ref b from ry)
    have fin : ∀ {xs : List (NestedKey × Addr × Value)}, s.heap.DictOfH (nestedKind X.prog X.w) a xs → (a == sysModules) = false → KTR X.K m H kvs xs → wpAny (model X.prog X.w) A (setItem (.ref a) (.ref b) w) Q E s := fun {xs} dd sy r => by
      have hl : xs.length = kvs.length := (Paired.length r).symm
      refine wpAny_setItem_heap (knd := nestedKind X.prog X.w) (show A.units + 1 + 8 < cLine by omega) (nk_is I 8 rk rfl hq) dd (fun h' hm' hs => ?_) (by rw [sizeLine_eq, hl]; exact Nat.le_of_lt hz)
      have r' := r.put hq rk h1 rd rx
      obtain ⟨ob, es, ep, g1, g2, g3, g4, g5, g6⟩ := hm'
      have hlen : (storedH xs q b w).length ≤ sizeLine := by
        have e1 : (storedH xs q b w).length ≤ xs.length + 1 := by
          unfold storedH
          split <;> simp
        rw [sizeLine_eq]
        exact Nat.le_trans e1 (by rw [hl]; exact hz)
      have T : TupD G a ob (storedH xs q b w) := ⟨g2, ⟨es, ep, g3, by rw [hE]; exact g4⟩, g6, sy, hlen⟩
      have new : ObjOk X.prog X.w (upd H a (OB a ob)) h' a (OB a ob) := ⟨g1, ⟨_, g1⟩, fun h1 h2 p1 p2 => p2 _ p1⟩
      have I' := d_write (t' := s.toks + (nestedKind X.prog X.w).draws q) I (by rw [ho]; exact hd.no.2.2) hs ⟨_, g1⟩ new
      refine h _ _ I' xt (S.write ha xt ⟨_, upd_same, .inr ⟨fun e => ?_, ob, _, rfl, T, r'.ext xt⟩⟩)
      unfold putK at e
      split at e
      · rename_i hk
        cases kvs with
        | nil => cases hk
        | cons p ps => rw [List.map_cons] at e; cases e
      · exact absurd e (by simp)
    rcases hd.kind2 ok h1 with ⟨rfl, rfl⟩ | ⟨ob, xs, rfl, T, r⟩
    · obtain ⟨dd, sy⟩ := empty_dict I (.inl ho)
      exact fin dd sy .nil
    · exact fin (tup_dict hE I (.inl ho) T r) T.sy r
end
end
end Ix
end PIx7

section PIx8
set_option Elab.async false
set_option linter.all false
set_option maxRecDepth 100000
set_option autoImplicit false
set_option maxHeartbeats 1000000
/-! Ix8: comparisons, subscripts, slices by values. -/
namespace Ix
open PySem PySem.Spec L2
open PyProof.Rows hiding St

section
variable {X : Cx} {G : Gx} {EX : XK} {m : List Addr} {pins : List (Addr × Obj)} {σ τ : St} {H : Hp} {s : Shared} {v : En} {st : Store}
theorem in_len (x : List Nat) : (⟨x.toArray⟩ : Str).length = x.length := by show x.toArray.size = _; simp
theorem inList_Dp (S : Sm X.K G m σ H v st) {a b : D} {x y : V} {k : Bool} (r1 : RD X.K m H a x) (r2 : RD X.K m H b y) (h : inList st a b = some k) :
    ∃ d ds, Dp X.K H x d ∧ Dp X.K H y (.list ds) ∧ SeqAt.shaped d = true ∧ SeqAt.shaped (.list ds) = true ∧ k = ds.any fun z => PyData.eqv z d := by
  unfold inList at h
  split at h
  · rename_i d ds h1 h2
    split at h
    · rename_i hc
      cases h
      rw [Bool.and_eq_true] at hc
      exact ⟨d, ds, py_Dp S _ r1 h1, py_Dp S _ r2 h2, hc.1, hc.2, rfl⟩
    · cases h
  · cases h
/-- a comparison that tells k, the store as it was -/
theorem cmp_in (hE : G.ent = entryOfKey (nestedKind X.prog X.w)) (hu : X.A.units + 100 < cLine) (neg : Bool) {x y : V} {a b : Value} {d e : D} {k : Bool} {Q : VK} (I : Inv X pins σ H s) (S : Sm X.K G m τ H v st) (rx : RelV x a) (ry : RelV y b) (r1 : RD X.K m H d x) (r2 : RD X.K m H e y)
    (h : inO st d e = some k) (q : Q (.bl (if neg then !k else k)) H) : wpAny (model X.prog X.w) X.A (compareOp (if neg then .NotIn else .In) a b) (EP X pins σ Q) X.xe s := by
  unfold inO at h
  cases r2 with
  | non => cases h
  | bl => cases h
  | int => cases h
  | str z =>
    cases r1 with
    | str z' =>
      have hk : k = inStr z' z := by cases h; rfl
      unfold inStr at hk
      rw [← in_len] at hk
      subst hk
      cases neg with
      | false => exact op_in_str pins s σ H _ _ a b Q I rx ry ⟨_, _, rfl, rfl, q⟩
      | true => exact op_notin_str pins s σ H _ _ a b Q I rx ry ⟨_, _, rfl, rfl, q⟩
    | _ => cases h
  | @tup p vs ds hs rs =>
    dsimp only at h
    split at h
    · rename_i w ws h1 h2
      have hk : k = L2.inV w ws := by cases h; rfl
      subst hk
      obtain ⟨rfl, f1⟩ := flV_RD r1 h1
      obtain ⟨rfl, f2⟩ := flVs_RD rs h2
      cases neg with
      | false => exact op_in_seq pins s σ H _ _ a b Q I rx ry ⟨_, _, rfl, .inr hs.sq, f1, f2, q⟩
      | true => exact op_notIn_seq pins s σ H _ _ a b Q I rx ry ⟨_, _, rfl, .inr hs.sq, f1, f2, q⟩
    · cases h
  | @fl p vs ds hs rs =>
    obtain ⟨d', ds', a1, a2, a3, a4, rfl⟩ := inList_Dp S r1 (.fl hs rs) h
    cases neg with
    | false => exact op_inD (by omega) pins s σ H _ _ a b Q I rx ry ⟨_, _, a1, a2, a3, a4, q⟩
    | true => exact op_notInD (by omega) pins s σ H _ _ a b Q I rx ry ⟨_, _, a1, a2, a3, a4, q⟩
  | @loc l p hp =>
    have dict : ∀ {kvs : List (D × D)} {o : HO}, Rd H p o → DRx X.K G m H p kvs o → inKs d kvs = some k → wpAny (model X.prog X.w) X.A (compareOp (if neg then .NotIn else .In) a b) (EP X pins σ Q) X.xe s := fun {kvs o} ho hd h' => by
      cases (show b = Value.ref p from ry)
      unfold inKs at h'
      split at h'
      · rename_i n hn
        split at h'
        · rename_i ok
          have hk : k = keyIn n kvs := by cases h'; rfl
          subst hk
          cases neg with
          | false => exact dk_in hE (by omega) I ho hd r1 rx hn ok fun s' I' => ⟨.bl _, H, I', rfl, q⟩
          | true => exact dk_nin hE (by omega) I ho hd r1 rx hn ok fun s' I' => ⟨.bl _, H, I', rfl, q⟩
        · cases h'
      · cases h'
    dsimp only at h
    split at h
    · rename_i xs e1
      obtain ⟨d', ds', a1, a2, a3, a4, rfl⟩ := inList_Dp S r1 (.loc hp) h
      cases neg with
      | false => exact op_inD (by omega) pins s σ H _ _ a b Q I rx ry ⟨_, _, a1, a2, a3, a4, q⟩
      | true => exact op_notInD (by omega) pins s σ H _ _ a b Q I rx ry ⟨_, _, a1, a2, a3, a4, q⟩
    · rename_i kvs e1
      obtain ⟨o, ho, hd⟩ := S.at e1 hp
      exact dict (.inl ho) hd h
    · rename_i kvs e1
      obtain ⟨od, o, ho, hd⟩ := S.at e1 hp
      exact dict (.inr ⟨od, ho⟩) hd h
    · cases h
theorem map_some {α β : Type} {f : α → β} {o : Option α} {b : β} (h : o.map f = some b) : ∃ a, o = some a ∧ b = f a := by
  cases o with
  | none => cases h
  | some a => cases h; exact ⟨a, rfl, rfl⟩
theorem op_cmp (hE : G.ent = entryOfKey (nestedKind X.prog X.w)) (hu : X.A.units + 100 < cLine) (o : Co) : OpR X (compareOp (cop o)) (vP2 X.K G EX (cmpV o)) := by
  intro pins s σ H x y a b Q I rx ry h
  obtain ⟨m, τ, w, st, d, e, S, r1, r2, h⟩ := h
  obtain ⟨k, q, h⟩ := Po.rd (f := fun s => cmpO o s d e) h
  · have fin : Q (.bl k) H := h.pure S (.bl _)
    clear h
    cases o with
    | eq =>
      obtain ⟨d', e', a1, a2, a3, a4, rfl⟩ := eqD_Dp S r1 r2 q
      exact op_eqD (by omega) pins s σ H x y a b Q I rx ry ⟨_, _, a1, a2, a3, a4, fin⟩
    | ne =>
      obtain ⟨k', q', rfl⟩ := map_some q
      obtain ⟨d', e', a1, a2, a3, a4, rfl⟩ := eqD_Dp S r1 r2 q'
      exact op_neD (by omega) pins s σ H x y a b Q I rx ry ⟨_, _, a1, a2, a3, a4, fin⟩
    | lt =>
      cases r1 <;> cases r2 <;> first
        | (cases q; exact op_lt pins s σ H _ _ a b Q I rx ry ⟨_, _, rfl, rfl, fin⟩)
        | cases q
    | le =>
      cases r1 <;> cases r2 <;> first
        | (cases q; exact op_le pins s σ H _ _ a b Q I rx ry ⟨_, _, rfl, rfl, fin⟩)
        | cases q
    | gt =>
      cases r1 <;> cases r2 <;> first
        | (cases q; exact op_gt pins s σ H _ _ a b Q I rx ry ⟨_, _, rfl, rfl, fin⟩)
        | cases q
    | ge =>
      cases r1 <;> cases r2 <;> first
        | (cases q; exact op_ge pins s σ H _ _ a b Q I rx ry ⟨_, _, rfl, rfl, fin⟩)
        | cases q
    | isin => exact cmp_in hE hu false I S rx ry r1 r2 q fin
    | nin =>
      obtain ⟨k', q', rfl⟩ := map_some q
      exact cmp_in hE hu true I S rx ry r1 r2 q' fin
    | is_ =>
      cases r2 with
      | non =>
        have : k = decide (x = .non) := by
          cases r1 <;> first | (cases q; rfl) | (cases q; exact (decide_eq_false (fun z => nomatch z)).symm)
        subst this
        exact op_isN pins s σ H _ _ a b Q I rx ry ⟨rfl, fin⟩
      | bl c =>
        cases r1 <;> first
          | (cases q; exact op_isBl pins s σ H _ _ a b Q I rx ry ⟨_, _, rfl, rfl, by rw [← Bool.beq_eq_decide_eq]; exact fin⟩)
          | cases q
      | _ => cases r1 <;> cases q
    | isn =>
      obtain ⟨k', q', rfl⟩ := map_some q
      cases r2 with
      | non =>
        have : k' = decide (x = .non) := by
          cases r1 <;> first | (cases q'; rfl) | (cases q'; exact (decide_eq_false (fun z => nomatch z)).symm)
        subst this
        exact op_notN pins s σ H _ _ a b Q I rx ry ⟨rfl, fin⟩
      | bl c =>
        cases r1 <;> first
          | (cases q'; exact op_notBl pins s σ H _ _ a b Q I rx ry ⟨_, _, rfl, rfl, by rw [← Bool.beq_eq_decide_eq]; exact fin⟩)
          | cases q'
      | _ => cases r1 <;> cases q'
end
end Ix
end PIx8

section PIx9
set_option Elab.async false
set_option linter.all false
set_option maxRecDepth 100000
set_option autoImplicit false
set_option maxHeartbeats 1000000
/-! Ix9: subscripts, slices, truth, built-in functions by values. -/
namespace Ix
open PySem PySem.Spec L2
open PyProof.Rows hiding St

def vSl (K : PySem.W.Frag) (G : Gx) (EX : XK) : V → Option Int → Option Int → Hp → VK → Prop := fun x lo hi H Q => ∃ m σ v st d, Sm K G m σ H v st ∧ RD K m H d x ∧ Po K G EX (RD K) m σ H v (slD d lo hi st) Q
def vC (K : PySem.W.Frag) (G : Gx) (EX : XK) (f : List D → M D) : List V → Hp → VK → Prop := fun xs H Q => ∃ m σ v st ds, Sm K G m σ H v st ∧ RDs K m H ds xs ∧ Po K G EX (RD K) m σ H v (f ds st) Q
def vM (K : PySem.W.Frag) (G : Gx) (EX : XK) (f : D → List D → M D) : V → List V → Hp → VK → Prop := fun x xs H Q => ∃ m σ v st d ds, Sm K G m σ H v st ∧ RD K m H d x ∧ RDs K m H ds xs ∧ Po K G EX (RD K) m σ H v (f d ds st) Q
section
variable {X : Cx} {G : Gx} {EX : XK} {m : List Addr} {pins : List (Addr × Obj)} {σ τ : St} {H : Hp} {s : Shared} {v : En} {st : Store}
theorem ixN_lt {n : Nat} {i : Int} {j : Nat} (h : L2.ixN n i = some j) : j < n := (ixN_seq h).2.1
theorem atI_RD {K : PySem.W.Frag} {ds : List D} {xs : List V} {i : Int} {d : D} (r : RDs K m H ds xs) (h : L2.atI ds i = some d) : ∃ x, L2.atI xs i = some x ∧ RD K m H d x := by
  unfold L2.atI at h ⊢
  rw [← r.length]
  cases e : L2.ixN ds.length i with
  | none => rw [e] at h; cases h
  | some j =>
    rw [e] at h
    exact r.get h
theorem atO_RD {K : PySem.W.Frag} {ds : List D} {xs : List V} {e d : D} {y : V} (r : RDs K m H ds xs) (r2 : RD K m H e y) (h : atO ds e = some d) : ∃ i x, y = .int i ∧ L2.atI xs i = some x ∧ RD K m H d x := by
  cases r2 with
  | int i =>
    obtain ⟨x, h1, h2⟩ := atI_RD r h
    exact ⟨i, x, rfl, h1, h2⟩
  | _ => cases h
theorem ix_ok (hE : G.ent = entryOfKey (nestedKind X.prog X.w)) (hu : X.A.units + 100 < cLine) : IxR X (vP2 X.K G EX ixD) := by
  intro value slice pins s σ H x y a b Q I rx ry h hsub
  obtain ⟨m, τ, w, st, d, e, S, r1, r2, h⟩ := h
  obtain ⟨z, q, hz⟩ := Po.rd1 (f := fun s => ixO s d e) h
  clear h
  unfold ixO at q
  cases r1 with
  | @tup p vs ds hs rs =>
    obtain ⟨i, x', rfl, h1, h2⟩ := atO_RD rs r2 q
    exact ix_tup value slice pins s σ H _ _ a b Q I rx ry ⟨_, _, _, _, rfl, rfl, hs.sq, h1, hz.ok S h2⟩ hsub
  | @fl p vs ds hs rs =>
    obtain ⟨a', vs', e1, e2, e3⟩ := lstO_RD (.fl hs rs) S rfl
    cases e1
    obtain ⟨i, x', rfl, h1, h2⟩ := atO_RD e3 r2 q
    exact ix_list value slice pins s σ H _ _ a b Q I rx ry ⟨_, _, _, _, rfl, rfl, e2, h1, hz.ok S h2⟩ hsub
  | str z' =>
    cases r2 with
    | int i =>
      dsimp only at q
      split at q
      · rename_i hl
        obtain ⟨c, h1, rfl⟩ := map_some q
        exact ix_str value slice pins s σ H _ _ a b Q I rx ry ⟨_, _, c, rfl, rfl, by rw [in_len, sizeLine_eq]; exact hl, by simpa using h1, hz.ok S (.str [c])⟩ hsub
      · cases q
    | _ => cases q
  | @loc l p hp =>
    have dict : ∀ {kvs : List (D × D)} {o : HO}, Rd H p o → DRx X.K G m H p kvs o → atKD e kvs = some z → wpAny (model X.prog X.w) X.A (subscriptTail value slice a b) (EP X pins σ Q) X.xe s := fun {kvs o} ho hd h' => by
      cases (show a = Value.ref p from rx)
      unfold atKD at h'
      split at h'
      · rename_i n hn
        split at h'
        · rename_i ok
          have ty : s.TypeIs (.ref p) "dict" := by
            rcases hd with ⟨ws, rfl, r⟩ | ⟨ne, ob, xs, rfl, T, r⟩
            · exact dict_typeIs I (.inl ⟨ws, .inl 0, ho, rfl, rfl⟩)
            · exact (tup_dict hE I ho T r).typeIs
          exact tail_any (ops := [.ref p, b]) ty PySem.F.slot_dict_getitem.lookup (dk_get hE (by omega) I ho hd r2 ry hn ok h' fun x w s' I' rx' rw' => ⟨x, H, I', rw', hz.ok S rx'⟩) hsub
        · cases h'
      · cases h'
    dsimp only at q
    split at q
    · rename_i xs e1
      obtain ⟨vs, h1, h2⟩ := S.at e1 hp
      obtain ⟨i, x', rfl, h3, h4⟩ := atO_RD h2 r2 q
      exact ix_list value slice pins s σ H _ _ a b Q I rx ry ⟨_, _, _, _, rfl, rfl, SqL.of h1, h3, hz.ok S h4⟩ hsub
    · rename_i kvs e1
      obtain ⟨o, ho, hd⟩ := S.at e1 hp
      exact dict (.inl ho) hd q
    · rename_i kvs e1
      obtain ⟨od, o, ho, hd⟩ := S.at e1 hp
      exact dict (.inr ⟨od, ho⟩) hd q
    · cases q
  | _ => cases q
theorem cutL_RD {K : PySem.W.Frag} {ds : List D} {xs : List V} (lo hi : Option Int) (r : RDs K m H ds xs) : RDs K m H (cutL ds lo hi) (cutV xs lo hi) := by
  unfold cutL cutV
  rw [r.length]
  exact (r.drop _).take _
theorem sl_ok : SlR X (vSl X.K G EX) := by
  intro pins s σ H x a vl vu lo hi sl Q I rx hs pl pu h
  obtain ⟨m, τ, w, st, d, S, r1, h⟩ := h
  have lst : ∀ {l : List D → M D}, (∃ xs, lstO st d = some xs ∧ Po X.K G EX (RD X.K) m τ H w (newC (.lst (cutL xs lo hi)) st) Q) → ∃ T id, typeLookup (.type T) "__getitem__" = pure (some (.builtin id)) ∧ s.TypeIs a T ∧ wpAny (model X.prog X.w) X.A (getItem a (.ref sl)) (EP X pins σ Q) X.xe s := fun {l} ⟨xs, q, hz⟩ => by
    obtain ⟨p, vs, rfl, h1, h2⟩ := lstO_RD r1 S q
    exact sl_list pins s σ H _ a vl vu lo hi sl Q I rx hs pl pu ⟨_, _, rfl, h1, fun p' hp => hz.newL S (cutL_RD lo hi h2) hp⟩
  unfold slD at h
  cases r1 with
  | @tup p vs ds hq rs =>
    dsimp only at h
    refine sl_tupA pins s σ H _ a vl vu lo hi sl Q I rx hs pl pu ⟨_, _, rfl, hq.sq, fun ⟨e1, e2⟩ => ?_, fun _ p' hp => h.newT S (cutL_RD lo hi rs) hp⟩
    refine h.pure S (.tup hq ?_)
    have e : cutL ds lo hi = ds := by
      unfold cutL
      rw [show sIx ds.length 0 lo = 0 by rw [rs.length]; exact e1, show sIx ds.length ds.length hi = ds.length by rw [rs.length]; exact e2]
      simp
    rw [e]
    exact rs
  | str z' =>
    dsimp only at h
    split at h
    · rename_i hl
      refine sl_str pins s σ H _ a vl vu lo hi sl Q I rx hs pl pu ⟨_, rfl, by rw [in_len, sizeLine_eq]; exact hl, ?_⟩
      have e : cutS ⟨z'.toArray⟩ lo hi = ⟨(cutL z' lo hi).toArray⟩ := by
        unfold cutS cutL
        rw [in_len]
      rw [e]
      exact h.pure S (.str _)
    · exact h.elim
  | fl hq rs =>
    obtain ⟨xs, q, h⟩ := Po.rd (f := fun s => lstO s (.fl _)) h
    exact lst (l := fun _ => stuck) ⟨xs, q, h⟩
  | loc hq =>
    obtain ⟨xs, q, h⟩ := Po.rd (f := fun s => lstO s (.loc _)) h
    exact lst (l := fun _ => stuck) ⟨xs, q, h⟩
  | non =>
    obtain ⟨xs, q, h⟩ := Po.rd (f := fun s => lstO s .non) h
    cases q
  | bl b =>
    obtain ⟨xs, q, h⟩ := Po.rd (f := fun s => lstO s (.bl b)) h
    cases q
  | int i =>
    obtain ⟨xs, q, h⟩ := Po.rd (f := fun s => lstO s (.int i)) h
    cases q
theorem truth_RD {K : PySem.W.Frag} {d : D} {x : V} {k : Bool} (S : Sm K G m σ H v st) (r : RD K m H d x) (h : truthO st d = some k) : TruV K x H k := by
  have ne : ∀ {ds : List D} {vs : List V}, RDs K m H ds vs → (!ds.isEmpty) = !vs.isEmpty := fun r => by cases r <;> rfl
  cases r with
  | non => cases h; rfl
  | bl b => cases h; rfl
  | int i => cases h; rfl
  | str z =>
    have h' : (if z.length ≤ SL then some (z.length != 0) else none) = some k := h
    split at h'
    · rename_i hz
      cases h'
      refine ⟨by rw [in_len, sizeLine_eq]; exact hz, ?_⟩
      rw [in_len]
      by_cases e : z.length = 0
      · rw [e]; rfl
      · rw [show (z.length != 0) = true from bne_iff_ne.mpr e, show ((z.length : Int) != 0) = true from bne_iff_ne.mpr (by omega)]
    · cases h'
  | tup hs rs =>
    cases h
    exact .inr (.inl ⟨_, hs.sq, ne rs⟩)
  | fl hs rs =>
    cases h
    obtain ⟨a', vs', e1, e2, e3⟩ := lstO_RD (.fl hs rs) S rfl
    cases e1
    exact .inl ⟨_, e2, ne e3⟩
  | @loc l a hl =>
    have h' : (match st[l]? with | some (.lst xs) => some (!xs.isEmpty) | _ => none) = some k := h
    split at h'
    · rename_i xs e1
      cases h'
      obtain ⟨vs, h1, h2⟩ := S.at e1 hl
      exact .inl ⟨vs, SqL.of h1, ne h2⟩
    · cases h'
end
end Ix
end PIx9

section PIx10
set_option Elab.async false
set_option linter.all false
set_option maxRecDepth 100000
set_option autoImplicit false
set_option maxHeartbeats 1000000
/-! Ix10: calls of built-ins by values, stores. -/
namespace Ix
open PySem PySem.Spec L2
open PyProof.Rows hiding St

def blV : Bl → Value
  | .len => .builtin "len"
  | .max => .builtin "max"
  | .min => .builtin "min"
  | .tuple => .type "tuple"
  | .list => .type "list"
  | .sum => .builtin "sum"
  | .all => .builtin "all"
  | .any => .builtin "any"
  | .abs => .builtin "abs"
  | .int => .type "int"
  | .str => .type "str"
  | .sorted => .builtin "sorted"
  | .dict => .type "dict"
  | .repr => .builtin "repr"
section
variable {X : Cx} {G : Gx} {EX : XK} {m : List Addr} {pins : List (Addr × Obj)} {σ τ : St} {H : Hp} {s : Shared} {v : En} {st : Store}
theorem intsOf_RD {K : PySem.W.Frag} : ∀ {ds : List D} {xs : List V} {ns : List Int}, RDs K m H ds xs → intsOf ds = some ns → xs = ns.map V.int
  | _, _, ns, .nil, h => by cases h; rfl
  | .int i :: ds, _, ns, .cons (.int _) rs, h => by
    obtain ⟨ns', e, rfl⟩ := map_some (show (intsOf ds).map (i :: ·) = some ns from h)
    rw [intsOf_RD rs e]; rfl
  | .non :: _, _, _, .cons _ _, h => by cases h
  | .bl _ :: _, _, _, .cons _ _, h => by cases h
  | .str _ :: _, _, _, .cons _ _, h => by cases h
  | .tup _ :: _, _, _, .cons _ _, h => by cases h
  | .fl _ :: _, _, _, .cons _ _, h => by cases h
  | .loc _ :: _, _, _, .cons _ _, h => by cases h
theorem blsOf_RD {K : PySem.W.Frag} : ∀ {ds : List D} {xs : List V} {ns : List Bool}, RDs K m H ds xs → blsOf ds = some ns → xs = ns.map V.bl
  | _, _, ns, .nil, h => by cases h; rfl
  | .bl i :: ds, _, ns, .cons (.bl _) rs, h => by
    obtain ⟨ns', e, rfl⟩ := map_some (show (blsOf ds).map (i :: ·) = some ns from h)
    rw [blsOf_RD rs e]; rfl
  | .non :: _, _, _, .cons _ _, h => by cases h
  | .int _ :: _, _, _, .cons _ _, h => by cases h
  | .str _ :: _, _, _, .cons _ _, h => by cases h
  | .tup _ :: _, _, _, .cons _ _, h => by cases h
  | .fl _ :: _, _, _, .cons _ _, h => by cases h
  | .loc _ :: _, _, _, .cons _ _, h => by cases h
theorem strsOf_RD {K : PySem.W.Frag} : ∀ {ds : List D} {xs : List V} {ns : List (List Nat)}, RDs K m H ds xs → strsOf ds = some ns → xs = (ns.map fun z => (⟨z.toArray⟩ : Str)).map V.str
  | _, _, ns, .nil, h => by cases h; rfl
  | .str i :: ds, _, ns, .cons (.str _) rs, h => by
    obtain ⟨ns', e, rfl⟩ := map_some (show (strsOf ds).map (i :: ·) = some ns from h)
    rw [strsOf_RD rs e]; rfl
  | .non :: _, _, _, .cons _ _, h => by cases h
  | .bl _ :: _, _, _, .cons _ _, h => by cases h
  | .int _ :: _, _, _, .cons _ _, h => by cases h
  | .tup _ :: _, _, _, .cons _ _, h => by cases h
  | .fl _ :: _, _, _, .cons _ _, h => by cases h
  | .loc _ :: _, _, _, .cons _ _, h => by cases h
theorem RDs.one {K : PySem.W.Frag} {d : D} {xs : List V} (r : RDs K m H [d] xs) : ∃ x, xs = [x] ∧ RD K m H d x := by
  cases r with
  | cons a b => cases b; exact ⟨_, rfl, a⟩
theorem RDs.two {K : PySem.W.Frag} {d e : D} {xs : List V} (r : RDs K m H [d, e] xs) : ∃ x y, xs = [x, y] ∧ RD K m H d x ∧ RD K m H e y := by
  cases r with
  | cons a b =>
    obtain ⟨y, rfl, h⟩ := b.one
    exact ⟨_, y, rfl, a, h⟩
theorem len_ok (hE : G.ent = entryOfKey (nestedKind X.prog X.w)) {x : V} {xs : List V} {us : List Value} {d : D} {n : Nat} {Q : VK} (I : Inv X pins σ H s) (S : Sm X.K G m τ H v st) (e : xs = [x]) (rs : Vals xs us) (r1 : RD X.K m H d x) (h : lenO st d = some n) (q : Q (.int n) H) :
    wpAny (model X.prog X.w) X.A (call (.builtin "len") us) (EP X pins σ Q) X.xe s := by
  subst e
  have sq : ∀ {n : Nat}, LenV X.K x H n → Q (.int n) H → wpAny (model X.prog X.w) X.A (call (.builtin "len") us) (EP X pins σ Q) X.xe s := fun hl q => call_len pins s σ H _ us Q I rs ⟨x, _, rfl, hl, q⟩
  cases r1 with
  | str z =>
    have h' : (if z.length ≤ SL then some z.length else none) = some n := h
    split at h'
    · rename_i hz
      cases h'
      exact sq ⟨by rw [in_len, sizeLine_eq]; exact hz, (in_len z).symm⟩ q
    · cases h'
  | tup hs r =>
    cases h
    exact sq (.inr ⟨_, hs.sq, r.length⟩) q
  | fl hs r =>
    cases h
    obtain ⟨a', vs', e1, e2, e3⟩ := lstO_RD (.fl hs r) S rfl
    cases e1
    exact sq (.inl ⟨_, e2, e3.length⟩) q
  | @loc l a hl =>
    have dict : ∀ {kvs : List (D × D)} {o : HO}, Rd H a o → DRx X.K G m H a kvs o → Q (.int kvs.length) H → wpAny (model X.prog X.w) X.A (call (.builtin "len") us) (EP X pins σ Q) X.xe s := fun {kvs o} ho hd q => by
      obtain ⟨u, rfl, ru⟩ := vals1 rs
      cases (show u = Value.ref a from ru)
      rcases hd with ⟨ws, rfl, r⟩ | ⟨ne, ob, xs, rfl, T, r⟩
      · refine d_len I ho fun t s' I' => ⟨.int kvs.length, H, I', ⟨t, ?_⟩, q⟩
        rw [Paired.length r]
      · have hlen := Paired.length r
        have hz := T.sz
        rw [sizeLine_eq] at hz
        refine call_len_dictH T.sy (tup_dict hE I ho T r) (by omega) ⟨.int kvs.length, H, I.tok _, ⟨_, by rw [hlen]⟩, q⟩
    have h' : (match st[l]? with | some (.lst xs) => some xs.length | some (.dct kvs) => some kvs.length | some (.lck kvs) => some kvs.length | _ => none) = some n := h
    split at h'
    · rename_i xs e1
      cases h'
      obtain ⟨vs, h1, h2⟩ := S.at e1 hl
      exact sq (.inl ⟨vs, SqL.of h1, h2.length⟩) q
    · rename_i kvs e1
      cases h'
      obtain ⟨o, ho, hd⟩ := S.at e1 hl
      exact dict (.inl ho) hd q
    · rename_i kvs e1
      cases h'
      obtain ⟨od, o, ho, hd⟩ := S.at e1 hl
      exact dict (.inr ⟨od, ho⟩) hd q
    · cases h'
  | _ => cases h
theorem bc_ok (hE : G.ent = entryOfKey (nestedKind X.prog X.w)) (hc : X.calm = true) (b : Bl) : CallR X (blV b) (vC X.K G EX (bcD b)) := by
  intro pins s σ H xs us Q I rs h
  obtain ⟨m, τ, w, st, ds, S, rd, h⟩ := h
  unfold bcD at h
  split at h
  · obtain ⟨ys, q, h⟩ := Po.rd (f := fun s => itemsO s _) h
    obtain ⟨x, rfl, r1⟩ := rd.one
    obtain ⟨a, vs, rfl, h1, h2⟩ := itemsO_RD r1 S q
    exact call_list_of pins s σ H _ us Q I rs ⟨a, vs, rfl, h1.imp id TQ.sq, fun l hl => h.newL S h2 hl⟩
  · obtain ⟨z, q, h⟩ := Po.rd1 (f := fun s => bcO b s ds) h
    unfold bcO at q
    split at q
    · obtain ⟨x, rfl, r1⟩ := rd.one
      obtain ⟨n, q', rfl⟩ := map_some q
      exact len_ok hE I S rfl rs r1 q' (h.ok S (.int _))
    · cases q
      obtain ⟨x, y, rfl, r1, r2⟩ := rd.two
      cases r1; cases r2
      exact call_max2 hc pins s σ H _ us Q I rs ⟨_, _, rfl, h.ok S (.int _)⟩
    · cases q
      obtain ⟨x, y, rfl, r1, r2⟩ := rd.two
      cases r1; cases r2
      exact call_min2 hc pins s σ H _ us Q I rs ⟨_, _, rfl, h.ok S (.int _)⟩
    · cases q
      obtain ⟨x, rfl, r1⟩ := rd.one
      cases r1
      exact call_abs pins s σ H _ us Q I rs ⟨_, rfl, h.ok S (.int _)⟩
    · cases q
      obtain ⟨x, rfl, r1⟩ := rd.one
      cases r1
      exact call_int1 pins s σ H _ us Q I rs (.inl ⟨_, rfl, h.ok S (.int _)⟩)
    · cases q
      obtain ⟨x, rfl, r1⟩ := rd.one
      cases r1
      exact call_int1 pins s σ H _ us Q I rs (.inr ⟨_, rfl, h.ok S (.int _)⟩)
    · obtain ⟨x, rfl, r1⟩ := rd.one
      obtain ⟨ys, q', rfl⟩ := map_some q
      obtain ⟨a, vs, rfl, h1, h2⟩ := itemsO_RD r1 S q'
      refine call_tuple_of pins s σ H _ us Q I rs ⟨a, vs, rfl, ?_⟩
      rcases h1 with h1 | h1
      · exact .inl ⟨h1, fun l hl => Po.newT (h := h) S h2 hl⟩
      · exact .inr ⟨h1.sq, h.ok S (.tup h1 h2)⟩
    · obtain ⟨x, rfl, r1⟩ := rd.one
      obtain ⟨ns, q', rfl⟩ := map_some q
      obtain ⟨ys, q1, q2⟩ := Option.bind_eq_some_iff.mp q'
      obtain ⟨a, vs, rfl, h1, h2⟩ := lstO_RD r1 S q1
      have e := intsOf_RD h2 q2
      subst e
      exact cr_sum hc pins s σ H _ us Q I rs ⟨a, ns, rfl, h1, h.ok S (.int _)⟩
    · obtain ⟨x, rfl, r1⟩ := rd.one
      obtain ⟨ns, q', rfl⟩ := map_some q
      obtain ⟨ys, q1, q2⟩ := Option.bind_eq_some_iff.mp q'
      obtain ⟨a, vs, rfl, h1, h2⟩ := lstO_RD r1 S q1
      have e := blsOf_RD h2 q2
      subst e
      exact cr_all hc pins s σ H _ us Q I rs ⟨a, ns, rfl, h1, h.ok S (.bl _)⟩
    · obtain ⟨x, rfl, r1⟩ := rd.one
      obtain ⟨ns, q', rfl⟩ := map_some q
      obtain ⟨ys, q1, q2⟩ := Option.bind_eq_some_iff.mp q'
      obtain ⟨a, vs, rfl, h1, h2⟩ := lstO_RD r1 S q1
      have e := blsOf_RD h2 q2
      subst e
      exact cr_any hc pins s σ H _ us Q I rs ⟨a, ns, rfl, h1, h.ok S (.bl _)⟩
    · cases q
end
end Ix
end PIx10

section PIx11
set_option Elab.async false
set_option linter.all false
set_option maxRecDepth 100000
set_option autoImplicit false
set_option maxHeartbeats 1000000
/-! Ix11: isinstance, methods of built-in types, stores by values. -/
namespace Ix
open PySem PySem.Spec L2
open PyProof.Rows hiding St

def tyN : Ty → String
  | .int => "int"
  | .bool => "bool"
  | .str => "str"
  | .tuple => "tuple"
  | .list => "list"
theorem kit_non (t : Ty) : kitB "NoneType" (tyN t) = some false := by cases t <;> decide +kernel
theorem kit_bl (t : Ty) : kitB "bool" (tyN t) = some (t == .bool || t == .int) := by cases t <;> decide +kernel
theorem kit_int (t : Ty) : kitB "int" (tyN t) = some (t == .int) := by cases t <;> decide +kernel
theorem kit_str (t : Ty) : kitB "str" (tyN t) = some (t == .str) := by cases t <;> decide +kernel
theorem kit_tuple (t : Ty) : kitB "tuple" (tyN t) = some (t == .tuple) := by cases t <;> decide +kernel
theorem kit_list (t : Ty) : kitB "list" (tyN t) = some (t == .list) := by cases t <;> decide +kernel
def vU (K : PySem.W.Frag) (G : Gx) (EX : XK) (f : D → M D) : V → Hp → VK → Prop := fun x H Q => ∃ m σ v st d, Sm K G m σ H v st ∧ RD K m H d x ∧ Po K G EX (RD K) m σ H v (f d st) Q
def isiD (t : Ty) (d : D) : M D := do
  let k ← rd fun s => tyO s d t
  pure (.bl k)
section
variable {X : Cx} {G : Gx} {EX : XK} {m : List Addr} {pins : List (Addr × Obj)} {σ τ : St} {H : Hp} {s : Shared} {v : En} {st : Store}
theorem isi_ok {x : V} {d : D} {t : Ty} {us : List Value} {Q : VK} (I : Inv X pins σ H s) (rs : Vals [x, .ty (tyN t)] us) (S : Sm X.K G m τ H v st) (r1 : RD X.K m H d x) (h : Po X.K G EX (RD X.K) m τ H v (isiD t d st) Q) :
    wpAny (model X.prog X.w) X.A (call (.builtin "isinstance") us) (EP X pins σ Q) X.xe s := by
  obtain ⟨k, q, h⟩ := Po.rd (f := fun s => tyO s d t) h
  have fin : ∀ {T : String}, TyX X.K H x (.type T) → kitB T (tyN t) = some k → wpAny (model X.prog X.w) X.A (call (.builtin "isinstance") us) (EP X pins σ Q) X.xe s := fun {T} ty kb =>
    call_isi pins s σ H _ us Q I rs ⟨x, .ty (tyN t), .type T, .type (tyN t), k, rfl, .ty _, ty, kit_ty kb, h.pure S (.bl k)⟩
  cases r1 with
  | non => cases q; exact fin (.base .non) (kit_non t)
  | bl b => cases q; exact fin (.base (.bl b)) (kit_bl t)
  | int i => cases q; exact fin (.base (.int i)) (kit_int t)
  | str z => cases q; exact fin (.base (.str _)) (kit_str t)
  | tup hs rs =>
    cases q
    rcases hs with e | ⟨o, its, n, e, hc, _⟩
    · exact fin (.base (.tup e)) (kit_tuple t)
    · exact fin (.kTuple e hc) (kit_tuple t)
  | fl hs rs =>
    cases q
    rcases hs with ⟨o, e⟩ | ⟨o, its, n, e, hc, _⟩
    · exact fin (.base (.frz e)) (kit_list t)
    · exact fin (.kList e hc) (kit_list t)
  | @loc l a hl =>
    have q' : (match st[l]? with | some (.lst _) => some (t == .list) | _ => none) = some k := q
    split at q'
    · rename_i xs e1
      cases q'
      obtain ⟨vs, h1, h2⟩ := S.at e1 hl
      exact fin (.base (.lst h1)) (kit_list t)
    · cases q'
/-! ### methods -/
def mtT : Mt → String
  | .append => "list"
  | .join => "str"
  | .pop => "list"
  | .extend => "list"
  | .split => "str"
  | .insert => "list"
  | .index => "list"
  | .get => "dict"
  | .setdefault => "dict"
theorem join_codes (z : List Nat) : ∀ xs : List (List Nat), Str.join ⟨z.toArray⟩ (xs.map fun x => (⟨x.toArray⟩ : Str)) = ⟨(joinL z xs).toArray⟩
  | [] => rfl
  | [x] => rfl
  | x :: y :: r => by
    show (⟨x.toArray⟩ : Str) ++ ⟨z.toArray⟩ ++ Str.join ⟨z.toArray⟩ ((y :: r).map fun x => (⟨x.toArray⟩ : Str)) = _
    rw [join_codes z (y :: r), app_codes, app_codes]
    rfl
theorem txt_join (z : List Nat) (xs : List (List Nat)) : Txt.join ⟨z.toArray⟩ (xs.map fun x => (⟨x.toArray⟩ : Str)) = ⟨(joinL z xs).toArray⟩ := (StrLaws.glued_eq_join _ _).trans (join_codes z xs)
theorem Po.putL {l : Nat} {a : Addr} {d : D} {x : V} {ys : List D} {vs ws : List V} {Q : VK} {K : PySem.W.Frag} (h : Po K G EX (RD K) m σ H v (.ok d (st.set l (.lst ys))) Q) (S : Sm K G m σ H v st) (ha : m[l]? = some a) (hH : H a = some (.lst ws)) (r : RDs K m H ys vs) (rd : RD K m H d x) :
    Q x (upd H a (.lst vs)) := by
  have hm := List.mem_of_getElem? ha
  have xt : Ext m m H (upd H a (.lst vs)) := ext_write hm fun u hu => by
    rw [hH] at hu; cases hu
    exact ⟨(fun _ z => nomatch z), (fun _ _ z => nomatch z)⟩
  exact h m x _ xt (S.write ha xt ⟨vs, upd_same, r.ext xt⟩) (rd.ext xt)
theorem append_ok : MtR X "list.append" (vM X.K G EX appendD) := by
  intro pins s σ H x xs a us Q I rx rs h
  obtain ⟨m, τ, w, st, d, ds, S, r1, r2, h⟩ := h
  unfold appendD at h
  split at h
  · obtain ⟨y, rfl, ry⟩ := r2.one
    cases r1 with
    | loc hl =>
      split at h
      · rename_i ys e1
        obtain ⟨vs, h1, h2⟩ := S.at e1 hl
        split at h
        · rename_i hz
          exact mt_append pins s σ H _ _ a us Q I rx rs ⟨_, _, _, rfl, rfl, h1, by rw [sizeLine_eq, ← h2.length]; exact hz, h.putL S hl h1 (h2.append (.cons ry .nil)) .non⟩
        · exact h.elim
      · exact h.elim
  · exact h.elim
theorem pop_ok : MtR X "list.pop" (vM X.K G EX popD) := by
  intro pins s σ H x xs a us Q I rx rs h
  obtain ⟨m, τ, w, st, d, ds, S, r1, r2, h⟩ := h
  unfold popD at h
  split at h
  · cases r2
    cases r1 with
    | loc hl =>
      split at h
      · rename_i ys e1
        obtain ⟨vs, h1, h2⟩ := S.at e1 hl
        split at h
        · rename_i y e2
          obtain ⟨y', h3, h4⟩ := h2.get e2
          exact mt_pop pins s σ H _ _ a us Q I rx rs ⟨_, _, _, rfl, rfl, h1, by rw [← h2.length]; exact h3, h.putL S hl h1 h2.dropLast h4⟩
        · exact h.elim
      · exact h.elim
  · exact h.elim
theorem join_ok : MtR X "str.join" (vM X.K G EX joinD) := by
  intro pins s σ H x xs a us Q I rx rs h
  obtain ⟨m, τ, w, st, d, ds, S, r1, r2, h⟩ := h
  unfold joinD at h
  split at h
  · obtain ⟨y, rfl, ry⟩ := r2.one
    cases r1
    obtain ⟨z, q, h⟩ := Po.rd1 (f := fun s => joinO _ s _) h
    unfold joinO at q
    split at q
    · rename_i xs e1
      obtain ⟨ys, q1, q2⟩ := Option.bind_eq_some_iff.mp e1
      split at q
      · rename_i hz
        cases q
        obtain ⟨b, vs, rfl, h1, h2⟩ := itemsO_RD ry S q1
        have e := strsOf_RD h2 q2
        subst e
        refine mt_join pins s σ H _ _ a us Q I rx rs ⟨_, b, xs.map fun z => (⟨z.toArray⟩ : Str), rfl, rfl, h1.imp id TQ.sq, ?_, ?_⟩
        · have e1 : ((xs.map fun z => (⟨z.toArray⟩ : Str)).map (·.length)) = xs.map List.length := by
            rw [List.map_map]
            exact List.map_congr_left fun z _ => in_len z
          rw [e1, in_len, List.length_map, Nat.mul_comm xs.length]
          exact hz
        · rw [txt_join]
          exact h.ok S (.str _)
      · cases q
    · cases q
  · exact h.elim
/-! ### o[i] = v -/
def vSet (K : PySem.W.Frag) (G : Gx) (EX : XK) : TSet := fun o i x H Q => ∃ m σ v st d e z, Sm K G m σ H v st ∧ RD K m H d o ∧ RD K m H e i ∧ RD K m H z x ∧ Po K G EX rT m σ H v (setIxD d e z st) (fun _ H' => Q H')
theorem set_ok (hE : G.ent = entryOfKey (nestedKind X.prog X.w)) (hu : X.A.units + 100 < cLine) : PSet X (vSet X.K G EX) := by
  intro pins s σ H o i x ov iv u Q I ro ri rx h
  obtain ⟨m, τ, w, st, d, e, z, S, r1, r2, r3, h⟩ := h
  unfold setIxD at h
  cases r1 with
  | @loc l a hl =>
    dsimp only at h
    split at h
    · rename_i xs e1
      obtain ⟨vs, h1, h2⟩ := S.at e1 hl
      cases r2 with
      | int k =>
        dsimp only at h
        split at h
        · rename_i j hj
          refine set_list pins s σ H _ _ x ov iv u Q I ro ri rx ⟨a, vs, k, j, rfl, rfl, h1, by rw [← h2.length]; exact hj, ?_⟩
          have hm := List.mem_of_getElem? hl
          have xt : Ext m m H (upd H a (.lst (vs.set j x))) := ext_write hm fun u hu => by
            rw [h1] at hu; cases hu
            exact ⟨(fun _ z => nomatch z), (fun _ _ z => nomatch z)⟩
          exact h m () _ xt (S.write hl xt ⟨_, upd_same, (h2.set r3 j).ext xt⟩) trivial
        · exact h.elim
      | _ => exact h.elim
    · rename_i kvs e1
      split at h
      · rename_i q hq
        split at h
        · rename_i ok
          rw [Bool.and_eq_true, decide_eq_true_eq] at ok
          cases (show ov = Value.ref a from ro)
          exact dk_set hE (by omega) I S hl e1 r2 ri hq ok.1 ok.2 r3 rx fun H' s' I' xt S' => ⟨H', I', h m () H' xt S' trivial⟩
        · exact h.elim
      · exact h.elim
    · exact h.elim
  | _ => exact h.elim
end
end Ix
end PIx11

section PIx12
set_option Elab.async false
set_option linter.all false
set_option maxRecDepth 100000
set_option autoImplicit false
set_option maxHeartbeats 1000000
/-! Ix12: the syntax held against the model's own. -/
namespace Ix
open PySem PySem.Spec L2
open PyProof.Rows hiding St

def notStar : Expr → Bool
  | .Starred .. => false
  | _ => true
theorem starEach_cons {e : Expr} {es : List Expr} {env : PySem.Env} (h : notStar e = true) : starEach (e :: es) env = (false, eval e env) :: starEach es env := by
  cases e <;> first | rfl | cases h
theorem assignEach_cons {e : Expr} {es : List Expr} {env : PySem.Env} (h : notStar e = true) : assignEach (e :: es) env = (false, assign e env) :: assignEach es env := by
  cases e <;> first | rfl | cases h
def notComp : Expr → Bool
  | .ListComp .. => false
  | .SetComp .. => false
  | .DictComp .. => false
  | _ => true
theorem swapsWith_no {e : Expr} {t : Option Expr} {l : Nat} {env : PySem.Env} (h : notComp e = true) : swapsWith e t l env = pure false := by
  cases e <;> first | rfl | cases h
def notSet : Expr → Bool
  | .Set .. => false
  | _ => true
theorem folded_no {e : Expr} {env : PySem.Env} (h : notSet e = true) (x : Value) : foldedSetIterable e env x = pure x := by
  cases e <;> first | rfl | cases h
def notCall : Expr → Bool
  | .Call .. => false
  | _ => true
theorem attrBase {e : Expr} {f : Str} {env : PySem.Env} (h : notCall e = true) (whole : Sem Value) : attributeBase e f env whole = whole := by
  cases e <;> first | rfl | cases h
def plainTest : Expr → Bool
  | .UnaryOp .. => false
  | .BoolOp .. => false
  | .IfExp .. => false
  | .Compare .. => false
  | _ => true
theorem isTrue_plainT {e : Expr} {env : PySem.Env} (h : plainTest e = true) (whole : Sem Value) : isTrue e env whole = (do let v ← whole; standAt e.pos; holding [v] (truthy v)) := by
  cases e <;> first | rfl | cases h
def isTup : Expr → Bool
  | .Tuple .. => true
  | _ => false
def notSlice : Expr → Bool
  | .Slice .. => false
  | _ => true
theorem plainIx {e : Expr} (h : notSlice e = true) : PlainIx e := by
  intro o i
  cases e <;> first | rfl | cases h
def notTup : Expr → Bool
  | .Tuple .. => false
  | .List .. => false
  | _ => true
theorem swapped_no {tg e : Expr} {env : PySem.Env} (h : notTup tg = true ∨ (match e with | .Tuple .. => false | _ => true) = true) : swappedStores [tg] e env = pure none := by
  rcases h with h | h
  · cases tg <;> first | rfl | (cases e <;> rfl) | cases h
  · cases e <;> first | (cases tg <;> rfl) | cases h

structure Tb where
  fnm : Nat → Option Str
  con : List (Str × D)
  bl : List Str
structure CC where
  N : List Str
  sc : Scope
  fnB : Str → Bool
def visB (sc : Scope) (x : Str) : Bool := match sc.names.lookup x with
  | some .local => true
  | some .cell => true
  | some .free => true
  | _ => false
def locB (sc : Scope) (x : Str) : Bool := match sc.names.lookup x with
  | some .local => true
  | some .cell => true
  | _ => false
def gloB (sc : Scope) (x : Str) : Bool := match sc.names.lookup x with
  | some .globalImplicit => true
  | _ => false
def plainName (x : Str) : Bool := !(x == ("__debug__" : Str)) && !(x == ("__classdict__" : Str)) && !(x == ("__name__" : Str))
def blName : Bl → Str
  | .len => "len"
  | .max => "max"
  | .min => "min"
  | .tuple => "tuple"
  | .list => "list"
  | .sum => "sum"
  | .all => "all"
  | .any => "any"
  | .abs => "abs"
  | .int => "int"
  | .str => "str"
  | .sorted => "sorted"
  | .dict => "dict"
  | .repr => "repr"
def blB (Z : Tb) (cc : CC) (x : Str) : Bool := gloB cc.sc x && Z.bl.contains x
def mtName : Mt → Str
  | .append => "append"
  | .join => "join"
  | .pop => "pop"
  | .extend => "extend"
  | .split => "split"
  | .insert => "insert"
  | .index => "index"
  | .get => "get"
  | .setdefault => "setdefault"
def conB (d : D) (c : Const) : Bool := match d, c with
  | .non, .none => true
  | .bl b, .bool b' => b == b'
  | .int i, .int j => decide (i = j)
  | .str x, .str y => decide (y = ⟨x.toArray⟩)
  | _, _ => false
def conEq : D → D → Bool
  | .int i, .int j => decide (i = j)
  | .str y, .str z => decide (y = z)
  | _, _ => false
mutual
def okT (cc : CC) : T → Expr → Bool
  | .nm i, ex => match ex with
    | .Name x _ => decide (cc.N[i]? = some x) && locB cc.sc x && (cc.fnB x || decide (cc.sc.names.lookup x = some .local))
    | _ => false
  | .tup ts, ex => match ex with
    | .Tuple es _ _ => okTs cc ts es
    | _ => false
def okTs (cc : CC) : Ts → List Expr → Bool
  | .nil, es => es.isEmpty
  | .cons t ts, es => match es with
    | e :: r => notStar e && okT cc t e && okTs cc ts r
    | [] => false
end
def sameCo (o : Co) (p : CmpOp) : Bool := match o, p with
  | .eq, .Eq => true
  | .ne, .NotEq => true
  | .lt, .Lt => true
  | .le, .LtE => true
  | .gt, .Gt => true
  | .ge, .GtE => true
  | .isin, .In => true
  | .nin, .NotIn => true
  | .is_, .Is => true
  | .isn, .IsNot => true
  | _, _ => false
def sameBo (o : Bo) (p : Operator) : Bool := match o, p with
  | .add, .Add => true
  | .sub, .Sub => true
  | .mul, .Mult => true
  | .fdiv, .FloorDiv => true
  | .mod, .Mod => true
  | .pow, .Pow => true
  | _, _ => false
theorem sameCo_eq {o : Co} {p : CmpOp} (h : sameCo o p = true) : p = cop o := by cases o <;> cases p <;> first | rfl | cases h
theorem sameBo_eq {o : Bo} {p : Operator} (h : sameBo o p = true) : p = bop o := by cases o <;> cases p <;> first | rfl | cases h
/-- a comprehension's block -/
def blkCC (cc : CC) (scope : Scope) : CC := ⟨cc.N, relS scope cc.sc, fun x => scope.names.lookup x == some .cell⟩
def fewMt (m : Mt) (n : Nat) : Bool := match m with
  | .append => n == 1
  | .join => n == 1
  | .pop => n == 0
  | _ => false
mutual
/-- may it be a test? -/
def okTe : E → Bool
  | .ife _ _ _ => false
  | .neg _ => false
  | .and es => okTes es
  | .or es => okTes es
  | .not a => okTe a
  | _ => true
def okTes : Es → Bool
  | .nil => true
  | .cons e es => okTe e && okTes es
end
mutual
def okE (Z : Tb) (cc : CC) : E → Expr → Bool
  | .var i, ex => match ex with
    | .Name x _ => decide (cc.N[i]? = some x) && visB cc.sc x && plainName x
    | _ => false
  | .con d, ex => match ex with
    | .Constant c _ _ => conB d c
    | _ => false
  | .glo d, ex => match ex with
    | .Name x _ => gloB cc.sc x && plainName x && Z.con.any fun p => decide (p.1 = x) && conEq p.2 d
    | _ => false
  | .bin o a b, ex => match ex with
    | .BinOp x p y _ => sameBo o p && okE Z cc a x && okE Z cc b y
    | _ => false
  | .neg a, ex => match ex with
    | .UnaryOp .USub x _ => okE Z cc a x
    | _ => false
  | .not a, ex => match ex with
    | .UnaryOp .Not x _ => okE Z cc a x
    | _ => false
  | .and es, ex => match ex with
    | .BoolOp .And (x :: xs) _ => okEs Z cc es (x :: xs)
    | _ => false
  | .or es, ex => match ex with
    | .BoolOp .Or (x :: xs) _ => okEs Z cc es (x :: xs)
    | _ => false
  | .cmp o a b, ex => match ex with
    | .Compare x [p] [y] _ => sameCo o p && okE Z cc a x && okE Z cc b y && notSet y
    | _ => false
  | .cmp2 o o' a b c, ex => match ex with
    | .Compare x [p, p'] [y, z] _ => sameCo o p && sameCo o' p' && okE Z cc a x && okE Z cc b y && okE Z cc c z && notSet z
    | _ => false
  | .ife c a b, ex => match ex with
    | .IfExp z x y _ => okE Z cc c z && okTe c && okE Z cc a x && okE Z cc b y
    | _ => false
  | .tup es, ex => match ex with
    | .Tuple xs _ _ => okEs Z cc es xs
    | _ => false
  | .lst es, ex => match ex with
    | .List xs _ => okEs Z cc es xs
    | _ => false
  | .dnew, ex => match ex with
    | .Dict [] [] _ => true
    | _ => false
  | .ix a b, ex => match ex with
    | .Subscript x y _ => okE Z cc a x && okE Z cc b y && notSlice y
    | _ => false
  | .sl a lo hi, ex => match ex with
    | .Subscript x (.Slice l h none _) _ => okE Z cc a x && okO Z cc lo l && okO Z cc hi h
    | _ => false
  | .call f es, ex => match ex with
    | .Call (.Name x _) xs [] _ => gloB cc.sc x && plainName x && decide (Z.fnm f = some x) && okEs Z cc es xs
    | _ => false
  | .bc b es, ex => match ex with
    | .Call (.Name x _) (y :: ys) [] _ => decide (x = blName b) && blB Z cc x && okEs Z cc es (y :: ys)
    | _ => false
  | .isi a t, ex => match ex with
    | .Call (.Name x _) [y, .Name z _] [] _ => decide (x = "isinstance") && blB Z cc x && decide (z = (tyN t : Str)) && blB Z cc z && okE Z cc a y && notStar y
    | _ => false
  | .mt m a es, ex => match ex with
    | .Call (.Attribute x n ap) xs [] pos => decide (n = mtName m) && (ap.endLine == pos.line) && notCall x && okE Z cc a x && okEs Z cc es xs && fewMt m xs.length
    | _ => false
  | .comp own t i c e, ex => match ex with
    | .ListComp x [⟨tg, iter, ifs, 0⟩] scope _ => blkC cc.N cc.sc scope (own.filterMap fun j => (cc.N[j]?).map fun n => (n, j)) && decide ((own.filterMap fun j => (cc.N[j]?).map fun n => (n, j)).map (·.2) = own)
        && t.slots.all (fun j => own.contains j) && okI Z cc i iter tg && okT (blkCC cc scope) t tg && okIf Z (blkCC cc scope) c ifs && okE Z (blkCC cc scope) e x && notSet iter
    | _ => false
def okEs (Z : Tb) (cc : CC) : Es → List Expr → Bool
  | .nil, xs => xs.isEmpty
  | .cons e es, xs => match xs with
    | x :: r => okE Z cc e x && notStar x && okEs Z cc es r
    | [] => false
def okO (Z : Tb) (cc : CC) : O → Option Expr → Bool
  | .none, x => x.isNone
  | .some e, x => match x with
    | some x => okE Z cc e x
    | none => false
def okIf (Z : Tb) (cc : CC) : O → List Expr → Bool
  | .none, xs => xs.isEmpty
  | .some e, xs => match xs with
    | [x] => okE Z cc e x && okTe e
    | _ => false
def okI (Z : Tb) (cc : CC) : I → Expr → Expr → Bool
  | .plain e, x, _ => okE Z cc e x
  | .rng es, x, _ => match x with
    | .Call (.Name n _) xs [] _ => decide (n = "range") && blB Z cc n && okEs Z cc es xs && decide (1 ≤ xs.length) && decide (xs.length ≤ 3)
    | _ => false
  | .enum e, x, tg => match x with
    | .Call (.Name n _) [y] [] _ => decide (n = "enumerate") && blB Z cc n && okE Z cc e y && notStar y && isTup tg
    | _ => false
end
def okS (Z : Tb) (cc : CC) : S → List Stmt → Bool
  | .skip, ss => ss.isEmpty
  | .seq a b, ss => match ss with
    | s :: r => okS Z cc a [s] && okS Z cc b r
    | [] => false
  | .asg t e, ss => match ss with
    | [.Assign [tg] x pos] => (match t, e with
      | .nm _, .comp _ _ _ _ _ => false
      | _, _ => notComp x) && okT cc t tg && okE Z cc e x && notStar tg && (notTup tg || (match x with | .Tuple .. => false | _ => true))
    | _ => false
  | .setix a b e, ss => match ss with
    | [.Assign [.Subscript x y _] z _] => notComp z && okE Z cc a x && okE Z cc b y && okE Z cc e z
    | _ => false
  | .expr e, ss => match ss with
    | [.Expr x _] => notComp x && okE Z cc e x
    | _ => false
  | .ret e, ss => match ss with
    | [.Return (some x) _] => okE Z cc e x
    | _ => false
  | .if_ c a b, ss => match ss with
    | [.If x ys zs _] => okE Z cc c x && okTe c && okS Z cc a ys && okS Z cc b zs
    | _ => false
  | .for_ t i b, ss => match ss with
    | [.For tg x ys [] _] => okI Z cc i x tg && okT cc t tg && okS Z cc b ys && notSet x
    | _ => false
  | .while_ c b, ss => match ss with
    | [.While x ys [] _] => okE Z cc c x && okTe c && okS Z cc b ys
    | _ => false
  | .brk, ss => match ss with
    | [.Break _] => true
    | _ => false
  | .cont, ss => match ss with
    | [.Continue _] => true
    | _ => false
  | .no, _ => true
end Ix
end PIx12

section PIx13
set_option Elab.async false
set_option linter.all false
set_option maxRecDepth 100000
set_option autoImplicit false
set_option maxHeartbeats 1000000
/-! Ix13: runs in a row; targets; what is walked. -/
namespace Ix
open PySem PySem.Spec L2
open PyProof.Rows hiding St

theorem PE.imp {X : Cx} {ex : Expr} {t t' : TE} (h : PE X ex t) (w : ∀ σ H Q, t' σ H Q → t σ H Q) : PE X ex t' := ⟨fun pins s σ H Q I q => h.run pins s σ H Q I (w σ H Q q)⟩
theorem PT.imp {X : Cx} {ex : Expr} {t t' : TT} (h : PT X ex t) (w : ∀ σ H Q, t' σ H Q → t σ H Q) : PT X ex t' := ⟨fun pins s σ H Q I q => h.run pins s σ H Q I (w σ H Q q)⟩
theorem PW.imp {X : Cx} {ex : Expr} {t t' : TT} (h : PW X ex t) (w : ∀ σ H Q, t' σ H Q → t σ H Q) : PW X ex t' := ⟨fun wh pins s σ H Q I q => h.run wh pins s σ H Q I (w σ H Q q)⟩
theorem PA.imp {X : Cx} {ex : List Expr} {t t' : TA} (h : PA X ex t) (w : ∀ σ H Q, t' σ H Q → t σ H Q) : PA X ex t' := ⟨fun pos pins s σ H Q I q => h.run pos pins s σ H Q I (w σ H Q q)⟩
theorem PS.imp {X : Cx} {ex : Stmt} {t t' : TS} (h : PS X ex t) (w : ∀ D σ H, t' D σ H → t D σ H) : PS X ex t' := ⟨fun pins s σ H D I q => h.run pins s σ H D I (w D σ H q)⟩
theorem PSs.imp {X : Cx} {ex : List Stmt} {t t' : TS} (h : PSs X ex t) (w : ∀ D σ H, t' D σ H → t D σ H) : PSs X ex t' := ⟨fun pins s σ H D I q => h.run pins s σ H D I (w D σ H q)⟩
theorem PO.imp {X : Cx} {ex : Option Expr} {t t' : TO} (h : PO X ex t) (w : ∀ σ H Q, t' σ H Q → t σ H Q) : PO X ex t' := ⟨fun pins s σ H Q I q => h.run pins s σ H Q I (w σ H Q q)⟩
theorem PI.imp {X : Cx} {tg ex : Expr} {t t' : TI} (h : PI X tg ex t) (w : ∀ σ H R, t' σ H R → t σ H R) : PI X tg ex t' := ⟨fun pins s σ H R I q => h.run pins s σ H R I (w σ H R q)⟩

section
variable {K : PySem.W.Frag} {G : Gx} {EX : XK} {σ : St} {H : Hp}
def Stab {α β : Type} (rel : List Addr → Hp → α → β → Prop) : Prop := ∀ {m m' : List Addr} {H H' : Hp} {a : α} {b : β}, Ext m m' H H' → rel m H a b → rel m' H' a b
theorem stabD : Stab (RD K) := fun x h => h.ext x
theorem stabDs : Stab (RDs K) := fun x h => h.ext x
theorem stabE {α : Type} : Stab (rE α) := fun _ h => h
/-- what stands when a has come -/
def K1 {α β γ δ : Type} (K : PySem.W.Frag) (G : Gx) (EX : XK) (relA : List Addr → Hp → α → β → Prop) (relC : List Addr → Hp → γ → δ → Prop) (σ : St) (k : En → α → M γ) (Q : δ → Hp → Prop) (b : β) (H : Hp) : Prop :=
  ∃ m v st a, Sm K G m σ H v st ∧ relA m H a b ∧ Po K G EX relC m σ H v (k v a st) Q
def K2 {α β α' β' γ δ : Type} (K : PySem.W.Frag) (G : Gx) (EX : XK) (relA : List Addr → Hp → α → β → Prop) (relB : List Addr → Hp → α' → β' → Prop) (relC : List Addr → Hp → γ → δ → Prop) (σ : St) (k : En → α → α' → M γ) (Q : δ → Hp → Prop) (b : β) (b' : β') (H : Hp) : Prop :=
  ∃ m v st a a', Sm K G m σ H v st ∧ relA m H a b ∧ relB m H a' b' ∧ Po K G EX relC m σ H v (k v a a' st) Q
theorem tP_b1 {α β γ δ : Type} {relA : List Addr → Hp → α → β → Prop} {relC : List Addr → Hp → γ → δ → Prop} {fa : En → M α} {k : En → α → M γ} {Q : δ → Hp → Prop}
    (h : tP K G EX relC (fun v => Bind.bind (m := M) (fa v) (k v)) σ H Q) : tP K G EX relA fa σ H (K1 K G EX relA relC σ k Q) := by
  obtain ⟨m, v, st, S, h⟩ := h
  refine ⟨m, v, st, S, h.bind.mono fun m' a b H' st' e S' r => ⟨b, r, fun ⟨m1, st1, a1, e1, S1, r1, h1⟩ => ⟨m1, v, st1, a1, S1, r1, h1⟩⟩⟩
theorem tP_b1P {α β γ δ : Type} {relA : List Addr → Hp → α → β → Prop} {relC : List Addr → Hp → γ → δ → Prop} {fa : En → M α} {k : En → α → M γ} {Q : δ → Hp → Prop} {P : α → Prop} (p : ∀ v st a st', fa v st = .ok a st' → P a)
    (h : tP K G EX relC (fun v => Bind.bind (m := M) (fa v) (k v)) σ H Q) : tP K G EX relA fa σ H (K1 K G EX (fun m H a b => relA m H a b ∧ P a) relC σ k Q) := by
  obtain ⟨m, v, st, S, h⟩ := h
  refine ⟨m, v, st, S, ?_⟩
  have h' := Po.bind (relA := relA) h
  cases q : fa v st with
  | ok a st' =>
    rw [q] at h'
    intro m' b H' e S' r
    obtain ⟨m1, st1, a1, e1, S1, r1, h1⟩ := h' m' b H' e S' r
    have h : Po K G EX relC m σ H v ((Bind.bind (m := M) (fa v) (k v)) st) Q := h
    rw [bind_run, q] at h
    exact ⟨m', v, st', a, S', ⟨r, p v st a st' q⟩, h.shift e⟩
  | ex c d st' => rw [q] at h'; exact h'
  | no => rw [q] at h'; exact h'
theorem K1.b {α β α' β' γ δ : Type} {relA : List Addr → Hp → α → β → Prop} {relB : List Addr → Hp → α' → β' → Prop} {relC : List Addr → Hp → γ → δ → Prop} {fb : En → M α'} {k : En → α → α' → M γ} {Q : δ → Hp → Prop} {b : β}
    (sA : Stab relA) (h : K1 K G EX relA relC σ (fun v a => Bind.bind (m := M) (fb v) (k v a)) Q b H) : tP K G EX relB fb σ H fun b' H' => K2 K G EX relA relB relC σ k Q b b' H' := by
  obtain ⟨m, v, st, a, S, r, h⟩ := h
  refine ⟨m, v, st, S, h.bind.mono fun m' a' b' H' st' e S' r' => ⟨b', r', fun ⟨m1, st1, a1, e1, S1, r1, h1⟩ => ⟨m1, v, st1, a, a1, S1, sA e1 r, r1, h1⟩⟩⟩
theorem tP_b2 {α β α' β' γ δ : Type} {relA : List Addr → Hp → α → β → Prop} {relB : List Addr → Hp → α' → β' → Prop} {relC : List Addr → Hp → γ → δ → Prop} {fa : En → M α} {fb : En → M α'} {k : En → α → α' → M γ} {Q : δ → Hp → Prop}
    (sA : Stab relA) (h : tP K G EX relC (fun v => Bind.bind (m := M) (fa v) fun a => Bind.bind (m := M) (fb v) (k v a)) σ H Q) :
    tP K G EX relA fa σ H fun b H1 => tP K G EX relB fb σ H1 fun b' H2 => K2 K G EX relA relB relC σ k Q b b' H2 := by
  have h1 := tP_b1 (relA := relA) h
  obtain ⟨m, v, st, S, h1⟩ := h1
  exact ⟨m, v, st, S, h1.mono fun m' a b H' st' e S' r => ⟨b, r, fun q => q.b sA⟩⟩
theorem tP.mono {α β : Type} {rel : List Addr → Hp → α → β → Prop} {f : En → M α} {Q Q' : β → Hp → Prop} (h : tP K G EX rel f σ H Q) (w : ∀ b H', Q b H' → Q' b H') : tP K G EX rel f σ H Q' := by
  obtain ⟨m, v, st, S, h⟩ := h
  exact ⟨m, v, st, S, h.mono fun m' a b H' st' e S' r => ⟨b, r, w b H'⟩⟩
/-- only these slots are other ones -/
def OnlyS (σ σ' : St) (ss : List Nat) : Prop := σ'.length = σ.length ∧ ∀ i, i ∉ ss → σ'[i]? = σ[i]?
theorem OnlyS.refl {σ : St} {ss : List Nat} : OnlyS σ σ ss := ⟨rfl, fun _ _ => rfl⟩
theorem OnlyS.trans {σ σ1 σ2 : St} {ss ts : List Nat} (a : OnlyS σ σ1 ss) (b : OnlyS σ1 σ2 ts) : OnlyS σ σ2 (ss ++ ts) :=
  ⟨b.1.trans a.1, fun i h => (b.2 i fun q => h (List.mem_append_right _ q)).trans (a.2 i fun q => h (List.mem_append_left _ q))⟩
/-- a run that leads to another store of names -/
def PoE (K : PySem.W.Frag) (G : Gx) (EX : XK) (m : List Addr) (σ : St) (H : Hp) (ss : List Nat) (r : R En) (Q : St → Hp → Prop) : Prop := match r with
  | .ok v' st' => ∀ m' σ' H', Ext m m' H H' → Sm K G m' σ' H' v' st' → OnlyS σ σ' ss → Q σ' H'
  | .ex c d st' => PoX K G EX m H c d st'
  | .no => False
def vG (K : PySem.W.Frag) (G : Gx) (EX : XK) (t : T) : TG := fun x σ H Q => ∃ m v st d, Sm K G m σ H v st ∧ RD K m H d x ∧ PoE K G EX m σ H t.slots (bindT t d v st) Q
def vGs (K : PySem.W.Frag) (G : Gx) (EX : XK) (t : Ts) : TGs := fun xs σ H Q => ∃ m v st ds, Sm K G m σ H v st ∧ RDs K m H ds xs ∧ PoE K G EX m σ H t.slots (bindTs t ds v st) Q
end
section
variable {X : Cx} {G : Gx} {EX : XK} {cc : CC}
mutual
theorem sT (hc : X.calm = true) (nd : X.N.Nodup) (hN : X.N = cc.N) (hsc : X.env.scope = cc.sc) (hfn : ∀ x, cc.fnB x = true → X.fn x = true) : ∀ (t : T) {ex : Expr}, okT cc t ex = true → PG X ex (vG X.K G EX t)
  | .nm i, ex, ok => by
    cases ex <;> try (cases ok; done)
    rename_i x pos
    have ok' : (decide (cc.N[i]? = some x) && locB cc.sc x && (cc.fnB x || decide (cc.sc.names.lookup x = some .local))) = true := ok
    simp only [Bool.and_eq_true, Bool.or_eq_true, decide_eq_true_eq] at ok'
    obtain ⟨⟨h1, h2⟩, h3⟩ := ok'
    have hl : Loc X.env.scope x := by
      rw [hsc]
      unfold locB at h2
      split at h2
      · rename_i e; exact .inl e
      · rename_i e; exact .inr e
      · cases h2
    have g : PG X (.Name x pos) (gName i) := pg_name nd (by rw [hN]; exact h1) hl (h3.imp (hfn x) fun e => by rw [hsc]; exact e)
    refine ⟨fun pins s σ H v u Q I r h => g.run pins s σ H v u Q I r ?_⟩
    obtain ⟨m, w, st, d, S, rd, h⟩ := h
    refine h m _ H Ext.refl (S.setV rd) ⟨by simp, fun j hj => ?_⟩
    rw [List.getElem?_set_ne (by simpa [T.slots, eq_comm] using hj)]
  | .tup ts, ex, ok => by
    cases ex <;> try (cases ok; done)
    rename_i es k pos
    have ok' : okTs cc ts es = true := ok
    have hs := sTs hc nd hN hsc hfn ts ok'
    have hl := okTs_star ts ok'
    refine ⟨fun pins s σ H v u Q I r h => ?_⟩
    obtain ⟨m, w, st, d, S, rd, h⟩ := h
    cases rd with
    | @tup a vs ds hq rs =>
      have h' : PoE X.K G EX m σ H ts.slots ((if ds.length = ts.len then bindTs ts ds w else stuck) st) Q := h
      by_cases hz : ds.length = ts.len
      case neg => rw [if_neg hz] at h'; exact h'.elim
      rw [if_pos hz] at h'
      have hlen : ds.length = es.length := hz.trans (okTs_len ts ok').symm
      exact (pg_tup (n := es.length) hc hs hl.1 hl.2).run pins s σ H _ u Q I r ⟨a, vs, rfl, hq.sq, by rw [← rs.length, hlen], m, w, st, ds, S, rs, h'⟩
    | _ => exact h.elim
theorem sTs (hc : X.calm = true) (nd : X.N.Nodup) (hN : X.N = cc.N) (hsc : X.env.scope = cc.sc) (hfn : ∀ x, cc.fnB x = true → X.fn x = true) : ∀ (ts : Ts) {es : List Expr}, okTs cc ts es = true → PGs X es (vGs X.K G EX ts)
  | .nil, es, ok => by
    cases es with
    | cons e r => cases ok
    | nil =>
      refine ⟨fun pins s σ H vs us Q I r h => (pgs_nil (X := X)).run pins s σ H vs us Q I r ?_⟩
      obtain ⟨m, w, st, ds, S, rs, h⟩ := h
      cases rs with
      | nil => exact ⟨rfl, h m σ H Ext.refl S OnlyS.refl⟩
      | cons _ _ => exact h.elim
  | .cons t ts, es, ok => by
    cases es with
    | nil => cases ok
    | cons e r =>
      have ok' : (notStar e && okT cc t e && okTs cc ts r) = true := ok
      simp only [Bool.and_eq_true] at ok'
      refine ⟨fun pins s σ H vs us Q I rv h => (pgs_cons (sT hc nd hN hsc hfn t ok'.1.2) (sTs hc nd hN hsc hfn ts ok'.2) (by rw [assignEach_cons ok'.1.1]; rfl)).run pins s σ H vs us Q I rv ?_⟩
      obtain ⟨m, w, st, ds, S, rs, h⟩ := h
      cases rs with
      | nil => exact h.elim
      | @cons d ds x vs rd rs =>
        refine ⟨x, vs, rfl, m, w, st, d, S, rd, ?_⟩
        have h' : PoE X.K G EX m σ H (t.slots ++ ts.slots) (Bind.bind (m := M) (bindT t d w) (fun v' => bindTs ts ds v') st) Q := h
        rw [bind_run] at h'
        cases q : bindT t d w st with
        | ok a st1 =>
          rw [q] at h'
          dsimp only at h'
          refine fun m1 σ1 H1 e1 S1 o1 => ⟨m1, a, st1, ds, S1, rs.ext e1, ?_⟩
          cases q2 : bindTs ts ds a st1 with
          | ok b st2 => rw [q2] at h'; exact fun m2 σ2 H2 e2 S2 o2 => h' m2 σ2 H2 (e1.trans e2) S2 (o1.trans o2)
          | ex c d st2 => rw [q2] at h'; exact PoX.shift e1 h'
          | no => rw [q2] at h'; exact h'
        | ex c d st1 => rw [q] at h'; exact h'
        | no => rw [q] at h'; exact h'
theorem okTs_star : ∀ (ts : Ts) {es : List Expr}, okTs cc ts es = true → (assignEach es X.env).length = es.length ∧ (assignEach es X.env).findIdx? (·.1) = none
  | .nil, es, ok => by
    cases es with
    | cons e r => cases ok
    | nil => exact ⟨rfl, rfl⟩
  | .cons t ts, es, ok => by
    cases es with
    | nil => cases ok
    | cons e r =>
      have ok' : (notStar e && okT cc t e && okTs cc ts r) = true := ok
      simp only [Bool.and_eq_true] at ok'
      obtain ⟨h1, h2⟩ := okTs_star ts ok'.2
      rw [assignEach_cons ok'.1.1]
      refine ⟨by rw [List.length_cons, List.length_cons, h1], ?_⟩
      rw [List.findIdx?_cons]
      simp only [Bool.false_eq_true, if_false, h2]
      rfl
theorem okTs_len : ∀ (ts : Ts) {es : List Expr}, okTs cc ts es = true → es.length = ts.len
  | .nil, es, ok => by
    cases es with
    | cons e r => cases ok
    | nil => rfl
  | .cons t ts, es, ok => by
    cases es with
    | nil => cases ok
    | cons e r =>
      have ok' : (notStar e && okT cc t e && okTs cc ts r) = true := ok
      simp only [Bool.and_eq_true] at ok'
      rw [List.length_cons, okTs_len ts ok'.2]
      rfl
end
end
end Ix
end PIx13

section PIx14
set_option Elab.async false
set_option linter.all false
set_option maxRecDepth 100000
set_option autoImplicit false
set_option maxHeartbeats 1000000
/-! Ix14: what is walked. -/
namespace Ix
open PySem PySem.Spec L2
open PyProof.Rows hiding St

/-- a walk of the model's for one of ours -/
def ItS (K : PySem.W.Frag) (G : Gx) (m : List Addr) (H : Hp) (it : It) (J : L2.It) : Prop :=
  ∃ P : List Addr → Hp → Prop, P m H ∧ (∀ {m m' : List Addr} {H H' : Hp}, Kp m m' H H' → P m H → P m' H') ∧
    ∀ (m : List Addr) (σ : St) (H : Hp) (v : En) (st : Store) (i : Nat), P m H → Sm K G m σ H v st → match nxt it i st with
      | .ok none st' => st' = st ∧ J.stop i H
      | .ok (some d) st' => st' = st ∧ J.go i H ∧ ∀ x H', J.yld i H x H' → Ext m m H H' ∧ Sm K G m σ H' v st ∧ RD K m H' d x
      | .ex _ _ _ => False
      | .no => True
abbrev rI (K : PySem.W.Frag) (G : Gx) : List Addr → Hp → It → L2.It → Prop := fun m H it J => ItS K G m H it J
theorem ItS.kp {K : PySem.W.Frag} {G : Gx} {m m' : List Addr} {H H' : Hp} {it : It} {J : L2.It} (x : Kp m m' H H') (h : ItS K G m H it J) : ItS K G m' H' it J := let ⟨P, h, c, r⟩ := h; ⟨P, c x h, c, r⟩
theorem stabI {K : PySem.W.Frag} {G : Gx} : Stab (rI K G) := fun x h => ItS.kp x.kp h
section
variable {K : PySem.W.Frag} {G : Gx} {m : List Addr} {H : Hp}
theorem its_str (z : List Nat) : ItS K G m H (.tup (z.map fun c => .str [c])) (Its ⟨z.toArray⟩) := by
  refine ⟨fun _ _ => True, trivial, fun _ _ => trivial, fun m σ H v st i _ S => ?_⟩
  have e : nxt (.tup (z.map fun c => .str [c])) i st = .ok (z.map fun c => D.str [c])[i]? st := rfl
  rw [e, List.getElem?_map]
  have hs : (⟨z.toArray⟩ : Str).cps.size = z.length := by simp
  cases q : z[i]? with
  | none =>
    refine ⟨rfl, ?_⟩
    show _ ≤ i
    rw [hs]
    exact List.getElem?_eq_none_iff.mp q
  | some c =>
    refine ⟨rfl, ?_, ?_⟩
    · show i < _
      rw [hs]
      exact (List.getElem?_eq_some_iff.mp q).1
    · rintro x H' ⟨rfl, c', hc, rfl⟩
      have : c' = c := by
        have hc' : z.toArray[i]? = some c' := hc
        rw [List.getElem?_toArray, q] at hc'
        exact (Option.some.inj hc').symm
      subst this
      exact ⟨Ext.refl, S, .str [c']⟩
theorem its_rng {lo : Int} {n : Nat} : ItS K G m H (.rng lo 1 n) (Itr lo n) := by
  refine ⟨fun _ _ => True, trivial, fun _ _ => trivial, fun m σ H v st i _ S => ?_⟩
  have e : nxt (.rng lo 1 n) i st = .ok (if i < n then some (.int (lo + i * 1)) else none) st := rfl
  rw [e]
  by_cases h : i < n
  · rw [if_pos h]
    refine ⟨rfl, h, ?_⟩
    rintro x H' ⟨rfl, rfl⟩
    rw [Int.mul_one]
    exact ⟨Ext.refl, S, .int _⟩
  · rw [if_neg h]
    exact ⟨rfl, Nat.le_of_not_lt h⟩
theorem its_rngC {lo c : Int} {n : Nat} : ItS K G m H (.rng lo c n) (Itc lo c n) := by
  refine ⟨fun _ _ => True, trivial, fun _ _ => trivial, fun m σ H v st i _ S => ?_⟩
  have e : nxt (.rng lo c n) i st = .ok (if i < n then some (.int (lo + i * c)) else none) st := rfl
  rw [e]
  by_cases h : i < n
  · rw [if_pos h]
    refine ⟨rfl, h, ?_⟩
    rintro x H' ⟨rfl, rfl⟩
    exact ⟨Ext.refl, S, .int _⟩
  · rw [if_neg h]
    exact ⟨rfl, Nat.le_of_not_lt h⟩
theorem its_tup {a : Addr} {ds : List D} {vs : List V} (hq : TQ K H a vs) (rs : RDs K m H ds vs) : ItS K G m H (.tup ds) (Itt K a) := by
  refine ⟨fun m H => TQ K H a vs ∧ RDs K m H ds vs, ⟨hq, rs⟩, fun x h => ⟨h.1.kp x, h.2.kp x⟩, fun m σ H v st i ⟨hq, rs⟩ S => ?_⟩
  have e : nxt (.tup ds) i st = .ok ds[i]? st := rfl
  rw [e]
  cases q : ds[i]? with
  | none => exact ⟨rfl, vs, hq.sq, by rw [← rs.length]; exact List.getElem?_eq_none_iff.mp q⟩
  | some d =>
    obtain ⟨x, h1, h2⟩ := rs.get q
    refine ⟨rfl, ⟨vs, x, hq.sq, h1⟩, ?_⟩
    rintro y H' ⟨rfl, hy⟩
    have := hy vs hq.sq
    rw [h1] at this
    cases this
    exact ⟨Ext.refl, S, h2⟩
theorem its_fl {a : Addr} {ds : List D} {vs : List V} (hq : LQ K H a vs) (rs : RDs K m H ds vs) : ItS K G m H (.tup ds) (Itl K a) := by
  refine ⟨fun m H => LQ K H a vs ∧ RDs K m H ds vs, ⟨hq, rs⟩, fun x h => ⟨h.1.kp x, h.2.kp x⟩, fun m σ H v st i ⟨hq, rs⟩ S => ?_⟩
  have e : nxt (.tup ds) i st = .ok ds[i]? st := rfl
  rw [e]
  cases q : ds[i]? with
  | none => exact ⟨rfl, vs, hq.sq, by rw [← rs.length]; exact List.getElem?_eq_none_iff.mp q⟩
  | some d =>
    obtain ⟨x, h1, h2⟩ := rs.get q
    refine ⟨rfl, ⟨vs, x, hq.sq, h1⟩, ?_⟩
    rintro y H' ⟨rfl, hy⟩
    have := hy vs hq.sq
    rw [h1] at this
    cases this
    exact ⟨Ext.refl, S, h2⟩
theorem its_lst {a : Addr} {l : Nat} (hl : m[l]? = some a) : ItS K G m H (.lst l) (Itl K a) := by
  refine ⟨fun m H => m[l]? = some a, hl, fun x h => x.get h, fun m σ H v st i hl S => ?_⟩
  have e : nxt (.lst l) i st = (match lstO st (.loc l) with | some xs => .ok xs[i]? st | none => .no) := by
    show (Bind.bind (m := M) (rd fun s => lstO s (.loc l)) fun xs => Pure.pure xs[i]?) st = _
    rw [rd_eq]
    cases lstO st (.loc l) <;> rfl
  rw [e]
  cases q : lstO st (.loc l) with
  | none => exact trivial
  | some xs =>
    obtain ⟨vs, h1, h2⟩ := S.at (lst_loc q) hl
    dsimp only
    cases q2 : xs[i]? with
    | none => exact ⟨rfl, vs, SqL.of h1, by rw [← h2.length]; exact List.getElem?_eq_none_iff.mp q2⟩
    | some d =>
      obtain ⟨x, h3, h4⟩ := h2.get q2
      refine ⟨rfl, ⟨vs, x, SqL.of h1, h3⟩, ?_⟩
      rintro y H' ⟨rfl, hy⟩
      have := hy vs (SqL.of h1)
      rw [h3] at this
      cases this
      exact ⟨Ext.refl, S, h4⟩
end
section
variable {X : Cx} {G : Gx} {EX : XK}
/-- a list, a tuple, a text walked, whichever has come -/
theorem pi_plain {tg e : Expr} {fe : En → M D} (he : PE X e (tP X.K G EX (RD X.K) fe)) : PI X tg e (tP X.K G EX (rI X.K G) fun v => Bind.bind (m := M) (fe v) itOf) := by
  refine ⟨fun pins s σ H R I h => ?_⟩
  refine thn (he.run pins s σ H _ I (tP_b1 (relA := RD X.K) h)) fun u s1 ⟨x, H1, I1, r1, m, v, st, d, S, rd, q⟩ => ?_
  cases rd with
  | tup hq rs =>
    cases r1
    have qJ := q.pure S (its_tup (G := G) hq rs)
    obtain ⟨its, rv, p, hz⟩ := I1.tuple hq.sq
    refine wpAny_pyIter_tuple (show s1.heap.IsTuple _ its.toArray from p) ?_
    exact pi_one (tk := s1.toks) I1 _ (turn_tuple _ _) ⟨_, Heap.get?_push_size _ rfl, rfl, rfl⟩ qJ
  | fl hq rs =>
    cases r1
    have qJ := q.pure S (its_fl (G := G) hq rs)
    obtain ⟨its, rv, p, hz⟩ := I1.list hq.sq
    refine wpAny_pyIter_list p.isList ?_
    exact pi_one (tk := s1.toks) I1 _ (turn_list _ _) ⟨_, Heap.get?_push_size _ rfl, rfl, rfl⟩ qJ
  | str z =>
    obtain ⟨t, rfl⟩ := r1
    have qJ := q.pure S (its_str (G := G) z)
    cases ha : (⟨z.toArray⟩ : Str).cps.all (· < 128)
    · exact wpAny_pyIter_wide ha (pi_one (tk := s1.toks) I1 _ (turn_str _ _ t "str_iterator" (.inr rfl)) ⟨_, Heap.get?_push_size _ rfl, rfl, rfl⟩ qJ)
    · exact wpAny_pyIter_ascii ha (pi_one (tk := s1.toks) I1 _ (turn_str _ _ t "str_ascii_iterator" (.inl rfl)) ⟨_, Heap.get?_push_size _ rfl, rfl, rfl⟩ qJ)
  | @loc l a hl =>
    cases r1
    obtain ⟨xs, q1, q⟩ := Po.rd (f := fun s => lstO s (.loc l)) q
    have qJ := q.pure S (its_lst (G := G) hl)
    obtain ⟨vs, h1, h2⟩ := S.at (lst_loc q1) hl
    obtain ⟨its, rv, p, hz⟩ := I1.list (SqL.of h1)
    refine wpAny_pyIter_list p.isList ?_
    exact pi_one (tk := s1.toks) I1 _ (turn_list _ _) ⟨_, Heap.get?_push_size _ rfl, rfl, rfl⟩ qJ
  | _ => exact q.elim
/-- range(..) -/
theorem pi_rng {tg : Expr} {es : List Expr} {fe : En → M (List D)} {p pos : Pos} (hg : Gl X "range") (hm : X.mg "range" = none) (ha : PA X es (tP X.K G EX (RDs X.K) fe)) (hl : ∀ v st ds st', fe v st = .ok ds st' → ds.length = es.length) (h1 : 1 ≤ es.length) (h3 : es.length ≤ 3) (hs : es.all notStar = true) :
    PI X tg (.Call (.Name "range" p) es [] pos) (tP X.K G EX (rI X.K G) fun v => Bind.bind (m := M) (fe v) rngOf) := by
  have two : ∀ {e : Expr} {es : List Expr}, notStar e = true → starEach (e :: es) X.env = (false, eval e X.env) :: starEach es X.env := fun h => starEach_cons h
  have main : ∀ (σ : St) (H : Hp) (R : L2.It → Hp → Prop), tP X.K G EX (rI X.K G) (fun v => Bind.bind (m := M) (fe v) rngOf) σ H R → tP X.K G EX (RDs X.K) fe σ H fun vs H1 =>
      (es.length = 1 → ∃ j : Int, vs = [.int j] ∧ -(2 ^ 62) ≤ j ∧ j < 2 ^ 62 ∧ R (Itr 0 j.toNat) H1) ∧
      (es.length = 2 → ∃ i j : Int, vs = [.int i, .int j] ∧ (-(2 ^ 62) ≤ i ∧ i < 2 ^ 62 ∧ -(2 ^ 62) ≤ j ∧ j < 2 ^ 62) ∧ R (Itr i (j - i).toNat) H1) ∧
      (es.length = 3 → ∃ (i j c : Int) (n : Nat), vs = [.int i, .int j, .int c] ∧ RgC i j c n ∧ R (Itc i c n) H1) := fun σ H R h => by
    refine (tP_b1P (relA := RDs X.K) hl h).mono fun vs H1 ⟨m, v, st, ds, S, ⟨rs, hz⟩, q⟩ => ?_
    rw [← hz]
    have q : Po X.K G EX (rI X.K G) m σ H1 v (rngOf ds st) R := q
    unfold rngOf at q
    split at q
    · obtain ⟨x, rfl, r⟩ := rs.one
      cases r
      split at q
      · rename_i hc
        simp only [in62, Bool.and_eq_true, decide_eq_true_eq] at hc
        exact ⟨fun _ => ⟨_, rfl, hc.1, hc.2, q.pure S its_rng⟩, (fun e => absurd e (by simp)), (fun e => absurd e (by simp))⟩
      · exact q.elim
    · obtain ⟨x, y, rfl, r1, r2⟩ := rs.two
      cases r1; cases r2
      split at q
      · rename_i hc
        simp only [in62, Bool.and_eq_true, decide_eq_true_eq] at hc
        exact ⟨(fun e => absurd e (by simp)), fun _ => ⟨_, _, rfl, ⟨hc.1.1, hc.1.2, hc.2.1, hc.2.2⟩, q.pure S its_rng⟩, (fun e => absurd e (by simp))⟩
      · exact q.elim
    · cases rs with
      | cons r1 rs =>
        obtain ⟨x, y, rfl, r2, r3⟩ := rs.two
        cases r1; cases r2; cases r3
        split at q
        · rename_i hc
          simp only [Bool.and_eq_true, decide_eq_true_eq] at hc
          exact ⟨(fun e => absurd e (by simp)), (fun e => absurd e (by simp)), fun _ => ⟨_, _, _, _, rfl, ⟨hc.1.1.1, hc.1.1.2, hc.1.2, (Int.toNat_of_nonneg hc.2).symm⟩, q.pure S its_rngC⟩⟩
        · exact q.elim
    · exact q.elim
  match es, h1, h3, hs, ha, main with
  | [a], _, _, hs, ha, main =>
    have n1 : notStar a = true := by simpa using hs
    exact PI.imp (pi_range1 hg hm ha (by rw [two n1]; rfl)) fun σ H R h => (main σ H R h).mono fun vs H1 q => q.1 rfl
  | [a, b], _, _, hs, ha, main =>
    have n1 : notStar a = true ∧ notStar b = true := by simpa using hs
    exact PI.imp (pi_range2 hg hm ha (by rw [two n1.1, two n1.2]; rfl) (by rw [two n1.2]; rfl)) fun σ H R h => (main σ H R h).mono fun vs H1 q => q.2.1 rfl
  | [a, b, c], _, _, hs, ha, main =>
    have n1 : notStar a = true ∧ notStar b = true ∧ notStar c = true := by simpa using hs
    exact PI.imp (pi_range3 hg hm ha (two n1.1) (by rw [two n1.2.1, two n1.2.2]; rfl)) fun σ H R h => (main σ H R h).mono fun vs H1 q => q.2.2 rfl
end
end Ix
end PIx14

section PIx14b
set_option Elab.async false
set_option linter.all false
set_option maxRecDepth 100000
set_option autoImplicit false
set_option maxHeartbeats 2000000
/-! Ix14b: a comprehension. -/
namespace Ix
open PySem PySem.Spec L2
open PyProof.Rows hiding St

theorem wipe_get : ∀ (vs : List Nat) (σ : St) (i : Nat), (wipe σ vs)[i]? = if i ∈ vs then (if i < σ.length then some none else none) else σ[i]?
  | [], σ, i => by simp [wipe]
  | j :: vs, σ, i => by
    unfold wipe
    by_cases e : j = i
    · subst e
      rw [if_pos List.mem_cons_self]
      by_cases h : j < σ.length
      · rw [if_pos h, List.getElem?_set_self (by rw [wipe_length]; exact h)]
      · rw [if_neg h, List.getElem?_eq_none (by rw [List.length_set, wipe_length]; omega)]
    · rw [List.getElem?_set_ne e, wipe_get vs σ i]
      by_cases h : i ∈ vs
      · rw [if_pos h, if_pos (List.mem_cons_of_mem _ h)]
      · rw [if_neg h, if_neg fun z => by
          rcases List.mem_cons.mp z with q | q
          · exact e q.symm
          · exact h q]
theorem wipeV_length : ∀ (vs : List Nat) (v : En), (wipeV v vs).length = v.length
  | [], _ => rfl
  | j :: vs, v => by unfold wipeV; rw [List.length_set, wipeV_length vs v]
theorem wipeV_some {v : En} {i : Nat} {d : D} : ∀ {vs : List Nat}, (wipeV v vs)[i]? = some (some d) → v[i]? = some (some d) ∧ i ∉ vs
  | [], h => ⟨h, by simp⟩
  | j :: vs, h => by
    unfold wipeV at h
    by_cases e : j = i
    · subst e
      by_cases hv : j < (wipeV v vs).length
      · rw [List.getElem?_set_self hv] at h; cases h
      · rw [List.getElem?_eq_none (by simpa using hv)] at h; cases h
    · rw [List.getElem?_set_ne e] at h
      obtain ⟨h1, h2⟩ := wipeV_some h
      exact ⟨h1, by simp only [List.mem_cons, not_or]; exact ⟨fun q => e q.symm, h2⟩⟩
theorem ER.wipe {K : PySem.W.Frag} {m : List Addr} {H : Hp} {v : En} {σ : St} (h : ER K m H v σ) (vs : List Nat) : ER K m H (wipeV v vs) (L2.wipe σ vs) := by
  refine ⟨by rw [wipeV_length, wipe_length, h.1], fun i d e => ?_⟩
  obtain ⟨h1, h2⟩ := wipeV_some e
  obtain ⟨x, h3, h4⟩ := h.2 i d h1
  exact ⟨x, by rw [wipe_get, if_neg h2]; exact h3, h4⟩
theorem wipe_only {σ σ' : St} {ss vs : List Nat} (o : OnlyS (wipe σ vs) σ' ss) (h : ∀ i ∈ ss, i ∈ vs) : wipe σ' vs = wipe σ vs := by
  have hl : σ'.length = σ.length := o.1.trans (wipe_length σ vs)
  apply List.ext_getElem?
  intro i
  rw [wipe_get, wipe_get, hl]
  by_cases hi : i ∈ vs
  · rw [if_pos hi, if_pos hi]
  · rw [if_neg hi, if_neg hi, o.2 i fun z => hi (h i z), wipe_get, if_neg hi]
theorem Ext.keepOut {m m' : List Addr} {H H' : Hp} {p : Addr} {o : HO} (x : Ext m m' H H') (hn : p ∉ m) (h : H p = some o) : p ∉ m' ∧ H' p = some o :=
  ⟨fun z => (x.new p z).elim hn (fun q => by rw [h] at q; cases q), x.out p o hn h⟩
theorem compL_run (it : It) (turn : D → M (Option D)) (f i : Nat) (acc : List D) : compL it turn (f + 1) i acc = Bind.bind (m := M) (nxt it i) (fun r => match r with
    | none => Pure.pure acc
    | some d => Bind.bind (m := M) (turn d) fun o => match o with
      | none => compL it turn f (i + 1) acc
      | some y => if acc.length < SL then compL it turn f (i + 1) (acc ++ [y]) else stuck) := rfl
theorem noEx_ok {α : Type} {f : M α} {st st' : Store} {a : α} (h : noEx f st = .ok a st') : f st = .ok a st' := by
  unfold noEx at h
  split at h
  · rename_i e
    rw [e]; exact h
  · cases h
/-- nothing is raised in a walk -/
theorem nxt_noex : ∀ (it : It) (i : Nat) (st : Store), (∃ r s, nxt it i st = .ok r s) ∨ nxt it i st = .no
  | .tup xs, i, st => .inl ⟨_, _, rfl⟩
  | .lst l, i, st => by
    show (∃ r s, (Bind.bind (m := M) (rd fun s => lstO s (.loc l)) fun xs => Pure.pure xs[i]?) st = .ok r s) ∨ (Bind.bind (m := M) (rd fun s => lstO s (.loc l)) fun xs => Pure.pure xs[i]?) st = .no
    rw [rd_eq]
    cases lstO st (.loc l) with
    | none => exact .inr rfl
    | some xs => exact .inl ⟨_, _, rfl⟩
  | .rng lo c n, i, st => .inl ⟨_, _, rfl⟩
  | .enum it, i, st => by
    have e : nxt (.enum it) i = Bind.bind (m := M) (nxt it i) fun r => Pure.pure (r.map fun d => .tup [.int i, d]) := rfl
    rw [e, bind_run]
    rcases nxt_noex it i st with ⟨r, s, h⟩ | h
    · rw [h]; exact .inl ⟨_, _, rfl⟩
    · rw [h]; exact .inr rfl
theorem compL_noex (it : It) (turn : D → M (Option D)) (ht : ∀ d st c x s, turn d st ≠ .ex c x s) : ∀ (f i : Nat) (acc : List D) (st : Store) (c : Nat) (x : D) (s : Store), compL it turn f i acc st ≠ .ex c x s
  | 0, i, acc, st, c, x, s => fun h => nomatch (show (R.no : R (List D)) = .ex c x s from h)
  | f + 1, i, acc, st, c, x, s => fun h => by
    rw [compL_run, bind_run] at h
    rcases nxt_noex it i st with ⟨r, s1, e⟩ | e
    · rw [e] at h
      cases r with
      | none => cases h
      | some d =>
        dsimp only at h
        rw [bind_run] at h
        cases q : turn d s1 with
        | ex c' x' s' => exact ht _ _ _ _ _ q
        | no => rw [q] at h; cases h
        | ok o s2 =>
          rw [q] at h
          cases o with
          | none => exact compL_noex it turn ht f _ _ _ _ _ _ h
          | some y =>
            dsimp only at h
            split at h
            · exact compL_noex it turn ht f _ _ _ _ _ _ h
            · cases h
    · rw [e] at h; cases h
theorem noEx_noex {α : Type} {f : M α} {st s : Store} {c : Nat} {x : D} : noEx f st ≠ .ex c x s := by
  intro h
  unfold noEx at h
  split at h <;> cases h
section
variable {K : PySem.W.Frag} {G : Gx} {EX : XK}
theorem comp_ok {σ : St} {H : Hp} {Q : VK} {fi : En → M It} {t : T} {own : List Nat} {fc : En → M Bool} {fe : En → M D} {fu : Nat} (hs : ∀ i ∈ t.slots, i ∈ own)
    (h : tP K G EX (RD K) (fun v => Bind.bind (m := M) (fi v) fun it => Bind.bind (m := M) (compL it (turnL own t fc fe v) fu 0 []) fun xs => newC (.lst xs)) σ H Q) :
    tLc (tP K G EX (rI K G) fi) (vG K G E0 t) (tP K G E0 (rE Bool) fc) (tP K G E0 (RD K) fe) own σ H Q := by
  refine (tP_b1 (relA := rI K G) h).mono fun J H1 ⟨m1, v, st1, it, S1, hit, q⟩ p hp => ?_
  have q : Po K G EX (RD K) m1 σ H1 v ((Bind.bind (m := M) (compL it (turnL own t fc fe v) fu 0 []) fun xs => newC (.lst xs)) st1) Q := q
  generalize hturn : turnL own t fc fe v = turn at q
  rw [bind_run] at q
  cases hc : compL it turn fu 0 [] st1 with
  | no => rw [hc] at q; exact q.elim
  | ex c x s => exact (compL_noex it turn (fun d st c x s => by rw [← hturn]; exact noEx_noex) _ _ _ _ _ _ _ hc).elim
  | ok xs st2 =>
    rw [hc] at q
    have q : Po K G EX (RD K) m1 σ H1 v (newC (.lst xs) st2) Q := q
    refine ⟨fun i n H => ∃ m st acc vs, Ext m1 m H1 H ∧ Sm K G m σ H v st ∧ p ∉ m ∧ H p = some (.lst vs) ∧ RDs K m H acc vs ∧ compL it turn n i acc st = .ok xs st2, ⟨fu, m1, st1, [], [], ext_fresh hp, S1.fresh hp, S1.notmem hp, upd_same, .nil, hc⟩, ?_⟩
    rintro i n H ⟨m, st, acc, vs, xt, S, hn, hH, rs, hl⟩
    cases n with
    | zero => exact nomatch (show (R.no : R (List D)) = _ from hl)
    | succ f =>
      rw [compL_run] at hl
      obtain ⟨r, s1, e1, hl1⟩ := ok_bind hl
      obtain ⟨P, hP, _, step⟩ := hit.kp xt.kp
      have st' := step m σ H v st i hP S
      rw [e1] at st'
      cases r with
      | none =>
        obtain ⟨rfl, stop⟩ := st'
        cases hl1
        refine .inl ⟨stop, q (m ++ [p]) (.ref p) H (xt.adopt hp) (S.adopt hn hH rs) (.loc ?_)⟩
        rw [← S.len]; simp
      | some d =>
        obtain ⟨rfl, go, yl⟩ := st'
        obtain ⟨o, s3, e2, hl2⟩ := ok_bind hl1
        rw [← hturn] at e2
        obtain ⟨v', sA, e3, e2a⟩ := ok_bind (noEx_ok e2)
        obtain ⟨k, sB, e4, e2b⟩ := ok_bind e2a
        refine .inr ⟨go, fun H => ∃ m st acc vs, Ext m1 m H1 H ∧ Sm K G m σ H v st ∧ p ∉ m ∧ H p = some (.lst vs) ∧ RDs K m H acc vs ∧ compL it turn f (i + 1) acc st = .ok xs st2, fun H' w => ⟨f, Nat.lt_succ_self _, w⟩, fun x H' y => ?_⟩
        obtain ⟨x0, S0, r0⟩ := yl x H' y
        obtain ⟨hn0, hH0⟩ := x0.keepOut hn hH
        refine ⟨m, wipeV v own, s1, d, S0.env' (S0.env.wipe own), r0, ?_⟩
        rw [e3]
        intro mA σA HA xA SA oA
        obtain ⟨hnA, hHA⟩ := xA.keepOut hn0 hH0
        refine ⟨wipe_only oA hs, mA, v', sA, SA, ?_⟩
        rw [e4]
        rintro mB b HB xB SB rfl
        obtain ⟨hnB, hHB⟩ := xB.keepOut hnA hHA
        have xtB := xt.trans (x0.trans (xA.trans xB))
        cases k with
        | false =>
          rw [if_neg Bool.false_ne_true]
          cases e2b
          exact ⟨mB, s3, acc, vs, xtB, SB.env' (S1.env.ext xtB), hnB, hHB, ((rs.ext x0).ext xA).ext xB, hl2⟩
        | true =>
          rw [if_pos rfl]
          obtain ⟨y, sC, e5, e2c⟩ := ok_bind e2b
          cases e2c
          refine ⟨mB, v', sB, SB, ?_⟩
          rw [e5]
          intro mC y' HC xC SC rC
          obtain ⟨hnC, hHC⟩ := xC.keepOut hnB hHB
          have xtC := xtB.trans xC
          have rsC := (((rs.ext x0).ext xA).ext xB).ext xC
          have hl : (if acc.length < SL then compL it turn f (i + 1) (acc ++ [y]) else stuck) s3 = .ok xs st2 := hl2
          by_cases hz : acc.length < SL
          · rw [if_pos hz] at hl
            refine ⟨vs, hHC, by rw [sizeLine_eq, ← rs.length]; exact hz, mC, s3, acc ++ [y], vs ++ [y'], xtC.side hp, (SC.env' (S1.env.ext xtC)).side hnC hHC, hnC, upd_same, ?_, hl⟩
            exact (rsC.append (.cons rC .nil)).kp (kp_side hHC)
          · rw [if_neg hz] at hl
            cases hl
end
end Ix
end PIx14b

section PIx14c
set_option Elab.async false
set_option linter.all false
set_option maxRecDepth 100000
set_option autoImplicit false
/-! Ix14c: enumerate. -/
namespace PySem
open Sem (wp)
open AutoSeq1 (wpAny_loadPart')
set_option maxHeartbeats 1000000 in
theorem meets_enumerate_new1B {v : Value} {o : Obj} {H : Heap → Prop} (B : Begins v o H) :
    Meets (Builtin.«enumerate.__new__» ⟨[.type "enumerate", v], []⟩) (fun _ R s => H s.heap ∧
      R (.ok (.ret (.ref (s.heap.push o).objs.size))) { s with heap := (s.heap.push o).push { cls := .type "enumerate", data := .fields #[.none, .bool false, .ref s.heap.objs.size, rawInt 0, .none, .none] } }) :=
  .of_wp fun prog w A R s h => by
    obtain ⟨hp, g, d, tk, os⟩ := s; obtain ⟨h1, h⟩ := h
    have hsub := sub_enumerate
    have q1 : ∀ {A' : Around} {E : Value → Shared → Prop} {Q : Value → Shared → Prop}, Q (.ref hp.objs.size) ⟨hp.push o, g, d, tk, os⟩ → wpAny (model prog w) A' (pyIter v) Q E ⟨hp, g, d, tk, os⟩ :=
      fun q => B.iter prog w _ _ ⟨hp, g, d, tk, os⟩ _ h1 q
    wp_walk using q1
    refine wpAny_stack_any fun st => wpAny_pure ?_
    split
    · rename_i c _ _ _ _ _
      cases (c == Value.type "enumerate")
      · wp_walk using q1
        exact ⟨_, rfl, h⟩
      · wp_walk using q1
        exact ⟨_, rfl, h⟩
    · wp_walk using q1
      exact ⟨_, rfl, h⟩
section
variable {prog : Program} {w : World} {A : Around} {E : Value → Shared → Prop} {s : Shared}
theorem enum_begins1 {v : Value} {o : Obj} {H : Heap → Prop} {Q : Value → Shared → Prop} (B : Begins v o H) (h1 : H s.heap)
    (h : ∀ h', IsEnum h' (s.heap.objs.size + 1) s.heap.objs.size 0 .none → h'.get? s.heap.objs.size = some o → h'.objs.size = s.heap.objs.size + 2 →
      (∀ b o, s.heap.get? b = some o → h'.get? b = some o) → Q (.ref (s.heap.objs.size + 1)) { s with heap := h' }) :
    wpAny (model prog w) A (call (.type "enumerate") [v]) Q E s := by
  refine callType_new F.called_enumerate (by decide) (F.typeCall_enumerate_1 _) (F.newCall_enumerate_1 _) (fun obj => F.args_object_init_2 obj _) F.entry_enumerate_new
    (meets_enumerate_new1B B) ⟨h1, ?_⟩
  have hz : (s.heap.push o).objs.size = s.heap.objs.size + 1 := Heap.size_push ..
  show _ ∧ _
  rw [hz]
  have he : IsEnum ((s.heap.push o).push
      { cls := .type "enumerate", data := .fields #[.none, .bool false, .ref s.heap.objs.size, rawInt 0, .none, .none] }) (s.heap.objs.size + 1) s.heap.objs.size 0 .none := by
    have := Heap.get?_push_size (s.heap.push o)
      (o := { cls := .type "enumerate", data := .fields #[.none, .bool false, .ref s.heap.objs.size, rawInt 0, .none, .none] }) rfl
    rw [hz] at this; exact this
  exact ⟨⟨_, he, rfl⟩, h _ he (Heap.get?_push_of_some _ (Heap.get?_push_size _ B.free)) (by rw [Heap.size_push, hz]) fun b o x => Heap.get?_push_of_some _ (Heap.get?_push_of_some _ x)⟩
end
end PySem

namespace Ix
open PySem PySem.Spec L2
open PyProof.Rows hiding St
set_option maxHeartbeats 1000000
/-- the tuple at a, each item in a new pair -/
def IteT (K : PySem.W.Frag) (a : Addr) : L2.It :=
  ⟨fun i H => ∃ (xs : List V) (x : V), SqT K H a xs ∧ xs[i]? = some x, fun i H v H' => ∃ T x, v = .ref T ∧ H T = none ∧ H' = upd H T (.tup [.int (i : Nat), x]) ∧ ∀ xs, SqT K H a xs → xs[i]? = some x, fun i H => ∃ xs : List V, SqT K H a xs ∧ xs.length ≤ i⟩
theorem turn_enumT {P : Program} {w : World} {K : PySem.W.Frag} {elts : List Expr} {kk : Nat} {tpos : Pos} (a e it : Addr) :
    Turn P w K (.Tuple elts kk tpos) (IteT K a) [e, it] e (fun i h => (∃ old, IsEnum h e it ((i : Nat) : Int) old) ∧ h.IsTupleIter it a i ∧ e ≠ it ∧ a ≠ it ∧ e ≠ a) where
  mem := by simp
  obj := fun i h st b hb => by
    obtain ⟨⟨old, he⟩, ⟨o, ho, hc, hd⟩, _⟩ := st
    have e' : b = e ∨ b = it := by simpa using hb
    rcases e' with z | z
    · rw [z]; exact ⟨_, he, fun v q => nomatch q⟩
    · rw [z]; exact ⟨o, ho, fun v q => by rw [hd] at q; cases q⟩
  keep := fun i h h' st k => let ⟨⟨old, he⟩, hi, hne⟩ := st; ⟨⟨old, k e (by simp) _ he⟩, hi.at fun o q => k it (by simp) o q, hne⟩
  item := by
    intro X hP hw hK hc i pins s σ H E I hf st hg
    subst hP hw hK
    obtain ⟨⟨old, he⟩, hit, hne, hai, hea⟩ := st
    obtain ⟨xs, x, hq, hx⟩ := hg
    obtain ⟨its, rv, p, hz⟩ := I.tuple hq
    obtain ⟨u, hu, ru⟩ := rv.get hx
    have hel : e < s.heap.objs.size := Heap.lt_size he
    have hil : it < s.heap.objs.size := by obtain ⟨_, q, _⟩ := hit; exact Heap.lt_size q
    have hlt : i < its.toArray.size := by
      have := (List.getElem?_eq_some_iff.mp hu).1
      simpa using this
    refine wpAny_pyNext_enum_itemD (Draws.tuple (prog := X.prog) (w := X.w) (A := X.A.in1) (I.ok.hd hc) it a hai its.toArray) he ⟨hit, show s.heap.IsTuple a its.toArray from p⟩ hlt hne (by simp [hne, hea]) fun u' h' tk hP' ho hst' hT hsz hk => ?_
    have hu' : u' = u := by
      have h1 : its.toArray[i]? = some u' := hP'
      rw [List.getElem?_toArray, hu] at h1
      exact (Option.some.inj h1).symm
    subst hu'
    refine ⟨_, rfl, wpAny_letOwnedTupleGo_enum (s := { s with heap := h', toks := tk + 1 }) ho fun h'' he' sb => ?_⟩
    have hT2 : h''.get? s.heap.objs.size = some { cls := .type "tuple", data := .seq #[.int i tk, u'] } := (sb.2 _ (Nat.ne_of_gt hel)).trans hT
    have new : ObjOk X.prog X.w (upd H s.heap.objs.size (.tup [.int (i : Nat), x])) h'' s.heap.objs.size (.tup [.int (i : Nat), x]) :=
      ⟨by show 2 ≤ sizeLine; decide, [.int i tk, u'], .cons ⟨_, rfl⟩ (.cons ru .nil), ⟨_, hT2, rfl, _, rfl⟩⟩
    have I1 : Inv X pins σ (upd H s.heap.objs.size (.tup [.int (i : Nat), x])) { s with heap := h'', toks := tk + 1 } :=
      I.turnedNew (ch := [e, it]) (fun b ob hb q => (sb.2 b (fun z => hb (by simp [z]))).trans (hk b ob (fun z => hb (by simp [z])) (fun z => hb (by simp [z])) q)) hf (Nat.le_refl _) new
    refine ⟨.ref s.heap.objs.size, _, I1, rfl, ⟨_, x, rfl, I.hok.fresh (Nat.le_refl _), rfl, fun ys hy => by rw [I.tuple_inj hy hq]; exact hx⟩, ⟨⟨u', ?_⟩, hst'.1.at fun o q => (sb.2 it (Ne.symm hne)).trans q, hne, hai, hea⟩, fun b hb => ?_⟩
    · have e1 : ((i + 1 : Nat) : Int) = (i : Int) + 1 := by omega
      rw [e1]; exact he'
    · have hb' : b < s.heap.objs.size := by
        have e' : b = e ∨ b = it := by simpa using hb
        rcases e' with z | z
        · rw [z]; exact hel
        · rw [z]; exact hil
      rw [upd_ne (Nat.ne_of_lt hb')]
      exact (hf b hb).1
  done := by
    intro X hP hw hK hc i pins s σ H E I hf st hg
    subst hP hw hK
    obtain ⟨⟨old, he⟩, hit, hne, hai, hea⟩ := st
    obtain ⟨xs, hq, hx⟩ := hg
    obtain ⟨its, rv, p, hz⟩ := I.tuple hq
    obtain ⟨f0, f1, f2, f3, f4, f5⟩ := hf it (by simp)
    have hl := rv.length
    have D2 : Draws X.prog X.w X.A.in1 it [it, a] i (fun _ _ => True) (fun k h => k = i ∧ h.IsTupleIter it a i ∧ h.IsTuple a its.toArray) :=
      { live := fun _ _ st => let ⟨o, ho, _⟩ := st.2.1; ⟨o, ho⟩
        frame := fun _ _ _ st hk => ⟨st.1, st.2.1.at fun o e => hk it (by simp) o e, st.2.2.at fun o e => hk a (by simp) o e⟩
        item := fun k s Q E hi st hQ => absurd st.1 (Nat.ne_of_lt hi)
        done := fun s Q E st hE => wpAny_nextOf_tuple_end (A := X.A.in1) (I.ok.hd hc) st.2.1 st.2.2 (by simp; omega) hE }
    exact wpAny_pyNext_enum_endD D2 he ⟨rfl, hit, show s.heap.IsTuple a its.toArray from p⟩ fun h' eb => ⟨rfl, I.turned (t' := s.toks) (fun b o hb q => eb b o hb q) f0 f1 f3 f4 f5⟩
  self := fun A i s Q E st h => let ⟨⟨_, he⟩, _⟩ := st; wpAny_pyIter_enum he h
section
variable {K : PySem.W.Frag} {G : Gx} {m : List Addr} {H : Hp}
theorem its_enumT {a : Addr} {ds : List D} {vs : List V} (hq : TQ K H a vs) (rs : RDs K m H ds vs) : ItS K G m H (.enum (.tup ds)) (IteT K a) := by
  refine ⟨fun m H => TQ K H a vs ∧ RDs K m H ds vs, ⟨hq, rs⟩, fun x h => ⟨h.1.kp x, h.2.kp x⟩, fun m σ H v st i ⟨hq, rs⟩ S => ?_⟩
  have e : nxt (.enum (.tup ds)) i st = .ok (ds[i]?.map fun d => .tup [.int i, d]) st := rfl
  rw [e]
  cases q : ds[i]? with
  | none => exact ⟨rfl, vs, hq.sq, by rw [← rs.length]; exact List.getElem?_eq_none_iff.mp q⟩
  | some d =>
    obtain ⟨x, h1, h2⟩ := rs.get q
    refine ⟨rfl, ⟨vs, x, hq.sq, h1⟩, ?_⟩
    rintro y H' ⟨T, x', rfl, hT, rfl, hy⟩
    have := hy vs hq.sq
    rw [h1] at this
    cases this
    exact ⟨ext_fresh hT, S.fresh hT, .tup (.inl upd_same) (.cons (.int _) (.cons (h2.ext (ext_fresh hT)) .nil))⟩
theorem its_enumF {a : Addr} {ds : List D} {vs : List V} (hq : LQ K H a vs) (rs : RDs K m H ds vs) : ItS K G m H (.enum (.tup ds)) (Ite K a) := by
  refine ⟨fun m H => LQ K H a vs ∧ RDs K m H ds vs, ⟨hq, rs⟩, fun x h => ⟨h.1.kp x, h.2.kp x⟩, fun m σ H v st i ⟨hq, rs⟩ S => ?_⟩
  have e : nxt (.enum (.tup ds)) i st = .ok (ds[i]?.map fun d => .tup [.int i, d]) st := rfl
  rw [e]
  cases q : ds[i]? with
  | none => exact ⟨rfl, vs, hq.sq, by rw [← rs.length]; exact List.getElem?_eq_none_iff.mp q⟩
  | some d =>
    obtain ⟨x, h1, h2⟩ := rs.get q
    refine ⟨rfl, ⟨vs, x, hq.sq, h1⟩, ?_⟩
    rintro y H' ⟨T, x', rfl, hT, rfl, hy⟩
    have := hy vs hq.sq
    rw [h1] at this
    cases this
    exact ⟨ext_fresh hT, S.fresh hT, .tup (.inl upd_same) (.cons (.int _) (.cons (h2.ext (ext_fresh hT)) .nil))⟩
theorem its_enumL {a : Addr} {l : Nat} (hl : m[l]? = some a) : ItS K G m H (.enum (.lst l)) (Ite K a) := by
  refine ⟨fun m H => m[l]? = some a, hl, fun x h => x.get h, fun m σ H v st i hl S => ?_⟩
  have e : nxt (.enum (.lst l)) i st = (match lstO st (.loc l) with | some xs => .ok (xs[i]?.map fun d => .tup [.int i, d]) st | none => .no) := by
    show (Bind.bind (m := M) (Bind.bind (m := M) (rd fun s => lstO s (.loc l)) fun xs => Pure.pure xs[i]?) fun r => Pure.pure (r.map fun d => D.tup [.int i, d])) st = _
    rw [bind_run, rd_eq]
    cases lstO st (.loc l) <;> rfl
  rw [e]
  cases q : lstO st (.loc l) with
  | none => exact trivial
  | some xs =>
    obtain ⟨vs, h1, h2⟩ := S.at (lst_loc q) hl
    dsimp only
    cases q2 : xs[i]? with
    | none => exact ⟨rfl, vs, SqL.of h1, by rw [← h2.length]; exact List.getElem?_eq_none_iff.mp q2⟩
    | some d =>
      obtain ⟨x, h3, h4⟩ := h2.get q2
      refine ⟨rfl, ⟨vs, x, SqL.of h1, h3⟩, ?_⟩
      rintro y H' ⟨T, x', rfl, hT, rfl, hy⟩
      have := hy vs (SqL.of h1)
      rw [h3] at this
      cases this
      exact ⟨ext_fresh hT, S.fresh hT, .tup (.inl upd_same) (.cons (.int _) (.cons (h4.ext (ext_fresh hT)) .nil))⟩
end
theorem pi_enumD {X : Cx} {G : Gx} {EX : XK} {e : Expr} {fe : En → M D} {p pos tpos : Pos} {elts : List Expr} {kk : Nat} (hg : Gl X "enumerate") (hm : X.mg "enumerate" = none) (hs : notStar e = true) (he : PE X e (tP X.K G EX (RD X.K) fe)) :
    PI X (.Tuple elts kk tpos) (.Call (.Name "enumerate" p) [e] [] pos) (tP X.K G EX (rI X.K G) fun v => Bind.bind (m := M) (fe v) fun x => Bind.bind (m := M) (itOfE x) fun it => Pure.pure (.enum it)) := by
  refine ⟨fun pins s σ H R I h => ?_⟩
  have st1 : starEach [e] X.env = [(false, eval e X.env)] := starEach_cons hs
  have hq0 : tCons (tP X.K G EX (RD X.K) fe) tNil σ H (fun (vs : List V) (H1 : Hp) => ∃ x, K1 X.K G EX (RD X.K) (rI X.K G) σ (fun v x => Bind.bind (m := M) (itOfE x) fun it => Pure.pure (It.enum it)) R x H1 ∧ vs = [x]) :=
    (tP_b1 (relA := RD X.K) h).mono fun b H1 q => ⟨b, q, rfl⟩
  refine Call_ (ld_blt I hg hm boot_enumerate (PyProof.Rows.callWith_type1 (thn ((pa_cons he pa_nil st1).run pos pins s σ H _ I hq0)
    fun us s1 hus => ?_) st1 rfl))
  obtain ⟨vs, H1, I1, r1, x, ⟨m, v, st, d, S, rd, q⟩, ex⟩ := hus
  subst ex
  obtain ⟨u, rfl, ru⟩ := vals1 r1
  have q : Po X.K G EX (rI X.K G) m σ H1 v ((Bind.bind (m := M) (itOfE d) fun it => Pure.pure (It.enum it)) st) R := q
  have lst : ∀ {a : Addr} {xs : List V}, SqL X.K H1 a xs → R (Ite X.K a) H1 → wpAny (model X.prog X.w) X.A (call (.type "enumerate") [.ref a]) (fun v s2 => wpAny (model X.prog X.w) X.A (pyIter v) (PIE X pins σ (.Tuple elts kk tpos) R) X.xe s2) X.xe s1 := fun {a xs} hq qJ => by
    obtain ⟨its, rv, p', hz⟩ := I1.list hq
    refine call_enumerate_list p'.isList fun h' he hit hsz hk => wpAny_pyIter_enum he ?_
    have I2 : Inv X pins σ H1 { s1 with heap := h' } := I1.kept (t' := s1.toks) hk
    refine ⟨s1.heap.objs.size + 1, [s1.heap.objs.size + 1, s1.heap.objs.size], _, _, H1, rfl, I2, turn_enum a (s1.heap.objs.size + 1) s1.heap.objs.size, ⟨⟨.none, he⟩, hit, Nat.succ_ne_self _⟩, fun b hb => ?_, qJ⟩
    have e' : b = s1.heap.objs.size + 1 ∨ b = s1.heap.objs.size := by simpa using hb
    have hle : s1.heap.objs.size ≤ b := by
      rcases e' with z | z
      · rw [z]; exact Nat.le_add_right _ _
      · rw [z]; exact Nat.le_refl _
    exact I1.fpOk hle (I1.hok.fresh hle)
  cases rd with
  | @tup a vs ds hq rs =>
    cases ru
    have qJ := q.pure S (its_enumT (G := G) hq rs)
    obtain ⟨its, rv, p', hz⟩ := I1.tuple hq.sq
    have hal : a < s1.heap.objs.size := by
      obtain ⟨o, ho, _⟩ := p'
      exact Heap.lt_size ho
    refine enum_begins1 (begins_tuple a its.toArray) (show s1.heap.IsTuple a its.toArray from p') fun h' he hit hsz hk => wpAny_pyIter_enum he ?_
    have I2 : Inv X pins σ H1 { s1 with heap := h' } := I1.kept (t' := s1.toks) hk
    refine ⟨s1.heap.objs.size + 1, [s1.heap.objs.size + 1, s1.heap.objs.size], _, _, H1, rfl, I2, turn_enumT a (s1.heap.objs.size + 1) s1.heap.objs.size, ⟨⟨.none, he⟩, ⟨_, hit, rfl, rfl⟩, Nat.succ_ne_self _, Nat.ne_of_lt hal, Nat.ne_of_gt (Nat.lt_succ_of_lt hal)⟩, fun b hb => ?_, qJ⟩
    have e' : b = s1.heap.objs.size + 1 ∨ b = s1.heap.objs.size := by simpa using hb
    have hle : s1.heap.objs.size ≤ b := by
      rcases e' with z | z
      · rw [z]; exact Nat.le_add_right _ _
      · rw [z]; exact Nat.le_refl _
    exact I1.fpOk hle (I1.hok.fresh hle)
  | fl hq rs =>
    cases ru
    exact lst hq.sq (q.pure S (its_enumF (G := G) hq rs))
  | @loc l a hl =>
    cases ru
    have q : Po X.K G EX (rI X.K G) m σ H1 v ((Bind.bind (m := M) (Bind.bind (m := M) (rd fun s => lstO s (.loc l)) fun _ => Pure.pure (It.lst l)) fun it => Pure.pure (It.enum it)) st) R := q
    rw [bind_run, rd_eq] at q
    cases e1 : lstO st (.loc l) with
    | none => rw [e1] at q; exact q.elim
    | some xs =>
      rw [e1] at q
      obtain ⟨vs, h1, h2⟩ := S.at (lst_loc e1) hl
      exact lst (SqL.of h1) (Po.ok q S (its_enumL (G := G) hl))
  | _ => exact q.elim
end Ix
end PIx14c

section PIx15
set_option Elab.async false
set_option linter.all false
set_option maxRecDepth 100000
set_option autoImplicit false
set_option maxHeartbeats 2000000
/-! Ix15: expressions. -/
namespace Ix
open PySem PySem.Spec L2
open PyProof.Rows hiding St

/-- a def's promise: what it does by a function of ours -/
def spF (K : PySem.W.Frag) (G : Gx) (g : List D → M D) : Sp := fun vs H Q E => ∃ m st ds, Sm K G m [] H [] st ∧ RDs K m H ds vs ∧ Po K G E (RD K) m [] H [] (g ds st) Q
structure XOk (Z : Tb) (G : Gx) (EX : XK) (k : Nat) (CX : CXT) (c : Cf) (X : Cx) : Prop where
  ent : G.ent = entryOfKey (nestedKind X.prog X.w)
  room : Room k X.A
  calm : X.calm = true
  nd : X.N.Nodup
  con : ∀ p ∈ Z.con, ∃ u v, X.mg p.1 = some u ∧ RelV v u ∧ ∀ m H, RD X.K m H p.2 v
  bl : ∀ x ∈ Z.bl, X.mg x = none
  fns : ∀ f x, Z.fnm f = some x → ∃ a fd ps, X.mg x = some (.ref a) ∧ PySem.W.keepIn X.K (.ref a) = true ∧ Binds X.K fd ps [] ∧ FnOk X.prog X.w X.K X.mg X.base CX k a fd ps (spF X.K G (c.call f))
  pass : Passes CX X EX
  cxf : ∀ outer H s e s', CX outer H s E0 e s' → False
  own : PassesOwn (model X.prog X.w) X.A X.env X.xe

section
variable {K : PySem.W.Frag} {G : Gx} {EX : XK} {m : List Addr} {σ : St} {H : Hp} {v : En} {st : Store}
theorem Sm.bare (S : Sm K G m σ H v st) : Sm K G m [] H [] st := S.env' ⟨rfl, fun i d h => by simp at h⟩
theorem Po.bare {r : R D} {Q : VK} (S : Sm K G m σ H v st) (h : Po K G EX (RD K) m σ H v r Q) : Po K G EX (RD K) m [] H [] r Q := by
  cases r with
  | ok a st' => exact fun m' b H' e S' r => h m' b H' e (S'.env' (S.env.ext e)) r
  | ex c d st' => exact h
  | no => exact h
end
theorem blB_ok {Z : Tb} {G : Gx} {EX : XK} {k : Nat} {CX : CXT} {c : Cf} {X : Cx} {cc : CC} {x : Str} (O : XOk Z G EX k CX c X) (hsc : X.env.scope = cc.sc) (h : blB Z cc x = true) : Gl X x ∧ X.mg x = none := by
  unfold blB at h
  rw [Bool.and_eq_true] at h
  refine ⟨?_, O.bl x (List.contains_iff_mem.mp h.2)⟩
  have h1 := h.1
  unfold gloB at h1
  split at h1
  · rename_i e
    show X.env.scope.names.lookup x = _
    rw [hsc]; exact e
  · cases h1
theorem gloB_ok {X : Cx} {cc : CC} {x : Str} (hsc : X.env.scope = cc.sc) (h1 : gloB cc.sc x = true) : Gl X x := by
  unfold gloB at h1
  split at h1
  · rename_i e
    show X.env.scope.names.lookup x = _
    rw [hsc]; exact e
  · cases h1
theorem plainName_ok {x : Str} (h : plainName x = true) : (x == ("__debug__" : Str)) = false ∧ (x == ("__classdict__" : Str)) = false ∧ x ≠ "__name__" := by
  unfold plainName at h
  simp only [Bool.and_eq_true, Bool.not_eq_true'] at h
  exact ⟨h.1.1, h.1.2, fun e => by rw [e] at h; have := h.2; simp at this⟩
theorem boot_bl (b : Bl) : bootBuiltins (blName b) = some (blV b) := by cases b <;> decide +kernel
theorem boot_ty (t : Ty) : bootBuiltins (tyN t : Str) = some (.type (tyN t)) := by cases t <;> decide +kernel
theorem boot_isi : bootBuiltins ("isinstance" : Str) = some (.builtin "isinstance") := by decide +kernel
theorem bl_plain (b : Bl) : plainName (blName b) = true := by cases b <;> decide +kernel
theorem ty_plain (t : Ty) : plainName (tyN t : Str) = true := by cases t <;> decide +kernel

theorem and_test {c : Cf} {e e2 : E} {es : Es} {v : En} : (Bind.bind (m := M) (evAnd c (.cons e (.cons e2 es)) v) truth) = (Bind.bind (m := M) (Bind.bind (m := M) (ev c e v) truth) (fun k => if k then Bind.bind (m := M) (evAnd c (.cons e2 es) v) truth else Pure.pure false)) := by
  funext st
  have e1 : evAnd c (.cons e (.cons e2 es)) v = (Bind.bind (m := M) (ev c e v) fun x => Bind.bind (m := M) (truth x) fun k => if k then evAnd c (.cons e2 es) v else Pure.pure x) := rfl
  rw [e1, bind_run, bind_run, bind_run, bind_run]
  cases ev c e v st with
  | ex _ _ _ => rfl
  | no => rfl
  | ok x s1 =>
    dsimp only
    rw [bind_run]
    cases q : truthO s1 x with
    | none =>
      have e2 : truth x s1 = .no := rd_none q
      rw [e2]
    | some k =>
      have e2 : truth x s1 = .ok k s1 := rd_some q
      rw [e2]
      cases k with
      | true => rfl
      | false => exact e2
theorem or_test {c : Cf} {e e2 : E} {es : Es} {v : En} : (Bind.bind (m := M) (evOr c (.cons e (.cons e2 es)) v) truth) = (Bind.bind (m := M) (Bind.bind (m := M) (ev c e v) truth) (fun k => if k then Pure.pure true else Bind.bind (m := M) (evOr c (.cons e2 es) v) truth)) := by
  funext st
  have e1 : evOr c (.cons e (.cons e2 es)) v = (Bind.bind (m := M) (ev c e v) fun x => Bind.bind (m := M) (truth x) fun k => if k then Pure.pure x else evOr c (.cons e2 es) v) := rfl
  rw [e1, bind_run, bind_run, bind_run, bind_run]
  cases ev c e v st with
  | ex _ _ _ => rfl
  | no => rfl
  | ok x s1 =>
    dsimp only
    rw [bind_run]
    cases q : truthO s1 x with
    | none =>
      have e2 : truth x s1 = .no := rd_none q
      rw [e2]
    | some k =>
      have e2 : truth x s1 = .ok k s1 := rd_some q
      rw [e2]
      cases k with
      | false => rfl
      | true => exact e2
theorem atV_some {v : En} {i : Nat} {d : D} (h : atV v i = some d) : v[i]? = some (some d) := by
  unfold atV at h
  split at h
  · rename_i e; rw [e, h]
  · cases h
def isBl (d : D) : Prop := ∃ k, d = .bl k
theorem cmp_bl {c : Cf} {o : Co} {a b : E} : ∀ v st d st', ev c (.cmp o a b) v st = .ok d st' → isBl d := by
  intro v st d st' h
  obtain ⟨x, s1, h1, h2⟩ := ok_bind h
  obtain ⟨y, s2, h3, h4⟩ := ok_bind h2
  obtain ⟨k, s3, h5, h6⟩ := ok_bind h4
  cases h6
  exact ⟨k, rfl⟩
theorem cmp2_bl {c : Cf} {o o' : Co} {a b e : E} : ∀ v st d st', ev c (.cmp2 o o' a b e) v st = .ok d st' → isBl d := by
  intro v st d st' h
  obtain ⟨x, s1, h1, h2⟩ := ok_bind h
  obtain ⟨y, s2, h3, h4⟩ := ok_bind h2
  obtain ⟨k, s3, h5, h6⟩ := ok_bind h4
  cases k with
  | false =>
    cases h6
    exact ⟨false, rfl⟩
  | true =>
    obtain ⟨z, s4, h7, h8⟩ := ok_bind h6
    obtain ⟨k', s5, h9, h10⟩ := ok_bind h8
    cases h10
    exact ⟨k', rfl⟩
section
variable {X : Cx} {G : Gx} {EX : XK} {c : Cf} {σ : St} {H : Hp}
/-- a test of what is a truth value -/
theorem test_bl {fe : En → M D} {Q : Bool → Hp → Prop} (p : ∀ v st d st', fe v st = .ok d st' → isBl d) (h : tP X.K G EX (rE Bool) (fun v => Bind.bind (m := M) (fe v) truth) σ H Q) : tP X.K G EX (RD X.K) fe σ H fun x H' => ∃ k, x = .bl k ∧ Q k H' := by
  refine (tP_b1P (relA := RD X.K) p h).mono fun x H1 ⟨m, v, st, d, S, ⟨r, ⟨k, e⟩⟩, q⟩ => ?_
  subst e
  cases r
  exact ⟨k, rfl, q.ok S rfl⟩
/-- a test of any kind -/
theorem test_any {fe : En → M D} {Q : Bool → Hp → Prop} (h : tP X.K G EX (rE Bool) (fun v => Bind.bind (m := M) (fe v) truth) σ H Q) : tP X.K G EX (RD X.K) fe σ H fun x H' => ∃ k, TruV X.K x H' k ∧ Q k H' := by
  refine (tP_b1 (relA := RD X.K) h).mono fun x H1 ⟨m, v, st, d, S, r, q⟩ => ?_
  obtain ⟨k, e, q⟩ := Po.rd1 (f := fun s => truthO s d) q
  exact ⟨k, truth_RD S r e, q.ok S rfl⟩
end
structure Hy (Z : Tb) (G : Gx) (EX : XK) (k : Nat) (CX : CXT) (c : Cf) (cc : CC) (X : Cx) : Prop where
  O : XOk Z G EX k CX c X
  N : X.N = cc.N
  sc : X.env.scope = cc.sc
  fn : ∀ x, cc.fnB x = true → X.fn x = true
theorem Hy.blk {Z : Tb} {G : Gx} {EX : XK} {k : Nat} {CX : CXT} {c : Cf} {cc : CC} {X : Cx} (h : Hy Z G EX k CX c cc X) (scope : Scope) (s : Shared) (H : Hp) (C : Addr) (cl : List (Str × Addr)) (fp : List Addr) :
    Hy Z G E0 k CX c (blkCC cc scope) (X.blk s H scope (compEnvC scope cl C X.env) fp) where
  O := { ent := h.O.ent, room := h.O.room, calm := h.O.calm, nd := h.O.nd, con := h.O.con, bl := h.O.bl, fns := h.O.fns, pass := fun _ _ _ _ _ _ _ z => (h.O.cxf _ _ _ _ _ z).elim, cxf := h.O.cxf, own := PassesOwn.never }
  N := h.N
  sc := by
    show relS scope X.env.scope = relS scope cc.sc
    rw [h.sc]
  fn := fun x hx => hx
theorem notStars {Z : Tb} {cc : CC} : ∀ (es : Es) {xs : List Expr}, okEs Z cc es xs = true → xs.all notStar = true ∧ xs.length = es.len
  | .nil, xs, ok => by
    cases xs with
    | nil => exact ⟨rfl, rfl⟩
    | cons _ _ => cases ok
  | .cons e es, xs, ok => by
    cases xs with
    | nil => cases ok
    | cons x r =>
      have ok' : (okE Z cc e x && notStar x && okEs Z cc es r) = true := ok
      simp only [Bool.and_eq_true] at ok'
      obtain ⟨h1, h2⟩ := notStars es ok'.2
      exact ⟨by rw [List.all_cons, ok'.1.2, h1]; rfl, by rw [List.length_cons, h2]; rfl⟩
theorem star_all {env : PySem.Env} {pos : Pos} : ∀ {xs : List Expr}, xs.all notStar = true → (backTo pos (starEach xs env)).any (·.1) = false
  | [], _ => rfl
  | x :: r, h => by
    rw [List.all_cons, Bool.and_eq_true] at h
    rw [starEach_cons h.1]
    show (false || (backTo pos (starEach r env)).any (·.1)) = false
    rw [star_all h.2]
    rfl
section
variable {G : Gx} {c : Cf}
theorem imp_call {X : Cx} {EX : XK} {f : Nat} {fe : En → M (List D)} {σ : St} {H : Hp} {Q : VK} (h : tP X.K G EX (RD X.K) (fun v => Bind.bind (m := M) (fe v) (c.call f)) σ H Q) :
    tP X.K G EX (RDs X.K) fe σ H fun vs H1 => spF X.K G (c.call f) (vs ++ []) H1 Q EX := by
  refine (tP_b1 (relA := RDs X.K) h).mono fun vs H1 ⟨m, v, st, ds, S, r, q⟩ => ?_
  exact ⟨m, st, ds, S.bare, by rw [List.append_nil]; exact r, Po.bare S q⟩
theorem imp_cmp2 {X : Cx} {EX : XK} {o o' : Co} {a b b' : E} {σ : L2.St} {H : Hp} {Q : VK} (h : tP X.K G EX (RD X.K) (ev c (.cmp2 o o' a b b')) σ H Q) :
    tChain (vP2 X.K G EX (cmpV o)) (vP2 X.K G EX (cmpV o')) (tP X.K G EX (RD X.K) (ev c a)) (tP X.K G EX (RD X.K) (ev c b)) (tP X.K G EX (RD X.K) (ev c b')) σ H Q := by
  refine (tP_b2 (relA := RD X.K) (relB := RD X.K) stabD h).mono fun x H1 q => q.mono fun y H2 ⟨m, v, st, d, e, S, r1, r2, q⟩ => ?_
  obtain ⟨k, e1, q⟩ := Po.rd (f := fun s => cmpO o s d e) q
  refine ⟨m, σ, v, st, d, e, S, r1, r2, ?_⟩
  have e2 : cmpV o d e st = .ok (.bl k) st := by
    show M.bind (rd _) _ st = _
    unfold M.bind
    rw [rd_some e1]
    rfl
  rw [e2]
  intro m' x' H' xt S' r'
  cases r'
  refine ⟨k, rfl, ?_⟩
  cases k with
  | false => exact (q.shift xt).pure S' (.bl false)
  | true =>
    have q' : Po X.K G EX (RD X.K) m' σ H' v ((Bind.bind (m := M) (ev c b' v) fun z => cmpV o' e z) st) Q := q.shift xt
    refine ⟨m', v, st, S', q'.bind.mono fun m2 a2 w2 H3 st3 xt2 S2 rw2 => ⟨w2, rw2, fun ⟨m3, st4, a3, xt3, S3, r3, q3⟩ => ⟨m3, σ, v, st4, e, a3, S3, (r2.ext xt).ext xt3, r3, q3⟩⟩⟩
theorem sPlain {X : Cx} {EX : XK} (e : E) {ex : Expr} (hp : plainTest ex = true) (h : PE X ex (tP X.K G EX (RD X.K) (ev c e))) : PT X ex (tP X.K G EX (rE Bool) fun v => Bind.bind (m := M) (ev c e v) truth) :=
  PT.imp (pt_truth h (isTrue_plainT hp)) fun σ H Q h => test_any h
mutual
theorem sE : ∀ (e : E) {X : Cx} {EX : XK} {Z : Tb} {cc : CC} {k : Nat} {CX : CXT} {ex : Expr}, okE Z cc e ex = true → Hy Z G EX k CX c cc X → PE X ex (tP X.K G EX (RD X.K) (ev c e))
  | .var i, X, EX, Z, cc, k, CX, ex, ok, hy => by
    cases ex <;> try (cases ok; done)
    rename_i x pos
    have ok' : (decide (cc.N[i]? = some x) && visB cc.sc x && plainName x) = true := ok
    simp only [Bool.and_eq_true, decide_eq_true_eq] at ok'
    obtain ⟨⟨h1, h2⟩, h3⟩ := ok'
    obtain ⟨p1, p2, p3⟩ := plainName_ok h3
    have hv : Vis X.env.scope x := by
      rw [hy.sc]
      unfold visB at h2
      split at h2
      · rename_i e; exact .inl e
      · rename_i e; exact .inr (.inl e)
      · rename_i e; exact .inr (.inr e)
      · cases h2
    refine PE.imp (pe_var (i := i) (by rw [hy.N]; exact h1) hv p1 p2) fun σ H Q h => ?_
    obtain ⟨m, v, st, S, h⟩ := h
    obtain ⟨d, e, h⟩ := Po.rd1 (f := fun _ => atV v i) h
    obtain ⟨y, e1, r⟩ := S.env.2 i d (atV_some e)
    exact ⟨y, e1, h.ok S r⟩
  | .con d, X, EX, Z, cc, k, CX, ex, ok, hy => by
    cases ex <;> try (cases ok; done)
    rename_i cst kd pos
    have ok' : conB d cst = true := ok
    have fin : ∀ {x : V}, (∀ m H, RD X.K m H d x) → ∀ {σ H Q}, tP X.K G EX (RD X.K) (ev c (.con d)) σ H Q → Q x H := fun {x} r {σ H Q} ⟨m, v, st, S, h⟩ => h.pure S (r m H)
    cases d <;> cases cst <;> try (cases ok'; done)
    · exact PE.imp pe_non fun σ H Q h => fin (fun _ _ => .non) h
    · have e := eq_of_beq ok'
      subst e
      exact PE.imp pe_bl fun σ H Q h => fin (fun _ _ => .bl _) h
    · have e := of_decide_eq_true ok'
      subst e
      exact PE.imp pe_int fun σ H Q h => fin (fun _ _ => .int _) h
    · have e := of_decide_eq_true ok'
      subst e
      exact PE.imp pe_str fun σ H Q h => fin (fun _ _ => .str _) h
  | .glo d, X, EX, Z, cc, k, CX, ex, ok, hy => by
    cases ex <;> try (cases ok; done)
    rename_i x pos
    have ok' : (gloB cc.sc x && plainName x && Z.con.any fun p => decide (p.1 = x) && conEq p.2 d) = true := ok
    simp only [Bool.and_eq_true, List.any_eq_true, decide_eq_true_eq] at ok'
    obtain ⟨⟨h1, h2⟩, ⟨y, d'⟩, h3, rfl, h4⟩ := ok'
    obtain ⟨p1, p2, p3⟩ := plainName_ok h2
    obtain ⟨u, w, hm, rw', rd⟩ := hy.O.con _ h3
    have ed : d' = d := by
      cases d' <;> cases d <;> first | (cases h4; done) | (rw [of_decide_eq_true h4])
    subst ed
    exact PE.imp (pe_glob (gloB_ok hy.sc h1) hm rw' p1) fun σ H Q ⟨m, v, st, S, h⟩ => h.pure S (rd m H)
  | .bin o a b, X, EX, Z, cc, k, CX, ex, ok, hy => by
    cases ex <;> try (cases ok; done)
    rename_i x p y pos
    have ok' : (sameBo o p && okE Z cc a x && okE Z cc b y) = true := ok
    simp only [Bool.and_eq_true] at ok'
    obtain ⟨⟨h1, h2⟩, h3⟩ := ok'
    rw [sameBo_eq h1]
    refine PE.imp (pe_op (op_bin (G := G) (EX := EX) o) (sE a h2 hy) (sE b h3 hy)) fun σ H Q h => ?_
    exact (tP_b2 (relA := RD X.K) (relB := RD X.K) stabD h).mono fun x H1 q => q.mono fun y H2 ⟨m, v, st, d, e, S, r1, r2, q⟩ => ⟨m, σ, v, st, d, e, S, r1, r2, q⟩
  | .neg a, X, EX, Z, cc, k, CX, ex, ok, hy => by
    cases ex <;> try (cases ok; done)
    rename_i o x pos
    cases o <;> try (cases ok; done)
    refine PE.imp (pe_un un_neg (sE a ok hy)) fun σ H Q h => ?_
    refine (tP_b1 (relA := RD X.K) h).mono fun x H1 ⟨m, v, st, d, S, r, q⟩ => ?_
    cases r with
    | int i => exact ⟨i, rfl, q.pure S (.int _)⟩
    | _ => exact q.elim
  | .not a, X, EX, Z, cc, k, CX, ex, ok, hy => by
    cases ex <;> try (cases ok; done)
    rename_i o x pos
    cases o <;> try (cases ok; done)
    refine PE.imp (pe_notT (sE a ok hy)) fun σ H Q h => ?_
    refine (tP_b1 (relA := RD X.K) h).mono fun x H1 ⟨m, v, st, d, S, r, q⟩ => ?_
    obtain ⟨k, e, q⟩ := Po.rd (f := fun s => truthO s d) q
    exact ⟨k, truth_RD S r e, q.pure S (.bl _)⟩
  | .and es, X, EX, Z, cc, k, CX, ex, ok, hy => by
    cases ex <;> try (cases ok; done)
    rename_i o xs pos
    cases o <;> cases xs <;> try (cases ok; done)
    exact sAnd es ok hy
  | .or es, X, EX, Z, cc, k, CX, ex, ok, hy => by
    cases ex <;> try (cases ok; done)
    rename_i o xs pos
    cases o <;> cases xs <;> try (cases ok; done)
    exact sOr es ok hy
  | .cmp o a b, X, EX, Z, cc, k, CX, ex, ok, hy => by
    cases ex <;> try (cases ok; done)
    rename_i x ps ys pos
    match ps, ys, ok with
    | [p], [y], ok =>
      have ok' : (sameCo o p && okE Z cc a x && okE Z cc b y && notSet y) = true := ok
      simp only [Bool.and_eq_true] at ok'
      obtain ⟨⟨⟨h1, h2⟩, h3⟩, h4⟩ := ok'
      rw [sameCo_eq h1]
      refine PE.imp (pe_cmpR (op_cmp (G := G) (EX := EX) hy.O.ent (by have := hy.O.room.un; omega) o) (sE a h2 hy) (sE b h3 hy) (by cases y <;> first | rfl | cases h4)) fun σ H Q h => ?_
      exact (tP_b2 (relA := RD X.K) (relB := RD X.K) stabD h).mono fun x H1 q => q.mono fun y H2 ⟨m, v, st, d, e, S, r1, r2, q⟩ => ⟨m, σ, v, st, d, e, S, r1, r2, q⟩
  | .cmp2 o o' a b b', X, EX, Z, cc, k, CX, ex, ok, hy => by
    cases ex <;> try (cases ok; done)
    rename_i x ps ys pos
    match ps, ys, ok with
    | [p, p'], [y, z], ok =>
      have ok' : (sameCo o p && sameCo o' p' && okE Z cc a x && okE Z cc b y && okE Z cc b' z && notSet z) = true := ok
      simp only [Bool.and_eq_true] at ok'
      obtain ⟨⟨⟨⟨⟨h1, h1'⟩, h2⟩, h3⟩, h4⟩, h5⟩ := ok'
      rw [sameCo_eq h1, sameCo_eq h1']
      have hu : X.A.units + 100 < cLine := by have := hy.O.room.un; omega
      exact PE.imp (pe_chain (op_cmp (G := G) (EX := EX) hy.O.ent hu o) (op_cmp (G := G) (EX := EX) hy.O.ent hu o') (sE a h2 hy) (sE b h3 hy) (sE b' h4 hy) (by show behindInMarks (cop o') z = false; cases z <;> first | rfl | cases h5)) fun σ H Q h => imp_cmp2 h
  | .ife a b b', X, EX, Z, cc, k, CX, ex, ok, hy => by
    cases ex <;> try (cases ok; done)
    rename_i x y z pos
    have ok' : (okE Z cc a x && okTe a && okE Z cc b y && okE Z cc b' z) = true := ok
    simp only [Bool.and_eq_true] at ok'
    obtain ⟨⟨⟨h1, h2⟩, h3⟩, h4⟩ := ok'
    refine PE.imp (pe_ifExp (sTest a h1 h2 hy) (sE b h3 hy) (sE b' h4 hy)) fun σ H Q h => ?_
    have h' : tP X.K G EX (RD X.K) (fun v => Bind.bind (m := M) (Bind.bind (m := M) (ev c a v) truth) fun k => if k then ev c b v else ev c b' v) σ H Q := by
      refine cast ?_ h
      congr 1
      funext v st
      show M.bind (ev c a v) _ st = M.bind (M.bind (ev c a v) truth) _ st
      unfold M.bind
      cases ev c a v st <;> rfl
    refine (tP_b1 (relA := rE Bool) h').mono fun k H1 ⟨m, v, st, k', S, e, q⟩ => ?_
    subst e
    cases k' with
    | true => exact ⟨m, v, st, S, q⟩
    | false => exact ⟨m, v, st, S, q⟩
  | .tup es, X, EX, Z, cc, k, CX, ex, ok, hy => by
    cases ex <;> try (cases ok; done)
    refine PE.imp (pe_tup (sEs es ok hy)) fun σ H Q h => ?_
    refine (tP_b1 (relA := RDs X.K) h).mono fun xs H1 ⟨m, v, st, ds, S, r, q⟩ => ?_
    have q : Po X.K G EX (RD X.K) m σ H1 v ((if ds.length ≤ SL then Pure.pure (.tup ds) else stuck : M D) st) Q := q
    split at q
    · rename_i hz
      exact ⟨by rw [sizeLine_eq, ← r.length]; exact hz, fun p hp => Po.newT q S r hp⟩
    · exact q.elim
  | .lst es, X, EX, Z, cc, k, CX, ex, ok, hy => by
    cases ex <;> try (cases ok; done)
    refine PE.imp (pe_lst (sEs es ok hy)) fun σ H Q h => ?_
    refine (tP_b1 (relA := RDs X.K) h).mono fun xs H1 ⟨m, v, st, ds, S, r, q⟩ => ?_
    have q : Po X.K G EX (RD X.K) m σ H1 v ((if ds.length ≤ SL then newC (.lst ds) else stuck : M D) st) Q := q
    split at q
    · rename_i hz
      exact ⟨by rw [sizeLine_eq, ← r.length]; exact hz, fun p hp => q.newL S r hp⟩
    · exact q.elim
  | .dnew, X, EX, Z, cc, k, CX, ex, ok, hy => by
    cases ex <;> try (cases ok; done)
    rename_i ks vs pos
    cases ks <;> cases vs <;> try (cases ok; done)
    refine PE.imp pe_dnewK fun σ H Q ⟨m, v, st, S, h⟩ p hp => ?_
    have x : Ext m (m ++ [p]) H (upd H p (.dK [])) := ext_alloc hp
    refine h (m ++ [p]) (.ref p) _ x (S.alloc hp ⟨_, upd_same, .inl ⟨[], rfl, .nil⟩⟩) (.loc ?_)
    rw [← S.len]; simp
  | .ix a b, X, EX, Z, cc, k, CX, ex, ok, hy => by
    cases ex <;> try (cases ok; done)
    rename_i x y pos
    have ok' : (okE Z cc a x && okE Z cc b y && notSlice y) = true := ok
    simp only [Bool.and_eq_true] at ok'
    refine PE.imp (pe_ix (ix_ok (G := G) (EX := EX) hy.O.ent (by have := hy.O.room.un; omega)) (sE a ok'.1.1 hy) (sE b ok'.1.2 hy) (plainIx ok'.2)) fun σ H Q h => ?_
    exact (tP_b2 (relA := RD X.K) (relB := RD X.K) stabD h).mono fun x H1 q => q.mono fun y H2 ⟨m, v, st, d, e, S, r1, r2, q⟩ => ⟨m, σ, v, st, d, e, S, r1, r2, q⟩
  | .sl a lo hi, X, EX, Z, cc, k, CX, ex, ok, hy => by
    cases ex <;> try (cases ok; done)
    rename_i x y pos
    cases y <;> try (cases ok; done)
    rename_i l h' stp pos'
    cases stp <;> try (cases ok; done)
    have ok' : (okE Z cc a x && okO Z cc lo l && okO Z cc hi h') = true := ok
    simp only [Bool.and_eq_true] at ok'
    refine PE.imp (pe_slice (sl_ok (G := G) (EX := EX)) (sE a ok'.1.1 hy) (sO lo ok'.1.2 hy) (sO hi ok'.2 hy)) fun σ H Q h => ?_
    refine (tP_b1 (relA := RD X.K) h).mono fun x H1 q => ?_
    obtain ⟨m, v, st, d, S, r, q⟩ := q
    refine ⟨m, v, st, S, (Po.bind (relA := rE (Option Int)) q).mono fun m1 a1 b1 H2 st2 xt S2 e1 => ⟨b1, e1, fun ⟨m3, st3, a3, xt3, S3, e3, q3⟩ => ?_⟩⟩
    refine ⟨m3, v, st3, S3, (Po.bind (relA := rE (Option Int)) q3).mono fun m4 a4 b4 H4 st4 xt4 S4 e4 => ⟨b4, e4, fun ⟨m5, st5, a5, xt5, S5, e5, q5⟩ => ?_⟩⟩
    subst e3 e5
    exact ⟨m5, σ, v, st5, d, S5, (r.ext xt3).ext xt5, q5⟩
  | .call f es, X, EX, Z, cc, k, CX, ex, ok, hy => by
    cases ex <;> try (cases ok; done)
    rename_i fn xs ks pos
    cases fn <;> try (cases ok; done)
    rename_i x p
    cases ks <;> try (cases ok; done)
    have ok' : (gloB cc.sc x && plainName x && decide (Z.fnm f = some x) && okEs Z cc es xs) = true := ok
    simp only [Bool.and_eq_true, decide_eq_true_eq] at ok'
    obtain ⟨⟨⟨h1, h2⟩, h3⟩, h4⟩ := ok'
    obtain ⟨a, fd, ps, hm, hk, hb, F⟩ := hy.O.fns f x h3
    have hg := gloB_ok hy.sc h1
    have hd := (plainName_ok h2).1
    cases xs with
    | nil =>
      refine PE.imp (pe_call0 F hy.O.room hg hm hk hb .nil hy.O.pass hd) fun σ H Q h => ?_
      obtain ⟨m, v, st, S, h⟩ := imp_call (G := G) h
      cases es with
      | cons _ _ => cases h4
      | nil => exact h m [] H Ext.refl S .nil
    | cons y ys =>
      obtain ⟨n1, n2⟩ := notStars es h4
      rw [List.all_cons, Bool.and_eq_true] at n1
      exact PE.imp (pe_call F hy.O.room hg hm hk hb .nil hy.O.pass (sEs es h4 hy) hd (starEach_cons n1.1) (star_all n1.2)) fun σ H Q h => imp_call (G := G) h
  | .bc b es, X, EX, Z, cc, k, CX, ex, ok, hy => by
    cases ex <;> try (cases ok; done)
    rename_i fn xs ks pos
    cases fn <;> try (cases ok; done)
    rename_i x p
    cases ks <;> cases xs <;> try (cases ok; done)
    rename_i y ys
    have ok' : (decide (x = blName b) && blB Z cc x && okEs Z cc es (y :: ys)) = true := ok
    simp only [Bool.and_eq_true, decide_eq_true_eq] at ok'
    obtain ⟨⟨h1, h2⟩, h3⟩ := ok'
    obtain ⟨hg, hm⟩ := blB_ok hy.O hy.sc h2
    obtain ⟨n1, n2⟩ := notStars es h3
    rw [List.all_cons, Bool.and_eq_true] at n1
    have hp : plainName x = true := by rw [h1]; exact bl_plain b
    have hv : bootBuiltins x = some (blV b) := by rw [h1]; exact boot_bl b
    have hc := bc_ok (G := G) (EX := EX) hy.O.ent hy.O.calm b
    have im : ∀ {σ H Q}, tP X.K G EX (RD X.K) (ev c (.bc b es)) σ H Q → tP X.K G EX (RDs X.K) (evs c es) σ H fun vs H1 => vC X.K G EX (bcD b) vs H1 Q := fun {σ H Q} h =>
      (tP_b1 (relA := RDs X.K) h).mono fun vs H1 ⟨m, v, st, ds, S, r, q⟩ => ⟨m, σ, v, st, ds, S, r, q⟩
    cases b <;> first
      | exact PE.imp (pe_callB hc hg hm hv (sEs es h3 hy) (plainName_ok hp).2.2 (plainName_ok hp).1 (starEach_cons n1.1) (star_all n1.2)) fun σ H Q h => im h
      | exact PE.imp (pe_callTy hc hg hm hv (sEs es h3 hy) (plainName_ok hp).2.2 (plainName_ok hp).1 (starEach_cons n1.1) (star_all n1.2)) fun σ H Q h => im h
  | .isi a t, X, EX, Z, cc, k, CX, ex, ok, hy => by
    cases ex <;> try (cases ok; done)
    rename_i fn xs ks pos
    cases fn <;> try (cases ok; done)
    rename_i x p
    match xs, ks, ok with
    | [y, .Name z pz], [], ok =>
      have ok' : (decide (x = "isinstance") && blB Z cc x && decide (z = (tyN t : Str)) && blB Z cc z && okE Z cc a y && notStar y) = true := ok
      simp only [Bool.and_eq_true, decide_eq_true_eq] at ok'
      obtain ⟨⟨⟨⟨⟨h1, h2⟩, h3⟩, h4⟩, h5⟩, h6⟩ := ok'
      obtain ⟨hg, hm⟩ := blB_ok hy.O hy.sc h2
      obtain ⟨hg', hm'⟩ := blB_ok hy.O hy.sc h4
      have hp : plainName z = true := by rw [h3]; exact ty_plain t
      have hz : PE X (.Name z pz) (tC (.ty (tyN t))) := pe_bltn hg' hm' (by rw [h3]; exact boot_ty t) rfl (plainName_ok hp).2.2 (plainName_ok hp).1
      have hc : CallR X (.builtin "isinstance") (fun xs H Q => ∃ y m σ v st d, xs = [y, .ty (tyN t)] ∧ Sm X.K G m σ H v st ∧ RD X.K m H d y ∧ Po X.K G EX (RD X.K) m σ H v (isiD t d st) Q) := by
        rintro pins s σ H xs us Q I rs ⟨y, m, τ, v, st, d, rfl, S, r, q⟩
        exact isi_ok I rs S r q
      subst h1
      refine PE.imp (pe_callB hc hg hm boot_isi (pa_cons (sE a h5 hy) (pa_cons hz pa_nil rfl) (starEach_cons h6)) (by decide +kernel) (by decide +kernel) (starEach_cons h6) rfl) fun σ H Q h => ?_
      exact (tP_b1 (relA := RD X.K) h).mono fun y H1 ⟨m, v, st, d, S, r, q⟩ => ⟨y, m, σ, v, st, d, rfl, S, r, q⟩
  | .mt mm a es, X, EX, Z, cc, k, CX, ex, ok, hy => by
    cases ex <;> try (cases ok; done)
    rename_i fn xs ks pos
    cases fn <;> try (cases ok; done)
    rename_i x n ap
    cases ks <;> try (cases ok; done)
    have ok' : (decide (n = mtName mm) && (ap.endLine == pos.line) && notCall x && okE Z cc a x && okEs Z cc es xs && fewMt mm xs.length) = true := ok
    simp only [Bool.and_eq_true, decide_eq_true_eq] at ok'
    obtain ⟨⟨⟨⟨⟨h1, h2⟩, h3⟩, h4⟩, h5⟩, h6⟩ := ok'
    subst h1
    obtain ⟨n1, n2⟩ := notStars es h5
    have hu : X.A.units + 100 < cLine := by have := hy.O.room.un; omega
    have im : ∀ {σ H Q}, tP X.K G EX (RD X.K) (ev c (.mt mm a es)) σ H Q → tP X.K G EX (RD X.K) (ev c a) σ H fun y H1 => ∃ m v st d, Sm X.K G m σ H1 v st ∧ RD X.K m H1 d y ∧ mtTyO mm st d = some () ∧
        tP X.K G EX (RDs X.K) (evs c es) σ H1 fun ys H2 => vM X.K G EX (mtD mm) y ys H2 Q := fun {σ H Q} h => by
      refine (tP_b1 (relA := RD X.K) (k := fun v x => Bind.bind (m := M) (rd fun s => mtTyO mm s x) fun _ => Bind.bind (m := M) (evs c es v) fun xs => mtD mm x xs) h).mono fun y H1 ⟨m, v, st, d, S, r, q⟩ => ?_
      obtain ⟨_, e, q⟩ := Po.rd (f := fun s => mtTyO mm s d) q
      refine ⟨m, v, st, d, S, r, e, m, v, st, S, (Po.bind (relA := RDs X.K) q).mono fun m1 a1 b1 H2 st2 xt S2 e1 => ⟨b1, e1, fun ⟨m3, st3, a3, xt3, S3, e3, q3⟩ => ⟨m3, σ, v, st3, d, a3, S3, r.ext xt3, e3, q3⟩⟩⟩
    have lst : ∀ {m v st d y} {σ : L2.St} {H : Hp}, Sm X.K G m σ H v st → RD X.K m H d y → (match d with | .loc l => (match st[l]? with | some (.lst _) => some () | _ => none) | _ => none) = some () → tyV X.K "list" y H := fun {m v st d y σ H} S r e => by
      cases r with
      | loc hl =>
        dsimp only at e
        split at e
        · rename_i q1
          obtain ⟨vs, q2, q3⟩ := S.at q1 hl
          exact .inl ⟨rfl, vs, SqL.of q2⟩
        · cases e
      | _ => cases e
    match xs, n1, n2, h5, h6 with
    | [], n1, n2, h5, h6 =>
      cases mm <;> try (cases h6; done)
      refine PE.imp (pe_bm0 PySem.F.plainAttrs_list PySem.F.slot_list_pop PySem.F.type_list_pop (pop_ok (G := G) (EX := EX)) (sE a h4 hy) (attrBase h3 _) h2) fun σ H Q h => ?_
      refine (im h).mono fun y H1 ⟨m, v, st, d, S, r, e, q⟩ => ⟨lst S r e, ?_⟩
      cases es with
      | cons _ _ => cases h5
      | nil =>
        obtain ⟨m, v, st, S, q⟩ := q
        exact q m [] H1 Ext.refl S .nil
    | [z], n1, n2, h5, h6 =>
      have n1' : notStar z = true := by simpa using n1
      have st1 : starEach [z] X.env = [(false, eval z X.env)] := starEach_cons n1'
      cases mm <;> try (cases h6; done)
      · refine PE.imp (pe_bm PySem.F.plainAttrs_list PySem.F.slot_list_append PySem.F.type_list_append (append_ok (G := G) (EX := EX)) (sE a h4 hy) (sEs es h5 hy) (attrBase h3 _) (by rw [st1]; rfl) h2 st1 rfl) fun σ H Q h => ?_
        exact (im h).mono fun y H1 ⟨m, v, st, d, S, r, e, q⟩ => ⟨lst S r e, q⟩
      · refine PE.imp (pe_bm PySem.F.plainAttrs_str PySem.F.slot_str_join PySem.F.type_str_join (join_ok (G := G) (EX := EX)) (sE a h4 hy) (sEs es h5 hy) (attrBase h3 _) (by rw [st1]; rfl) h2 st1 rfl) fun σ H Q h => ?_
        refine (im h).mono fun y H1 ⟨m, v, st, d, S, r, e, q⟩ => ⟨?_, q⟩
        cases r <;> first | exact rfl | cases e
    | _ :: _ :: _, n1, n2, h5, h6 =>
      cases mm <;> cases h6
  | .comp own t i q e, X, EX, Z, cc, k, CX, ex, ok, hy => by
    cases ex <;> try (cases ok; done)
    rename_i x gs scope pos
    match gs, ok with
    | [⟨tg, iter, ifs, 0⟩], ok =>
      have ok' : (blkC cc.N cc.sc scope (own.filterMap fun j => (cc.N[j]?).map fun n => (n, j)) && decide ((own.filterMap fun j => (cc.N[j]?).map fun n => (n, j)).map (·.2) = own)
        && t.slots.all (fun j => own.contains j) && okI Z cc i iter tg && okT (blkCC cc scope) t tg && okIf Z (blkCC cc scope) q ifs && okE Z (blkCC cc scope) e x && notSet iter) = true := ok
      simp only [Bool.and_eq_true, decide_eq_true_eq, List.all_eq_true] at ok'
      obtain ⟨⟨⟨⟨⟨⟨⟨h1, h2⟩, h3⟩, h4⟩, h5⟩, h6⟩, h7⟩, h8⟩ := ok'
      have bo := blkOk_by (N := X.N) (sc := X.env.scope) (by rw [hy.N, hy.sc]; exact h1)
      refine PE.imp (pe_lc (g := vG X.K G E0 t) (tt := tP X.K G E0 (rE Bool) (evC c q)) (te := tP X.K G E0 (RD X.K) (ev c e)) (own := own.filterMap fun j => (cc.N[j]?).map fun n => (n, j)) hy.O.calm hy.O.nd (sI i h4 hy) bo
        (fun s H C cl fp => sT (G := G) (EX := E0) (hy.blk scope s H C cl fp).O.calm (hy.blk scope s H C cl fp).O.nd (hy.blk scope s H C cl fp).N (hy.blk scope s H C cl fp).sc (hy.blk scope s H C cl fp).fn t h5)
        (fun s H C cl fp => sIf q h6 (hy.blk scope s H C cl fp)) (fun s H C cl fp => sE e h7 (hy.blk scope s H C cl fp)) (folded_no h8)) fun σ H Q h => ?_
      rw [h2]
      exact comp_ok (fun j hj => by simpa using h3 j hj) h
theorem sI : ∀ (i : I) {X : Cx} {EX : XK} {Z : Tb} {cc : CC} {k : Nat} {CX : CXT} {x tg : Expr}, okI Z cc i x tg = true → Hy Z G EX k CX c cc X → PI X tg x (tP X.K G EX (rI X.K G) (evI c i))
  | .plain e, X, EX, Z, cc, k, CX, x, tg, ok, hy => pi_plain (sE e ok hy)
  | .rng es, X, EX, Z, cc, k, CX, x, tg, ok, hy => by
    cases x <;> try (cases ok; done)
    rename_i fn xs ks pos
    cases fn <;> try (cases ok; done)
    rename_i n p
    cases ks <;> try (cases ok; done)
    have ok' : (decide (n = "range") && blB Z cc n && okEs Z cc es xs && decide (1 ≤ xs.length) && decide (xs.length ≤ 3)) = true := ok
    simp only [Bool.and_eq_true, decide_eq_true_eq] at ok'
    obtain ⟨⟨⟨⟨h1, h2⟩, h3⟩, h4⟩, h5⟩ := ok'
    subst h1
    obtain ⟨hg, hm⟩ := blB_ok hy.O hy.sc h2
    obtain ⟨n1, n2⟩ := notStars es h3
    exact pi_rng hg hm (sEs es h3 hy) (fun v st ds st' h => (evs_len es v st ds st' h).trans n2.symm) h4 h5 n1
  | .enum e, X, EX, Z, cc, k, CX, x, tg, ok, hy => by
    cases x <;> try (cases ok; done)
    rename_i fn xs ks pos
    cases fn <;> try (cases ok; done)
    rename_i n p
    match xs, ks, ok with
    | [y], [], ok =>
      have ok' : (decide (n = "enumerate") && blB Z cc n && okE Z cc e y && notStar y && isTup tg) = true := ok
      simp only [Bool.and_eq_true, decide_eq_true_eq] at ok'
      obtain ⟨⟨⟨⟨h1, h2⟩, h3⟩, h4⟩, h5⟩ := ok'
      subst h1
      obtain ⟨hg, hm⟩ := blB_ok hy.O hy.sc h2
      cases tg <;> try (cases h5; done)
      exact pi_enumD hg hm h4 (sE e h3 hy)
theorem sIf : ∀ (o : O) {X : Cx} {EX : XK} {Z : Tb} {cc : CC} {k : Nat} {CX : CXT} {xs : List Expr}, okIf Z cc o xs = true → Hy Z G EX k CX c cc X → PTs X xs (tP X.K G EX (rE Bool) (evC c o))
  | .none, X, EX, Z, cc, k, CX, xs, ok, hy => by
    cases xs with
    | cons _ _ => cases ok
    | nil => exact ⟨fun pins s σ H Q I h => (pts_nil (X := X)).run pins s σ H Q I (by obtain ⟨m, v, st, S, h⟩ := h; exact h.pure S rfl)⟩
  | .some e, X, EX, Z, cc, k, CX, xs, ok, hy => by
    match xs, ok with
    | [x], ok =>
      have ok' : (okE Z cc e x && okTe e) = true := ok
      simp only [Bool.and_eq_true] at ok'
      exact pts_one (sTest e ok'.1 ok'.2 hy)
theorem sO : ∀ (o : O) {X : Cx} {EX : XK} {Z : Tb} {cc : CC} {k : Nat} {CX : CXT} {ex : Option Expr}, okO Z cc o ex = true → Hy Z G EX k CX c cc X → PO X ex (tP X.K G EX (rE (Option Int)) (evO c o))
  | .none, X, EX, Z, cc, k, CX, ex, ok, hy => by
    cases ex with
    | some _ => cases ok
    | none => exact PO.imp po_none fun σ H Q ⟨m, v, st, S, h⟩ => h.pure S rfl
  | .some e, X, EX, Z, cc, k, CX, ex, ok, hy => by
    cases ex with
    | none => cases ok
    | some x =>
      refine PO.imp (po_some (sE e ok hy)) fun σ H Q h => ?_
      refine (tP_b1 (relA := RD X.K) h).mono fun x H1 ⟨m, v, st, d, S, r, q⟩ => ?_
      cases r with
      | int i => exact ⟨i, rfl, q.pure S rfl⟩
      | _ => exact q.elim
theorem sEs : ∀ (es : Es) {X : Cx} {EX : XK} {Z : Tb} {cc : CC} {k : Nat} {CX : CXT} {xs : List Expr}, okEs Z cc es xs = true → Hy Z G EX k CX c cc X → PA X xs (tP X.K G EX (RDs X.K) (evs c es))
  | .nil, X, EX, Z, cc, k, CX, xs, ok, hy => by
    cases xs with
    | cons _ _ => cases ok
    | nil => exact PA.imp pa_nil fun σ H Q ⟨m, v, st, S, h⟩ => h.pure S .nil
  | .cons e es, X, EX, Z, cc, k, CX, xs, ok, hy => by
    cases xs with
    | nil => cases ok
    | cons x r =>
      have ok' : (okE Z cc e x && notStar x && okEs Z cc es r) = true := ok
      simp only [Bool.and_eq_true] at ok'
      refine PA.imp (pa_cons (sE e ok'.1.1 hy) (sEs es ok'.2 hy) (starEach_cons ok'.1.2)) fun σ H Q h => ?_
      exact (tP_b2 (relA := RD X.K) (relB := RDs X.K) stabD h).mono fun x H1 q => q.mono fun y H2 ⟨m, v, st, d, e, S, r1, r2, q⟩ => q.pure S (.cons r1 r2)
theorem sAnd : ∀ (es : Es) {X : Cx} {EX : XK} {Z : Tb} {cc : CC} {k : Nat} {CX : CXT} {x : Expr} {xs : List Expr} {pos : Pos}, okEs Z cc es (x :: xs) = true → Hy Z G EX k CX c cc X → PE X (.BoolOp .And (x :: xs) pos) (tP X.K G EX (RD X.K) (evAnd c es))
  | .nil, X, EX, Z, cc, k, CX, x, xs, pos, ok, hy => by cases ok
  | .cons e .nil, X, EX, Z, cc, k, CX, x, xs, pos, ok, hy => by
    have ok' : (okE Z cc e x && notStar x && xs.isEmpty) = true := ok
    simp only [Bool.and_eq_true] at ok'
    cases xs with
    | cons _ _ => cases ok'.2
    | nil => exact pe_one (sE e ok'.1.1 hy)
  | .cons e (.cons e2 es), X, EX, Z, cc, k, CX, x, xs, pos, ok, hy => by
    have ok' : (okE Z cc e x && notStar x && okEs Z cc (.cons e2 es) xs) = true := ok
    simp only [Bool.and_eq_true] at ok'
    cases xs with
    | nil => cases ok'.2
    | cons y ys =>
      refine PE.imp (pe_andT (sE e ok'.1.1 hy) (sAnd (.cons e2 es) ok'.2 hy)) fun σ H Q h => ?_
      refine (tP_b1 (relA := RD X.K) (k := fun v x => Bind.bind (m := M) (truth x) fun k => if k then evAnd c (.cons e2 es) v else Pure.pure x) h).mono fun x H1 ⟨m, v, st, d, S, r, q⟩ => ?_
      obtain ⟨k, e, q⟩ := Po.rd (f := fun s => truthO s d) q
      refine ⟨k, truth_RD S r e, ?_⟩
      cases k with
      | true => exact ⟨m, v, st, S, q⟩
      | false => exact q.pure S r
theorem sOr : ∀ (es : Es) {X : Cx} {EX : XK} {Z : Tb} {cc : CC} {k : Nat} {CX : CXT} {x : Expr} {xs : List Expr} {pos : Pos}, okEs Z cc es (x :: xs) = true → Hy Z G EX k CX c cc X → PE X (.BoolOp .Or (x :: xs) pos) (tP X.K G EX (RD X.K) (evOr c es))
  | .nil, X, EX, Z, cc, k, CX, x, xs, pos, ok, hy => by cases ok
  | .cons e .nil, X, EX, Z, cc, k, CX, x, xs, pos, ok, hy => by
    have ok' : (okE Z cc e x && notStar x && xs.isEmpty) = true := ok
    simp only [Bool.and_eq_true] at ok'
    cases xs with
    | cons _ _ => cases ok'.2
    | nil => exact pe_one (sE e ok'.1.1 hy)
  | .cons e (.cons e2 es), X, EX, Z, cc, k, CX, x, xs, pos, ok, hy => by
    have ok' : (okE Z cc e x && notStar x && okEs Z cc (.cons e2 es) xs) = true := ok
    simp only [Bool.and_eq_true] at ok'
    cases xs with
    | nil => cases ok'.2
    | cons y ys =>
      refine PE.imp (pe_orT (sE e ok'.1.1 hy) (sOr (.cons e2 es) ok'.2 hy)) fun σ H Q h => ?_
      refine (tP_b1 (relA := RD X.K) (k := fun v x => Bind.bind (m := M) (truth x) fun k => if k then Pure.pure x else evOr c (.cons e2 es) v) h).mono fun x H1 ⟨m, v, st, d, S, r, q⟩ => ?_
      obtain ⟨k, e, q⟩ := Po.rd (f := fun s => truthO s d) q
      refine ⟨k, truth_RD S r e, ?_⟩
      cases k with
      | false => exact ⟨m, v, st, S, q⟩
      | true => exact q.pure S r
theorem sTest : ∀ (e : E) {X : Cx} {EX : XK} {Z : Tb} {cc : CC} {k : Nat} {CX : CXT} {ex : Expr}, okE Z cc e ex = true → okTe e = true → Hy Z G EX k CX c cc X → PT X ex (tP X.K G EX (rE Bool) fun v => Bind.bind (m := M) (ev c e v) truth)
  | .not a, X, EX, Z, cc, k, CX, ex, ok, te, hy => by
    cases ex <;> try (cases ok; done)
    rename_i o x pos
    cases o <;> try (cases ok; done)
    refine PT.imp (pt_not (sTest a ok te hy)) fun σ H Q h => ?_
    have h' : tP X.K G EX (rE Bool) (fun v => Bind.bind (m := M) (Bind.bind (m := M) (ev c a v) truth) fun k => Pure.pure (!k)) σ H Q := by
      refine cast ?_ h
      congr 1
      funext v st
      show M.bind (M.bind (ev c a v) fun x => M.bind (truth x) fun k => M.pure (.bl (!k))) truth st = M.bind (M.bind (ev c a v) truth) (fun k => M.pure (!k)) st
      unfold M.bind
      cases ev c a v st with
      | ex _ _ _ => rfl
      | no => rfl
      | ok x s1 =>
        dsimp only
        cases truth x s1 <;> rfl
    refine (tP_b1 (relA := rE Bool) h').mono fun k H1 ⟨m, v, st, k', S, e, q⟩ => ?_
    subst e
    exact q.pure S rfl
  | .and es, X, EX, Z, cc, k, CX, ex, ok, te, hy => by
    cases ex <;> try (cases ok; done)
    rename_i o xs pos
    cases o <;> cases xs <;> try (cases ok; done)
    exact (sAndT es ok te hy).pt
  | .or es, X, EX, Z, cc, k, CX, ex, ok, te, hy => by
    cases ex <;> try (cases ok; done)
    rename_i o xs pos
    cases o <;> cases xs <;> try (cases ok; done)
    exact (sOrT es ok te hy).pt
  | .cmp o a b, X, EX, Z, cc, k, CX, ex, ok, te, hy => by
    cases ex <;> try (cases ok; done)
    rename_i x ps ys pos
    match ps, ys, ok with
    | [p], [y], ok =>
      have ok' : (sameCo o p && okE Z cc a x && okE Z cc b y && notSet y) = true := ok
      simp only [Bool.and_eq_true] at ok'
      obtain ⟨⟨⟨h1, h2⟩, h3⟩, h4⟩ := ok'
      rw [sameCo_eq h1]
      refine PT.imp (pt_cmpR (op_cmp (G := G) (EX := EX) hy.O.ent (by have := hy.O.room.un; omega) o) (sE a h2 hy) (sE b h3 hy) (by cases y <;> first | rfl | cases h4)) fun σ H Q h => ?_
      exact (tP_b2 (relA := RD X.K) (relB := RD X.K) stabD (test_bl cmp_bl h)).mono fun x H1 q => q.mono fun y H2 ⟨m, v, st, d, e, S, r1, r2, q⟩ => ⟨m, σ, v, st, d, e, S, r1, r2, q⟩
  | .cmp2 o o' a b b', X, EX, Z, cc, k, CX, ex, ok, te, hy => by
    cases ex <;> try (cases ok; done)
    rename_i x ps ys pos
    match ps, ys, ok with
    | [p, p'], [y, z], ok =>
      have ok' : (sameCo o p && sameCo o' p' && okE Z cc a x && okE Z cc b y && okE Z cc b' z && notSet z) = true := ok
      simp only [Bool.and_eq_true] at ok'
      obtain ⟨⟨⟨⟨⟨h1, h1'⟩, h2⟩, h3⟩, h4⟩, h5⟩ := ok'
      rw [sameCo_eq h1, sameCo_eq h1']
      have hu : X.A.units + 100 < cLine := by have := hy.O.room.un; omega
      refine PT.imp (pt_chain (op_cmp (G := G) (EX := EX) hy.O.ent hu o) (op_cmp (G := G) (EX := EX) hy.O.ent hu o') (sE a h2 hy) (sE b h3 hy) (sE b' h4 hy) (by show behindInMarks (cop o') z = false; cases z <;> first | rfl | cases h5)) fun σ H Q h => imp_cmp2 (test_bl cmp2_bl h)
  | .var i, X, EX, Z, cc, k, CX, ex, ok, te, hy => sPlain (.var i) (by cases ex <;> first | rfl | cases ok) (sE (.var i) ok hy)
  | .con d, X, EX, Z, cc, k, CX, ex, ok, te, hy => sPlain (.con d) (by cases ex <;> first | rfl | cases ok) (sE (.con d) ok hy)
  | .glo d, X, EX, Z, cc, k, CX, ex, ok, te, hy => sPlain (.glo d) (by cases ex <;> first | rfl | cases ok) (sE (.glo d) ok hy)
  | .bin o a b, X, EX, Z, cc, k, CX, ex, ok, te, hy => sPlain (.bin o a b) (by cases ex <;> first | rfl | cases ok) (sE (.bin o a b) ok hy)
  | .neg a, X, EX, Z, cc, k, CX, ex, ok, te, hy => by cases te
  | .ife a b b', X, EX, Z, cc, k, CX, ex, ok, te, hy => by cases te
  | .tup es, X, EX, Z, cc, k, CX, ex, ok, te, hy => sPlain (.tup es) (by cases ex <;> first | rfl | cases ok) (sE (.tup es) ok hy)
  | .lst es, X, EX, Z, cc, k, CX, ex, ok, te, hy => sPlain (.lst es) (by cases ex <;> first | rfl | cases ok) (sE (.lst es) ok hy)
  | .dnew, X, EX, Z, cc, k, CX, ex, ok, te, hy => sPlain .dnew (by cases ex <;> first | rfl | cases ok) (sE .dnew ok hy)
  | .ix a b, X, EX, Z, cc, k, CX, ex, ok, te, hy => sPlain (.ix a b) (by cases ex <;> first | rfl | cases ok) (sE (.ix a b) ok hy)
  | .sl a lo hi, X, EX, Z, cc, k, CX, ex, ok, te, hy => sPlain (.sl a lo hi) (by cases ex <;> first | rfl | cases ok) (sE (.sl a lo hi) ok hy)
  | .call f es, X, EX, Z, cc, k, CX, ex, ok, te, hy => sPlain (.call f es) (by cases ex <;> first | rfl | cases ok) (sE (.call f es) ok hy)
  | .bc b es, X, EX, Z, cc, k, CX, ex, ok, te, hy => sPlain (.bc b es) (by cases ex <;> first | rfl | cases ok) (sE (.bc b es) ok hy)
  | .isi a t, X, EX, Z, cc, k, CX, ex, ok, te, hy => sPlain (.isi a t) (by cases ex <;> first | rfl | cases ok) (sE (.isi a t) ok hy)
  | .mt m a es, X, EX, Z, cc, k, CX, ex, ok, te, hy => sPlain (.mt m a es) (by cases ex <;> first | rfl | cases ok) (sE (.mt m a es) ok hy)
  | .comp own t i q e, X, EX, Z, cc, k, CX, ex, ok, te, hy => sPlain (.comp own t i q e) (by cases ex <;> first | rfl | cases ok) (sE (.comp own t i q e) ok hy)
theorem sAndT : ∀ (es : Es) {X : Cx} {EX : XK} {Z : Tb} {cc : CC} {k : Nat} {CX : CXT} {x : Expr} {xs : List Expr} {pos : Pos}, okEs Z cc es (x :: xs) = true → okTes es = true → Hy Z G EX k CX c cc X → PW X (.BoolOp .And (x :: xs) pos) (tP X.K G EX (rE Bool) fun v => Bind.bind (m := M) (evAnd c es v) truth)
  | .nil, X, EX, Z, cc, k, CX, x, xs, pos, ok, te, hy => by cases ok
  | .cons e .nil, X, EX, Z, cc, k, CX, x, xs, pos, ok, te, hy => by
    have ok' : (okE Z cc e x && notStar x && xs.isEmpty) = true := ok
    simp only [Bool.and_eq_true] at ok'
    have te' : (okTe e && true) = true := te
    rw [Bool.and_true] at te'
    cases xs with
    | cons _ _ => cases ok'.2
    | nil => exact pw_and1 (sTest e ok'.1.1 te' hy)
  | .cons e (.cons e2 es), X, EX, Z, cc, k, CX, x, xs, pos, ok, te, hy => by
    have ok' : (okE Z cc e x && notStar x && okEs Z cc (.cons e2 es) xs) = true := ok
    simp only [Bool.and_eq_true] at ok'
    have te' : (okTe e && okTes (.cons e2 es)) = true := te
    rw [Bool.and_eq_true] at te'
    cases xs with
    | nil => cases ok'.2
    | cons y ys =>
      refine PW.imp (pw_and (sTest e ok'.1.1 te'.1 hy) (sAndT (.cons e2 es) ok'.2 te'.2 hy)) fun σ H Q h => ?_
      simp only [and_test] at h
      refine (tP_b1 (relA := rE Bool) h).mono fun k H1 ⟨m, v, st, k', S, e, q⟩ => ?_
      subst e
      cases k' with
      | true => exact ⟨m, v, st, S, q⟩
      | false => exact q.pure S rfl
theorem sOrT : ∀ (es : Es) {X : Cx} {EX : XK} {Z : Tb} {cc : CC} {k : Nat} {CX : CXT} {x : Expr} {xs : List Expr} {pos : Pos}, okEs Z cc es (x :: xs) = true → okTes es = true → Hy Z G EX k CX c cc X → PW X (.BoolOp .Or (x :: xs) pos) (tP X.K G EX (rE Bool) fun v => Bind.bind (m := M) (evOr c es v) truth)
  | .nil, X, EX, Z, cc, k, CX, x, xs, pos, ok, te, hy => by cases ok
  | .cons e .nil, X, EX, Z, cc, k, CX, x, xs, pos, ok, te, hy => by
    have ok' : (okE Z cc e x && notStar x && xs.isEmpty) = true := ok
    simp only [Bool.and_eq_true] at ok'
    have te' : (okTe e && true) = true := te
    rw [Bool.and_true] at te'
    cases xs with
    | cons _ _ => cases ok'.2
    | nil => exact pw_or1 (sTest e ok'.1.1 te' hy)
  | .cons e (.cons e2 es), X, EX, Z, cc, k, CX, x, xs, pos, ok, te, hy => by
    have ok' : (okE Z cc e x && notStar x && okEs Z cc (.cons e2 es) xs) = true := ok
    simp only [Bool.and_eq_true] at ok'
    have te' : (okTe e && okTes (.cons e2 es)) = true := te
    rw [Bool.and_eq_true] at te'
    cases xs with
    | nil => cases ok'.2
    | cons y ys =>
      refine PW.imp (pw_or (sTest e ok'.1.1 te'.1 hy) (sOrT (.cons e2 es) ok'.2 te'.2 hy)) fun σ H Q h => ?_
      simp only [or_test] at h
      refine (tP_b1 (relA := rE Bool) h).mono fun k H1 ⟨m, v, st, k', S, e, q⟩ => ?_
      subst e
      cases k' with
      | false => exact ⟨m, v, st, S, q⟩
      | true => exact q.pure S rfl
end
end
end Ix
end PIx15

section PIx16
set_option Elab.async false
set_option linter.all false
set_option maxRecDepth 100000
set_option autoImplicit false
set_option maxHeartbeats 1000000
/-! Ix16: statements. -/
namespace Ix
open PySem PySem.Spec L2
open PyProof.Rows hiding St

def fnKind (sc : Scope) : Bool := match sc.kind with
  | .function => true
  | _ => false
def isLc : Expr → Bool
  | .ListComp .. => true
  | _ => false
/-- is the name stored before the list's block ends? -/
def swB (sc : Scope) (tg x : Expr) : Bool := match tg, x with
  | .Name y py, .ListComp _ _ scope pos => sc.names.lookup y == some .local && py.line == pos.line && !(scope.names.any fun (n, k) => n == y && (k == .local || k == .cell))
  | _, _ => false
def notTupE : Expr → Bool
  | .Tuple .. => false
  | _ => true
mutual
/-- a statement -/
def ok1 (Z : Tb) (cc : CC) : S → Stmt → Bool
  | .asg t e, st => match st with
    | .Assign [tg] x _ => okT cc t tg && okE Z cc e x && notStar tg && (notTup tg || notTupE x) && (notComp x || (isLc x && fnKind cc.sc))
    | _ => false
  | .setix a b e, st => match st with
    | .Assign [.Subscript x y _] z _ => (notComp z || isLc z) && notSlice y && okE Z cc a x && okE Z cc b y && okE Z cc e z
    | _ => false
  | .expr e, st => match st with
    | .Expr x _ => notComp x && okE Z cc e x
    | _ => false
  | .ret e, st => match st with
    | .Return (some x) _ => okE Z cc e x
    | _ => false
  | .if_ c a b, st => match st with
    | .If x ys zs _ => okE Z cc c x && okTe c && okB Z cc a ys && okB Z cc b zs
    | _ => false
  | .for_ t i b, st => match st with
    | .For tg x ys [] _ => okI Z cc i x tg && okT cc t tg && okB Z cc b ys && notSet x
    | _ => false
  | .while_ c b, st => match st with
    | .While x ys [] _ => okE Z cc c x && okTe c && okB Z cc b ys
    | _ => false
  | .brk, st => match st with
    | .Break _ => true
    | _ => false
  | .cont, st => match st with
    | .Continue _ => true
    | _ => false
  | .no, _ => true
  | _, _ => false
/-- a block -/
def okB (Z : Tb) (cc : CC) : S → List Stmt → Bool
  | .skip, ss => ss.isEmpty
  | .seq a b, ss => match ss with
    | s :: r => ok1 Z cc a s && okB Z cc b r
    | [] => false
  | .no, _ => true
  | _, _ => false
end
theorem swaps_eq {sc : Scope} {tg x : Expr} {l : Nat} {env : PySem.Env} (hsc : env.scope = sc) (h : (notComp x || (isLc x && fnKind sc)) = true) : swapsWith x (some tg) l env = pure (swB sc tg x) := by
  rw [Bool.or_eq_true] at h
  rcases h with h | h
  · rw [swapsWith_no h]
    congr 1
    unfold swB
    cases x <;> first | (cases tg <;> rfl) | cases h
  · rw [Bool.and_eq_true] at h
    cases x <;> try (cases h.1; done)
    rename_i elt gs scope pos
    subst hsc
    have hk : env.scope.kind = .function := by
      have h2 := h.2
      unfold fnKind at h2
      split at h2
      · rename_i e; exact e
      · cases h2
    cases tg <;> try rfl
    rename_i y py
    have hb : env.blockKind = .function := by unfold Env.blockKind; rw [hk]; rfl
    unfold swapsWith
    dsimp only
    rw [hb]
    unfold swB
    rfl
theorem assign_sub {x y : Expr} {pos : Pos} {env : PySem.Env} (h : notSlice y = true) (v : Value) : assign (.Subscript x y pos) env v = (do
      let ov ← holding [v] (eval x env)
      let iv ← holding [v, ov] (eval y env)
      standAt pos
      holding [v, ov, iv] (setItem ov iv v)
      release [v, ov, iv] []) := by cases y <;> first | rfl | cases h
section
variable {K : PySem.W.Frag} {G : Gx} {EX : XK}
def PoS (K : PySem.W.Frag) (G : Gx) (EX : XK) (m : List Addr) (H : Hp) (r : R Fl) (D : Ends) : Prop := match r with
  | .ok (.nx v') st' => ∀ m' σ' H', Ext m m' H H' → Sm K G m' σ' H' v' st' → D.nx σ' H'
  | .ok (.bk v') st' => ∀ m' σ' H', Ext m m' H H' → Sm K G m' σ' H' v' st' → D.bk σ' H'
  | .ok (.ct v') st' => ∀ m' σ' H', Ext m m' H H' → Sm K G m' σ' H' v' st' → D.ct σ' H'
  | .ok (.rt d) st' => ∀ m' x H', Ext m m' H H' → Sm K G m' [] H' [] st' → RD K m' H' d x → D.rt x H'
  | .ex c d st' => PoX K G EX m H c d st'
  | .no => False
def tS (K : PySem.W.Frag) (G : Gx) (EX : XK) (f : En → M Fl) : TS := fun D σ H => ∃ m v st, Sm K G m σ H v st ∧ PoS K G EX m H (f v st) D
theorem PoS.shift {m m1 : List Addr} {H H1 : Hp} {r : R Fl} {D : Ends} (e : Ext m m1 H H1) (h : PoS K G EX m H r D) : PoS K G EX m1 H1 r D := by
  cases r with
  | ok a st' =>
    cases a with
    | nx v' => exact fun m' σ' H' e' S => h m' σ' H' (e.trans e') S
    | bk v' => exact fun m' σ' H' e' S => h m' σ' H' (e.trans e') S
    | ct v' => exact fun m' σ' H' e' S => h m' σ' H' (e.trans e') S
    | rt d => exact fun m' x H' e' S r => h m' x H' (e.trans e') S r
  | ex c d st' => exact PoX.shift e h
  | no => exact h
/-- a part has run, the rest is due -/
def KS {α β : Type} (K : PySem.W.Frag) (G : Gx) (EX : XK) (relA : List Addr → Hp → α → β → Prop) (σ : St) (k : En → α → M Fl) (D : Ends) (b : β) (H : Hp) : Prop :=
  ∃ m v st a, Sm K G m σ H v st ∧ relA m H a b ∧ PoS K G EX m H (k v a st) D
theorem tS_b1 {α β : Type} {relA : List Addr → Hp → α → β → Prop} {fa : En → M α} {k : En → α → M Fl} {D : Ends} {σ : St} {H : Hp}
    (h : tS K G EX (fun v => Bind.bind (m := M) (fa v) (k v)) D σ H) : tP K G EX relA fa σ H (KS K G EX relA σ k D) := by
  obtain ⟨m, v, st, S, h⟩ := h
  refine ⟨m, v, st, S, ?_⟩
  dsimp only at h
  rw [bind_run] at h
  cases q : fa v st with
  | ok a st1 =>
    rw [q] at h
    exact fun m' b H' e S' r => ⟨m', v, st1, a, S', r, h.shift e⟩
  | ex c d st1 => rw [q] at h; exact h
  | no => rw [q] at h; exact h.elim
theorem PoS_bind {α β : Type} {relA : List Addr → Hp → α → β → Prop} {fa : M α} {k : α → M Fl} {D : Ends} {σ : St} {H : Hp} {m : List Addr} {v : En} {st : Store} {Q : β → Hp → Prop} (h : PoS K G EX m H ((Bind.bind (m := M) fa k) st) D)
    (w : ∀ m' a b H' st', Ext m m' H H' → Sm K G m' σ H' v st' → relA m' H' a b → PoS K G EX m' H' (k a st') D → Q b H') : Po K G EX relA m σ H v (fa st) Q := by
  rw [bind_run] at h
  cases q : fa st with
  | ok a st1 =>
    rw [q] at h
    exact fun m' b H' e S' r => w m' a b H' st1 e S' r (h.shift e)
  | ex c d st1 => rw [q] at h; exact h
  | no => rw [q] at h; exact h.elim
theorem setix_S {fa fb fe : En → M D} {D : Ends} {σ : St} {H : Hp} (h : tS K G EX (fun v => Bind.bind (m := M) (fe v) fun x => Bind.bind (m := M) (fa v) fun o => Bind.bind (m := M) (fb v) fun k => Bind.bind (m := M) (setIxD o k x) fun _ => Pure.pure (.nx v)) D σ H) :
    tP K G EX (RD K) fe σ H fun z H1 => tP K G EX (RD K) fa σ H1 fun o H2 => tP K G EX (RD K) fb σ H2 fun i H3 => vSet K G EX o i z H3 fun H4 => D.nx σ H4 := by
  refine (tS_b1 (relA := RD K) h).mono fun z H1 ⟨m, v, st, z', S, rz, h⟩ => ⟨m, v, st, S, PoS_bind h fun m2 o' o H2 st2 x2 S2 ro h => ⟨m2, v, st2, S2, PoS_bind h fun m3 i' i H3 st3 x3 S3 ri h => ?_⟩⟩
  exact ⟨m3, σ, v, st3, o', i', z', S3, ro.ext x3, ri, (rz.ext x2).ext x3, PoS_bind h fun m4 _ _ H4 st4 x4 S4 _ h => h m4 σ H4 Ext.refl S4⟩
theorem seq_S {fa fb : En → M Fl} {D : Ends} {σ : St} {H : Hp} (h : tS K G EX (fun v => Bind.bind (m := M) (fa v) fun f => match f with
    | .nx v' => fb v'
    | f => Pure.pure f) D σ H) : tSeq (tS K G EX fa) (tS K G EX fb) D σ H := by
  obtain ⟨m, v, st, S, h⟩ := h
  refine ⟨m, v, st, S, ?_⟩
  dsimp only at h
  rw [bind_run] at h
  cases q : fa v st with
  | ok a st1 =>
    rw [q] at h
    cases a with
    | nx v' => exact fun m' σ' H' e S' => ⟨m', v', st1, S', h.shift e⟩
    | bk v' => exact h
    | ct v' => exact h
    | rt d => exact h
  | ex c d st1 => rw [q] at h; exact h
  | no => rw [q] at h; exact h.elim
/-- the target's part -/
theorem vG_of {t : T} {d : D} {x : V} {v : En} {st : Store} {k : En → M Fl} {D : Ends} {σ : St} {H : Hp} {m : List Addr} {Q : St → Hp → Prop} (S : Sm K G m σ H v st) (r : RD K m H d x) (h : PoS K G EX m H ((Bind.bind (m := M) (bindT t d v) k) st) D)
    (w : ∀ v' st' m' σ' H', Ext m m' H H' → Sm K G m' σ' H' v' st' → PoS K G EX m' H' (k v' st') D → Q σ' H') : vG K G EX t x σ H Q := by
  refine ⟨m, v, st, d, S, r, ?_⟩
  rw [bind_run] at h
  cases q : bindT t d v st with
  | ok v' st1 =>
    rw [q] at h
    exact fun m' σ' H' e S' _ => w v' st1 m' σ' H' e S' (h.shift e)
  | ex c d st1 => rw [q] at h; exact h
  | no => rw [q] at h; exact h.elim
theorem asg_S {t : T} {fe : En → M D} {D : Ends} {σ : St} {H : Hp} (h : tS K G EX (fun v => Bind.bind (m := M) (fe v) fun x => Bind.bind (m := M) (bindT t x v) fun v' => Pure.pure (.nx v')) D σ H) :
    tP K G EX (RD K) fe σ H fun x H1 => vG K G EX t x σ H1 D.nx :=
  (tS_b1 (relA := RD K) h).mono fun x H1 ⟨m, v, st, d, S, r, h⟩ => vG_of S r h fun v' st' m' σ' H' e S' h => h m' σ' H' Ext.refl S'
theorem vG_nm {i : Nat} {x : V} {D : Ends} {σ : St} {H : Hp} (h : vG K G EX (.nm i) x σ H D.nx) : gName i x σ H D.nx := by
  obtain ⟨m, w, st, d, S, rd, h⟩ := h
  refine h m _ H Ext.refl (S.setV rd) ⟨by simp, fun j hj => ?_⟩
  rw [List.getElem?_set_ne (by simpa [T.slots, eq_comm] using hj)]
theorem forL_run (it : It) (turn : D → En → M Fl) (f i : Nat) (v : En) : forL it turn (f + 1) i v = Bind.bind (m := M) (nxt it i) (fun r => match r with
    | none => Pure.pure (.nx v)
    | some d => Bind.bind (m := M) (turn d v) fun o => match o with
      | .nx v' => forL it turn f (i + 1) v'
      | .ct v' => forL it turn f (i + 1) v'
      | .bk v' => Pure.pure (.nx v')
      | .rt d => Pure.pure (.rt d)) := rfl
theorem whileL_run (test : En → M Bool) (turn : En → M Fl) (f : Nat) (v : En) : whileL test turn (f + 1) v = Bind.bind (m := M) (test v) (fun b => if b then Bind.bind (m := M) (turn v) (fun o => match o with
      | .nx v' => whileL test turn f v'
      | .ct v' => whileL test turn f v'
      | .bk v' => Pure.pure (.nx v')
      | .rt d => Pure.pure (.rt d)) else Pure.pure (.nx v)) := rfl
theorem for_S {t : T} {fi : En → M It} {fb : En → M Fl} {fu : Nat} {D : Ends} {σ : St} {H : Hp}
    (h : tS K G EX (fun v => Bind.bind (m := M) (fi v) fun it => forL it (fun d v => Bind.bind (m := M) (bindT t d v) fun v' => fb v') fu 0 v) D σ H) :
    tFor (tP K G EX (rI K G) fi) (vG K G EX t) (tS K G EX fb) D σ H := by
  refine (tS_b1 (relA := rI K G) h).mono fun J H1 ⟨m1, v1, st1, it, S1, hit, h⟩ => ?_
  refine ⟨fun i n σ H => ∃ m v st, Ext m1 m H1 H ∧ Sm K G m σ H v st ∧ PoS K G EX m H (forL it (fun d v => Bind.bind (m := M) (bindT t d v) fun v' => fb v') n i v st) D, ⟨fu, m1, v1, st1, Ext.refl, S1, h⟩, ?_⟩
  rintro i n σ H ⟨m, v, st, xt, S, hl⟩
  cases n with
  | zero => exact hl.elim
  | succ f =>
    rw [forL_run, bind_run] at hl
    obtain ⟨P, hP, _, step⟩ := hit.kp xt.kp
    have st' := step m σ H v st i hP S
    cases e1 : nxt it i st with
    | no => rw [e1] at hl; exact hl.elim
    | ex c x s => rw [e1] at st'; exact st'.elim
    | ok r s1 =>
      rw [e1] at hl st'
      cases r with
      | none =>
        obtain ⟨rfl, stop⟩ := st'
        exact .inl ⟨stop, hl m σ H Ext.refl S⟩
      | some d =>
        obtain ⟨rfl, go, yl⟩ := st'
        refine .inr ⟨go, fun σ H => ∃ m v st, Ext m1 m H1 H ∧ Sm K G m σ H v st ∧ PoS K G EX m H (forL it (fun d v => Bind.bind (m := M) (bindT t d v) fun v' => fb v') f (i + 1) v st) D, fun σ' H' w => ⟨f, Nat.lt_succ_self _, w⟩, fun x H' y => ?_⟩
        obtain ⟨x0, S0, r0⟩ := yl x H' y
        dsimp only at hl
        have hl := hl.shift x0
        refine ⟨m, v, s1, d, S0, r0, ?_⟩
        rw [bind_run] at hl
        cases q : bindT t d v s1 with
        | ok v' s2 =>
          intro m2 σ2 H2 x2 S2 o2
          have e2 : (Bind.bind (m := M) (bindT t d v) fun v' => fb v') s1 = fb v' s2 := by rw [bind_run, q]
          rw [e2] at hl
          have hl := hl.shift x2
          have xt2 := xt.trans (x0.trans x2)
          refine ⟨m2, v', s2, S2, ?_⟩
          cases q2 : fb v' s2 with
          | ok o s3 =>
            rw [q2] at hl
            cases o with
            | nx v3 => exact fun m3 σ3 H3 x3 S3 => ⟨m3, v3, s3, xt2.trans x3, S3, hl.shift x3⟩
            | ct v3 => exact fun m3 σ3 H3 x3 S3 => ⟨m3, v3, s3, xt2.trans x3, S3, hl.shift x3⟩
            | bk v3 => exact hl
            | rt d3 => exact hl
          | ex c x s => rw [q2] at hl; exact hl
          | no => rw [q2] at hl; exact hl.elim
        | ex c x s =>
          have e2 : (Bind.bind (m := M) (bindT t d v) fun v' => fb v') s1 = .ex c x s := by rw [bind_run, q]
          rw [e2] at hl
          exact hl
        | no =>
          have e2 : (Bind.bind (m := M) (bindT t d v) fun v' => fb v') s1 = .no := by rw [bind_run, q]
          rw [e2] at hl
          exact hl.elim
theorem while_S {ft : En → M Bool} {fb : En → M Fl} {fu : Nat} {D : Ends} {σ : St} {H : Hp} (h : tS K G EX (fun v => whileL ft fb fu v) D σ H) : tWhile (tP K G EX (rE Bool) ft) (tS K G EX fb) D σ H := by
  obtain ⟨m, v, st, S, h⟩ := h
  refine ⟨fun n σ H => tS K G EX (fun v => whileL ft fb n v) D σ H, ⟨fu, m, v, st, S, h⟩, ?_⟩
  intro n σ H h
  cases n with
  | zero => obtain ⟨m, v, st, S, h⟩ := h; exact h.elim
  | succ f =>
    have h : tS K G EX (fun v => Bind.bind (m := M) (ft v) (fun b => if b then Bind.bind (m := M) (fb v) (fun o => match o with
      | .nx v' => whileL ft fb f v'
      | .ct v' => whileL ft fb f v'
      | .bk v' => Pure.pure (.nx v')
      | .rt d => Pure.pure (.rt d)) else Pure.pure (.nx v))) D σ H := h
    refine (tS_b1 (relA := rE Bool) h).mono fun b H1 ⟨m, v, st, b', S, e, h⟩ => ?_
    cases e
    cases b with
    | false => exact h m σ H1 Ext.refl S
    | true =>
      rw [if_pos rfl]
      refine ⟨fun σ H => tS K G EX (fun v => whileL ft fb f v) D σ H, fun σ' H' w => ⟨f, Nat.lt_succ_self _, w⟩, m, v, st, S, ?_⟩
      dsimp only at h
      rw [if_pos rfl, bind_run] at h
      cases q : fb v st with
      | ok o s1 =>
        rw [q] at h
        cases o with
        | nx v3 => exact fun m3 σ3 H3 x3 S3 => ⟨m3, v3, s1, S3, h.shift x3⟩
        | ct v3 => exact fun m3 σ3 H3 x3 S3 => ⟨m3, v3, s1, S3, h.shift x3⟩
        | bk v3 => exact h
        | rt d3 => exact h
      | ex c x s => rw [q] at h; exact h
      | no => rw [q] at h; exact h.elim
end
section
variable {G : Gx} {c : Cf}
mutual
theorem s1 : ∀ (s : S) {X : Cx} {EX : XK} {Z : Tb} {cc : CC} {k : Nat} {CX : CXT} {ss : Stmt}, ok1 Z cc s ss = true → Hy Z G EX k CX c cc X → PS X ss (tS X.K G EX (ex c s))
  | .skip, X, EX, Z, cc, k, CX, ss, ok, hy => by cases ok
  | .seq a b, X, EX, Z, cc, k, CX, ss, ok, hy => by cases ok
  | .no, X, EX, Z, cc, k, CX, ss, ok, hy => PS.imp ps_never fun D σ H ⟨_, _, _, _, h⟩ => h
  | .asg t e, X, EX, Z, cc, k, CX, ss, ok, hy => by
    cases ss <;> try (cases ok; done)
    rename_i tgs x pos
    match tgs, ok with
    | [tg], ok =>
      have ok' : (okT cc t tg && okE Z cc e x && notStar tg && (notTup tg || notTupE x) && (notComp x || (isLc x && fnKind cc.sc))) = true := ok
      rw [Bool.and_eq_true, Bool.and_eq_true, Bool.and_eq_true, Bool.and_eq_true] at ok'
      obtain ⟨⟨⟨⟨h1, h2⟩, h3⟩, h4⟩, h5⟩ := ok'
      have hsw := swaps_eq (tg := tg) (l := pos.line) hy.sc h5
      by_cases hb : swB cc.sc tg x = true
      · cases tg <;> try (cases x <;> cases hb; done)
        cases x <;> try (cases hb; done)
        rename_i y py elt gs scope lpos okz
        cases t with
        | tup ts => cases h1
        | nm i =>
          cases e <;> try (cases h2; done)
          rename_i own t' i' q e'
          match gs, h2 with
          | [⟨tg', iter, ifs, 0⟩], h2 =>
            have ok' : (blkC cc.N cc.sc scope (own.filterMap fun j => (cc.N[j]?).map fun n => (n, j)) && decide ((own.filterMap fun j => (cc.N[j]?).map fun n => (n, j)).map (·.2) = own)
              && t'.slots.all (fun j => own.contains j) && okI Z cc i' iter tg' && okT (blkCC cc scope) t' tg' && okIf Z (blkCC cc scope) q ifs && okE Z (blkCC cc scope) e' elt && notSet iter) = true := h2
            simp only [Bool.and_eq_true, decide_eq_true_eq, List.all_eq_true] at ok'
            obtain ⟨⟨⟨⟨⟨⟨⟨g1, g2⟩, g3⟩, g4⟩, g5⟩, g6⟩, g7⟩, g8⟩ := ok'
            have okn : (decide (cc.N[i]? = some y) && locB cc.sc y && (cc.fnB y || decide (cc.sc.names.lookup y = some .local))) = true := h1
            simp only [Bool.and_eq_true, decide_eq_true_eq] at okn
            have hb' : (cc.sc.names.lookup y == some .local && py.line == lpos.line && !(scope.names.any fun (n, k) => n == y && (k == .local || k == .cell))) = true := hb
            rw [Bool.and_eq_true, Bool.and_eq_true] at hb'
            have bo := blkOk_by (N := X.N) (sc := X.env.scope) (by rw [hy.N, hy.sc]; exact g1)
            rw [hb] at hsw
            refine PS.imp (ps_setLc (i := i) (g := vG X.K G E0 t') (tt := tP X.K G E0 (rE Bool) (evC c q)) (te := tP X.K G E0 (RD X.K) (ev c e')) (own := own.filterMap fun j => (cc.N[j]?).map fun n => (n, j)) hy.O.calm hy.O.nd (by rw [hy.N]; exact okn.1.1) (by rw [hy.sc]; exact eq_of_beq hb'.1.1) hsw (sI i' g4 hy) bo
              (fun s H C cl fp => sT (G := G) (EX := E0) (hy.blk scope s H C cl fp).O.calm (hy.blk scope s H C cl fp).O.nd (hy.blk scope s H C cl fp).N (hy.blk scope s H C cl fp).sc (hy.blk scope s H C cl fp).fn t' g5)
              (fun s H C cl fp => sIf q g6 (hy.blk scope s H C cl fp)) (fun s H C cl fp => sE e' g7 (hy.blk scope s H C cl fp)) (folded_no g8)) fun D σ H h => ?_
            rw [g2]
            have h := asg_S h
            exact comp_ok (fun j hj => by simpa using g3 j hj) (h.mono fun x H1 q => vG_nm q)
      · have hb' : swB cc.sc tg x = false := by simpa using hb
        rw [hb'] at hsw
        rw [Bool.or_eq_true] at h4
        refine PS.imp (ps_asg (sE e h2 hy) (sT hy.O.calm hy.O.nd hy.N hy.sc hy.fn t h1) hsw (swapped_no h4) (by rw [assignEach_cons h3]; rfl)) fun D σ H h => asg_S h
  | .setix a b e, X, EX, Z, cc, k, CX, ss, ok, hy => by
    cases ss <;> try (cases ok; done)
    rename_i tgs z pos
    match tgs, ok with
    | [.Subscript x y tpos], ok =>
      have ok' : ((notComp z || isLc z) && notSlice y && okE Z cc a x && okE Z cc b y && okE Z cc e z) = true := ok
      rw [Bool.and_eq_true, Bool.and_eq_true, Bool.and_eq_true, Bool.and_eq_true, Bool.or_eq_true] at ok'
      obtain ⟨⟨⟨⟨h1, h0⟩, h2⟩, h3⟩, h4⟩ := ok'
      have hsw : swapsWith z (some (.Subscript x y tpos)) pos.line X.env = pure false := by
        rcases h1 with h1 | h1
        · exact swapsWith_no h1
        · cases z <;> first | rfl | cases h1
      refine PS.imp (ps_asg (sE e h4 hy) (pg_sub (sE a h2 hy) (sE b h3 hy) (set_ok (G := G) (EX := EX) hy.O.ent (by have := hy.O.room.un; omega)) (assign_sub h0)) hsw (swapped_no (.inl rfl)) rfl) fun D σ H h => ?_
      exact setix_S h
  | .expr e, X, EX, Z, cc, k, CX, ss, ok, hy => by
    cases ss <;> try (cases ok; done)
    rename_i x pos
    have ok' : (notComp x && okE Z cc e x) = true := ok
    rw [Bool.and_eq_true] at ok'
    refine PS.imp (ps_expr (sE e ok'.2 hy) (swapsWith_no ok'.1)) fun D σ H h => ?_
    exact (tS_b1 (relA := RD X.K) h).mono fun x H1 ⟨m, v, st, d, S, r, q⟩ => q m σ H1 Ext.refl S
  | .ret e, X, EX, Z, cc, k, CX, ss, ok, hy => by
    cases ss <;> try (cases ok; done)
    rename_i xo pos
    cases xo with
    | none => cases ok
    | some x =>
      refine PS.imp (ps_ret (sE e ok hy)) fun D σ H h => ?_
      exact (tS_b1 (relA := RD X.K) h).mono fun x H1 ⟨m, v, st, d, S, r, q⟩ => q m x H1 Ext.refl S.bare r
  | .if_ t a b, X, EX, Z, cc, k, CX, ss, ok, hy => by
    cases ss <;> try (cases ok; done)
    rename_i x ys zs pos
    have ok' : (okE Z cc t x && okTe t && okB Z cc a ys && okB Z cc b zs) = true := ok
    rw [Bool.and_eq_true, Bool.and_eq_true, Bool.and_eq_true] at ok'
    obtain ⟨⟨⟨h1, h2⟩, h3⟩, h4⟩ := ok'
    refine PS.imp (ps_if (sTest t h1 h2 hy) (sB a h3 hy) (sB b h4 hy)) fun D σ H h => ?_
    have h : tS X.K G EX (fun v => Bind.bind (m := M) (Bind.bind (m := M) (ev c t v) truth) fun k => if k then ex c a v else ex c b v) D σ H := by
      obtain ⟨m, v, st, S, h⟩ := h
      refine ⟨m, v, st, S, ?_⟩
      have e1 : ex c (.if_ t a b) v = Bind.bind (m := M) (ev c t v) fun x => Bind.bind (m := M) (truth x) fun k => if k then ex c a v else ex c b v := rfl
      rw [e1] at h
      dsimp only
      rw [bind_run] at h ⊢
      rw [bind_run]
      cases q : ev c t v st with
      | ok x s1 => rw [q] at h; exact h
      | ex _ _ _ => rw [q] at h; exact h
      | no => rw [q] at h; exact h
    refine (tS_b1 (relA := rE Bool) h).mono fun k H1 ⟨m, v, st, k', S, e, q⟩ => ?_
    cases e
    cases k with
    | true => exact ⟨m, v, st, S, q⟩
    | false => exact ⟨m, v, st, S, q⟩
  | .for_ t i b, X, EX, Z, cc, k, CX, ss, ok, hy => by
    cases ss <;> try (cases ok; done)
    rename_i tg x ys els pos
    cases els with
    | cons _ _ => cases ok
    | nil =>
      have ok' : (okI Z cc i x tg && okT cc t tg && okB Z cc b ys && notSet x) = true := ok
      rw [Bool.and_eq_true, Bool.and_eq_true, Bool.and_eq_true] at ok'
      obtain ⟨⟨⟨h1, h2⟩, h3⟩, h4⟩ := ok'
      exact PS.imp (ps_for hy.O.own hy.O.calm (sI i h1 hy) (sT hy.O.calm hy.O.nd hy.N hy.sc hy.fn t h2) (sB b h3 hy) (folded_no h4)) fun D σ H h => for_S h
  | .while_ t b, X, EX, Z, cc, k, CX, ss, ok, hy => by
    cases ss <;> try (cases ok; done)
    rename_i x ys els pos
    cases els with
    | cons _ _ => cases ok
    | nil =>
      have ok' : (okE Z cc t x && okTe t && okB Z cc b ys) = true := ok
      rw [Bool.and_eq_true, Bool.and_eq_true] at ok'
      exact PS.imp (ps_while hy.O.own (sTest t ok'.1.1 ok'.1.2 hy) (sB b ok'.2 hy)) fun D σ H h => while_S h
  | .brk, X, EX, Z, cc, k, CX, ss, ok, hy => by
    cases ss <;> try (cases ok; done)
    exact PS.imp ps_break fun D σ H ⟨m, v, st, S, h⟩ => h m σ H Ext.refl S
  | .cont, X, EX, Z, cc, k, CX, ss, ok, hy => by
    cases ss <;> try (cases ok; done)
    exact PS.imp ps_continue fun D σ H ⟨m, v, st, S, h⟩ => h m σ H Ext.refl S
theorem sB : ∀ (s : S) {X : Cx} {EX : XK} {Z : Tb} {cc : CC} {k : Nat} {CX : CXT} {ss : List Stmt}, okB Z cc s ss = true → Hy Z G EX k CX c cc X → PSs X ss (tS X.K G EX (ex c s))
  | .skip, X, EX, Z, cc, k, CX, ss, ok, hy => by
    cases ss with
    | cons _ _ => cases ok
    | nil => exact PSs.imp pss_nil fun D σ H ⟨m, v, st, S, h⟩ => h m σ H Ext.refl S
  | .seq a b, X, EX, Z, cc, k, CX, ss, ok, hy => by
    cases ss with
    | nil => cases ok
    | cons s r =>
      have ok' : (ok1 Z cc a s && okB Z cc b r) = true := ok
      rw [Bool.and_eq_true] at ok'
      exact PSs.imp (pss_cons (s1 a ok'.1 hy) (sB b ok'.2 hy)) fun D σ H h => seq_S h
  | .no, X, EX, Z, cc, k, CX, ss, ok, hy => PSs.imp pss_never fun D σ H ⟨_, _, _, _, h⟩ => h
  | .asg t e, X, EX, Z, cc, k, CX, ss, ok, hy => by cases ok
  | .setix a b e, X, EX, Z, cc, k, CX, ss, ok, hy => by cases ok
  | .expr e, X, EX, Z, cc, k, CX, ss, ok, hy => by cases ok
  | .ret e, X, EX, Z, cc, k, CX, ss, ok, hy => by cases ok
  | .if_ t a b, X, EX, Z, cc, k, CX, ss, ok, hy => by cases ok
  | .for_ t i b, X, EX, Z, cc, k, CX, ss, ok, hy => by cases ok
  | .while_ t b, X, EX, Z, cc, k, CX, ss, ok, hy => by cases ok
  | .brk, X, EX, Z, cc, k, CX, ss, ok, hy => by cases ok
  | .cont, X, EX, Z, cc, k, CX, ss, ok, hy => by cases ok
end
end
end Ix
end PIx16

section PIx17
set_option Elab.async false
set_option linter.all false
set_option maxRecDepth 100000
set_option autoImplicit false
set_option maxHeartbeats 1000000
/-! Ix17: defs and the table. -/
namespace Ix
open PySem PySem.Spec L2
open PyProof.Rows hiding St

/-- a def: its name, parameters, slots, text, ours -/
structure Df where
  x : Str
  ps : List Str
  N : List Str
  st : Stmt
  body : S
def Df.fd (d : Df) : Fd := ⟨d.ps.length, d.N.length, d.body⟩
def Df.cc (d : Df) : CC := ⟨d.N, defScope d.st, fun _ => true⟩
def Df.dd (d : Df) : He.DefD := ⟨(d.x, none), d.x, d.x, defArgs d.st, defBody d.st, defScope d.st, [], []⟩
def tbOf (T : List Df) (f : Nat) : Option Fd := (T[f]?).map Df.fd
/-- what is looked at of a def -/
structure DfOk (Z : Tb) (d : Df) : Prop where
  sc : C8.scC d.N d.ps (defScope d.st) = true
  body : okB Z d.cc d.body (defBody d.st) = true
  bind : ∀ (kV doc pm : Value) (an : Option Addr) (cdv ct : Value) (us : List Value), us.length = d.ps.length → bindArgs (PySem.W.fnOf d.x d.x (defArgs d.st) (defBody d.st) (defScope d.st) .none kV doc pm an cdv ct) ⟨us, []⟩ = pure (d.ps.zip us)
/-- the checker's table of a program -/
def tabZ (T : List Df) (con : List (Str × D)) (bl : List Str) : Tb := ⟨fun f => (T[f]?).map (·.x), con, bl⟩
theorem start_ER {K : PySem.W.Frag} {m : List Addr} {H : Hp} {ds : List D} {vs : List V} {N : List Str} (r : RDs K m H ds vs) : ER K m H (ds.map some ++ List.replicate (N.length - ds.length) none) (L2.start N vs) := by
  have hl := r.length
  refine ⟨by simp [L2.start, hl], fun i d h => ?_⟩
  by_cases hi : i < ds.length
  · rw [List.getElem?_append_left (by simpa using hi), List.getElem?_map] at h
    cases q : ds[i]? with
    | none => rw [q] at h; cases h
    | some d' =>
      rw [q] at h
      cases h
      obtain ⟨x, h1, h2⟩ := r.get q
      refine ⟨x, ?_, h2⟩
      unfold L2.start
      rw [List.getElem?_append_left (by simp; omega), List.getElem?_map, h1]
      rfl
  · rw [List.getElem?_append_right (by simpa using hi), List.getElem?_replicate] at h
    split at h <;> cases h
section
variable {P : Program} {w : World} {K : PySem.W.Frag} {mg : Str → Option Value} {base : Heap}
theorem run_eq {c : Cf} {f : Fd} {xs : List D} {st : Store} : run c f xs st = if xs.length = f.ps then (match ex c f.body (xs.map some ++ List.replicate (f.n - xs.length) none) st with
    | .ok (.rt d) s => .ok d s
    | .ok (.nx _) s => .ok .non s
    | .ok _ _ => .no
    | .ex e d s => .ex e d s
    | .no => .no) else .no := by
  unfold run
  by_cases h : xs.length = f.ps
  · rw [if_pos h, if_pos h, bind_run]
    cases ex c f.body (xs.map some ++ List.replicate (f.n - xs.length) none) st with
    | ok a s => cases a <;> rfl
    | ex e d s => rfl
    | no => rfl
  · rw [if_neg h, if_neg h]
    rfl
theorem body_S {G : Gx} {EX : XK} {c : Cf} {d : Df} {m : List Addr} {st : Store} {ds : List D} {vs : List V} {H : Hp} {Q : VK} (S : Sm K G m [] H [] st) (r : RDs K m H ds vs) (h : Po K G EX (RD K) m [] H [] (run c d.fd ds st) Q) :
    tS K G EX (ex c d.body) { nx := fun _ H' => Q .non H', rt := Q } (L2.start d.N vs) H := by
  refine ⟨m, ds.map some ++ List.replicate (d.N.length - ds.length) none, st, S.env' (start_ER r), ?_⟩
  rw [run_eq] at h
  by_cases hz : ds.length = d.fd.ps
  case neg => rw [if_neg hz] at h; exact h.elim
  rw [if_pos hz] at h
  have h : Po K G EX (RD K) m [] H [] (match ex c d.body (ds.map some ++ List.replicate (d.N.length - ds.length) none) st with
    | .ok (.rt d) s => .ok d s
    | .ok (.nx _) s => .ok .non s
    | .ok _ _ => .no
    | .ex e d s => .ex e d s
    | .no => .no) Q := h
  cases q : ex c d.body (ds.map some ++ List.replicate (d.N.length - ds.length) none) st with
  | ok a s =>
    rw [q] at h
    cases a with
    | nx v' => exact fun m' σ' H' e S' => h m' .non H' e S'.bare .non
    | bk v' => exact h.elim
    | ct v' => exact h.elim
    | rt d => exact fun m' x H' e S' r => h m' x H' e S' r
  | ex e d s => rw [q] at h; exact h
  | no => rw [q] at h; exact h.elim
theorem callN_eq {fu k f : Nat} {T : List Df} {xs : List D} {st : Store} : callN fu (tbOf T) (k + 1) f xs st = match T[f]? with
    | some d => run ⟨fu, callN fu (tbOf T) k⟩ d.fd xs st
    | none => .no := by
  unfold callN tbOf
  cases T[f]? <;> rfl
/-- what is known of the module behind the top -/
structure Top (K : PySem.W.Frag) (mg : Str → Option Value) (T : List Df) (con : List (Str × D)) (bl : List Str) : Prop where
  df : ∀ d ∈ T, DfOk (tabZ T con bl) d ∧ ∃ a fd, mg d.x = some (.ref a) ∧ FunD K d.x d.x (defArgs d.st) (defBody d.st) (defScope d.st) [] [] a fd
  con : ∀ p ∈ con, ∃ u v, mg p.1 = some u ∧ RelV v u ∧ ∀ m H, RD K m H p.2 v
  bl : ∀ x ∈ bl, mg x = none
theorem Top.ok {T : List Df} {con : List (Str × D)} {bl : List Str} (W : Top K mg T con bl) {G : Gx} (hG : G.ent = entryOfKey (nestedKind P w)) (fu : Nat) : ∀ (k : Nat) (f : Nat) (d : Df), T[f]? = some d → ∀ (a : Addr) (fd : FuncData), FunD K d.x d.x (defArgs d.st) (defBody d.st) (defScope d.st) [] [] a fd →
    FnOk P w K mg base L2.CX0 k a fd d.ps (spF K G (callN fu (tbOf T) k f))
  | 0, f, d, hd, a, fd, F => ⟨fun vs H Q E ⟨_, _, _, _, _, h⟩ => h.elim, fun A outer s H args us vs Q E hr he hb hv ⟨_, _, _, _, _, h⟩ => h.elim⟩
  | k + 1, f, d, hd, a, fd, F => by
    obtain ⟨D, _⟩ := W.df d (List.mem_of_getElem? hd)
    refine F.ok (C8.fnScope_by D.sc) (fun vs H Q E ⟨m, st, ds, S, r, h⟩ => ?_) fun cdv A outer s H vs Q E hr ⟨m, st, ds, S, r, h⟩ => ?_
    · rw [callN_eq, hd] at h
      dsimp only at h
      rw [run_eq] at h
      by_cases hz : ds.length = d.fd.ps
      · exact r.length.symm.trans hz
      · rw [if_neg hz] at h; exact h.elim
    · rw [callN_eq, hd] at h
      refine ⟨_, PSs.nox (sB (G := G) (EX := E) (Z := tabZ T con bl) (cc := d.cc) (k := k) (CX := L2.CX0) (c := ⟨fu, callN fu (tbOf T) k⟩) d.body D.body ⟨⟨hG, hr, rfl, (C8.fnScope_by D.sc).nd, W.con, W.bl, ?_, L2.pass0, fun _ _ _ _ _ z => z, PassesOwn.never⟩, rfl, rfl, fun _ _ => rfl⟩), body_S S r h⟩
      intro g x hx
      have hx' : (T[g]?).map (·.x) = some x := hx
      cases q : T[g]? with
      | none => rw [q] at hx'; cases hx'
      | some e =>
        rw [q] at hx'
        cases hx'
        obtain ⟨D', a', fd', h1, F'⟩ := W.df e (List.mem_of_getElem? q)
        exact ⟨a', fd', e.ps, h1, F'.kp, F'.bindsN D'.bind, Top.ok W hG fu k g e q a' fd' F'⟩
end
/-! ### the head -/
/-- a constant as a fact -/
def faC (p : Str × D) : He.Fa := match p.2 with
  | .int i => .int p.1 i
  | .str x => .str p.1 ⟨x.toArray⟩
  | _ => .free p.1
def isC (p : Str × D) : Bool := match p.2 with
  | .int _ => true
  | .str _ => true
  | _ => false
def fnT (T : List Df) : List He.DefD := T.map Df.dd
def faT (T : List Df) (con : List (Str × D)) (bl : List Str) : List He.Fa := T.map (fun d => .glo d.x) ++ (con.map faC ++ bl.map .free)
theorem top_of {T : List Df} {con : List (Str × D)} {bl : List Str} {K : PySem.W.Frag} {h : Heap} {mg : Str → Option Value} (X : K.In h) (G : h.Ns mainGlobals mg) (c : He.SaysD (faT T con bl) (fnT T) K) (hT : ∀ d ∈ T, DfOk (tabZ T con bl) d) (hc : con.all isC = true) : Top K mg T con bl where
  df := fun d hd => by
    obtain ⟨fd, F⟩ := c.defs (d := d.dd) (List.mem_map_of_mem hd)
    exact ⟨hT d hd, _, fd, He.glo_ok X G (c.facts (f := .glo d.x) (List.mem_append_left _ (List.mem_map_of_mem (f := fun d => He.Fa.glo d.x) hd))), F⟩
  con := fun p hp => by
    have q := c.facts (f := faC p) (List.mem_append_right _ (List.mem_append_left _ (List.mem_map_of_mem hp)))
    have z := List.all_eq_true.mp hc p hp
    obtain ⟨x, d⟩ := p
    cases d <;> try (cases z; done)
    · rename_i i
      obtain ⟨t, e⟩ := He.int_ok X G (x := x) (i := i) q
      exact ⟨_, V.int i, e, ⟨_, rfl⟩, fun m H => .int i⟩
    · rename_i y
      obtain ⟨t, e⟩ := He.str_ok X G (x := x) (z := ⟨y.toArray⟩) q
      exact ⟨_, V.str ⟨y.toArray⟩, e, ⟨_, rfl⟩, fun m H => .str y⟩
  bl := fun x hx => He.free_ok X G (c.facts (f := .free x) (List.mem_append_right _ (List.mem_append_right _ (List.mem_map_of_mem (f := He.Fa.free) hx))))
theorem RDs.ints {K : PySem.W.Frag} {m : List Addr} {H : Hp} : ∀ (ns : List Int), RDs K m H (ns.map .int) (ns.map V.int)
  | [] => .nil
  | i :: r => .cons (.int i) (RDs.ints r)
/-- the law's promise -/
def spLaw (K : PySem.W.Frag) (G : Gx) (T : List Df) (k f : Nat) : Sp := fun vs H Q E => ∃ fu, spF K G (callN fu (tbOf T) k f) vs H Q E
/-- the law by its plain statement -/
theorem law_ok {P : Program} {w : World} {T : List Df} {con : List (Str × D)} {bl : List Str} {k f n : Nat} {d : Df} {x : Str} (hd : T[f]? = some d) (hx : d.ps = [x]) (hT : ∀ d ∈ T, DfOk (tabZ T con bl) d) (hc : con.all isC = true)
    (plain : ∀ ns : List Int, ns.length ≤ n → ∃ fu st, callN fu (tbOf T) k f [.fl (ns.map .int)] [] = .ok (.bl true) st)
    {K : PySem.W.Frag} {h : Heap} {mg : Str → Option Value} {fa : Addr} (X : K.In h) (hns : h.Ns mainGlobals mg) (c : He.SaysD (faT T con bl) (fnT T) K) (hmg : mg d.x = some (.ref fa)) :
    ∃ (K : PySem.W.Frag) (fd : FuncData) (sp : Sp), K.In h ∧ (∀ (s : Shared) (u : Value), BindsTo s fd ⟨[u], []⟩ [(x, u)]) ∧
      (∀ (H : Hp) (a : Addr) (ns : List Int), ns.length ≤ n → Only H → SqL K H a (ns.map V.int) → sp [.ref a] H (fun v _ => v = .bl true) fun _ _ _ => False) ∧
      ∀ base : Heap, K.In base → base.Ns mainGlobals mg → FnOk P w K mg base L2.CX0 k fa fd [x] sp := by
  have W := top_of X hns c hT hc
  obtain ⟨D, a, fd, h1, F⟩ := W.df d (List.mem_of_getElem? hd)
  have e := hmg.symm.trans h1
  cases e
  refine ⟨K, fd, spLaw K ⟨fun _ => 0, fun _ => "", entryOfKey (nestedKind P w)⟩ T k f, X, fun s u => ?_, fun H a ns hl hO hS => ?_, fun base _ _ => ?_⟩
  · have b := FunD.bindsA F D.bind s [u] (by rw [hx]; rfl)
    rw [hx] at b
    exact b
  · obtain ⟨fu, st, hp⟩ := plain ns hl
    refine ⟨fu, [], [], [.fl (ns.map .int)], ⟨rfl, .nil, fun l c z => (by simp at z), ⟨rfl, fun i d z => by simp at z⟩⟩, .cons (.fl (hS.elim (fun r => ?_) .inr) (RDs.ints ns)) .nil, ?_⟩
    · rcases r with r | ⟨o, r⟩
      · rcases hO a with z | ⟨o, xs, z⟩
        · rw [z] at r; cases r
        · rw [z] at r; cases r
      · exact .inl ⟨o, r⟩
    · rw [hp]
      intro m' b H' _ _ r
      cases r
      rfl
  · have all := fun fu => Top.ok (P := P) (w := w) (base := base) W (G := ⟨fun _ => 0, fun _ => "", entryOfKey (nestedKind P w)⟩) rfl fu k f d hd fa fd F
    rw [hx] at all
    exact ⟨fun vs H Q E ⟨fu, h⟩ => (all fu).len vs H Q E h, fun A outer s H args us vs Q E hr he hb hv ⟨fu, h⟩ => (all fu).run A outer s H args us vs Q E hr he hb hv h⟩
end Ix
end PIx17

section PIx18
set_option Elab.async false
set_option linter.all false
set_option maxRecDepth 100000
set_option autoImplicit false
set_option maxHeartbeats 1000000
/-! Ix18: what ours does, said backwards. -/
namespace Ix
open PySem

/-- there is one, and it is so -/
def os {α : Type} (o : Option α) (P : α → Prop) : Prop := match o with
  | some a => P a
  | none => False
@[simp] theorem os_some {α : Type} (a : α) (P : α → Prop) : os (some a) P = P a := rfl
@[simp] theorem os_none {α : Type} (P : α → Prop) : os none P = False := rfl
@[simp] theorem os_map {α β : Type} (o : Option α) (f : α → β) (P : β → Prop) : os (o.map f) P = os o fun a => P (f a) := by cases o <;> rfl
@[simp] theorem os_ite {α : Type} (p : Prop) [Decidable p] (a : α) (P : α → Prop) : os (if p then some a else none) P = (p ∧ P a) := by
  by_cases h : p <;> simp [h]
theorem os_of {α : Type} {o : Option α} {a : α} {P : α → Prop} (h : o = some a) (q : P a) : os o P := by rw [h]; exact q
/-- it ends so -/
def Ok {α : Type} (r : R α) (Q : α → Store → Prop) : Prop := match r with
  | .ok a s => Q a s
  | _ => False
theorem Ok.mono {α : Type} {r : R α} {Q Q' : α → Store → Prop} (h : Ok r Q) (w : ∀ a s, Q a s → Q' a s) : Ok r Q' := by
  cases r with
  | ok a s => exact w a s h
  | ex _ _ _ => exact h
  | no => exact h
theorem Ok.get {α : Type} {r : R α} {Q : α → Store → Prop} (h : Ok r Q) : ∃ a s, r = .ok a s ∧ Q a s := by
  cases r with
  | ok a s => exact ⟨a, s, rfl, h⟩
  | ex _ _ _ => exact h.elim
  | no => exact h.elim
@[simp] theorem Ok_bind {α β : Type} (f : M α) (k : α → M β) (st : Store) (Q : β → Store → Prop) : Ok ((Bind.bind (m := M) f k) st) Q = Ok (f st) (fun a s => Ok (k a s) Q) := by
  rw [bind_run]
  cases f st <;> rfl
@[simp] theorem Ok_pure {α : Type} (a : α) (st : Store) (Q : α → Store → Prop) : Ok ((Pure.pure a : M α) st) Q = Q a st := rfl
@[simp] theorem Ok_ok {α : Type} (a : α) (st : Store) (Q : α → Store → Prop) : Ok (.ok a st) Q = Q a st := rfl
@[simp] theorem Ok_stuck {α : Type} (st : Store) (Q : α → Store → Prop) : Ok ((stuck : M α) st) Q = False := rfl
@[simp] theorem Ok_rd {α : Type} (f : Store → Option α) (st : Store) (Q : α → Store → Prop) : Ok (rd f st) Q = os (f st) fun a => Q a st := by
  unfold rd
  cases f st <;> rfl
@[simp] theorem Ok_newC (c : C) (st : Store) (Q : D → Store → Prop) : Ok (newC c st) Q = Q (.loc st.length) (st ++ [c]) := rfl
@[simp] theorem Ok_if {α : Type} (b : Bool) (f g : M α) (st : Store) (Q : α → Store → Prop) : Ok ((if b = true then f else g) st) Q = if b = true then Ok (f st) Q else Ok (g st) Q := by cases b <;> rfl
@[simp] theorem Ok_ite {α : Type} (p : Prop) [Decidable p] (f g : M α) (st : Store) (Q : α → Store → Prop) : Ok ((if p then f else g) st) Q = if p then Ok (f st) Q else Ok (g st) Q := by split <;> rfl
@[simp] theorem Ok_truth (d : D) (st : Store) (Q : Bool → Store → Prop) : Ok (truth d st) Q = os (truthO st d) fun a => Q a st := Ok_rd _ _ _
@[simp] theorem Ok_cmpB (o : Co) (a b : D) (st : Store) (Q : Bool → Store → Prop) : Ok (cmpB o a b st) Q = os (cmpO o st a b) fun k => Q k st := Ok_rd _ _ _
@[simp] theorem Ok_ixD (a b : D) (st : Store) (Q : D → Store → Prop) : Ok (ixD a b st) Q = os (ixO st a b) fun k => Q k st := Ok_rd _ _ _
section
variable (c : Cf) (v : En) (st : Store) (Q : D → Store → Prop)
@[simp] theorem w_var (i : Nat) : Ok (ev c (.var i) v st) Q = os (atV v i) fun d => Q d st := Ok_rd _ _ _
@[simp] theorem w_con (d : D) : Ok (ev c (.con d) v st) Q = Q d st := rfl
@[simp] theorem w_glo (d : D) : Ok (ev c (.glo d) v st) Q = Q d st := rfl
@[simp] theorem w_bin (o : Bo) (a b : E) : Ok (ev c (.bin o a b) v st) Q = Ok (ev c a v st) fun x s => Ok (ev c b v s) fun y s => Ok (binD o x y s) Q := by
  show Ok ((Bind.bind (m := M) (ev c a v) fun x => Bind.bind (m := M) (ev c b v) fun y => binD o x y) st) Q = _
  simp only [Ok_bind]
@[simp] theorem w_neg (a : E) : Ok (ev c (.neg a) v st) Q = Ok (ev c a v st) fun x s => ∃ i, x = .int i ∧ Q (.int (-i)) s := by
  show Ok ((Bind.bind (m := M) (ev c a v) fun x => match x with
    | .int i => Pure.pure (.int (-i))
    | _ => stuck) st) Q = _
  rw [Ok_bind]
  congr 1
  funext x s
  cases x <;> simp [Ok_pure, Ok_stuck]
@[simp] theorem w_not (a : E) : Ok (ev c (.not a) v st) Q = Ok (ev c a v st) fun x s => os (truthO s x) fun k => Q (.bl (!k)) s := by
  show Ok ((Bind.bind (m := M) (ev c a v) fun x => Bind.bind (m := M) (truth x) fun k => Pure.pure (.bl (!k))) st) Q = _
  simp only [Ok_bind, Ok_truth, Ok_pure]
@[simp] theorem w_and (es : Es) : Ok (ev c (.and es) v st) Q = Ok (evAnd c es v st) Q := rfl
@[simp] theorem w_or (es : Es) : Ok (ev c (.or es) v st) Q = Ok (evOr c es v st) Q := rfl
@[simp] theorem w_and1 (e : E) : Ok (evAnd c (.cons e .nil) v st) Q = Ok (ev c e v st) Q := rfl
@[simp] theorem w_or1 (e : E) : Ok (evOr c (.cons e .nil) v st) Q = Ok (ev c e v st) Q := rfl
@[simp] theorem w_and2 (e e2 : E) (es : Es) : Ok (evAnd c (.cons e (.cons e2 es)) v st) Q = Ok (ev c e v st) fun x s => os (truthO s x) fun k => if k = true then Ok (evAnd c (.cons e2 es) v s) Q else Q x s := by
  show Ok ((Bind.bind (m := M) (ev c e v) fun x => Bind.bind (m := M) (truth x) fun k => if k then evAnd c (.cons e2 es) v else Pure.pure x) st) Q = _
  simp only [Ok_bind, Ok_truth, Ok_pure, Ok_if]
@[simp] theorem w_or2 (e e2 : E) (es : Es) : Ok (evOr c (.cons e (.cons e2 es)) v st) Q = Ok (ev c e v st) fun x s => os (truthO s x) fun k => if k = true then Q x s else Ok (evOr c (.cons e2 es) v s) Q := by
  show Ok ((Bind.bind (m := M) (ev c e v) fun x => Bind.bind (m := M) (truth x) fun k => if k then Pure.pure x else evOr c (.cons e2 es) v) st) Q = _
  simp only [Ok_bind, Ok_truth, Ok_pure, Ok_if]
@[simp] theorem w_cmp (o : Co) (a b : E) : Ok (ev c (.cmp o a b) v st) Q = Ok (ev c a v st) fun x s => Ok (ev c b v s) fun y s => os (cmpO o s x y) fun k => Q (.bl k) s := by
  show Ok ((Bind.bind (m := M) (ev c a v) fun x => Bind.bind (m := M) (ev c b v) fun y => Bind.bind (m := M) (cmpB o x y) fun k => Pure.pure (.bl k)) st) Q = _
  simp only [Ok_bind, Ok_cmpB, Ok_pure]
@[simp] theorem w_cmp2 (o o' : Co) (a b e : E) : Ok (ev c (.cmp2 o o' a b e) v st) Q = Ok (ev c a v st) fun x s => Ok (ev c b v s) fun y s => os (cmpO o s x y) fun k => if k = true then Ok (ev c e v s) fun z s => os (cmpO o' s y z) fun k' => Q (.bl k') s else Q (.bl false) s := by
  show Ok ((Bind.bind (m := M) (ev c a v) fun x => Bind.bind (m := M) (ev c b v) fun y => Bind.bind (m := M) (cmpB o x y) fun k => if k then Bind.bind (m := M) (ev c e v) fun z => Bind.bind (m := M) (cmpB o' y z) fun k' => Pure.pure (.bl k') else Pure.pure (.bl false)) st) Q = _
  simp only [Ok_bind, Ok_cmpB, Ok_pure, Ok_if]
@[simp] theorem w_ife (t a b : E) : Ok (ev c (.ife t a b) v st) Q = Ok (ev c t v st) fun x s => os (truthO s x) fun k => if k = true then Ok (ev c a v s) Q else Ok (ev c b v s) Q := by
  show Ok ((Bind.bind (m := M) (ev c t v) fun x => Bind.bind (m := M) (truth x) fun k => if k then ev c a v else ev c b v) st) Q = _
  simp only [Ok_bind, Ok_truth, Ok_pure, Ok_if]
@[simp] theorem w_tup (es : Es) : Ok (ev c (.tup es) v st) Q = Ok (evs c es v st) fun xs s => xs.length ≤ SL ∧ Q (.tup xs) s := by
  show Ok ((Bind.bind (m := M) (evs c es v) fun xs => if xs.length ≤ SL then Pure.pure (.tup xs) else stuck) st) Q = _
  simp only [Ok_bind]
  congr 1
  funext xs s
  by_cases h : xs.length ≤ SL
  · rw [if_pos h]; simp [h, Ok_pure]
  · rw [if_neg h]; simp [h, Ok_stuck]
@[simp] theorem w_lst (es : Es) : Ok (ev c (.lst es) v st) Q = Ok (evs c es v st) fun xs s => xs.length ≤ SL ∧ Q (.loc s.length) (s ++ [.lst xs]) := by
  show Ok ((Bind.bind (m := M) (evs c es v) fun xs => if xs.length ≤ SL then newC (.lst xs) else stuck) st) Q = _
  simp only [Ok_bind]
  congr 1
  funext xs s
  by_cases h : xs.length ≤ SL
  · rw [if_pos h]; simp [h, Ok_newC]
  · rw [if_neg h]; simp [h, Ok_stuck]
@[simp] theorem w_dnew : Ok (ev c .dnew v st) Q = Q (.loc st.length) (st ++ [.dct []]) := rfl
@[simp] theorem w_ix (a b : E) : Ok (ev c (.ix a b) v st) Q = Ok (ev c a v st) fun x s => Ok (ev c b v s) fun y s => os (ixO s x y) fun k => Q k s := by
  show Ok ((Bind.bind (m := M) (ev c a v) fun x => Bind.bind (m := M) (ev c b v) fun y => ixD x y) st) Q = _
  simp only [Ok_bind, Ok_ixD]
@[simp] theorem w_sl (a : E) (lo hi : O) : Ok (ev c (.sl a lo hi) v st) Q = Ok (ev c a v st) fun x s => Ok (evO c lo v s) fun l s => Ok (evO c hi v s) fun h s => Ok (slD x l h s) Q := by
  show Ok ((Bind.bind (m := M) (ev c a v) fun x => Bind.bind (m := M) (evO c lo v) fun l => Bind.bind (m := M) (evO c hi v) fun h => slD x l h) st) Q = _
  simp only [Ok_bind]
@[simp] theorem w_o0 (Q : Option Int → Store → Prop) : Ok (evO c .none v st) Q = Q none st := rfl
@[simp] theorem w_o1 (e : E) (Q : Option Int → Store → Prop) : Ok (evO c (.some e) v st) Q = Ok (ev c e v st) fun x s => ∃ i, x = .int i ∧ Q (some i) s := by
  show Ok ((Bind.bind (m := M) (ev c e v) fun x => match x with
    | .int i => Pure.pure (some i)
    | _ => stuck) st) Q = _
  rw [Ok_bind]
  congr 1
  funext x s
  cases x <;> simp [Ok_pure, Ok_stuck]
@[simp] theorem w_call (f : Nat) (es : Es) : Ok (ev c (.call f es) v st) Q = Ok (evs c es v st) fun xs s => Ok (c.call f xs s) Q := by
  show Ok ((Bind.bind (m := M) (evs c es v) fun xs => c.call f xs) st) Q = _
  simp only [Ok_bind]
@[simp] theorem w_bc (b : Bl) (es : Es) : Ok (ev c (.bc b es) v st) Q = Ok (evs c es v st) fun xs s => Ok (bcD b xs s) Q := by
  show Ok ((Bind.bind (m := M) (evs c es v) fun xs => bcD b xs) st) Q = _
  simp only [Ok_bind]
@[simp] theorem w_isi (a : E) (t : Ty) : Ok (ev c (.isi a t) v st) Q = Ok (ev c a v st) fun x s => os (tyO s x t) fun k => Q (.bl k) s := by
  show Ok ((Bind.bind (m := M) (ev c a v) fun x => Bind.bind (m := M) (rd fun s => tyO s x t) fun k => Pure.pure (.bl k)) st) Q = _
  simp only [Ok_bind, Ok_rd, Ok_pure]
@[simp] theorem w_mt (m : Mt) (a : E) (es : Es) : Ok (ev c (.mt m a es) v st) Q = Ok (ev c a v st) fun x s => os (mtTyO m s x) fun u => Ok (evs c es v s) fun xs s => Ok (mtD m x xs s) Q := by
  show Ok ((Bind.bind (m := M) (ev c a v) fun x => Bind.bind (m := M) (rd fun s => mtTyO m s x) fun _ => Bind.bind (m := M) (evs c es v) fun xs => mtD m x xs) st) Q = _
  simp only [Ok_bind, Ok_rd]
@[simp] theorem w_comp (own : List Nat) (t : T) (i : I) (q : O) (e : E) : Ok (ev c (.comp own t i q e) v st) Q = Ok (evI c i v st) fun it s => Ok (compL it (turnL own t (evC c q) (ev c e) v) c.fu 0 [] s) fun xs s => Q (.loc s.length) (s ++ [.lst xs]) := by
  show Ok ((Bind.bind (m := M) (evI c i v) fun it => Bind.bind (m := M) (compL it (turnL own t (evC c q) (ev c e) v) c.fu 0 []) fun xs => newC (.lst xs)) st) Q = _
  simp only [Ok_bind, Ok_newC]
@[simp] theorem w_nil (Q : List D → Store → Prop) : Ok (evs c .nil v st) Q = Q [] st := rfl
@[simp] theorem w_cons (e : E) (es : Es) (Q : List D → Store → Prop) : Ok (evs c (.cons e es) v st) Q = Ok (ev c e v st) fun x s => Ok (evs c es v s) fun xs s => Q (x :: xs) s := by
  show Ok ((Bind.bind (m := M) (ev c e v) fun x => Bind.bind (m := M) (evs c es v) fun xs => Pure.pure (x :: xs)) st) Q = _
  simp only [Ok_bind, Ok_pure]
@[simp] theorem w_c0 (Q : Bool → Store → Prop) : Ok (evC c .none v st) Q = Q true st := rfl
@[simp] theorem w_c1 (e : E) (Q : Bool → Store → Prop) : Ok (evC c (.some e) v st) Q = Ok (ev c e v st) fun x s => os (truthO s x) fun k => Q k s := by
  show Ok ((Bind.bind (m := M) (ev c e v) fun x => truth x) st) Q = _
  simp only [Ok_bind, Ok_truth]
@[simp] theorem w_plain (e : E) (Q : It → Store → Prop) : Ok (evI c (.plain e) v st) Q = Ok (ev c e v st) fun x s => Ok (itOf x s) Q := by
  show Ok ((Bind.bind (m := M) (ev c e v) fun x => itOf x) st) Q = _
  simp only [Ok_bind]
@[simp] theorem w_rng (es : Es) (Q : It → Store → Prop) : Ok (evI c (.rng es) v st) Q = Ok (evs c es v st) fun xs s => Ok (rngOf xs s) Q := by
  show Ok ((Bind.bind (m := M) (evs c es v) fun x => rngOf x) st) Q = _
  simp only [Ok_bind]
@[simp] theorem w_enum (e : E) (Q : It → Store → Prop) : Ok (evI c (.enum e) v st) Q = Ok (ev c e v st) fun x s => Ok (itOfE x s) fun it s => Q (.enum it) s := by
  show Ok ((Bind.bind (m := M) (ev c e v) fun x => Bind.bind (m := M) (itOfE x) fun it => Pure.pure (.enum it)) st) Q = _
  simp only [Ok_bind, Ok_pure]
variable (R' : Fl → Store → Prop)
@[simp] theorem x_skip : Ok (ex c .skip v st) R' = R' (.nx v) st := rfl
@[simp] theorem x_seq (a b : S) : Ok (ex c (.seq a b) v st) R' = Ok (ex c a v st) fun f s => match f with
    | .nx v' => Ok (ex c b v' s) R'
    | f => R' f s := by
  show Ok ((Bind.bind (m := M) (ex c a v) fun f => match f with
    | .nx v' => ex c b v'
    | f => Pure.pure f) st) R' = _
  rw [Ok_bind]
  congr 1
  funext f s
  cases f <;> rfl
@[simp] theorem x_asg (t : T) (e : E) : Ok (ex c (.asg t e) v st) R' = Ok (ev c e v st) fun x s => Ok (bindT t x v s) fun v' s => R' (.nx v') s := by
  show Ok ((Bind.bind (m := M) (ev c e v) fun x => Bind.bind (m := M) (bindT t x v) fun v' => Pure.pure (.nx v')) st) R' = _
  simp only [Ok_bind, Ok_pure]
@[simp] theorem x_setix (a b e : E) : Ok (ex c (.setix a b e) v st) R' = Ok (ev c e v st) fun x s => Ok (ev c a v s) fun o s => Ok (ev c b v s) fun k s => Ok (setIxD o k x s) fun _ s => R' (.nx v) s := by
  show Ok ((Bind.bind (m := M) (ev c e v) fun x => Bind.bind (m := M) (ev c a v) fun o => Bind.bind (m := M) (ev c b v) fun k => Bind.bind (m := M) (setIxD o k x) fun _ => Pure.pure (.nx v)) st) R' = _
  simp only [Ok_bind, Ok_pure]
@[simp] theorem x_expr (e : E) : Ok (ex c (.expr e) v st) R' = Ok (ev c e v st) fun _ s => R' (.nx v) s := by
  show Ok ((Bind.bind (m := M) (ev c e v) fun _ => Pure.pure (.nx v)) st) R' = _
  simp only [Ok_bind, Ok_pure]
@[simp] theorem x_ret (e : E) : Ok (ex c (.ret e) v st) R' = Ok (ev c e v st) fun x s => R' (.rt x) s := by
  show Ok ((Bind.bind (m := M) (ev c e v) fun x => Pure.pure (.rt x)) st) R' = _
  simp only [Ok_bind, Ok_pure]
@[simp] theorem x_if (t : E) (a b : S) : Ok (ex c (.if_ t a b) v st) R' = Ok (ev c t v st) fun x s => os (truthO s x) fun k => if k = true then Ok (ex c a v s) R' else Ok (ex c b v s) R' := by
  show Ok ((Bind.bind (m := M) (ev c t v) fun x => Bind.bind (m := M) (truth x) fun k => if k then ex c a v else ex c b v) st) R' = _
  simp only [Ok_bind, Ok_truth, Ok_if]
@[simp] theorem x_for (t : T) (i : I) (b : S) : Ok (ex c (.for_ t i b) v st) R' = Ok (evI c i v st) fun it s => Ok (forL it (fun d v => Bind.bind (m := M) (bindT t d v) fun v' => ex c b v') c.fu 0 v s) R' := by
  show Ok ((Bind.bind (m := M) (evI c i v) fun it => forL it (fun d v => Bind.bind (m := M) (bindT t d v) fun v' => ex c b v') c.fu 0 v) st) R' = _
  simp only [Ok_bind]
@[simp] theorem x_while (t : E) (b : S) : Ok (ex c (.while_ t b) v st) R' = Ok (whileL (fun v => Bind.bind (m := M) (ev c t v) fun x => truth x) (fun v => ex c b v) c.fu v st) R' := rfl
@[simp] theorem x_brk : Ok (ex c .brk v st) R' = R' (.bk v) st := rfl
@[simp] theorem x_cont : Ok (ex c .cont v st) R' = R' (.ct v) st := rfl
@[simp] theorem x_nm (i : Nat) (d : D) (Q : En → Store → Prop) : Ok (bindT (.nm i) d v st) Q = Q (setV v i d) st := rfl
end
/-- a call by its body -/
theorem Ok_run {fu k f : Nat} {T : List Df} {d : Df} {xs : List D} {st : Store} {Q : D → Store → Prop} (hd : T[f]? = some d) (hx : xs.length = d.ps.length)
    (h : Ok (ex ⟨fu, callN fu (tbOf T) k⟩ d.body (xs.map some ++ List.replicate (d.N.length - xs.length) none) st) fun o s => match o with
      | .rt x => Q x s
      | .nx _ => Q .non s
      | _ => False) : Ok (callN fu (tbOf T) (k + 1) f xs st) Q := by
  rw [callN_eq, hd]
  dsimp only
  rw [run_eq, if_pos (by exact hx)]
  have e : ex ⟨fu, callN fu (tbOf T) k⟩ d.fd.body (xs.map some ++ List.replicate (d.fd.n - xs.length) none) st = ex ⟨fu, callN fu (tbOf T) k⟩ d.body (xs.map some ++ List.replicate (d.N.length - xs.length) none) st := rfl
  rw [e]
  cases q : ex ⟨fu, callN fu (tbOf T) k⟩ d.body (xs.map some ++ List.replicate (d.N.length - xs.length) none) st with
  | ok o s =>
    rw [q] at h
    cases o <;> exact h
  | ex _ _ _ => rw [q] at h; exact h
  | no => rw [q] at h; exact h
/-! ### loops -/
theorem turn_Ok {own : List Nat} {t : T} {fc : En → M Bool} {fe : En → M D} {v : En} {d : D} {st : Store} {Q : Option D → Store → Prop}
    (h : Ok (bindT t d (wipeV v own) st) fun v' s => Ok (fc v' s) fun k s => if k = true then Ok (fe v' s) fun y s => Q (some y) s else Q none s) : Ok (turnL own t fc fe v d st) Q := by
  have e : turnL own t fc fe v d = noEx (Bind.bind (m := M) (bindT t d (wipeV v own)) fun v' => Bind.bind (m := M) (fc v') fun k => if k then Bind.bind (m := M) (fe v') fun y => Pure.pure (some y) else Pure.pure none) := rfl
  have h2 : Ok ((Bind.bind (m := M) (bindT t d (wipeV v own)) fun v' => Bind.bind (m := M) (fc v') fun k => if k then Bind.bind (m := M) (fe v') fun y => Pure.pure (some y) else Pure.pure none) st) Q := by
    simp only [Ok_bind, Ok_if, Ok_pure]
    exact h
  rw [e]
  obtain ⟨a, s, q, z⟩ := h2.get
  unfold noEx
  rw [q]
  exact z
/-- a list's block by an invariant -/
theorem compL_inv {it : It} {turn : D → M (Option D)} (I : Nat → List D → Store → Prop) (n : Nat) (d : Nat → D) (hd : ∀ i acc st, i < n → I i acc st → nxt it i st = .ok (some (d i)) st) (he : ∀ acc st, I n acc st → nxt it n st = .ok none st)
    (step : ∀ i acc st, i < n → I i acc st → Ok (turn (d i) st) fun o s => match o with
      | none => I (i + 1) acc s
      | some y => acc.length < SL ∧ I (i + 1) (acc ++ [y]) s) : ∀ (f i : Nat) (acc : List D) (st : Store), i ≤ n → n - i < f → I i acc st → Ok (compL it turn f i acc st) fun acc s => I n acc s
  | 0, i, acc, st, _, hf, _ => absurd hf (Nat.not_lt_zero _)
  | f + 1, i, acc, st, hi, hf, h => by
    rw [compL_run, Ok_bind]
    by_cases hz : i < n
    · rw [hd i acc st hz h]
      show Ok ((Bind.bind (m := M) (turn (d i)) _) st) _
      rw [Ok_bind]
      refine (step i acc st hz h).mono fun o s q => ?_
      cases o with
      | none => exact compL_inv I n d hd he step f (i + 1) acc s hz (by omega) q
      | some y =>
        dsimp only
        rw [if_pos q.1]
        exact compL_inv I n d hd he step f (i + 1) _ s hz (by omega) q.2
    · have e : i = n := by omega
      subst e
      rw [he acc st h]
      exact h
/-- a for loop by an invariant -/
theorem forL_inv {it : It} {turn : D → En → M Fl} (I : Nat → En → Store → Prop) (R' : Fl → Store → Prop) (n : Nat) (d : Nat → D) (hd : ∀ i v st, i < n → I i v st → nxt it i st = .ok (some (d i)) st) (he : ∀ v st, I n v st → nxt it n st = .ok none st)
    (hn : ∀ v st, I n v st → R' (.nx v) st)
    (step : ∀ i v st, i < n → I i v st → Ok (turn (d i) v st) fun o s => match o with
      | .nx v' => I (i + 1) v' s
      | .ct v' => I (i + 1) v' s
      | .bk v' => R' (.nx v') s
      | .rt x => R' (.rt x) s) : ∀ (f i : Nat) (v : En) (st : Store), i ≤ n → n - i < f → I i v st → Ok (forL it turn f i v st) R'
  | 0, i, v, st, _, hf, _ => absurd hf (Nat.not_lt_zero _)
  | f + 1, i, v, st, hi, hf, h => by
    rw [forL_run, Ok_bind]
    by_cases hz : i < n
    · rw [hd i v st hz h]
      show Ok ((Bind.bind (m := M) (turn (d i) v) _) st) _
      rw [Ok_bind]
      refine (step i v st hz h).mono fun o s q => ?_
      cases o with
      | nx v' => exact forL_inv I R' n d hd he hn step f (i + 1) v' s hz (by omega) q
      | ct v' => exact forL_inv I R' n d hd he hn step f (i + 1) v' s hz (by omega) q
      | bk v' => exact q
      | rt x => exact q
    · have e : i = n := by omega
      subst e
      rw [he v st h]
      exact hn v st h
/-- a while loop by an invariant and a measure -/
theorem whileL_inv {test : En → M Bool} {turn : En → M Fl} (I : Nat → En → Store → Prop) (R' : Fl → Store → Prop)
    (step : ∀ n v st, I n v st → Ok (test v st) fun b s => if b = true then Ok (turn v s) fun o s => match o with
      | .nx v' => ∃ m, m < n ∧ I m v' s
      | .ct v' => ∃ m, m < n ∧ I m v' s
      | .bk v' => R' (.nx v') s
      | .rt x => R' (.rt x) s
      else R' (.nx v) s) : ∀ (f n : Nat) (v : En) (st : Store), n < f → I n v st → Ok (whileL test turn f v st) R'
  | 0, n, v, st, hf, _ => absurd hf (Nat.not_lt_zero _)
  | f + 1, n, v, st, hf, h => by
    rw [whileL_run, Ok_bind]
    refine (step n v st h).mono fun b s q => ?_
    cases b with
    | false => exact q
    | true =>
      rw [if_pos rfl] at q ⊢
      rw [Ok_bind]
      refine q.mono fun o s q => ?_
      cases o with
      | nx v' => obtain ⟨m, hm, q⟩ := q; exact whileL_inv I R' step f m v' s (by omega) q
      | ct v' => obtain ⟨m, hm, q⟩ := q; exact whileL_inv I R' step f m v' s (by omega) q
      | bk v' => exact q
      | rt x => exact q
end Ix
end PIx18

section PIx19
set_option Elab.async false
set_option linter.all false
set_option maxRecDepth 100000
set_option autoImplicit false
set_option maxHeartbeats 1000000
/-! Ix19: primitives, said backwards. -/
namespace Ix
open PySem
section
variable (st : Store) (Q : D → Store → Prop) (i j : Int)
@[simp] theorem b_add : Ok (binD .add (.int i) (.int j) st) Q = Q (.int (i + j)) st := rfl
@[simp] theorem b_sub : Ok (binD .sub (.int i) (.int j) st) Q = Q (.int (i - j)) st := rfl
@[simp] theorem b_mul : Ok (binD .mul (.int i) (.int j) st) Q = ((small64 i || small64 j) = true ∧ Q (.int (i * j)) st) := by
  show Ok ((if small64 i || small64 j then Pure.pure (.int (i * j)) else stuck) st) Q = _
  cases (small64 i || small64 j) <;> simp
@[simp] theorem b_fdiv : Ok (binD .fdiv (.int i) (.int j) st) Q = ((j ≠ 0 ∧ j.natAbs < 1073741824) ∧ Q (.int (i.fdiv j)) st) := by
  show Ok ((if decide (j ≠ 0) && decide (j.natAbs < 1073741824) then Pure.pure (.int (i.fdiv j)) else stuck) st) Q = _
  by_cases h1 : j = 0 <;> by_cases h2 : j.natAbs < 1073741824 <;> simp [h1, h2]
@[simp] theorem b_mod : Ok (binD .mod (.int i) (.int j) st) Q = (j ≠ 0 ∧ Q (.int (i.fmod j)) st) := by
  show Ok ((if decide (j ≠ 0) then Pure.pure (.int (i.fmod j)) else stuck) st) Q = _
  by_cases h1 : j = 0 <;> simp [h1]
@[simp] theorem b_pow : Ok (binD .pow (.int i) (.int j) st) Q = ((0 ≤ j ∧ j ≤ 1000000 ∧ i.natAbs < 2 ^ 64) ∧ Q (.int (i ^ j.toNat)) st) := by
  show Ok ((if decide (0 ≤ j) && decide (j ≤ 1000000) && decide (i.natAbs < 2 ^ 64) then Pure.pure (.int (i ^ j.toNat)) else stuck) st) Q = _
  by_cases h : (decide (0 ≤ j) && decide (j ≤ 1000000) && decide (i.natAbs < 2 ^ 64)) = true
  · rw [if_pos h]
    simp only [Bool.and_eq_true, decide_eq_true_eq] at h
    exact propext ⟨fun q => ⟨⟨h.1.1, h.1.2, h.2⟩, q⟩, fun q => q.2⟩
  · rw [if_neg h]
    simp only [Bool.and_eq_true, decide_eq_true_eq] at h
    exact propext ⟨fun q => q.elim, fun q => h ⟨⟨q.1.1, q.1.2.1⟩, q.1.2.2⟩⟩
@[simp] theorem b_str (x y : List Nat) : Ok (binD .add (.str x) (.str y) st) Q = (x.length + y.length ≤ SL ∧ Q (.str (x ++ y)) st) := by
  show Ok ((if x.length + y.length ≤ SL then Pure.pure (.str (x ++ y)) else stuck) st) Q = _
  by_cases h : x.length + y.length ≤ SL <;> simp [h]
@[simp] theorem b_rep (x : List Nat) (k : Int) : Ok (binD .mul (.str x) (.int k) st) Q = ((x.length ≤ 100000 ∧ -1000000 ≤ k ∧ k ≤ 100) ∧ Q (.str (List.replicate k.toNat x).flatten) st) := by
  show Ok ((if x.length ≤ 100000 && decide (-1000000 ≤ k) && decide (k ≤ 100) then Pure.pure (.str (List.replicate k.toNat x).flatten) else stuck) st) Q = _
  by_cases h1 : x.length ≤ 100000 <;> by_cases h2 : -1000000 ≤ k <;> by_cases h3 : k ≤ 100 <;> simp [h1, h2, h3]
@[simp] theorem b_tup (x y : List D) : Ok (binD .add (.tup x) (.tup y) st) Q = (x.length + y.length ≤ SL ∧ Q (.tup (x ++ y)) st) := by
  show Ok ((if x.length + y.length ≤ SL then Pure.pure (.tup (x ++ y)) else stuck) st) Q = _
  by_cases h : x.length + y.length ≤ SL <;> simp [h]
@[simp] theorem t_bl (b : Bool) : truthO st (.bl b) = some b := rfl
@[simp] theorem t_int : truthO st (.int i) = some (i != 0) := rfl
@[simp] theorem c_lt : cmpO .lt st (.int i) (.int j) = some (decide (i < j)) := rfl
@[simp] theorem c_le : cmpO .le st (.int i) (.int j) = some (decide (i ≤ j)) := rfl
@[simp] theorem c_gt : cmpO .gt st (.int i) (.int j) = some (decide (j < i)) := rfl
@[simp] theorem c_ge : cmpO .ge st (.int i) (.int j) = some (decide (j ≤ i)) := rfl
@[simp] theorem c_is (x y : D) : cmpO .is_ st x y = isD x y := rfl
@[simp] theorem c_isn (x y : D) : cmpO .isn st x y = (isD x y).map (!·) := rfl
@[simp] theorem c_in (x y : D) : cmpO .isin st x y = inO st x y := rfl
@[simp] theorem c_nin (x y : D) : cmpO .nin st x y = (inO st x y).map (!·) := rfl
@[simp] theorem c_eq (x y : D) : cmpO .eq st x y = eqD st x y := rfl
@[simp] theorem c_ne (x y : D) : cmpO .ne st x y = (eqD st x y).map (!·) := rfl
@[simp] theorem i_bl (a b : Bool) : isD (.bl a) (.bl b) = some (a == b) := rfl
@[simp] theorem e_int : eqD st (.int i) (.int j) = some (i == j) := rfl
@[simp] theorem e_bl (a b : Bool) : eqD st (.bl a) (.bl b) = some (a == b) := rfl
@[simp] theorem in_str (x y : List Nat) : inO st (.str x) (.str y) = some (inStr x y) := rfl
@[simp] theorem l_str (x : List Nat) : lenO st (.str x) = if x.length ≤ SL then some x.length else none := rfl
@[simp] theorem l_fl (x : List D) : lenO st (.fl x) = some x.length := rfl
@[simp] theorem l_tup (x : List D) : lenO st (.tup x) = some x.length := rfl
@[simp] theorem bc_len (x : D) : Ok (bcD .len [x] st) Q = os (lenO st x) fun n => Q (.int n) st := by
  show Ok (rd (fun s => bcO .len s [x]) st) Q = _
  rw [Ok_rd]
  exact os_map _ _ _
@[simp] theorem bc_max : Ok (bcD .max [.int i, .int j] st) Q = Q (.int (if j > i then j else i)) st := rfl
@[simp] theorem bc_min : Ok (bcD .min [.int i, .int j] st) Q = Q (.int (if j < i then j else i)) st := rfl
@[simp] theorem bc_abs : Ok (bcD .abs [.int i] st) Q = Q (.int (if i < 0 then -i else i)) st := rfl
@[simp] theorem bc_sum (x : D) : Ok (bcD .sum [x] st) Q = os ((lstO st x).bind intsOf) fun ns => Q (.int ns.sum) st := by
  show Ok (rd (fun s => bcO .sum s [x]) st) Q = _
  rw [Ok_rd]
  exact os_map _ _ _
@[simp] theorem bc_all (x : D) : Ok (bcD .all [x] st) Q = os ((lstO st x).bind blsOf) fun bs => Q (.bl (bs.all id)) st := by
  show Ok (rd (fun s => bcO .all s [x]) st) Q = _
  rw [Ok_rd]
  exact os_map _ _ _
@[simp] theorem bc_tuple (x : D) : Ok (bcD .tuple [x] st) Q = os (itemsO st x) fun bs => Q (.tup bs) st := by
  show Ok (rd (fun s => bcO .tuple s [x]) st) Q = _
  rw [Ok_rd]
  exact os_map _ _ _
@[simp] theorem bc_list (x : D) : Ok (bcD .list [x] st) Q = os (itemsO st x) fun bs => Q (.loc st.length) (st ++ [.lst bs]) := by
  show Ok ((Bind.bind (m := M) (rd fun s => itemsO s x) fun ys => newC (.lst ys)) st) Q = _
  rw [Ok_bind, Ok_rd]
  rfl
end
/-- a list of the store -/
theorem lst_at {st : Store} {l : Nat} {xs : List D} (h : st[l]? = some (.lst xs)) : lstO st (.loc l) = some xs := by unfold lstO; dsimp only; rw [h]
theorem items_at {st : Store} {l : Nat} {xs : List D} (h : st[l]? = some (.lst xs)) : itemsO st (.loc l) = some xs := lst_at h
theorem ix_at {st : Store} {l : Nat} {xs : List D} (h : st[l]? = some (.lst xs)) (i : Int) : ixO st (.loc l) (.int i) = atI xs i := by unfold ixO; dsimp only; rw [h]; rfl
theorem len_at {st : Store} {l : Nat} {xs : List D} (h : st[l]? = some (.lst xs)) : lenO st (.loc l) = some xs.length := by unfold lenO; dsimp only; rw [h]
theorem truth_at {st : Store} {l : Nat} {xs : List D} (h : st[l]? = some (.lst xs)) : truthO st (.loc l) = some (!xs.isEmpty) := by unfold truthO; dsimp only; rw [h]
theorem mt_append {st : Store} {l : Nat} {xs : List D} (h : st[l]? = some (.lst xs)) : mtTyO .append st (.loc l) = some () := by
  show (match st[l]? with | some (.lst _) => some () | _ => none) = _
  rw [h]
theorem append_at {st : Store} {l : Nat} {xs : List D} {y : D} (h : st[l]? = some (.lst xs)) (hz : xs.length < SL) : mtD .append (.loc l) [y] st = .ok .non (st.set l (.lst (xs ++ [y]))) := by
  show (match st[l]? with | some (.lst xs) => if xs.length < SL then R.ok D.non (st.set l (.lst (xs ++ [y]))) else .no | _ => .no) = _
  rw [h]
  dsimp only
  rw [if_pos hz]
theorem set_at {st : Store} {l : Nat} {xs : List D} {i : Int} {j : Nat} {y : D} (h : st[l]? = some (.lst xs)) (hj : ixN xs.length i = some j) : setIxD (.loc l) (.int i) y st = .ok () (st.set l (.lst (xs.set j y))) := by
  unfold setIxD
  dsimp only
  rw [h]
  dsimp only
  rw [hj]
theorem atI_nat {α : Type} {xs : List α} {i : Nat} {x : α} (h : xs[i]? = some x) : atI xs (i : Int) = some x := by
  have hi := (List.getElem?_eq_some_iff.mp h).1
  unfold atI L2.atI L2.ixN
  rw [if_pos (by omega), if_pos (by omega)]
  simpa using h
@[simp] theorem atI_0 {α : Type} (x : α) (xs : List α) : atI (x :: xs) 0 = some x := atI_nat (i := 0) rfl
@[simp] theorem atI_1 {α : Type} (x y : α) (xs : List α) : atI (x :: y :: xs) 1 = some y := atI_nat (i := 1) rfl
@[simp] theorem atI_2 {α : Type} (x y z : α) (xs : List α) : atI (x :: y :: z :: xs) 2 = some z := atI_nat (i := 2) rfl
theorem atI_ok {α : Type} {xs : List α} {i : Int} (h0 : 0 ≤ i) (h1 : i < xs.length) : ∃ x, atI xs i = some x ∧ x ∈ xs := by
  obtain ⟨n, rfl⟩ := Int.eq_ofNat_of_zero_le h0
  have hn : n < xs.length := by omega
  exact ⟨xs[n], atI_nat (List.getElem?_eq_getElem hn), List.getElem_mem hn⟩
theorem fmod_lt {i m : Int} (h : 0 < m) : 0 ≤ i.fmod m ∧ i.fmod m < m := ⟨Int.fmod_nonneg_of_pos i h, Int.fmod_lt_of_pos i h⟩
@[simp] theorem it_tup (xs : List D) (st : Store) (Q : It → Store → Prop) : Ok (itOf (.tup xs) st) Q = Q (.tup xs) st := rfl
@[simp] theorem it_fl (xs : List D) (st : Store) (Q : It → Store → Prop) : Ok (itOf (.fl xs) st) Q = Q (.tup xs) st := rfl
@[simp] theorem it_str (x : List Nat) (st : Store) (Q : It → Store → Prop) : Ok (itOf (.str x) st) Q = Q (.tup (x.map fun c => .str [c])) st := rfl
@[simp] theorem it_loc (l : Nat) (st : Store) (Q : It → Store → Prop) : Ok (itOf (.loc l) st) Q = os (lstO st (.loc l)) fun _ => Q (.lst l) st := by
  show Ok ((Bind.bind (m := M) (rd fun s => lstO s (.loc l)) fun _ => Pure.pure (It.lst l)) st) Q = _
  simp only [Ok_bind, Ok_rd, Ok_pure]
@[simp] theorem r_1 (j : Int) (st : Store) (Q : It → Store → Prop) : Ok (rngOf [.int j] st) Q = (in62 j = true ∧ Q (.rng 0 1 j.toNat) st) := by
  show Ok ((if in62 j then Pure.pure (It.rng 0 1 j.toNat) else stuck) st) Q = _
  cases in62 j <;> simp
@[simp] theorem r_2 (i j : Int) (st : Store) (Q : It → Store → Prop) : Ok (rngOf [.int i, .int j] st) Q = ((in62 i && in62 j) = true ∧ Q (.rng i 1 (j - i).toNat) st) := by
  show Ok ((if in62 i && in62 j then Pure.pure (It.rng i 1 (j - i).toNat) else stuck) st) Q = _
  cases (in62 i && in62 j) <;> simp
theorem nx_rng {lo c : Int} {n i : Nat} (st : Store) (h : i < n) : nxt (.rng lo c n) i st = .ok (some (.int (lo + i * c))) st := by
  show R.ok (if i < n then some (D.int (lo + i * c)) else none) st = _
  rw [if_pos h]
theorem nx_rng_end {lo c : Int} {n : Nat} (st : Store) : nxt (.rng lo c n) n st = .ok none st := by
  show R.ok (if n < n then some (D.int (lo + n * c)) else none) st = _
  rw [if_neg (Nat.lt_irrefl _)]
theorem nx_tup {xs : List D} {i : Nat} {d : D} (st : Store) (h : xs[i]? = some d) : nxt (.tup xs) i st = .ok (some d) st := by
  show R.ok xs[i]? st = _
  rw [h]
theorem nx_tup_end {xs : List D} (st : Store) : nxt (.tup xs) xs.length st = .ok none st := by
  show R.ok xs[xs.length]? st = _
  rw [List.getElem?_eq_none (Nat.le_refl _)]
theorem nx_lst {l : Nat} {xs : List D} {st : Store} (i : Nat) (h : st[l]? = some (.lst xs)) : nxt (.lst l) i st = .ok xs[i]? st := by
  show (Bind.bind (m := M) (rd fun s => lstO s (.loc l)) fun xs => Pure.pure xs[i]?) st = _
  rw [rd_eq, lst_at h]
  rfl
/-- a list of texts against the empty one -/
theorem shaped_strs : ∀ (xs : List (List Nat)), (∀ x ∈ xs, ∀ c ∈ x, c < 1114112) → PyData.canLayAll0 (xs.map fun x => PyData.str ⟨x.toArray⟩) = true ∧ PyData.depthAll (xs.map fun x => PyData.str ⟨x.toArray⟩) = 0
  | [], _ => ⟨rfl, rfl⟩
  | x :: r, h => by
    obtain ⟨h1, h2⟩ := shaped_strs r fun y hy => h y (List.mem_cons_of_mem _ hy)
    refine ⟨?_, ?_⟩
    · show (PyData.canLay0 (.str ⟨x.toArray⟩) && _) = true
      rw [h1, Bool.and_true]
      show PyData.strOk ⟨x.toArray⟩ = true
      unfold PyData.strOk
      simp only [List.all_toArray, List.all_eq_true, decide_eq_true_eq]
      exact fun c hc => h x List.mem_cons_self c hc
    · show max 0 (PyData.depthAll (r.map fun x => PyData.str ⟨x.toArray⟩)) = 0
      rw [h2]
      rfl
theorem py_strs (st : Store) (n : Nat) : ∀ (xs : List (List Nat)), (xs.map D.str).mapM (py st (n + 1)) = some (xs.map fun x => PyData.str ⟨x.toArray⟩)
  | [] => rfl
  | x :: r => by
    rw [List.map_cons, List.mapM_cons, py_strs st n r]
    rfl
theorem eq_nil {st : Store} {a b : Nat} {xs : List (List Nat)} (ha : st[a]? = some (.lst (xs.map .str))) (hb : st[b]? = some (.lst [])) (h : ∀ x ∈ xs, ∀ c ∈ x, c < 1114112) : eqD st (.loc a) (.loc b) = some xs.isEmpty := by
  obtain ⟨h1, h2⟩ := shaped_strs xs h
  have e1 : py st 60 (.loc a) = some (.list (xs.map fun x => PyData.str ⟨x.toArray⟩)) := by
    show (match st[a]? with | some (.lst xs) => (xs.mapM (py st 59)).map PyData.list | _ => none) = _
    rw [ha]
    dsimp only
    rw [py_strs]
    rfl
  have e2 : py st 60 (.loc b) = some (.list []) := by
    show (match st[b]? with | some (.lst xs) => (xs.mapM (py st 59)).map PyData.list | _ => none) = _
    rw [hb]
    rfl
  unfold eqD
  rw [e1, e2]
  dsimp only
  have s1 : SeqAt.shaped (.list (xs.map fun x => PyData.str ⟨x.toArray⟩)) = true := by
    unfold SeqAt.shaped
    rw [Bool.and_eq_true, decide_eq_true_eq]
    refine ⟨h1, ?_⟩
    show PyData.depthAll _ + 1 ≤ 64
    rw [h2]
    decide
  rw [s1, show SeqAt.shaped (.list []) = true from by decide, Bool.and_self, if_pos rfl]
  cases xs <;> rfl
@[simp] theorem mt_join (z : List Nat) (st : Store) : mtTyO .join st (.str z) = some () := rfl
@[simp] theorem mtD_join (z : List Nat) (x : D) (st : Store) (Q : D → Store → Prop) : Ok (mtD .join (.str z) [x] st) Q = os ((itemsO st x).bind strsOf) fun xs => ((xs.map List.length).sum + z.length * xs.length ≤ SL) ∧ Q (.str (joinL z xs)) st := by
  show Ok (rd (fun s => joinO z s x) st) Q = _
  rw [Ok_rd]
  unfold joinO
  cases (itemsO st x).bind strsOf with
  | none => simp
  | some xs =>
    dsimp only
    by_cases h : (xs.map List.length).sum + z.length * xs.length ≤ SL
    · rw [if_pos h]; simp [h]
    · rw [if_neg h]; simp [h]
theorem strs_map : ∀ (xs : List (List Nat)), strsOf (xs.map .str) = some xs
  | [] => rfl
  | x :: r => by
    show (strsOf (r.map .str)).map (x :: ·) = _
    rw [strs_map r]
    rfl
theorem join_nil : ∀ (xs : List (List Nat)), joinL [] xs = xs.flatten
  | [] => rfl
  | [x] => by simp [joinL]
  | x :: y :: r => by
    show x ++ [] ++ joinL [] (y :: r) = _
    rw [join_nil (y :: r)]
    simp
theorem last_at (s : Store) (c : C) : (s ++ [c])[s.length]? = some c := by simp
@[simp] theorem items_last (s : Store) (xs : List D) : itemsO (s ++ [.lst xs]) (.loc s.length) = some xs := items_at (last_at s _)
@[simp] theorem lst_last (s : Store) (xs : List D) : lstO (s ++ [.lst xs]) (.loc s.length) = some xs := lst_at (last_at s _)
end Ix
end PIx19

section PIx20
set_option Elab.async false
set_option linter.all false
set_option maxRecDepth 100000
set_option autoImplicit false
set_option maxHeartbeats 1000000
/-! Ix20: equality of plain data, stores that grow. -/
namespace Ix
open PySem

/-! ### the store grows -/
theorem pre_get {st s : Store} (h : st <+: s) {l : Nat} {c : C} (e : st[l]? = some c) : s[l]? = some c := by
  obtain ⟨r, rfl⟩ := h
  rw [List.getElem?_append_left (List.getElem?_eq_some_iff.mp e).1]
  exact e
theorem pre_set {st s : Store} (h : st <+: s) {l : Nat} (hl : st.length ≤ l) (c : C) : st <+: s.set l c := by
  obtain ⟨r, rfl⟩ := h
  rw [List.set_append_right _ _ hl]
  exact List.prefix_append _ _
theorem pre_app (st : Store) (r : List C) : st <+: st ++ r := List.prefix_append _ _
theorem pre_len {st s : Store} (h : st <+: s) : st.length ≤ s.length := h.length_le
/-! ### data that hold nothing changeable -/
def good : Nat → D → Bool
  | 0, _ => false
  | _ + 1, .non => true
  | _ + 1, .bl _ => true
  | _ + 1, .int _ => true
  | _ + 1, .str x => x.all fun c => decide (c < 1114112)
  | n + 1, .tup xs => xs.all (good n)
  | _ + 1, _ => false
/-- as nested data -/
def pz : Nat → D → PyData
  | _ + 1, .bl b => .bool b
  | _ + 1, .int i => .int i
  | _ + 1, .str x => .str ⟨x.toArray⟩
  | n + 1, .tup xs => .tuple (xs.map (pz n))
  | _, _ => .none
/-- are they equal? -/
def eqz : Nat → D → D → Bool
  | _ + 1, .non, .non => true
  | _ + 1, .bl a, .bl b => a == b
  | _ + 1, .bl a, .int j => (if a then 1 else 0) == j
  | _ + 1, .int i, .bl b => i == (if b then 1 else 0)
  | _ + 1, .int i, .int j => i == j
  | _ + 1, .str x, .str y => x == y
  | n + 1, .tup xs, .tup ys => decide (xs.length = ys.length) && (xs.zip ys).all fun p => eqz n p.1 p.2
  | _, _, _ => false
theorem lay_all {ps : List PyData} (h : ∀ p ∈ ps, PyData.canLay0 p = true) : PyData.canLayAll0 ps = true := by
  induction ps with
  | nil => rfl
  | cons x r ih =>
    show (PyData.canLay0 x && PyData.canLayAll0 r) = true
    rw [h x List.mem_cons_self, ih fun p hp => h p (List.mem_cons_of_mem _ hp)]
    rfl
theorem depth_all {n : Nat} {ps : List PyData} (h : ∀ p ∈ ps, PyData.depth p ≤ n) : PyData.depthAll ps ≤ n := by
  induction ps with
  | nil => exact Nat.zero_le _
  | cons x r ih =>
    show max (PyData.depth x) (PyData.depthAll r) ≤ n
    have h1 := h x List.mem_cons_self
    have h2 := ih fun p hp => h p (List.mem_cons_of_mem _ hp)
    omega
theorem mapM_good {st : Store} {n m : Nat} (ih : ∀ d, good n d = true → py st m d = some (pz n d)) : ∀ {xs : List D}, xs.all (good n) = true → xs.mapM (py st m) = some (xs.map (pz n))
  | [], _ => rfl
  | x :: r, h => by
    rw [List.all_cons, Bool.and_eq_true] at h
    rw [List.mapM_cons, ih x h.1, mapM_good ih h.2]
    rfl
theorem good_py {st : Store} : ∀ (n m : Nat) (d : D), good n d = true → n ≤ m → py st m d = some (pz n d)
  | 0, _, _, h, _ => by cases h
  | n + 1, 0, _, _, h => by omega
  | n + 1, m + 1, d, h, hm => by
    cases d with
    | non => rfl
    | bl b => rfl
    | int i => rfl
    | str x => rfl
    | tup xs =>
      have h' : xs.all (good n) = true := h
      show (xs.mapM (py st m)).map PyData.tuple = some (.tuple (xs.map (pz n)))
      rw [mapM_good (fun d hd => good_py n m d hd (by omega)) h']
      rfl
    | fl _ => cases h
    | loc _ => cases h
theorem good_lay : ∀ (n : Nat) (d : D), good n d = true → PyData.canLay0 (pz n d) = true ∧ PyData.depth (pz n d) ≤ n
  | 0, _, h => by cases h
  | n + 1, d, h => by
    cases d with
    | non => exact ⟨rfl, Nat.zero_le _⟩
    | bl b => exact ⟨rfl, Nat.zero_le _⟩
    | int i => exact ⟨rfl, Nat.zero_le _⟩
    | str x =>
      refine ⟨?_, Nat.zero_le _⟩
      show PyData.strOk ⟨x.toArray⟩ = true
      have h' : (x.all fun c => decide (c < 1114112)) = true := h
      unfold PyData.strOk
      simpa using h'
    | tup xs =>
      have h' : xs.all (good n) = true := h
      rw [List.all_eq_true] at h'
      refine ⟨lay_all fun p hp => ?_, ?_⟩
      · obtain ⟨d, hd, rfl⟩ := List.mem_map.mp hp
        exact (good_lay n d (h' d hd)).1
      · show PyData.depthAll (xs.map (pz n)) + 1 ≤ n + 1
        have := depth_all (n := n) (ps := xs.map (pz n)) fun p hp => by
          obtain ⟨d, hd, rfl⟩ := List.mem_map.mp hp
          exact (good_lay n d (h' d hd)).2
        omega
    | fl _ => cases h
    | loc _ => cases h
theorem str_beq (x y : List Nat) : ((⟨x.toArray⟩ : Str) == ⟨y.toArray⟩) = (x == y) := by
  rw [Bool.eq_iff_iff, beq_iff_eq, beq_iff_eq]
  exact ⟨fun e => by injection e with e; injection e, fun e => by rw [e]⟩
theorem eqv_all {n : Nat} (ih : ∀ a b, good n a = true → good n b = true → PyData.eqv (pz n a) (pz n b) = eqz n a b) : ∀ (xs ys : List D), xs.all (good n) = true → ys.all (good n) = true →
    PyData.eqvAll (xs.map (pz n)) (ys.map (pz n)) = (decide (xs.length = ys.length) && (xs.zip ys).all fun p => eqz n p.1 p.2)
  | [], [], _, _ => rfl
  | [], _ :: _, _, _ => rfl
  | _ :: _, [], _, _ => rfl
  | x :: xs, y :: ys, h1, h2 => by
    rw [List.all_cons, Bool.and_eq_true] at h1 h2
    show (PyData.eqv (pz n x) (pz n y) && PyData.eqvAll (xs.map (pz n)) (ys.map (pz n))) = _
    rw [ih x y h1.1 h2.1, eqv_all ih xs ys h1.2 h2.2, List.zip_cons_cons, List.all_cons, List.length_cons, List.length_cons]
    cases eqz n x y <;> simp
theorem good_eqv : ∀ (n : Nat) (a b : D), good n a = true → good n b = true → PyData.eqv (pz n a) (pz n b) = eqz n a b
  | 0, _, _, h, _ => by cases h
  | n + 1, a, b, h1, h2 => by
    cases a with
    | fl _ => cases h1
    | loc _ => cases h1
    | non => cases b <;> first | rfl | (cases h2; done)
    | bl x => cases b <;> first | rfl | (cases h2; done)
    | int x => cases b <;> first | rfl | (cases h2; done)
    | str x =>
      cases b with
      | str y => exact str_beq x y
      | fl _ => cases h2
      | loc _ => cases h2
      | _ => rfl
    | tup xs =>
      cases b with
      | tup ys => exact eqv_all (fun a b => good_eqv n a b) xs ys h1 h2
      | fl _ => cases h2
      | loc _ => cases h2
      | _ => rfl
theorem good_shaped {n : Nat} {d : D} (h : good n d = true) (hn : n ≤ 60) : SeqAt.shaped (pz n d) = true := by
  unfold SeqAt.shaped
  rw [Bool.and_eq_true, decide_eq_true_eq]
  obtain ⟨h1, h2⟩ := good_lay n d h
  exact ⟨h1, by omega⟩
theorem good_shapedL {n : Nat} {xs : List D} (h : xs.all (good n) = true) (hn : n ≤ 59) : SeqAt.shaped (.list (xs.map (pz n))) = true := by
  unfold SeqAt.shaped
  rw [Bool.and_eq_true, decide_eq_true_eq]
  rw [List.all_eq_true] at h
  refine ⟨lay_all fun p hp => ?_, ?_⟩
  · obtain ⟨d, hd, rfl⟩ := List.mem_map.mp hp
    exact (good_lay n d (h d hd)).1
  · show PyData.depthAll (xs.map (pz n)) + 1 ≤ 64
    have := depth_all (n := n) (ps := xs.map (pz n)) fun p hp => by
      obtain ⟨d, hd, rfl⟩ := List.mem_map.mp hp
      exact (good_lay n d (h d hd)).2
    omega
/-- two such -/
theorem eq_good {st : Store} (n : Nat) {a b : D} (h1 : good n a = true) (h2 : good n b = true) (hn : n ≤ 59) : eqD st a b = some (eqz n a b) := by
  unfold eqD
  rw [good_py n 60 a h1 (by omega), good_py n 60 b h2 (by omega)]
  dsimp only
  rw [good_shaped h1 (by omega), good_shaped h2 (by omega), Bool.and_self, if_pos rfl, good_eqv n a b h1 h2]
theorem py_loc {st : Store} {n l : Nat} {xs : List D} (h : st[l]? = some (.lst xs)) (hx : xs.all (good n) = true) (hn : n ≤ 59) : py st 60 (.loc l) = some (.list (xs.map (pz n))) := by
  show (match st[l]? with | some (.lst xs) => (xs.mapM (py st 59)).map PyData.list | _ => none) = _
  rw [h]
  dsimp only
  rw [mapM_good (fun d hd => good_py n 59 d hd hn) hx]
  rfl
/-- two lists of such -/
theorem eq_lists {st : Store} (n : Nat) {a b : Nat} {xs ys : List D} (ha : st[a]? = some (.lst xs)) (hb : st[b]? = some (.lst ys)) (h1 : xs.all (good n) = true) (h2 : ys.all (good n) = true) (hn : n ≤ 59) :
    eqD st (.loc a) (.loc b) = some (decide (xs.length = ys.length) && (xs.zip ys).all fun p => eqz n p.1 p.2) := by
  unfold eqD
  rw [py_loc ha h1 hn, py_loc hb h2 hn]
  dsimp only
  rw [good_shapedL h1 hn, good_shapedL h2 hn, Bool.and_self, if_pos rfl]
  exact congrArg some (eqv_all (fun a b => good_eqv n a b) xs ys h1 h2)
/-- x in a list of such -/
theorem in_good {st : Store} (n : Nat) {l : Nat} {x : D} {xs : List D} (hl : st[l]? = some (.lst xs)) (h1 : good n x = true) (h2 : xs.all (good n) = true) (hn : n ≤ 59) : inO st x (.loc l) = some (xs.any fun y => eqz n y x) := by
  have e : inO st x (.loc l) = inList st x (.loc l) := by
    unfold inO
    dsimp only
    rw [hl]
  rw [e]
  unfold inList
  rw [good_py n 60 x h1 (by omega), py_loc hl h2 hn]
  dsimp only
  rw [good_shaped h1 (by omega), good_shapedL h2 hn, Bool.and_self, if_pos rfl]
  congr 1
  rw [List.any_map]
  rw [List.all_eq_true] at h2
  induction xs with
  | nil => rfl
  | cons y r ih =>
    rw [List.any_cons, List.any_cons]
    show (PyData.eqv (pz n y) (pz n x) || _) = _
    rw [good_eqv n y x (h2 y List.mem_cons_self) h1]
    congr 1
    clear ih hl e
    induction r with
    | nil => rfl
    | cons z r ih =>
      rw [List.any_cons, List.any_cons]
      show (PyData.eqv (pz n z) (pz n x) || _) = _
      rw [good_eqv n z x (h2 z (List.mem_cons_of_mem _ List.mem_cons_self)) h1]
      congr 1
      exact ih fun w hw => h2 w (by
        rcases List.mem_cons.mp hw with q | q
        · rw [q]; exact List.mem_cons_self
        · exact List.mem_cons_of_mem _ (List.mem_cons_of_mem _ q))
theorem eq_ints {st : Store} {a b : Nat} {xs ys : List Int} (ha : st[a]? = some (.lst (xs.map .int))) (hb : st[b]? = some (.lst (ys.map .int))) : eqD st (.loc a) (.loc b) = some (xs == ys) := by
  have g : ∀ xs : List Int, (xs.map D.int).all (good 1) = true := fun xs => by
    rw [List.all_map, List.all_eq_true]
    exact fun _ _ => rfl
  rw [eq_lists 1 ha hb (g xs) (g ys) (by decide)]
  congr 1
  clear ha hb
  induction xs generalizing ys with
  | nil => cases ys <;> rfl
  | cons x r ih =>
    cases ys with
    | nil => rfl
    | cons y q =>
      have := ih (ys := q)
      simp only [List.length_map, List.length_cons, List.map_cons, List.zip_cons_cons, List.all_cons] at this ⊢
      show _ = ((x == y) && (r == q))
      rw [← this]
      show (decide (r.length + 1 = q.length + 1) && ((x == y) && _)) = _
      cases (x == y) <;> simp
theorem eq_nilG {st : Store} (n : Nat) {a b : Nat} {xs : List D} (ha : st[a]? = some (.lst xs)) (hb : st[b]? = some (.lst [])) (h1 : xs.all (good n) = true) (hn : n ≤ 59) : eqD st (.loc a) (.loc b) = some xs.isEmpty := by
  rw [eq_lists n ha hb h1 rfl hn]
  cases xs <;> rfl
end Ix
end PIx20

section PFd2
set_option Elab.async false
set_option linter.all false
set_option maxRecDepth 100000
set_option autoImplicit false
set_option maxHeartbeats 1000000
/-! Fd1: what the laws' own feeds do, for any table that holds them. -/
namespace Ix
open PySem

/-- a def of a table by its body -/
structure At (T : List Df) (f p n : Nat) (b : S) : Prop where
  ex : ∃ d, T[f]? = some d ∧ d.body = b ∧ d.ps.length = p ∧ d.N.length = n
theorem At.run {T : List Df} {f p n fu k : Nat} {b : S} (a : At T f p n b) {xs : List D} {st : Store} {Q : D → Store → Prop} (hx : xs.length = p)
    (h : Ok (Ix.ex ⟨fu, callN fu (tbOf T) k⟩ b (xs.map some ++ List.replicate (n - xs.length) none) st) fun o s => match o with
      | .rt x => Q x s
      | .nx _ => Q .non s
      | _ => False) : Ok (callN fu (tbOf T) (k + 1) f xs st) Q := by
  obtain ⟨d, h1, rfl, rfl, rfl⟩ := a.ex
  exact Ok_run h1 hx h
theorem small_of {i : Int} (h0 : 0 ≤ i) (h1 : i < 18446744073709551616) : small64 i = true := by
  simp [small64]; omega
def mixB : S := (.seq (.asg (.nm 2) (.bin .mod (.bin .add (.bin .mod (.var 0) (.con (.int 1000000009))) (.bin .mul (.con (.int 92821)) (.bin .add (.var 1) (.con (.int 1))))) (.con (.int 1000000007)))) (.seq (.asg (.nm 2) (.bin .mod (.bin .mul (.var 2) (.var 2)) (.con (.int 998244353)))) (.seq (.asg (.nm 2) (.bin .mod (.bin .add (.bin .mul (.var 2) (.con (.int 40014))) (.bin .mul (.con (.int 12211)) (.bin .add (.var 1) (.con (.int 1))))) (.con (.int 2147483563)))) (.seq (.ret (.bin .fdiv (.bin .mod (.bin .mul (.var 2) (.var 2)) (.con (.int 1000000009))) (.con (.int 32)))) .skip))))
theorem mix_ok {T : List Df} {f fu k : Nat} (a : At T f 2 3 mixB) {c i : Int} {st : Store} {Q : D → Store → Prop} (hQ : ∀ r, 0 ≤ r → Q (.int r) st) : Ok (callN fu (tbOf T) (k + 1) f [.int c, .int i] st) Q := by
  refine a.run rfl ?_
  have b1 := fmod_lt (i := c.fmod 1000000009 + 92821 * (i + 1)) (m := 1000000007) (by decide)
  have s1 : small64 ((c.fmod 1000000009 + 92821 * (i + 1)).fmod 1000000007) = true := small_of b1.1 (by omega)
  have s2 : small64 92821 = true := by decide
  have s3 : small64 40014 = true := by decide
  have s4 : small64 12211 = true := by decide
  simp [mixB, atV, setV, s1, s2, s3, s4]
  generalize ((c.fmod 1000000009 + 92821 * (i + 1)).fmod 1000000007 * (c.fmod 1000000009 + 92821 * (i + 1)).fmod 1000000007).fmod 998244353 * 40014 + 12211 * (i + 1) = z
  have b2 := fmod_lt (i := z) (m := 2147483563) (by decide)
  have s5 : small64 (z.fmod 2147483563) = true := small_of b2.1 (by omega)
  refine ⟨s5, hQ _ ?_⟩
  generalize (z.fmod 2147483563 * z.fmod 2147483563) = w
  have b3 := fmod_lt (i := w) (m := 1000000009) (by decide)
  rw [Int.fdiv_eq_ediv_of_nonneg _ (by decide)]
  exact Int.ediv_nonneg b3.1 (by decide)
def digB (fm : Nat) : S := (.seq (.asg (.nm 2) (.lst .nil)) (.seq (.asg (.nm 3) (.bc .abs (.cons (.var 0) .nil))) (.seq (.asg (.nm 4) (.cmp .ge (.var 3) (.bin .pow (.con (.int 10)) (.con (.int 18))))) (.seq (.for_ (.nm 5) (.rng (.cons (.var 1) .nil))
  (.seq (.if_ (.and (.cons (.var 4) (.cons (.cmp .gt (.var 3) (.con (.int 0))) .nil)))
  (.seq (.expr (.mt .append (.var 2) (.cons (.bin .mod (.var 3) (.con (.int 9973))) .nil))) (.seq (.asg (.nm 3) (.bin .fdiv (.var 3) (.con (.int 9973)))) .skip))
  (.seq (.expr (.mt .append (.var 2) (.cons (.call fm (.cons (.var 0) (.cons (.var 5) .nil))) .nil))) .skip)) .skip)) (.seq (.ret (.var 2)) .skip)))))
theorem set_last (st : Store) (c c' : C) : (st ++ [c]).set st.length c' = st ++ [c'] := by
  rw [List.set_append_right _ _ (Nat.le_refl _), Nat.sub_self]
  rfl
@[simp] theorem append_last (st : Store) (xs : List D) (y : D) (Q : D → Store → Prop) : Ok (mtD .append (.loc st.length) [y] (st ++ [.lst xs])) Q = (xs.length < SL ∧ Q .non (st ++ [.lst (xs ++ [y])])) := by
  have h := last_at st (.lst xs)
  by_cases hz : xs.length < SL
  · rw [append_at h hz, set_last]
    simp [hz]
  · have : mtD .append (.loc st.length) [y] (st ++ [.lst xs]) = .no := by
      show appendD (.loc st.length) [y] (st ++ [.lst xs]) = _
      unfold appendD
      dsimp only
      rw [h]
      dsimp only
      rw [if_neg hz]
    rw [this]
    simp [hz, Ok]
@[simp] theorem mtT_last (st : Store) (xs : List D) : mtTyO .append (st ++ [.lst xs]) (.loc st.length) = some () := mt_append (last_at st _)
theorem dig_ok {T : List Df} {f fm fu k n : Nat} (a : At T f 2 6 (digB fm)) (am : At T fm 2 3 mixB) (hn : n < 1000) (hfu : n < fu) {c m : Int} (hm : m = (n : Int)) {st : Store} {Q : D → Store → Prop} (hQ : ∀ xs : List Int, xs.length = n → (∀ x ∈ xs, 0 ≤ x) → Q (.loc st.length) (st ++ [.lst (xs.map .int)])) :
    Ok (callN fu (tbOf T) (k + 2) f [.int c, .int m] st) Q := by
  refine a.run rfl ?_
  simp [digB, atV, setV, SL]
  have i62 : in62 m = true := by simp [in62]; omega
  have tn : m.toNat = n := by omega
  rw [tn]
  refine ⟨i62, ?_⟩
  have l0 : (0 : Int) ≤ if c < 0 then -c else c := by split <;> omega
  generalize (if c < 0 then -c else c) = left at l0
  generalize decide ((1000000000000000000 : Int) ≤ left) = wide
  refine forL_inv (fun i v s => ∃ (xs : List Int) (l : Int) (x5 : Option D), xs.length = i ∧ (∀ x ∈ xs, 0 ≤ x) ∧ 0 ≤ l ∧ s = st ++ [.lst (xs.map .int)] ∧ v = [some (.int c), some (.int m), some (.loc st.length), some (.int l), some (.bl wide), x5]) _ n (fun i => .int (0 + i * 1))
    (fun i v s hi _ => nx_rng s hi) (fun v s _ => nx_rng_end s) (fun v s I => ?_) (fun i v s hi I => ?_) fu 0 _ _ (Nat.zero_le _) (by omega) ⟨[], left, none, rfl, by simp, l0, rfl, rfl⟩
  · obtain ⟨xs, l, x5, h1, h2, h3, rfl, rfl⟩ := I
    exact hQ xs h1 h2
  · obtain ⟨xs, l, x5, h1, h2, h3, rfl, rfl⟩ := I
    have hz : xs.length < 16777216 := by omega
    simp only [Ok_bind, x_nm]
    simp [setV, atV, hz, SL]
    have app : Ok (callN fu (tbOf T) (k + 1) fm [.int c, .int i] (st ++ [.lst (xs.map .int)])) fun x s => Ok (mtD .append (.loc st.length) [x] s) fun x s => ∃ ys : List Int, ys.length = i + 1 ∧ (∀ x ∈ ys, 0 ≤ x) ∧ 0 ≤ l ∧ s = st ++ [.lst (ys.map .int)] := by
      refine mix_ok am fun r hr => ?_
      rw [append_last]
      refine ⟨by rw [List.length_map]; exact hz, xs ++ [r], by simp [h1], fun x hx => ?_, h3, by simp⟩
      rcases List.mem_append.mp hx with q | q
      · exact h2 x q
      · rw [List.mem_singleton.mp q]; exact hr
    cases wide with
    | false => simpa using app
    | true =>
      by_cases hl : 0 < l
      · rw [if_pos rfl, if_pos hl]
        refine ⟨xs ++ [l.fmod 9973], by simp [h1], fun x hx => ?_, ?_, by simp⟩
        · rcases List.mem_append.mp hx with q | q
          · exact h2 x q
          · rw [List.mem_singleton.mp q]; exact (fmod_lt (by decide)).1
        · rw [Int.fdiv_eq_ediv_of_nonneg _ (by decide)]; exact Int.ediv_nonneg h3 (by decide)
      · rw [if_pos rfl, if_neg hl]
        exact app

theorem ix_str {x : List Nat} {r : Int} (h0 : 0 ≤ r) (h1 : r < x.length) (hz : x.length ≤ SL) : ∃ c, c ∈ x ∧ ∀ st, ixO st (.str x) (.int r) = some (.str [c]) := by
  obtain ⟨c, h2, h3⟩ := atI_ok (xs := x) h0 h1
  refine ⟨c, h3, fun st => ?_⟩
  show (if x.length ≤ SL then (atI x r).map fun c => D.str [c] else none) = _
  rw [if_pos hz, h2]
  rfl
def atB : S := (.seq (.if_ (.cmp .lt (.var 1) (.bc .len (.cons (.var 0) .nil)))
  (.seq (.ret (.ix (.var 0) (.var 1))) .skip)
  .skip) (.seq (.ret (.bin .add (.bin .add (.bin .mul (.con (.int 61)) (.var 1)) (.con (.int 17))) (.bc .len (.cons (.var 0) .nil)))) .skip))
theorem at_ok {T : List Df} {f fu k : Nat} (a : At T f 2 2 atB) {ns : List Int} {i : Int} (hi : 0 ≤ i) {st : Store} {Q : D → Store → Prop} (hQ : ∀ r, Q (.int r) st) : Ok (callN fu (tbOf T) (k + 1) f [.fl (ns.map .int), .int i] st) Q := by
  refine a.run rfl ?_
  by_cases h : i < (ns.length : Int)
  · obtain ⟨x, h1, h2⟩ := atI_ok (xs := ns.map D.int) (i := i) hi (by simpa using h)
    have e : ixO st (.fl (ns.map .int)) (.int i) = some x := h1
    obtain ⟨r, _, rfl⟩ := List.mem_map.mp h2
    simp [atB, atV, setV, h, e, hQ]
  · have s1 : small64 61 = true := by decide
    simp [atB, atV, setV, h, s1, hQ]
abbrev ltrs : List Nat := [97, 98, 99, 100, 101, 102, 103, 104, 105, 106, 107, 108, 109, 110, 111, 112, 113, 114, 115, 116, 117, 118, 119, 120, 121, 122]
theorem ltrs_ok : ∀ c ∈ ltrs, c < 1114112 := by decide
/-- a short text of small letters -/
def tagOk (x : List Nat) : Prop := 1 ≤ x.length ∧ x.length ≤ 4 ∧ ∀ c ∈ x, c ∈ ltrs
theorem tagOk.code {x : List Nat} (h : tagOk x) : ∀ c ∈ x, c < 1114112 := fun c hc => ltrs_ok c (h.2.2 c hc)
def tagsB : S := (.seq (.asg (.nm 2) (.con (.str [97, 98, 99, 100, 101, 102, 103, 104, 105, 106, 107, 108, 109, 110, 111, 112, 113, 114, 115, 116, 117, 118, 119, 120, 121, 122]))) (.seq (.asg (.nm 3) (.bin .mul (.ix (.var 2) (.bin .mod (.var 1) (.con (.int 26)))) (.bin .mod (.bin .fdiv (.var 1) (.con (.int 26))) (.con (.int 4))))) (.seq (.asg (.nm 4) (.lst .nil)) (.seq (.for_ (.nm 5) (.rng (.cons (.var 0) .nil))
  (.seq (.asg (.nm 6) (.ix (.var 2) (.bin .mod (.bin .add (.bin .fdiv (.var 1) (.con (.int 104))) (.bin .mul (.con (.int 5)) (.var 5))) (.con (.int 26))))) (.seq (.if_ (.cmp .eq (.bin .mod (.bin .fdiv (.var 1) (.con (.int 2704))) (.con (.int 2))) (.con (.int 0)))
  (.seq (.expr (.mt .append (.var 4) (.cons (.bin .add (.var 6) (.var 3)) .nil))) .skip)
  (.seq (.expr (.mt .append (.var 4) (.cons (.bin .add (.var 3) (.var 6)) .nil))) .skip)) .skip))) (.seq (.ret (.var 4)) .skip)))))
theorem tags_ok {T : List Df} {f fu k n : Nat} (a : At T f 2 7 tagsB) (hn : n < 1000) (hfu : n < fu) {m o : Int} (hm : m = (n : Int)) {st : Store} {Q : D → Store → Prop}
    (hQ : ∀ xs : List (List Nat), xs.length = n → (∀ x ∈ xs, tagOk x) → Q (.loc st.length) (st ++ [.lst (xs.map .str)])) : Ok (callN fu (tbOf T) (k + 1) f [.int m, .int o] st) Q := by
  refine a.run rfl ?_
  have b1 := fmod_lt (i := o) (m := 26) (by decide)
  have b2 := fmod_lt (i := o.fdiv 26) (m := 4) (by decide)
  obtain ⟨c, hc, e1⟩ := ix_str (x := ltrs) b1.1 b1.2 (by decide)
  have k1 : -1000000 ≤ (o.fdiv 26).fmod 4 := by omega
  have k2 : (o.fdiv 26).fmod 4 ≤ 100 := by omega
  have i62 : in62 m = true := by simp [in62]; omega
  simp [tagsB, atV, setV, SL, e1, k1, k2, i62]
  have tn : m.toNat = n := by omega
  rw [tn]
  have hb : ∃ y : List Nat, List.replicate ((o.fdiv 26).fmod 4).toNat c = y ∧ y.length ≤ 3 ∧ ∀ x ∈ y, x ∈ ltrs := by
    refine ⟨_, rfl, ?_, ?_⟩
    · simp; omega
    · intro x hx
      rw [(List.mem_replicate.mp hx).2]
      exact hc
  obtain ⟨y, ey, hy, hyc⟩ := hb
  rw [ey]
  refine forL_inv (fun i v s => ∃ (xs : List (List Nat)) (x5 x6 : Option D), xs.length = i ∧ (∀ x ∈ xs, tagOk x) ∧ s = st ++ [.lst (xs.map .str)] ∧ v = [some (.int m), some (.int o), some (.str ltrs), some (.str y), some (.loc st.length), x5, x6]) _ n (fun i => .int (0 + i * 1))
    (fun i v s hi _ => nx_rng s hi) (fun v s _ => nx_rng_end s) (fun v s I => ?_) (fun i v s hi I => ?_) fu 0 _ _ (Nat.zero_le _) (by omega) ⟨[], none, none, rfl, by simp, rfl, rfl⟩
  · obtain ⟨xs, x5, x6, h1, h2, rfl, rfl⟩ := I
    exact hQ xs h1 h2
  · obtain ⟨xs, x5, x6, h1, h2, rfl, rfl⟩ := I
    have hz : xs.length < 16777216 := by omega
    have b3 := fmod_lt (i := o.fdiv 104 + 5 * (i : Int)) (m := 26) (by decide)
    obtain ⟨c2, hc2, e2⟩ := ix_str (x := ltrs) b3.1 b3.2 (by decide)
    have s5 : small64 5 = true := by decide
    have l1 : y.length + 1 ≤ 16777216 := by omega
    have l2 : 1 + y.length ≤ 16777216 := by omega
    have cc : c2 ∈ ltrs := hc2
    have fin : ∀ {z : List Nat}, tagOk z → ∃ ys : List (List Nat), ys.length = i + 1 ∧ (∀ x ∈ ys, tagOk x) ∧ xs.map D.str ++ [D.str z] = ys.map .str := fun {z} hzc =>
      ⟨xs ++ [z], by simp [h1], fun x hx => by
        rcases List.mem_append.mp hx with q | q
        · exact h2 x q
        · rw [List.mem_singleton.mp q]; exact hzc, by simp⟩
    simp only [Ok_bind, x_nm]
    simp [setV, atV, hz, SL, e2, s5, l1, l2]
    by_cases hp : (o.fdiv 2704).fmod 2 = 0
    · rw [if_pos hp]
      exact fin ⟨by simp, by simp; omega, fun x hx => by
        rcases List.mem_cons.mp hx with q | q
        · rw [q]; exact cc
        · exact hyc x q⟩
    · rw [if_neg hp]
      exact fin ⟨by simp, by simp; omega, fun x hx => by
        rcases List.mem_append.mp hx with q | q
        · exact hyc x q
        · rw [List.mem_singleton.mp q]; exact cc⟩

/-! ### grounds -/
abbrev Mv := List Nat × Int × Int
def mvD (m : Mv) : D := .tup [.str m.1, .int m.2.1, .int m.2.2]
def keyD (m : Mv) : D := .tup [.str m.1, .int m.2.1]
def grD (many : Int) (ms : List Mv) : D := .tup [.int many, .tup (ms.map mvD)]
/-- another key -/
def nkey (a b : Mv) : Prop := ¬ (a.1 = b.1 ∧ a.2.1 = b.2.1)
structure Gr (many : Int) (ms : List Mv) : Prop where
  lo : 1 ≤ many
  hi : many ≤ 12
  tag : ∀ m ∈ ms, tagOk m.1
  pl : ∀ m ∈ ms, 0 ≤ m.2.1 ∧ m.2.1 < many ∧ 0 ≤ m.2.2 ∧ m.2.2 < many
  nd : ms.Pairwise nkey
  len : ms.length ≤ 63
def groundB (fd fa ft : Nat) : S := (.seq (.asg (.nm 1) (.call fd (.cons (.call fa (.cons (.var 0) (.cons (.con (.int 0)) .nil))) (.cons (.con (.int 6)) .nil)))) (.seq (.asg (.nm 2) (.bin .add (.con (.int 1)) (.bin .mod (.ix (.var 1) (.con (.int 0))) (.con (.int 12))))) (.seq (.asg (.nm 3) (.call ft (.cons (.bin .add (.con (.int 1)) (.bin .mod (.ix (.var 1) (.con (.int 1))) (.con (.int 12)))) (.cons (.ix (.var 1) (.con (.int 2))) .nil)))) (.seq (.asg (.nm 4) (.lst .nil)) (.seq (.asg (.nm 5) (.lst .nil)) (.seq (.for_ (.nm 6) (.plain (.sl (.var 0) (.some (.con (.int 1))) (.some (.con (.int 40)))))
  (.seq (.asg (.nm 7) (.call fd (.cons (.var 6) (.cons (.con (.int 3)) .nil)))) (.seq (.asg (.nm 8) (.tup (.cons (.ix (.var 3) (.bin .mod (.ix (.var 7) (.con (.int 0))) (.bc .len (.cons (.var 3) .nil)))) (.cons (.bin .mod (.ix (.var 7) (.con (.int 1))) (.var 2)) .nil)))) (.seq (.if_ (.cmp .nin (.var 8) (.var 5))
  (.seq (.expr (.mt .append (.var 5) (.cons (.var 8) .nil))) (.seq (.expr (.mt .append (.var 4) (.cons (.bin .add (.var 8) (.tup (.cons (.bin .mod (.ix (.var 7) (.con (.int 2))) (.var 2)) .nil))) .nil))) .skip))
  .skip) .skip)))) (.seq (.ret (.tup (.cons (.var 2) (.cons (.bc .tuple (.cons (.var 4) .nil)) .nil)))) .skip)))))))
theorem slD_fl (xs : List D) (lo hi : Option Int) (st : Store) (Q : D → Store → Prop) : Ok (slD (.fl xs) lo hi st) Q = Q (.loc st.length) (st ++ [.lst (cutL xs lo hi)]) := rfl
theorem cut_map {α β : Type} (f : α → β) (xs : List α) (lo hi : Option Int) : cutL (xs.map f) lo hi = (cutL xs lo hi).map f := by
  unfold cutL
  rw [List.length_map, List.map_take, List.map_drop]
theorem ground_ok {T : List Df} {f fd fa ft fm fu k : Nat} (a : At T f 1 9 (groundB fd fa ft)) (ad : At T fd 2 6 (digB fm)) (am : At T fm 2 3 mixB) (aa : At T fa 2 2 atB) (at' : At T ft 2 7 tagsB) (hfu : 100 < fu) {ns : List Int} (hn : ns.length ≤ 63) {st : Store} {Q : D → Store → Prop}
    (hQ : ∀ many ms s, Gr many ms → st <+: s → Q (grD many ms) s) : Ok (callN fu (tbOf T) (k + 3) f [.fl (ns.map .int)] st) Q := by
  refine a.run rfl ?_
  simp [groundB, atV, setV, SL]
  refine at_ok aa (k := k + 1) (by decide) fun r => ?_
  refine dig_ok ad am (k := k) (n := 6) (by decide) (by omega) rfl fun xs x1 x2 => ?_
  match xs, x1, x2 with
  | [y0, y1, y2, y3, y4, y5], _, x2 =>
    have p1 := fmod_lt (i := y1) (m := 12) (by decide)
    have p0 := fmod_lt (i := y0) (m := 12) (by decide)
    obtain ⟨n1, e1⟩ := Int.eq_ofNat_of_zero_le (a := 1 + y1.fmod 12) (by omega)
    generalize hm : 1 + y0.fmod 12 = many
    simp [ix_at (last_at _ _), slD_fl, cut_map, hm]
    refine tags_ok at' (k := k + 1) (n := n1) (by omega) (by omega) e1 fun ts t1 t2 => ?_
    simp
    have n1p : 1 ≤ n1 := by omega
    have tl : 1 ≤ ts.length := by omega
    generalize hcs : cutL ns (some 1) (some 40) = cells
    have cl : cells.length ≤ 63 := by
      rw [← hcs]
      unfold cutL
      rw [List.length_take, List.length_drop]
      omega
    have many1 : 1 ≤ many ∧ many ≤ 12 := by omega
    have gt : ∀ (r : List C) (j : Nat), (st ++ r)[st.length + j]? = r[j]? := fun r j => by rw [List.getElem?_append_right (by omega), Nat.add_sub_cancel_left]
    have hc0 := gt [C.lst [D.int y0, D.int y1, D.int y2, D.int y3, D.int y4, D.int y5], C.lst (List.map D.str ts), C.lst [], C.lst [], C.lst (List.map D.int cells)] 4
    have hk0 := gt [C.lst [D.int y0, D.int y1, D.int y2, D.int y3, D.int y4, D.int y5], C.lst (List.map D.str ts), C.lst [], C.lst [], C.lst (List.map D.int cells)] 3
    have hm0 := gt [C.lst [D.int y0, D.int y1, D.int y2, D.int y3, D.int y4, D.int y5], C.lst (List.map D.str ts), C.lst [], C.lst [], C.lst (List.map D.int cells)] 2
    have hd0 := gt [C.lst [D.int y0, D.int y1, D.int y2, D.int y3, D.int y4, D.int y5], C.lst (List.map D.str ts), C.lst [], C.lst [], C.lst (List.map D.int cells)] 1
    have pre0 := pre_app st [C.lst [D.int y0, D.int y1, D.int y2, D.int y3, D.int y4, D.int y5], C.lst (List.map D.str ts), C.lst [], C.lst [], C.lst (List.map D.int cells)]
    generalize st ++ [C.lst [D.int y0, D.int y1, D.int y2, D.int y3, D.int y4, D.int y5], C.lst (List.map D.str ts), C.lst [], C.lst [], C.lst (List.map D.int cells)] = s0 at hc0 hk0 hm0 hd0 pre0
    have e4 : st.length + 2 + 2 = st.length + 4 := rfl
    have e3 : st.length + 2 + 1 = st.length + 3 := rfl
    rw [e4, e3]
    generalize h4 : st.length + 4 = L6 at hc0
    generalize h3 : st.length + 3 = L5 at hk0
    generalize h2 : st.length + 2 = L4 at hm0
    generalize h1 : st.length + 1 = L3 at hd0
    rw [lst_at (xs := cells.map .int) hc0]
    rw [os_some]
    refine forL_inv (fun i v s => ∃ (ms : List Mv) (x6 x7 x8 : Option D), ms.length ≤ i ∧ (∀ m ∈ ms, tagOk m.1) ∧ (∀ m ∈ ms, 0 ≤ m.2.1 ∧ m.2.1 < many ∧ 0 ≤ m.2.2 ∧ m.2.2 < many) ∧ ms.Pairwise nkey ∧ st <+: s ∧
        s[L3]? = some (.lst (ts.map .str)) ∧ s[L4]? = some (.lst (ms.map mvD)) ∧ s[L5]? = some (.lst (ms.map keyD)) ∧ s[L6]? = some (.lst (cells.map .int)) ∧
        v = [some (.fl (ns.map .int)), some (.loc st.length), some (.int many), some (.loc L3), some (.loc L4), some (.loc L5), x6, x7, x8]) _ cells.length (fun i => .int (cells.getD i 0))
      (fun i v s hi I => ?_) (fun v s I => ?_) (fun v s I => ?_) (fun i v s hi I => ?_) fu 0 _ _ (Nat.zero_le _) (by omega) ⟨[], none, none, none, Nat.le_refl _, by simp, by simp, .nil, pre0, hd0, hm0, hk0, hc0, rfl⟩
    · obtain ⟨ms, x6, x7, x8, i1, i2, i3, i4, i5, i6, i7, i8, i9, rfl⟩ := I
      rw [nx_lst i i9]
      simp [hi]
    · obtain ⟨ms, x6, x7, x8, i1, i2, i3, i4, i5, i6, i7, i8, i9, rfl⟩ := I
      rw [nx_lst _ i9]
      simp
    · obtain ⟨ms, x6, x7, x8, i1, i2, i3, i4, i5, i6, i7, i8, i9, rfl⟩ := I
      simp [items_at i7]
      exact hQ many ms s ⟨many1.1, many1.2, i2, i3, i4, by omega⟩ i5
    · obtain ⟨ms, x6, x7, x8, i1, i2, i3, i4, i5, i6, i7, i8, i9, rfl⟩ := I
      simp only [Ok_bind, x_nm]
      simp [setV, atV, SL]
      refine dig_ok ad am (k := k) (n := 3) (by decide) (by omega) rfl fun zs z1 z2 => ?_
      match zs, z1, z2 with
      | [z0, za, zb], _, z2 =>
        have pp := pre_app s [C.lst ([z0, za, zb].map D.int)]
        have j6 := pre_get pp i6
        have j7 := pre_get pp i7
        have j8 := pre_get pp i8
        have j9 := pre_get pp i9
        have jl := last_at s (.lst ([z0, za, zb].map D.int))
        have j5 := i5.trans pp
        generalize hs1 : s ++ [C.lst ([z0, za, zb].map D.int)] = s1 at pp j5 j6 j7 j8 j9 jl
        have tp : (0 : Int) < ts.length := by omega
        have q0 := fmod_lt (i := z0) tp
        have qa := fmod_lt (i := za) (m := many) (by omega)
        have qb := fmod_lt (i := zb) (m := many) (by omega)
        obtain ⟨x, x1, x2⟩ := atI_ok (xs := ts.map D.str) q0.1 (by simpa using q0.2)
        obtain ⟨d, hd, rfl⟩ := List.mem_map.mp x2
        have ex3 : ixO s1 (.loc L3) (.int (z0.fmod ts.length)) = some (.str d) := by rw [ix_at j6]; exact x1
        have g : good 2 (.tup [.str d, .int (za.fmod many)]) = true := by
          have := (t2 d hd).code
          simp [good]
          exact this
        have gk : (ms.map keyD).all (good 2) = true := by
          rw [List.all_map, List.all_eq_true]
          intro m hm
          have := (i2 m hm).code
          simp [keyD, good]
          exact this
        have inn := in_good 2 j8 g gk (by decide)
        have m0 : many ≠ 0 := by omega
        have t0 : ¬ ts.length = 0 := by omega
        have t00 : ¬ ts = [] := fun e => t0 (by rw [e]; rfl)
        simp [ix_at jl, len_at j6, ex3, inn, m0, t0, t00]
        by_cases hany : ms.any ((fun y => eqz 2 y (D.tup [D.str d, D.int (za.fmod many)])) ∘ keyD) = true
        · rw [if_pos hany]
          exact ⟨ms, by omega, fun a b c h => i2 (a, b, c) h, fun a b c h => i3 (a, b, c) h, i4, j5, j6, j7, j8, j9⟩
        · rw [if_neg hany]
          have len2 : ms.length < SL := by have := i1; simp [SL]; omega
          have l5 : L5 < s.length := (List.getElem?_eq_some_iff.mp i8).1
          have l4 : L4 < s.length := (List.getElem?_eq_some_iff.mp i7).1
          have l51 : L5 < s1.length := (List.getElem?_eq_some_iff.mp j8).1
          have n45 : L5 ≠ L4 := by omega
          rw [mt_append j8, os_some, append_at j8 (by rw [List.length_map]; exact len2), Ok_ok]
          generalize hs2 : List.set s1 L5 (C.lst (ms.map keyD ++ [D.tup [D.str d, D.int (za.fmod many)]])) = s2
          have u8 : s2[L5]? = some (.lst (ms.map keyD ++ [D.tup [D.str d, D.int (za.fmod many)]])) := by rw [← hs2, List.getElem?_set_self l51]
          have ne : ∀ j, L5 ≠ j → s2[j]? = s1[j]? := fun j hj => by rw [← hs2, List.getElem?_set_ne hj]
          have u7 := (ne L4 n45).trans j7
          have u6 := (ne L3 (by omega)).trans j6
          have u9 := (ne L6 (by omega)).trans j9
          have ul := (ne s.length (by omega)).trans jl
          have u5 : st <+: s2 := by rw [← hs2]; exact pre_set j5 (by omega) _
          have l42 : L4 < s2.length := (List.getElem?_eq_some_iff.mp u7).1
          rw [mt_append u7, os_some, ix_at ul]
          simp [m0]
          rw [append_at u7 (by rw [List.length_map]; exact len2), Ok_ok]
          refine ⟨ms ++ [(d, za.fmod many, zb.fmod many)], by simp; omega, fun a b c h => ?_, fun a b c h => ?_, ?_, pre_set u5 (by omega) _, ?_, ?_, ?_, ?_⟩
          · rcases List.mem_append.mp h with q | q
            · exact i2 (a, b, c) q
            · have q := List.mem_singleton.mp q
              cases q
              exact t2 d hd
          · rcases List.mem_append.mp h with q | q
            · exact i3 (a, b, c) q
            · have q := List.mem_singleton.mp q
              cases q
              exact ⟨qa.1, qa.2, qb.1, qb.2⟩
          · rw [List.pairwise_append]
            refine ⟨i4, List.pairwise_singleton _ _, fun m hm y hy => ?_⟩
            rw [List.mem_singleton.mp hy]
            rintro ⟨r1, r2⟩
            apply hany
            rw [List.any_eq_true]
            refine ⟨m, hm, ?_⟩
            have r1 : m.1 = d := r1
            have r2 : m.2.1 = za.fmod many := r2
            simp [eqz, keyD, r1, r2]
          · rw [List.getElem?_set_ne (by omega)]; exact u6
          · rw [List.getElem?_set_self l42, List.map_append]; rfl
          · rw [List.getElem?_set_ne (by omega), u8, List.map_append]; rfl
          · rw [List.getElem?_set_ne (by omega)]; exact u9
end Ix
end PFd2

section PGk14
set_option Elab.async false
set_option linter.all false
set_option maxRecDepth 100000
set_option autoImplicit false
set_option maxHeartbeats 0
namespace Ix.k14
open PySem PySem.Spec L2
open PyProof.Rows hiding St
def top (i : Nat) : Stmt := PySem.Challenge.pw_errandway_k14_plans_walked.main.body.getD i (.Pass ⟨0, 0, 0, 0⟩)
/-- moves_by: slots 0=ground 1=found 2=deed 3=start 4=end -/
def b0 : Ix.S := (.seq (.asg (.nm 1) .dnew) (.seq (.for_ (.tup (.cons (.nm 2) (.cons (.nm 3) (.cons (.nm 4) .nil)))) (.plain (.ix (.var 0) (.con (.int 1))))
  (.seq (.setix (.var 1) (.tup (.cons (.var 2) (.cons (.var 3) .nil))) (.var 4)) .skip)) (.seq (.ret (.var 1)) .skip)))
def d0 : Df := ⟨"moves_by", ["ground"], ["ground", "found", "deed", "start", "end"], top 1, b0⟩
/-- walked: slots 0=ground 1=place 2=plan 3=leads 4=found 5=deed -/
def b1 : Ix.S := (.seq (.asg (.nm 3) (.call 0 (.cons (.var 0) .nil))) (.seq (.asg (.nm 4) (.lst (.cons (.var 1) .nil))) (.seq (.for_ (.nm 5) (.plain (.var 2))
  (.seq (.if_ (.cmp .nin (.tup (.cons (.var 5) (.cons (.ix (.var 4) (.neg (.con (.int 1)))) .nil))) (.var 3))
  (.seq (.ret (.var 4)) .skip)
  .skip) (.seq (.expr (.mt .append (.var 4) (.cons (.ix (.var 3) (.tup (.cons (.var 5) (.cons (.ix (.var 4) (.neg (.con (.int 1)))) .nil)))) .nil))) .skip))) (.seq (.ret (.var 4)) .skip))))
def d1 : Df := ⟨"walked", ["ground", "place", "plan"], ["ground", "place", "plan", "leads", "found", "deed"], top 2, b1⟩
/-- _law_mix: slots 0=_law_cell 1=_law_k 2=_law_one -/
def b2 : Ix.S := (.seq (.asg (.nm 2) (.bin .mod (.bin .add (.bin .mod (.var 0) (.con (.int 1000000009))) (.bin .mul (.con (.int 92821)) (.bin .add (.var 1) (.con (.int 1))))) (.con (.int 1000000007)))) (.seq (.asg (.nm 2) (.bin .mod (.bin .mul (.var 2) (.var 2)) (.con (.int 998244353)))) (.seq (.asg (.nm 2) (.bin .mod (.bin .add (.bin .mul (.var 2) (.con (.int 40014))) (.bin .mul (.con (.int 12211)) (.bin .add (.var 1) (.con (.int 1))))) (.con (.int 2147483563)))) (.seq (.ret (.bin .fdiv (.bin .mod (.bin .mul (.var 2) (.var 2)) (.con (.int 1000000009))) (.con (.int 32)))) .skip))))
def d2 : Df := ⟨"_law_mix", ["_law_cell", "_law_k"], ["_law_cell", "_law_k", "_law_one"], top 4, b2⟩
/-- _law_digits: slots 0=_law_cell 1=_law_many 2=_law_found 3=_law_left 4=_law_wide 5=_law_k -/
def b3 : Ix.S := (.seq (.asg (.nm 2) (.lst .nil)) (.seq (.asg (.nm 3) (.bc .abs (.cons (.var 0) .nil))) (.seq (.asg (.nm 4) (.cmp .ge (.var 3) (.bin .pow (.con (.int 10)) (.con (.int 18))))) (.seq (.for_ (.nm 5) (.rng (.cons (.var 1) .nil))
  (.seq (.if_ (.and (.cons (.var 4) (.cons (.cmp .gt (.var 3) (.con (.int 0))) .nil)))
  (.seq (.expr (.mt .append (.var 2) (.cons (.bin .mod (.var 3) (.con (.int 9973))) .nil))) (.seq (.asg (.nm 3) (.bin .fdiv (.var 3) (.con (.int 9973)))) .skip))
  (.seq (.expr (.mt .append (.var 2) (.cons (.call 2 (.cons (.var 0) (.cons (.var 5) .nil))) .nil))) .skip)) .skip)) (.seq (.ret (.var 2)) .skip)))))
def d3 : Df := ⟨"_law_digits", ["_law_cell", "_law_many"], ["_law_cell", "_law_many", "_law_found", "_law_left", "_law_wide", "_law_k"], top 5, b3⟩
/-- _law_at: slots 0=_law_script 1=_law_k -/
def b4 : Ix.S := (.seq (.if_ (.cmp .lt (.var 1) (.bc .len (.cons (.var 0) .nil)))
  (.seq (.ret (.ix (.var 0) (.var 1))) .skip)
  .skip) (.seq (.ret (.bin .add (.bin .add (.bin .mul (.con (.int 61)) (.var 1)) (.con (.int 17))) (.bc .len (.cons (.var 0) .nil)))) .skip))
def d4 : Df := ⟨"_law_at", ["_law_script", "_law_k"], ["_law_script", "_law_k"], top 6, b4⟩
/-- _law_tags: slots 0=_law_many 1=_law_one 2=_law_letters 3=_law_body 4=_law_found 5=_law_k 6=_law_mark -/
def b5 : Ix.S := (.seq (.asg (.nm 2) (.con (.str [97, 98, 99, 100, 101, 102, 103, 104, 105, 106, 107, 108, 109, 110, 111, 112, 113, 114, 115, 116, 117, 118, 119, 120, 121, 122]))) (.seq (.asg (.nm 3) (.bin .mul (.ix (.var 2) (.bin .mod (.var 1) (.con (.int 26)))) (.bin .mod (.bin .fdiv (.var 1) (.con (.int 26))) (.con (.int 4))))) (.seq (.asg (.nm 4) (.lst .nil)) (.seq (.for_ (.nm 5) (.rng (.cons (.var 0) .nil))
  (.seq (.asg (.nm 6) (.ix (.var 2) (.bin .mod (.bin .add (.bin .fdiv (.var 1) (.con (.int 104))) (.bin .mul (.con (.int 5)) (.var 5))) (.con (.int 26))))) (.seq (.if_ (.cmp .eq (.bin .mod (.bin .fdiv (.var 1) (.con (.int 2704))) (.con (.int 2))) (.con (.int 0)))
  (.seq (.expr (.mt .append (.var 4) (.cons (.bin .add (.var 6) (.var 3)) .nil))) .skip)
  (.seq (.expr (.mt .append (.var 4) (.cons (.bin .add (.var 3) (.var 6)) .nil))) .skip)) .skip))) (.seq (.ret (.var 4)) .skip)))))
def d5 : Df := ⟨"_law_tags", ["_law_many", "_law_one"], ["_law_many", "_law_one", "_law_letters", "_law_body", "_law_found", "_law_k", "_law_mark"], top 7, b5⟩
/-- _law_ground: slots 0=_law_script 1=_law_some 2=_law_many 3=_law_deeds 4=_law_moves 5=_law_known 6=_law_cell 7=_law_one 8=_law_key -/
def b6 : Ix.S := (.seq (.asg (.nm 1) (.call 3 (.cons (.call 4 (.cons (.var 0) (.cons (.con (.int 0)) .nil))) (.cons (.con (.int 6)) .nil)))) (.seq (.asg (.nm 2) (.bin .add (.con (.int 1)) (.bin .mod (.ix (.var 1) (.con (.int 0))) (.con (.int 12))))) (.seq (.asg (.nm 3) (.call 5 (.cons (.bin .add (.con (.int 1)) (.bin .mod (.ix (.var 1) (.con (.int 1))) (.con (.int 12)))) (.cons (.ix (.var 1) (.con (.int 2))) .nil)))) (.seq (.asg (.nm 4) (.lst .nil)) (.seq (.asg (.nm 5) (.lst .nil)) (.seq (.for_ (.nm 6) (.plain (.sl (.var 0) (.some (.con (.int 1))) (.some (.con (.int 40)))))
  (.seq (.asg (.nm 7) (.call 3 (.cons (.var 6) (.cons (.con (.int 3)) .nil)))) (.seq (.asg (.nm 8) (.tup (.cons (.ix (.var 3) (.bin .mod (.ix (.var 7) (.con (.int 0))) (.bc .len (.cons (.var 3) .nil)))) (.cons (.bin .mod (.ix (.var 7) (.con (.int 1))) (.var 2)) .nil)))) (.seq (.if_ (.cmp .nin (.var 8) (.var 5))
  (.seq (.expr (.mt .append (.var 5) (.cons (.var 8) .nil))) (.seq (.expr (.mt .append (.var 4) (.cons (.bin .add (.var 8) (.tup (.cons (.bin .mod (.ix (.var 7) (.con (.int 2))) (.var 2)) .nil))) .nil))) .skip))
  .skip) .skip)))) (.seq (.ret (.tup (.cons (.var 2) (.cons (.bc .tuple (.cons (.var 4) .nil)) .nil)))) .skip)))))))
def d6 : Df := ⟨"_law_ground", ["_law_script"], ["_law_script", "_law_some", "_law_many", "_law_deeds", "_law_moves", "_law_known", "_law_cell", "_law_one", "_law_key"], top 8, b6⟩
/-- _law_plan: slots 0=_law_ground_here 1=_law_start 2=_law_some 3=_law_plan_here 4=_law_here 5=_law_one 6=_law_open_moves 7=_law_move -/
def b7 : Ix.S := (.seq (.asg (.nm 3) (.lst .nil)) (.seq (.asg (.nm 4) (.var 1)) (.seq (.for_ (.nm 5) (.plain (.sl (.var 2) .none (.some (.bin .mod (.ix (.var 2) (.con (.int 8))) (.con (.int 9))))))
  (.seq (.asg (.nm 6) (.comp [7] (.nm 7) (.plain (.ix (.var 0) (.con (.int 1)))) (.some (.cmp .eq (.ix (.var 7) (.con (.int 1))) (.var 4))) (.var 7))) (.seq (.if_ (.or (.cons (.cmp .eq (.bin .mod (.var 5) (.con (.int 7))) (.con (.int 0))) (.cons (.cmp .eq (.var 6) (.lst .nil)) .nil)))
  (.seq (.expr (.mt .append (.var 3) (.cons (.ife (.cmp .ne (.ix (.var 0) (.con (.int 1))) (.tup .nil)) (.ix (.comp [7] (.nm 7) (.plain (.ix (.var 0) (.con (.int 1)))) .none (.ix (.var 7) (.con (.int 0)))) (.bin .mod (.bin .fdiv (.var 5) (.con (.int 7))) (.bc .len (.cons (.ix (.var 0) (.con (.int 1))) .nil)))) (.con (.str [110, 111, 110, 101]))) .nil))) .skip)
  (.seq (.if_ (.cmp .eq (.bin .mod (.var 5) (.con (.int 7))) (.con (.int 1)))
  (.seq (.expr (.mt .append (.var 3) (.cons (.con (.str [110, 111, 115, 117, 99, 104])) .nil))) .skip)
  (.seq (.asg (.nm 7) (.ix (.var 6) (.bin .mod (.bin .fdiv (.var 5) (.con (.int 7))) (.bc .len (.cons (.var 6) .nil))))) (.seq (.expr (.mt .append (.var 3) (.cons (.ix (.var 7) (.con (.int 0))) .nil))) (.seq (.asg (.nm 4) (.ix (.var 7) (.con (.int 2)))) .skip)))) .skip)) .skip))) (.seq (.ret (.bc .tuple (.cons (.var 3) .nil))) .skip))))
def d7 : Df := ⟨"_law_plan", ["_law_ground_here", "_law_start", "_law_some"], ["_law_ground_here", "_law_start", "_law_some", "_law_plan_here", "_law_here", "_law_one", "_law_open_moves", "_law_move"], top 9, b7⟩
/-- _law_due: slots 0=_law_ground_here 1=_law_start 2=_law_plan_here 3=_law_found 4=_law_deed 5=_law_some 6=_law_move -/
def b8 : Ix.S := (.seq (.asg (.nm 3) (.lst (.cons (.var 1) .nil))) (.seq (.for_ (.nm 4) (.plain (.var 2))
  (.seq (.asg (.nm 5) (.comp [6] (.nm 6) (.plain (.ix (.var 0) (.con (.int 1)))) (.some (.cmp .eq (.sl (.var 6) .none (.some (.con (.int 2)))) (.tup (.cons (.var 4) (.cons (.ix (.var 3) (.neg (.con (.int 1)))) .nil))))) (.ix (.var 6) (.con (.int 2))))) (.seq (.if_ (.cmp .eq (.var 5) (.lst .nil))
  (.seq (.ret (.var 3)) .skip)
  .skip) (.seq (.expr (.mt .append (.var 3) (.cons (.ix (.var 5) (.con (.int 0))) .nil))) .skip)))) (.seq (.ret (.var 3)) .skip)))
def d8 : Df := ⟨"_law_due", ["_law_ground_here", "_law_start", "_law_plan_here"], ["_law_ground_here", "_law_start", "_law_plan_here", "_law_found", "_law_deed", "_law_some", "_law_move"], top 10, b8⟩
/-- _law_alike: slots 0=_law_told 1=_law_due_here 2=_law_one -/
def b9 : Ix.S := (.seq (.if_ (.or (.cons (.not (.isi (.var 0) .list)) (.cons (.cmp .ne (.var 0) (.var 1)) .nil)))
  (.seq (.ret (.con (.bl false))) .skip)
  .skip) (.seq (.ret (.cmp .eq (.comp [2] (.nm 2) (.plain (.var 0)) (.some (.or (.cons (.isi (.var 2) .bool) (.cons (.not (.isi (.var 2) .int)) .nil)))) (.var 2)) (.lst .nil))) .skip))
def d9 : Df := ⟨"_law_alike", ["_law_told", "_law_due_here"], ["_law_told", "_law_due_here", "_law_one"], top 11, b9⟩
/-- law: slots 0=_law_script 1=_law_ground_here 2=_law_cells 3=_law_cell 4=_law_some 5=_law_many 6=_law_ring 7=_law_plan_here 8=_law_start 9=_law_due_here 10=_law_told 11=_law_k -/
def b10 : Ix.S := (.seq (.asg (.nm 1) (.call 6 (.cons (.var 0) .nil))) (.seq (.asg (.nm 2) (.bc .list (.cons (.var 0) .nil))) (.seq (.if_ (.cmp .eq (.var 2) (.lst .nil))
  (.seq (.asg (.nm 2) (.lst (.cons (.con (.int 3)) .nil))) .skip)
  .skip) (.seq (.for_ (.nm 3) (.plain (.var 2))
  (.seq (.asg (.nm 4) (.sl (.call 3 (.cons (.var 3) (.cons (.con (.int 12)) .nil))) (.some (.con (.int 2))) .none)) (.seq (.asg (.nm 8) (.bin .mod (.ix (.var 4) (.con (.int 9))) (.ix (.var 1) (.con (.int 0))))) (.seq (.asg (.nm 7) (.call 7 (.cons (.var 1) (.cons (.var 8) (.cons (.var 4) .nil))))) (.seq (.asg (.nm 9) (.call 8 (.cons (.var 1) (.cons (.var 8) (.cons (.var 7) .nil))))) (.seq (.asg (.nm 10) (.call 1 (.cons (.var 1) (.cons (.var 8) (.cons (.var 7) .nil))))) (.seq (.if_ (.not (.call 9 (.cons (.var 10) (.cons (.var 9) .nil))))
  (.seq (.ret (.con (.bl false))) .skip)
  .skip) (.seq (.expr (.mt .append (.var 10) (.cons (.con (.int 99)) .nil))) (.seq (.if_ (.or (.cons (.not (.call 9 (.cons (.call 1 (.cons (.var 1) (.cons (.var 8) (.cons (.var 7) .nil)))) (.cons (.var 9) .nil)))) (.cons (.cmp .ne (.call 1 (.cons (.var 1) (.cons (.var 8) (.cons (.tup .nil) .nil)))) (.lst (.cons (.var 8) .nil))) .nil)))
  (.seq (.ret (.con (.bl false))) .skip)
  .skip) .skip))))))))) (.seq (.asg (.nm 4) (.sl (.call 3 (.cons (.ix (.var 2) (.con (.int 0))) (.cons (.con (.int 16)) .nil))) (.some (.con (.int 12))) .none)) (.seq (.asg (.nm 5) (.bin .add (.con (.int 1)) (.bin .mod (.ix (.var 4) (.con (.int 0))) (.con (.int 12))))) (.seq (.asg (.nm 6) (.tup (.cons (.var 5) (.cons (.bc .tuple (.cons (.comp [11] (.nm 11) (.rng (.cons (.var 5) .nil)) .none (.tup (.cons (.ix (.lst (.cons (.con (.str [116, 104, 101, 114, 101])) (.cons (.con (.str [98, 97, 99, 107])) .nil))) (.bin .mod (.var 11) (.con (.int 2)))) (.cons (.var 11) (.cons (.bin .mod (.bin .add (.var 11) (.con (.int 1))) (.var 5)) .nil))))) .nil)) .nil)))) (.seq (.asg (.nm 7) (.bc .tuple (.cons (.comp [11] (.nm 11) (.rng (.cons (.bin .add (.con (.int 40)) (.bin .mod (.ix (.var 4) (.con (.int 1))) (.con (.int 41)))) .nil)) .none (.ix (.lst (.cons (.con (.str [116, 104, 101, 114, 101])) (.cons (.con (.str [98, 97, 99, 107])) .nil))) (.bin .mod (.var 11) (.con (.int 2))))) .nil))) (.seq (.ret (.call 9 (.cons (.call 1 (.cons (.var 6) (.cons (.con (.int 0)) (.cons (.var 7) .nil)))) (.cons (.call 8 (.cons (.var 6) (.cons (.con (.int 0)) (.cons (.var 7) .nil)))) .nil)))) .skip)))))))))
def d10 : Df := ⟨"law", ["_law_script"], ["_law_script", "_law_ground_here", "_law_cells", "_law_cell", "_law_some", "_law_many", "_law_ring", "_law_plan_here", "_law_start", "_law_due_here", "_law_told", "_law_k"], top 12, b10⟩
def T : List Df := [d0, d1, d2, d3, d4, d5, d6, d7, d8, d9, d10]
def con : List (PySem.Str × D) := []
def bl : List PySem.Str := ["abs", "bool", "int", "isinstance", "len", "list", "range", "tuple"]
theorem k0 : DfOk (tabZ T con bl) d0 := ⟨by decide +kernel, by decide +kernel, fun _ _ _ _ _ _ us hl => match us, hl with | [_], _ => rfl⟩
theorem k1 : DfOk (tabZ T con bl) d1 := ⟨by decide +kernel, by decide +kernel, fun _ _ _ _ _ _ us hl => match us, hl with | [_, _, _], _ => rfl⟩
theorem k2 : DfOk (tabZ T con bl) d2 := ⟨by decide +kernel, by decide +kernel, fun _ _ _ _ _ _ us hl => match us, hl with | [_, _], _ => rfl⟩
theorem k3 : DfOk (tabZ T con bl) d3 := ⟨by decide +kernel, by decide +kernel, fun _ _ _ _ _ _ us hl => match us, hl with | [_, _], _ => rfl⟩
theorem k4 : DfOk (tabZ T con bl) d4 := ⟨by decide +kernel, by decide +kernel, fun _ _ _ _ _ _ us hl => match us, hl with | [_, _], _ => rfl⟩
theorem k5 : DfOk (tabZ T con bl) d5 := ⟨by decide +kernel, by decide +kernel, fun _ _ _ _ _ _ us hl => match us, hl with | [_, _], _ => rfl⟩
theorem k6 : DfOk (tabZ T con bl) d6 := ⟨by decide +kernel, by decide +kernel, fun _ _ _ _ _ _ us hl => match us, hl with | [_], _ => rfl⟩
theorem k7 : DfOk (tabZ T con bl) d7 := ⟨by decide +kernel, by decide +kernel, fun _ _ _ _ _ _ us hl => match us, hl with | [_, _, _], _ => rfl⟩
theorem k8 : DfOk (tabZ T con bl) d8 := ⟨by decide +kernel, by decide +kernel, fun _ _ _ _ _ _ us hl => match us, hl with | [_, _, _], _ => rfl⟩
theorem k9 : DfOk (tabZ T con bl) d9 := ⟨by decide +kernel, by decide +kernel, fun _ _ _ _ _ _ us hl => match us, hl with | [_, _], _ => rfl⟩
theorem k10 : DfOk (tabZ T con bl) d10 := ⟨by decide +kernel, by decide +kernel, fun _ _ _ _ _ _ us hl => match us, hl with | [_], _ => rfl⟩
theorem kT : ∀ d ∈ T, DfOk (tabZ T con bl) d := by
  intro d h
  simp only [T, List.mem_cons, List.not_mem_nil, or_false] at h
  rcases h with rfl | rfl | rfl | rfl | rfl | rfl | rfl | rfl | rfl | rfl | rfl
  · exact k0
  · exact k1
  · exact k2
  · exact k3
  · exact k4
  · exact k5
  · exact k6
  · exact k7
  · exact k8
  · exact k9
  · exact k10
end Ix.k14
end PGk14

section PPk14
set_option Elab.async false
set_option linter.all false
set_option maxRecDepth 100000
set_option maxHeartbeats 1000000
namespace Ix.k14
open PySem
/-! ### the program's walk -/
/-- where a deed leads -/
def to (ms : List Mv) (d : List Nat) (a : Int) : Option Int := (ms.find? fun m => m.1 == d && m.2.1 == a).map (·.2.2)
def go (ms : List Mv) : Int → List (List Nat) → List Int
  | a, [] => [a]
  | a, d :: r => match to ms d a with
    | none => [a]
    | some b => a :: go ms b r
def kv (m : Mv) : D × D := (keyD m, .int m.2.2)
def kq (d : List Nat) (a : Int) : NestedKey := .tup [.text ⟨d.toArray⟩, .num a]
theorem nk_key (d : List Nat) (a : Int) : nk 8 (.tup [.str d, .int a]) = some (kq d a) := rfl
theorem nk_same (m : Mv) (d : List Nat) (a : Int) : (nk 8 (keyD m) == some (kq d a)) = (m.1 == d && m.2.1 == a) := by
  rw [Bool.eq_iff_iff, beq_iff_eq, Bool.and_eq_true, beq_iff_eq, beq_iff_eq]
  show some (kq m.1 m.2.1) = some (kq d a) ↔ _
  constructor
  · intro e
    injection e with e
    injection e with e
    injection e with e1 e2
    injection e1 with e1
    injection e1 with e1
    injection e1 with e1
    injection e2 with e2 _
    injection e2 with e2
    exact ⟨e1, e2⟩
  · rintro ⟨rfl, rfl⟩
    rfl
theorem look_eq : ∀ (ms : List Mv) (d : List Nat) (a : Int), lookK (kq d a) (ms.map kv) = (to ms d a).map .int
  | [], _, _ => rfl
  | m :: r, d, a => by
    show (if nk 8 (keyD m) == some (kq d a) then some (D.int m.2.2) else lookK (kq d a) (r.map kv)) = _
    rw [nk_same, look_eq r d a]
    unfold to
    rw [List.find?_cons]
    cases (m.1 == d && m.2.1 == a) <;> rfl
theorem keyIn_eq : ∀ (ms : List Mv) (d : List Nat) (a : Int), keyIn (kq d a) (ms.map kv) = (to ms d a).isSome
  | [], _, _ => rfl
  | m :: r, d, a => by
    show ((nk 8 (keyD m) == some (kq d a)) || keyIn (kq d a) (r.map kv)) = _
    rw [nk_same, keyIn_eq r d a]
    unfold to
    rw [List.find?_cons]
    cases (m.1 == d && m.2.1 == a) <;> simp
theorem kOk_kv (ms : List Mv) (d : List Nat) (a : Int) : kOk (.tup [.str d, .int a]) (ms.map kv) = true := by
  cases ms <;> rfl
theorem aT0 : At T 0 1 5 b0 := ⟨⟨d0, rfl, rfl, rfl, rfl⟩⟩
theorem aT1 : At T 1 3 6 b1 := ⟨⟨d1, rfl, rfl, rfl, rfl⟩⟩
theorem aT2 : At T 2 2 3 mixB := ⟨⟨d2, rfl, rfl, rfl, rfl⟩⟩
theorem aT3 : At T 3 2 6 (digB 2) := ⟨⟨d3, rfl, rfl, rfl, rfl⟩⟩
theorem aT4 : At T 4 2 2 atB := ⟨⟨d4, rfl, rfl, rfl, rfl⟩⟩
theorem aT5 : At T 5 2 7 tagsB := ⟨⟨d5, rfl, rfl, rfl, rfl⟩⟩
theorem aT6 : At T 6 1 9 (groundB 3 4 5) := ⟨⟨d6, rfl, rfl, rfl, rfl⟩⟩
theorem set_kv {st : Store} {ms : List Mv} {m : Mv} (hn : ∀ x ∈ ms, nkey x m) (hl : ms.length < SL) : setIxD (.loc st.length) (.tup [.str m.1, .int m.2.1]) (.int m.2.2) (st ++ [.dct (ms.map kv)]) = .ok () (st ++ [.dct ((ms ++ [m]).map kv)]) := by
  unfold setIxD
  dsimp only
  rw [last_at]
  dsimp only
  rw [nk_key]
  dsimp only
  rw [kOk_kv, List.length_map]
  have e : (true && decide (ms.length < SL)) = true := by simpa using hl
  rw [if_pos e, set_last]
  have k : keyIn (kq m.1 m.2.1) (ms.map kv) = false := by
    rw [keyIn_eq]
    unfold to
    rw [List.find?_eq_none.mpr]
    · rfl
    · intro x hx q
      rw [Bool.and_eq_true, beq_iff_eq, beq_iff_eq] at q
      exact hn x hx q
  unfold putK
  rw [k, if_neg Bool.false_ne_true, List.map_append]
  rfl
theorem moves_ok {fu k : Nat} {many : Int} {ms : List Mv} {st : Store} {Q : D → Store → Prop} (hnd : ms.Pairwise nkey) (hl : ms.length < 1000) (hfu : ms.length < fu) (hQ : Q (.loc st.length) (st ++ [.dct (ms.map kv)])) : Ok (callN fu (tbOf T) (k + 1) 0 [grD many ms] st) Q := by
  refine aT0.run rfl ?_
  have e1 : ∀ s, ixO s (grD many ms) (.int 1) = some (.tup (ms.map mvD)) := fun _ => rfl
  simp [b0, atV, setV, e1]
  have hl2 : (ms.map mvD).length = ms.length := List.length_map ..
  refine forL_inv (fun i v s => ∃ x2 x3 x4, s = st ++ [.dct ((ms.take i).map kv)] ∧ v = [some (grD many ms), some (.loc st.length), x2, x3, x4]) _ ms.length (fun i => mvD (ms.getD i ([], 0, 0)))
    (fun i v s hi _ => nx_tup s (by rw [List.getElem?_map, List.getElem?_eq_getElem hi]; simp [List.getD, hi])) (fun v s _ => by have := nx_tup_end (xs := ms.map mvD) s; rw [hl2] at this; exact this)
    (fun v s I => ?_) (fun i v s hi I => ?_) fu 0 _ _ (Nat.zero_le _) (by omega) ⟨none, none, none, by simp, rfl⟩
  · obtain ⟨x2, x3, x4, rfl, rfl⟩ := I
    rw [List.take_length]
    exact hQ
  · obtain ⟨x2, x3, x4, rfl, rfl⟩ := I
    have ed : ms.getD i ([], 0, 0) = ms[i] := by simp [List.getD, hi]
    rw [ed]
    have tk : ms.take (i + 1) = ms.take i ++ [ms[i]] := by rw [List.take_add_one]; simp [hi]
    have nk' : ∀ x ∈ ms.take i, nkey x ms[i] := by
      rw [← List.take_append_drop (i + 1) ms, tk, List.append_assoc, List.pairwise_append] at hnd
      exact fun x hx => hnd.2.2 x hx _ (List.mem_append_left _ (List.mem_singleton.mpr rfl))
    have ob : ∀ (v : En) (s : Store), bindT (.tup (.cons (.nm 2) (.cons (.nm 3) (.cons (.nm 4) .nil)))) (mvD ms[i]) v s = .ok (setV (setV (setV v 2 (.str ms[i].1)) 3 (.int ms[i].2.1)) 4 (.int ms[i].2.2)) s := fun _ _ => rfl
    rw [Ok_bind, ob, Ok_ok]
    simp [setV, atV, SL]
    rw [← List.map_take, ← List.map_take, set_kv nk' (by simp [SL]; omega), Ok_ok, tk]
theorem atI_last {α : Type} (xs : List α) (a : α) : atI (xs ++ [a]) (-1) = some a := by
  unfold atI L2.atI L2.ixN
  rw [if_neg (by decide), if_pos (by simp; omega)]
  simp
  have : ((-1 : Int) + (xs.length + 1)).toNat = xs.length := by omega
  rw [this]
  simp

theorem in_kv {s : Store} {l : Nat} {ms : List Mv} (h : s[l]? = some (.dct (ms.map kv))) (d : List Nat) (a : Int) : inO s (.tup [.str d, .int a]) (.loc l) = some (to ms d a).isSome := by
  unfold inO
  dsimp only
  rw [h]
  dsimp only
  unfold inKs
  rw [nk_key]
  dsimp only
  rw [kOk_kv, if_pos rfl, keyIn_eq]
theorem at_kv {s : Store} {l : Nat} {ms : List Mv} (h : s[l]? = some (.dct (ms.map kv))) (d : List Nat) (a : Int) : ixO s (.loc l) (.tup [.str d, .int a]) = (to ms d a).map .int := by
  unfold ixO
  dsimp only
  rw [h]
  dsimp only
  unfold atKD
  rw [nk_key]
  dsimp only
  rw [kOk_kv, if_pos rfl, look_eq]
theorem walked_ok {fu k : Nat} {many a : Int} {ms : List Mv} {ds : List (List Nat)} {st : Store} {Q : D → Store → Prop} (hnd : ms.Pairwise nkey) (hl : ms.length < 1000) (hfu : ms.length < fu) (hd : ds.length < 1000) (hfd : ds.length < fu)
    (hQ : ∀ l s, st <+: s → st.length ≤ l → s[l]? = some (.lst ((go ms a ds).map .int)) → Q (.loc l) s) : Ok (callN fu (tbOf T) (k + 2) 1 [grD many ms, .int a, .tup (ds.map .str)] st) Q := by
  refine aT1.run rfl ?_
  simp [b1, atV, setV, SL]
  refine moves_ok (k := k) hnd hl hfu ?_
  simp
  have hl2 : (ds.map D.str).length = ds.length := List.length_map ..
  have gt : ∀ (r : List C) (j : Nat), (st ++ r)[st.length + j]? = r[j]? := fun r j => by rw [List.getElem?_append_right (by omega), Nat.add_sub_cancel_left]
  have f0 := gt [C.dct (ms.map kv), .lst [.int a]] 0
  have f1 := gt [C.dct (ms.map kv), .lst [.int a]] 1
  have pre0 := pre_app st [C.dct (ms.map kv), .lst [.int a]]
  generalize st ++ [C.dct (ms.map kv), .lst [.int a]] = s0 at f0 f1 pre0
  refine forL_inv (fun i v s => ∃ (pre : List Int) (b : Int) (x5 : Option D), pre.length = i ∧ go ms a ds = pre ++ go ms b (ds.drop i) ∧ st <+: s ∧ s[st.length]? = some (.dct (ms.map kv)) ∧ s[st.length + 1]? = some (.lst ((pre ++ [b]).map .int)) ∧
      v = [some (grD many ms), some (.int a), some (.tup (ds.map .str)), some (.loc st.length), some (.loc (st.length + 1)), x5]) _ ds.length (fun i => .str (ds.getD i []))
    (fun i v s hi _ => nx_tup s (by rw [List.getElem?_map, List.getElem?_eq_getElem hi]; simp [List.getD, hi])) (fun v s _ => by have := nx_tup_end (xs := ds.map D.str) s; rw [hl2] at this; exact this)
    (fun v s I => ?_) (fun i v s hi I => ?_) fu 0 _ _ (Nat.zero_le _) (by omega) ⟨[], a, none, rfl, by simp, pre0, f0, f1, rfl⟩
  · obtain ⟨pre, b, x5, i1, i2, i3, i4, i5, rfl⟩ := I
    rw [List.drop_length] at i2
    refine hQ _ s i3 (Nat.le_succ _) ?_
    rw [i2]
    exact i5
  · obtain ⟨pre, b, x5, i1, i2, i3, i4, i5, rfl⟩ := I
    have ed : ds.getD i [] = ds[i] := by simp [List.getD, hi]
    rw [ed]
    have dr : ds.drop i = ds[i] :: ds.drop (i + 1) := List.drop_eq_getElem_cons hi
    rw [dr] at i2
    have la : ixO s (.loc (st.length + 1)) (.int (-1)) = some (.int b) := by
      rw [ix_at i5, List.map_append]
      exact atI_last _ _
    have hi4 := in_kv i4 ds[i] b
    have ha4 := at_kv i4 ds[i] b
    simp only [Ok_bind, x_nm]
    simp [setV, atV, SL, la, hi4, ha4]
    cases q : to ms ds[i] b with
    | none =>
      simp
      refine hQ _ s i3 (Nat.le_succ _) ?_
      rw [i2]
      show _ = some (C.lst ((pre ++ go ms b (ds[i] :: ds.drop (i + 1))).map D.int))
      unfold go
      rw [q]
      exact i5
    | some e =>
      have ll : st.length + 1 < s.length := (List.getElem?_eq_some_iff.mp i5).1
      simp [mt_append i5]
      rw [append_at i5 (by simp [SL]; omega), Ok_ok]
      refine ⟨pre ++ [b], by simp [i1], e, ?_, pre_set i3 (Nat.le_succ _) _, ?_, ?_⟩
      · rw [i2]
        show pre ++ go ms b (ds[i] :: ds.drop (i + 1)) = _
        rw [show go ms b (ds[i] :: ds.drop (i + 1)) = b :: go ms e (ds.drop (i + 1)) from by rw [go]; rw [q]]
        simp
      · rw [List.getElem?_set_ne (by omega)]; exact i4
      · rw [List.getElem?_set_self ll]

/-- a block that keeps some of the items, the store as it was -/
theorem comp_filter {α : Type} {xs : List α} {enc : α → D} {p : α → Bool} {f : α → D} {turn : D → M (Option D)} {s : Store} {fu : Nat} {Q : List D → Store → Prop} (dflt : α) (h : ∀ x ∈ xs, Ok (turn (enc x) s) fun o s' => s' = s ∧ o = if p x then some (f x) else none) (hl : xs.length < SL) (hfu : xs.length < fu)
    (hQ : Q ((xs.filter p).map f) s) : Ok (compL (.tup (xs.map enc)) turn fu 0 [] s) Q := by
  have hl2 : (xs.map enc).length = xs.length := List.length_map ..
  refine (compL_inv (fun i acc s' => s' = s ∧ acc = ((xs.take i).filter p).map f) xs.length (fun i => enc (xs.getD i dflt)) (fun i acc s hi _ => nx_tup s (by rw [List.getElem?_map, List.getElem?_eq_getElem hi]; simp [List.getD, hi])) (fun acc s _ => by have := nx_tup_end (xs := xs.map enc) s; rw [hl2] at this; exact this)
    (fun i acc s' hi I => ?_) fu 0 [] s (Nat.zero_le _) (by omega) ⟨rfl, by simp⟩).mono fun acc s' I => ?_
  · obtain ⟨rfl, rfl⟩ := I
    have ed : xs.getD i dflt = xs[i] := by simp [List.getD, hi]
    rw [ed]
    have tk : xs.take (i + 1) = xs.take i ++ [xs[i]] := by rw [List.take_add_one]; simp [hi]
    refine (h _ (List.getElem_mem hi)).mono fun o s' q => ?_
    obtain ⟨rfl, rfl⟩ := q
    rw [tk, List.filter_append]
    cases hp : p xs[i] with
    | true =>
      rw [if_pos rfl]
      refine ⟨?_, rfl, by simp [hp]⟩
      rw [List.length_map]
      have := List.length_filter_le p (xs.take i)
      rw [List.length_take] at this
      omega
    | false =>
      rw [if_neg Bool.false_ne_true]
      exact ⟨rfl, by simp [hp]⟩
  · obtain ⟨rfl, rfl⟩ := I
    rw [List.take_length]
    exact hQ
def same (d : List Nat) (a : Int) (m : Mv) : Bool := m.1 == d && m.2.1 == a
theorem to_head (ms : List Mv) (d : List Nat) (a : Int) : to ms d a = ((ms.filter (same d a)).map (·.2.2)).head? := by
  unfold to
  rw [List.head?_map, List.head?_filter]
  rfl
theorem cut2 (m : Mv) : cutL [D.str m.1, .int m.2.1, .int m.2.2] none (some 2) = [.str m.1, .int m.2.1] := by rfl
def codeOk (x : List Nat) : Prop := ∀ c ∈ x, c < 1114112
theorem eq_key {s : Store} {m : Mv} {d : List Nat} {a : Int} (h1 : codeOk m.1) (h2 : codeOk d) : eqD s (.tup [.str m.1, .int m.2.1]) (.tup [.str d, .int a]) = some (same d a m) := by
  rw [eq_good 2 (by simp [good]; exact h1) (by simp [good]; exact h2) (by decide)]
  simp [eqz, same]
theorem aT8 : At T 8 3 7 b8 := ⟨⟨d8, rfl, rfl, rfl, rfl⟩⟩
theorem due_ok {fu k : Nat} {many a : Int} {ms : List Mv} {ds : List (List Nat)} {st : Store} {Q : D → Store → Prop} (hc : ∀ m ∈ ms, codeOk m.1) (hdc : ∀ d ∈ ds, codeOk d) (hl : ms.length < 1000) (hfu : ms.length < fu) (hd : ds.length < 1000) (hfd : ds.length < fu)
    (hQ : ∀ l s, st <+: s → st.length ≤ l → s[l]? = some (.lst ((go ms a ds).map .int)) → Q (.loc l) s) : Ok (callN fu (tbOf T) (k + 1) 8 [grD many ms, .int a, .tup (ds.map .str)] st) Q := by
  refine aT8.run rfl ?_
  have e1 : ∀ s, ixO s (grD many ms) (.int 1) = some (.tup (ms.map mvD)) := fun _ => rfl
  simp [b8, atV, setV, SL]
  have hl2 : (ds.map D.str).length = ds.length := List.length_map ..
  have f0 := last_at st (.lst [.int a])
  have pre0 := pre_app st [.lst [.int a]]
  generalize st ++ [.lst [.int a]] = s0 at f0 pre0
  refine forL_inv (fun i v s => ∃ (pre : List Int) (b : Int) (x4 x5 : Option D), pre.length = i ∧ go ms a ds = pre ++ go ms b (ds.drop i) ∧ st <+: s ∧ s[st.length]? = some (.lst ((pre ++ [b]).map .int)) ∧
      v = [some (grD many ms), some (.int a), some (.tup (ds.map .str)), some (.loc st.length), x4, x5, none]) _ ds.length (fun i => .str (ds.getD i []))
    (fun i v s hi _ => nx_tup s (by rw [List.getElem?_map, List.getElem?_eq_getElem hi]; simp [List.getD, hi])) (fun v s _ => by have := nx_tup_end (xs := ds.map D.str) s; rw [hl2] at this; exact this)
    (fun v s I => ?_) (fun i v s hi I => ?_) fu 0 _ _ (Nat.zero_le _) (by omega) ⟨[], a, none, none, rfl, by simp, pre0, f0, rfl⟩
  · obtain ⟨pre, b, x4, x5, i1, i2, i3, i5, rfl⟩ := I
    rw [List.drop_length] at i2
    refine hQ _ s i3 (Nat.le_refl _) ?_
    rw [i2]
    exact i5
  · obtain ⟨pre, b, x4, x5, i1, i2, i3, i5, rfl⟩ := I
    have ed : ds.getD i [] = ds[i] := by simp [List.getD, hi]
    rw [ed]
    have dr : ds.drop i = ds[i] :: ds.drop (i + 1) := List.drop_eq_getElem_cons hi
    rw [dr] at i2
    have la : ixO s (.loc st.length) (.int (-1)) = some (.int b) := by
      rw [ix_at i5, List.map_append]
      exact atI_last _ _
    simp only [Ok_bind, x_nm]
    simp [setV, atV, SL, e1]
    refine comp_filter (p := same ds[i] b) (f := fun m => .int m.2.2) ([], 0, 0) (fun m hm => ?_) (by simp [SL]; omega) hfu ?_
    · refine turn_Ok ?_
      have c2 := cut2 m
      have ek := eq_key (s := s) (a := b) (hc m hm) (hdc _ (List.getElem_mem hi))
      have x2 : ixO s (mvD m) (.int 2) = some (.int m.2.2) := rfl
      have sl : ∀ s (Q : D → Store → Prop), Ok (slD (mvD m) none (some 2) s) Q = Q (.tup [.str m.1, .int m.2.1]) s := fun s Q => by rw [← c2]; rfl
      simp [setV, wipeV, atV, SL, la, sl, ek, x2]
    · have hg := to_head ms ds[i] b
      have em : (ms.filter (same ds[i] b)).map (fun m => D.int m.2.2) = ((ms.filter (same ds[i] b)).map (·.2.2)).map .int := by rw [List.map_map]; rfl
      rw [em]
      generalize (ms.filter (same ds[i] b)).map (·.2.2) = ys at hg
      have pp := pre_app s [C.lst (ys.map .int), .lst []]
      have g0 : (s ++ [C.lst (ys.map D.int), .lst []])[s.length]? = some (.lst (ys.map .int)) := by
        rw [List.getElem?_append_right (Nat.le_refl _), Nat.sub_self]; rfl
      have g1 : (s ++ [C.lst (ys.map D.int), .lst []])[s.length + 1]? = some (.lst []) := by
        rw [List.getElem?_append_right (by omega), Nat.add_sub_cancel_left]; rfl
      generalize s ++ [C.lst (ys.map D.int), .lst []] = s2 at pp g0 g1
      have j5 := pre_get pp i5
      have j3 := i3.trans pp
      rw [eq_nilG 1 g0 g1 (by rw [List.all_map, List.all_eq_true]; exact fun _ _ => rfl) (by decide), os_some]
      cases ys with
      | nil =>
        rw [if_pos (by rfl)]
        refine hQ _ s2 j3 (Nat.le_refl _) ?_
        rw [i2, j5]
        rw [show go ms b (ds[i] :: ds.drop (i + 1)) = [b] from by rw [go]; rw [hg]; rfl]
      | cons e r =>
        have ll : st.length < s2.length := (List.getElem?_eq_some_iff.mp j5).1
        rw [if_neg (by simp), mt_append j5, os_some, ix_at g0]
        simp
        rw [append_at j5 (by simp [SL]; omega), Ok_ok]
        refine ⟨pre ++ [b], by simp [i1], e, ?_, pre_set j3 (Nat.le_refl _) _, ?_⟩
        · rw [i2, show go ms b (ds[i] :: ds.drop (i + 1)) = b :: go ms e (ds.drop (i + 1)) from by rw [go]; rw [hg]; rfl]
          simp
        · rw [List.getElem?_set_self ll]
theorem aT9 : At T 9 2 3 b9 := ⟨⟨d9, rfl, rfl, rfl, rfl⟩⟩
theorem alike_ok {fu k l1 l2 : Nat} {xs ys : List Int} {st : Store} {Q : D → Store → Prop} (h1 : st[l1]? = some (.lst (xs.map .int))) (h2 : st[l2]? = some (.lst (ys.map .int))) (hl : xs.length < 1000) (hfu : xs.length < fu)
    (hQ : ∀ s, st <+: s → Q (.bl (xs == ys)) s) : Ok (callN fu (tbOf T) (k + 1) 9 [.loc l1, .loc l2] st) Q := by
  refine aT9.run rfl ?_
  have ty : tyO st (.loc l1) .list = some true := by unfold tyO; dsimp only; rw [h1]; rfl
  simp [b9, atV, setV, SL, ty, eq_ints h1 h2]
  by_cases e : xs = ys
  · rw [if_pos e, lst_at h1, os_some]
    subst e
    refine (compL_inv (fun i acc s => s = st ∧ acc = []) xs.length (fun i => .int (xs.getD i 0)) (fun i acc s hi I => by obtain ⟨rfl, _⟩ := I; rw [nx_lst i h1]; simp [hi]) (fun acc s I => by obtain ⟨rfl, _⟩ := I; rw [nx_lst _ h1]; simp) (fun i acc s hi I => ?_) fu 0 [] st (Nat.zero_le _) (by omega) ⟨rfl, rfl⟩).mono fun acc s I => ?_
    · obtain ⟨rfl, rfl⟩ := I
      refine turn_Ok ?_
      have t1 : ∀ j, tyO s (.int j) .bool = some false := fun _ => rfl
      have t2 : ∀ j, tyO s (.int j) .int = some true := fun _ => rfl
      simp [setV, wipeV, atV, t1, t2]
    · obtain ⟨rfl, rfl⟩ := I
      have g0 : (s ++ [C.lst [], .lst []])[s.length]? = some (.lst []) := by
        rw [List.getElem?_append_right (Nat.le_refl _), Nat.sub_self]; rfl
      have g1 : (s ++ [C.lst [], .lst []])[s.length + 1]? = some (.lst []) := by
        rw [List.getElem?_append_right (by omega), Nat.add_sub_cancel_left]; rfl
      rw [eq_nilG 1 g0 g1 rfl (by decide), os_some]
      have := hQ (s ++ [C.lst [], .lst []]) (pre_app _ _)
      simpa using this
  · rw [if_neg e]
    have := hQ st (List.prefix_refl _)
    rw [show (xs == ys) = false from by simpa using e] at this
    exact this
theorem aT7 : At T 7 3 8 b7 := ⟨⟨d7, rfl, rfl, rfl, rfl⟩⟩
/-- the moves at a place -/
def here (a : Int) (m : Mv) : Bool := m.2.1 == a
def bA : S := (.seq (.expr (.mt .append (.var 3) (.cons (.ife (.cmp .ne (.ix (.var 0) (.con (.int 1))) (.tup .nil)) (.ix (.comp [7] (.nm 7) (.plain (.ix (.var 0) (.con (.int 1)))) .none (.ix (.var 7) (.con (.int 0)))) (.bin .mod (.bin .fdiv (.var 5) (.con (.int 7))) (.bc .len (.cons (.ix (.var 0) (.con (.int 1))) .nil)))) (.con (.str [110, 111, 110, 101]))) .nil))) .skip)
def bC : S := (.seq (.if_ (.cmp .eq (.bin .mod (.var 5) (.con (.int 7))) (.con (.int 1)))
  (.seq (.expr (.mt .append (.var 3) (.cons (.con (.str [110, 111, 115, 117, 99, 104])) .nil))) .skip)
  (.seq (.asg (.nm 7) (.ix (.var 6) (.bin .mod (.bin .fdiv (.var 5) (.con (.int 7))) (.bc .len (.cons (.var 6) .nil))))) (.seq (.expr (.mt .append (.var 3) (.cons (.ix (.var 7) (.con (.int 0))) .nil))) (.seq (.asg (.nm 4) (.ix (.var 7) (.con (.int 2)))) .skip)))) .skip)
def b7' : S := (.seq (.asg (.nm 3) (.lst .nil)) (.seq (.asg (.nm 4) (.var 1)) (.seq (.for_ (.nm 5) (.plain (.sl (.var 2) .none (.some (.bin .mod (.ix (.var 2) (.con (.int 8))) (.con (.int 9))))))
  (.seq (.asg (.nm 6) (.comp [7] (.nm 7) (.plain (.ix (.var 0) (.con (.int 1)))) (.some (.cmp .eq (.ix (.var 7) (.con (.int 1))) (.var 4))) (.var 7))) (.seq (.if_ (.or (.cons (.cmp .eq (.bin .mod (.var 5) (.con (.int 7))) (.con (.int 0))) (.cons (.cmp .eq (.var 6) (.lst .nil)) .nil)))
  bA bC) .skip))) (.seq (.ret (.bc .tuple (.cons (.var 3) .nil))) .skip))))
theorem b7_eq : b7 = b7' := rfl
theorem good_ms {ms : List Mv} (h : ∀ m ∈ ms, codeOk m.1) : (ms.map mvD).all (good 2) = true := by
  rw [List.all_map, List.all_eq_true]
  intro m hm
  have := h m hm
  simp [mvD, good]
  exact this
theorem ne_nil {s : Store} {ms : List Mv} (h : ∀ m ∈ ms, codeOk m.1) : eqD s (.tup (ms.map mvD)) (.tup []) = some ms.isEmpty := by
  rw [eq_good 3 (show good 3 (.tup (ms.map mvD)) = true from good_ms h) rfl (by decide)]
  cases ms <;> rfl
theorem A_ok {fu k lp : Nat} {many z : Int} {ms : List Mv} {ds : List (List Nat)} {x1 x2 x4 x6 x7 : Option D} {s : Store} {R' : Fl → Store → Prop} (hc : ∀ m ∈ ms, codeOk m.1) (hl : ms.length < 90) (hfu : 100 < fu) (hp : s[lp]? = some (.lst (ds.map .str))) (hd : ds.length < 1000)
    (hR : ∀ d s', codeOk d → s <+: s' → R' (.nx [some (grD many ms), x1, x2, some (.loc lp), x4, some (.int z), x6, x7]) (s'.set lp (.lst ((ds ++ [d]).map .str)))) :
    Ok (ex ⟨fu, callN fu (tbOf T) k⟩ bA [some (grD many ms), x1, x2, some (.loc lp), x4, some (.int z), x6, x7] s) R' := by
  have e1 : ∀ s, ixO s (grD many ms) (.int 1) = some (.tup (ms.map mvD)) := fun _ => rfl
  have en : ∀ s, eqD s (.tup (ms.map mvD)) (.tup []) = some ms.isEmpty := fun s => ne_nil hc
  by_cases hn : ms = []
  · subst hn
    have en' : ∀ s, eqD s (.tup (List.map mvD [])) (.tup []) = some true := en
    simp [bA, atV, setV, SL, e1, mt_append hp]
    rw [show eqD s (.tup []) (.tup []) = some true from en' s]
    simp
    rw [append_at hp (by simp [SL]; omega), Ok_ok]
    have := hR [110, 111, 110, 101] s (by unfold codeOk; decide) (List.prefix_refl _)
    simpa using this
  · have ee : ms.isEmpty = false := by cases ms <;> simp_all
    simp [bA, atV, setV, SL, e1, en, ee, mt_append hp]
    have tp : (0 : Int) < ms.length := by
      have : 0 < ms.length := List.length_pos_iff.mpr hn
      omega
    refine comp_filter (xs := ms) (p := fun _ => true) (f := fun m => .str m.1) ([], 0, 0) (fun m hm => ?_) (by simp [SL]; omega) (by omega) ?_
    · refine turn_Ok ?_
      have x2 : ixO s (mvD m) (.int 0) = some (.str m.1) := rfl
      simp [setV, wipeV, atV, SL, x2]
    · have ft : ms.filter (fun _ => true) = ms := List.filter_eq_self.mpr fun _ _ => rfl
      rw [ft]
      have q0 := fmod_lt (i := z.fdiv 7) tp
      obtain ⟨y, y1, y2⟩ := atI_ok (xs := ms.map fun m => D.str m.1) q0.1 (by simpa using q0.2)
      obtain ⟨m, hm, rfl⟩ := List.mem_map.mp y2
      have hm' : m ∈ ms := hm
      have g0 := last_at s (.lst (ms.map fun m => D.str m.1))
      have pp := pre_app s [C.lst (ms.map fun m => D.str m.1)]
      have hp' := pre_get pp hp
      generalize s ++ [C.lst (ms.map fun m => D.str m.1)] = s' at pp g0 hp'
      have t0 : ¬ ms.length = 0 := by omega
      have t00 : ¬ ms = [] := fun e => t0 (by rw [e]; rfl)
      have ei : ixO s' (.loc s.length) (.int ((z.fdiv 7).fmod ms.length)) = some (.str m.1) := by rw [ix_at g0]; exact y1
      simp [ei, t0, t00]
      rw [append_at hp' (by simp [SL]; omega), Ok_ok]
      have := hR m.1 s' (hc m hm') pp
      simpa using this

theorem C_ok {fu k lp lo : Nat} {z : Int} {F : List Mv} {ds : List (List Nat)} {x0 x1 x2 x4 x7 : Option D} {s : Store} {R' : Fl → Store → Prop} (hp : s[lp]? = some (.lst (ds.map .str))) (ho : s[lo]? = some (.lst (F.map mvD))) (hF : F ≠ []) (hd : ds.length < 1000)
    (h1 : R' (.nx [x0, x1, x2, some (.loc lp), x4, some (.int z), some (.loc lo), x7]) (s.set lp (.lst ((ds ++ [[110, 111, 115, 117, 99, 104]]).map .str))))
    (h2 : ∀ m ∈ F, R' (.nx [x0, x1, x2, some (.loc lp), some (.int m.2.2), some (.int z), some (.loc lo), some (mvD m)]) (s.set lp (.lst ((ds ++ [m.1]).map .str)))) :
    Ok (ex ⟨fu, callN fu (tbOf T) k⟩ bC [x0, x1, x2, some (.loc lp), x4, some (.int z), some (.loc lo), x7] s) R' := by
  have tp : (0 : Int) < F.length := by
    have : 0 < F.length := List.length_pos_iff.mpr hF
    omega
  have q0 := fmod_lt (i := z.fdiv 7) tp
  obtain ⟨y, y1, y2⟩ := atI_ok (xs := F.map mvD) q0.1 (by simpa using q0.2)
  obtain ⟨m, hm, rfl⟩ := List.mem_map.mp y2
  have ei : ixO s (.loc lo) (.int ((z.fdiv 7).fmod F.length)) = some (mvD m) := by rw [ix_at ho]; exact y1
  have e0 : ∀ s, ixO s (mvD m) (.int 0) = some (.str m.1) := fun _ => rfl
  have e2 : ∀ s, ixO s (mvD m) (.int 2) = some (.int m.2.2) := fun _ => rfl
  have la := len_at ho
  simp [bC, atV, setV, SL, mt_append hp, la, hF, ei, e0, e2]
  by_cases hz : z.fmod 7 = 1
  · rw [if_pos hz, append_at hp (by simp [SL]; omega), Ok_ok]
    simpa using h1
  · rw [if_neg hz, append_at hp (by simp [SL]; omega), Ok_ok]
    simpa using h2 m hm
theorem plan_ok {fu k lz : Nat} {many a : Int} {ms : List Mv} {zs : List Int} {st : Store} {Q : D → Store → Prop} (hg : Gr many ms) (hz : st[lz]? = some (.lst (zs.map .int))) (hzl : zs.length = 10) (hfu : 100 < fu)
    (hQ : ∀ (ds : List (List Nat)) s, st <+: s → (∀ d ∈ ds, codeOk d) → ds.length ≤ 10 → Q (.tup (ds.map .str)) s) : Ok (callN fu (tbOf T) (k + 1) 7 [grD many ms, .int a, .loc lz] st) Q := by
  refine aT7.run rfl ?_
  rw [b7_eq]
  match zs, hzl with
  | [z0, z1, z2, z3, z4, z5, z6, z7, z8, z9], _ =>
    have b9 := fmod_lt (i := z8) (m := 9) (by decide)
    have g8 : ixO (st ++ [C.lst []]) (.loc lz) (.int 8) = some (.int z8) := by
      rw [ix_at (pre_get (pre_app _ _) hz)]
      exact atI_nat (i := 8) rfl
    have sl : ∀ s lo hi (Q : D → Store → Prop), s[lz]? = some (.lst ([z0, z1, z2, z3, z4, z5, z6, z7, z8, z9].map .int)) → Ok (slD (.loc lz) lo hi s) Q = Q (.loc s.length) (s ++ [.lst (cutL ([z0, z1, z2, z3, z4, z5, z6, z7, z8, z9].map D.int) lo hi)]) := fun s lo hi Q h => by
      show Ok ((Bind.bind (m := M) (rd fun s => lstO s (.loc lz)) fun xs => newC (.lst (cutL xs lo hi))) s) Q = _
      rw [Ok_bind, Ok_rd, lst_at h]
      rfl
    simp [b7', atV, setV, SL, g8]
    rw [sl _ _ _ _ (pre_get (pre_app _ _) hz), cut_map]
    have f0 := last_at st (.lst [])
    have p0 := pre_app st [C.lst []]
    generalize hs0 : st ++ [C.lst []] = s0 at f0 p0
    have l0 : s0.length = st.length + 1 := by rw [← hs0]; simp
    generalize hcs : cutL [z0, z1, z2, z3, z4, z5, z6, z7, z8, z9] none (some (z8.fmod 9)) = cells
    have cl : cells.length ≤ 10 := by
      rw [← hcs]
      unfold cutL
      rw [List.length_take, List.length_drop]
      simp
      omega
    have g1 := last_at s0 (.lst (cells.map .int))
    have p1 := p0.trans (pre_app s0 [C.lst (cells.map .int)])
    have g0 := pre_get (pre_app s0 [C.lst (cells.map .int)]) f0
    rw [it_loc, lst_at g1, os_some]
    generalize s0 ++ [C.lst (cells.map .int)] = s1 at g1 p1 g0
    rw [l0] at g1 ⊢
    refine forL_inv (fun i v s => ∃ (ds : List (List Nat)) (b : Int) (x5 x6 x7 : Option D), ds.length ≤ i ∧ (∀ d ∈ ds, codeOk d) ∧ st <+: s ∧ s[st.length]? = some (.lst (ds.map .str)) ∧ s[st.length + 1]? = some (.lst (cells.map .int)) ∧
        v = [some (grD many ms), some (.int a), some (.loc lz), some (.loc st.length), some (.int b), x5, x6, x7]) _ cells.length (fun i => .int (cells.getD i 0))
      (fun i v s hi I => ?_) (fun v s I => ?_) (fun v s I => ?_) (fun i v s hi I => ?_) fu 0 _ _ (Nat.zero_le _) (by omega) ⟨[], a, none, none, none, Nat.le_refl _, by simp, p1, g0, g1, rfl⟩
    · obtain ⟨ds, b, x5, x6, x7, i1, i2, i3, i4, i5, rfl⟩ := I
      rw [nx_lst i i5]
      simp [hi]
    · obtain ⟨ds, b, x5, x6, x7, i1, i2, i3, i4, i5, rfl⟩ := I
      rw [nx_lst _ i5]
      simp
    · obtain ⟨ds, b, x5, x6, x7, i1, i2, i3, i4, i5, rfl⟩ := I
      simp [items_at i4]
      exact hQ ds s i3 i2 (by omega)
    · obtain ⟨ds, b, x5, x6, x7, i1, i2, i3, i4, i5, rfl⟩ := I
      have e1 : ∀ s, ixO s (grD many ms) (.int 1) = some (.tup (ms.map mvD)) := fun _ => rfl
      have hc : ∀ m ∈ ms, codeOk m.1 := fun m hm => (hg.tag m hm).code
      have lm := hg.len
      simp only [Ok_bind, x_nm]
      generalize hzz : cells.getD i 0 = z
      simp [setV, atV, SL, e1]
      refine comp_filter (p := here b) (f := mvD) ([], 0, 0) (fun m hm => ?_) (by simp [SL]; omega) (by omega) ?_
      · refine turn_Ok ?_
        have x2 : ixO s (mvD m) (.int 1) = some (.int m.2.1) := rfl
        simp [setV, wipeV, atV, SL, x2, here]
      · have hF : ∀ m ∈ ms.filter (here b), m ∈ ms := fun m hm => (List.mem_filter.mp hm).1
        generalize ms.filter (here b) = F at hF
        have step : ∀ (d : List Nat) (s' : Store) (b' : Int) (x6 x7 : Option D), codeOk d → s <+: s' → ∃ ds' : List (List Nat), ds'.length ≤ i + 1 ∧ (∀ d ∈ ds', codeOk d) ∧ st <+: s'.set st.length (.lst ((ds ++ [d]).map .str)) ∧ (s'.set st.length (.lst ((ds ++ [d]).map .str)))[st.length]? = some (.lst (ds'.map .str)) ∧ (s'.set st.length (.lst ((ds ++ [d]).map .str)))[st.length + 1]? = some (.lst (cells.map .int)) ∧
            ∃ (x : Int) (y1 y2 y3 : Option D), [some (grD many ms), some (D.int a), some (.loc lz), some (.loc st.length), some (.int b'), some (.int z), x6, x7] = [some (grD many ms), some (.int a), some (.loc lz), some (.loc st.length), some (.int x), y1, y2, y3] := fun d s' b' x6 x7 hd hs => by
          have j4 := pre_get hs i4
          have j5 := pre_get hs i5
          have ll : st.length < s'.length := (List.getElem?_eq_some_iff.mp j4).1
          refine ⟨ds ++ [d], by simp; omega, fun x hx => ?_, pre_set (i3.trans hs) (Nat.le_refl _) _, List.getElem?_set_self ll, (List.getElem?_set_ne (by omega)).trans j5, b', _, _, _, rfl⟩
          rcases List.mem_append.mp hx with q | q
          · exact i2 x q
          · rw [List.mem_singleton.mp q]; exact hd
        by_cases h7 : z.fmod 7 = 0
        · rw [if_pos h7, if_pos h7]
          have pp := pre_app s [C.lst (F.map mvD)]
          exact A_ok hc (by omega) hfu (pre_get pp i4) (by omega) fun d s' hd hs => step d s' _ _ _ hd (pp.trans hs)
        · rw [if_neg h7]
          have pp := pre_app s [C.lst (F.map mvD), .lst []]
          have g0 : (s ++ [C.lst (F.map mvD), .lst []])[s.length]? = some (.lst (F.map mvD)) := by
            rw [List.getElem?_append_right (Nat.le_refl _), Nat.sub_self]; rfl
          have g1 : (s ++ [C.lst (F.map mvD), .lst []])[s.length + 1]? = some (.lst []) := by
            rw [List.getElem?_append_right (by omega), Nat.add_sub_cancel_left]; rfl
          generalize s ++ [C.lst (F.map mvD), .lst []] = s2 at pp g0 g1
          rw [eq_nilG 2 g0 g1 (good_ms fun m hm => hc m (hF m hm)) (by decide), os_some]
          by_cases hF0 : F = []
          · rw [if_pos (by rw [hF0]; rfl)]
            exact A_ok hc (by omega) hfu (pre_get pp i4) (by omega) fun d s' hd hs => step d s' _ _ _ hd (pp.trans hs)
          · rw [if_neg (by simpa using hF0)]
            exact C_ok (pre_get pp i4) g0 hF0 (by omega) (step _ s2 _ _ _ (by unfold codeOk; decide) pp) fun m hm => step _ s2 _ _ _ (hc m (hF m hm)) pp
def bT : S := (.seq (.asg (.nm 4) (.sl (.call 3 (.cons (.var 3) (.cons (.con (.int 12)) .nil))) (.some (.con (.int 2))) .none)) (.seq (.asg (.nm 8) (.bin .mod (.ix (.var 4) (.con (.int 9))) (.ix (.var 1) (.con (.int 0))))) (.seq (.asg (.nm 7) (.call 7 (.cons (.var 1) (.cons (.var 8) (.cons (.var 4) .nil))))) (.seq (.asg (.nm 9) (.call 8 (.cons (.var 1) (.cons (.var 8) (.cons (.var 7) .nil))))) (.seq (.asg (.nm 10) (.call 1 (.cons (.var 1) (.cons (.var 8) (.cons (.var 7) .nil))))) (.seq (.if_ (.not (.call 9 (.cons (.var 10) (.cons (.var 9) .nil))))
  (.seq (.ret (.con (.bl false))) .skip)
  .skip) (.seq (.expr (.mt .append (.var 10) (.cons (.con (.int 99)) .nil))) (.seq (.if_ (.or (.cons (.not (.call 9 (.cons (.call 1 (.cons (.var 1) (.cons (.var 8) (.cons (.var 7) .nil)))) (.cons (.var 9) .nil)))) (.cons (.cmp .ne (.call 1 (.cons (.var 1) (.cons (.var 8) (.cons (.tup .nil) .nil)))) (.lst (.cons (.var 8) .nil))) .nil)))
  (.seq (.ret (.con (.bl false))) .skip)
  .skip) .skip))))))))
def bR : S := (.seq (.asg (.nm 4) (.sl (.call 3 (.cons (.ix (.var 2) (.con (.int 0))) (.cons (.con (.int 16)) .nil))) (.some (.con (.int 12))) .none)) (.seq (.asg (.nm 5) (.bin .add (.con (.int 1)) (.bin .mod (.ix (.var 4) (.con (.int 0))) (.con (.int 12))))) (.seq (.asg (.nm 6) (.tup (.cons (.var 5) (.cons (.bc .tuple (.cons (.comp [11] (.nm 11) (.rng (.cons (.var 5) .nil)) .none (.tup (.cons (.ix (.lst (.cons (.con (.str [116, 104, 101, 114, 101])) (.cons (.con (.str [98, 97, 99, 107])) .nil))) (.bin .mod (.var 11) (.con (.int 2)))) (.cons (.var 11) (.cons (.bin .mod (.bin .add (.var 11) (.con (.int 1))) (.var 5)) .nil))))) .nil)) .nil)))) (.seq (.asg (.nm 7) (.bc .tuple (.cons (.comp [11] (.nm 11) (.rng (.cons (.bin .add (.con (.int 40)) (.bin .mod (.ix (.var 4) (.con (.int 1))) (.con (.int 41)))) .nil)) .none (.ix (.lst (.cons (.con (.str [116, 104, 101, 114, 101])) (.cons (.con (.str [98, 97, 99, 107])) .nil))) (.bin .mod (.var 11) (.con (.int 2))))) .nil))) (.seq (.ret (.call 9 (.cons (.call 1 (.cons (.var 6) (.cons (.con (.int 0)) (.cons (.var 7) .nil)))) (.cons (.call 8 (.cons (.var 6) (.cons (.con (.int 0)) (.cons (.var 7) .nil)))) .nil)))) .skip)))))
def bF : S := .for_ (.nm 3) (.plain (.var 2)) bT
def b10' : S := (.seq (.asg (.nm 1) (.call 6 (.cons (.var 0) .nil))) (.seq (.asg (.nm 2) (.bc .list (.cons (.var 0) .nil))) (.seq (.if_ (.cmp .eq (.var 2) (.lst .nil))
  (.seq (.asg (.nm 2) (.lst (.cons (.con (.int 3)) .nil))) .skip)
  .skip) (.seq bF bR))))
theorem b10_eq : b10 = b10' := rfl

theorem slD_at {st : Store} {l : Nat} {xs : List D} (h : st[l]? = some (.lst xs)) (lo hi : Option Int) (Q : D → Store → Prop) : Ok (slD (.loc l) lo hi st) Q = Q (.loc st.length) (st ++ [.lst (cutL xs lo hi)]) := by
  show Ok ((Bind.bind (m := M) (rd fun s => lstO s (.loc l)) fun xs => newC (.lst (cutL xs lo hi))) st) Q = _
  rw [Ok_bind, Ok_rd, lst_at h]
  rfl
theorem go_len (ms : List Mv) : ∀ (ds : List (List Nat)) (a : Int), (go ms a ds).length ≤ ds.length + 1
  | [], a => Nat.le_refl _
  | d :: r, a => by
    rw [go]
    split
    · simp
    · rename_i b _
      have := go_len ms r b
      simp only [List.length_cons]
      omega
abbrev cfg : Cf := ⟨2000, callN 2000 (tbOf T) 11⟩
/-- the loop's turn -/
theorem turn_ok {many c : Int} {ms : List Mv} {lc : Nat} {cs : List Int} {x0 x4 x5 x6 x7 x8 x9 x10 x11 : Option D} {s : Store} {R' : Fl → Store → Prop} (hg : Gr many ms) (hc : s[lc]? = some (.lst (cs.map .int)))
    (hR : ∀ (s' : Store) (y4 y7 y8 y9 y10 : Option D), s'[lc]? = some (.lst (cs.map .int)) → R' (.nx [x0, some (grD many ms), some (.loc lc), some (.int c), y4, x5, x6, y7, y8, y9, y10, x11]) s') :
    Ok (ex cfg bT [x0, some (grD many ms), some (.loc lc), some (.int c), x4, x5, x6, x7, x8, x9, x10, x11] s) R' := by
  have e0 : ∀ s, ixO s (grD many ms) (.int 0) = some (.int many) := fun _ => rfl
  have m0 : many ≠ 0 := by have := hg.lo; omega
  have hcode : ∀ m ∈ ms, codeOk m.1 := fun m hm => (hg.tag m hm).code
  have lm := hg.len
  simp [bT, atV, setV, SL]
  refine dig_ok aT3 aT2 (k := 9) (n := 12) (by decide) (by decide) rfl fun zs z1 z2 => ?_
  match zs, z1 with
  | [z0, z1, z2, z3, z4, z5, z6, z7, z8, z9, za, zb], _ =>
    have f0 := last_at s (.lst ([z0, z1, z2, z3, z4, z5, z6, z7, z8, z9, za, zb].map .int))
    have p0 := pre_app s [C.lst ([z0, z1, z2, z3, z4, z5, z6, z7, z8, z9, za, zb].map .int)]
    generalize s ++ [C.lst ([z0, z1, z2, z3, z4, z5, z6, z7, z8, z9, za, zb].map .int)] = s1 at f0 p0
    rw [slD_at f0, cut_map]
    have ce : cutL [z0, z1, z2, z3, z4, z5, z6, z7, z8, z9, za, zb] (some 2) none = [z2, z3, z4, z5, z6, z7, z8, z9, za, zb] := rfl
    rw [ce]
    have f1 := last_at s1 (.lst ([z2, z3, z4, z5, z6, z7, z8, z9, za, zb].map .int))
    have p1 := p0.trans (pre_app s1 [C.lst ([z2, z3, z4, z5, z6, z7, z8, z9, za, zb].map .int)])
    generalize hs2 : s1 ++ [C.lst ([z2, z3, z4, z5, z6, z7, z8, z9, za, zb].map .int)] = s2 at f1 p1
    have e9 : ixO s2 (.loc s1.length) (.int 9) = some (.int zb) := by rw [ix_at f1]; exact atI_nat (i := 9) rfl
    simp [e9, e0, m0]
    generalize zb.fmod many = a
    refine plan_ok (k := 10) hg f1 rfl (by decide) fun ds s3 q3 dc dl => ?_
    refine due_ok (k := 10) hcode dc (by omega) (by omega) (by omega) (by omega) fun ld s4 q4 ll4 h4 => ?_
    refine walked_ok (k := 9) hg.nd (by omega) (by omega) (by omega) (by omega) fun lt s5 q5 ll5 h5 => ?_
    have h45 := pre_get q5 h4
    have gl : (go ms a ds).length < 1000 := by have := go_len ms ds a; omega
    refine alike_ok (k := 10) h5 h45 gl (by omega) fun s6 q6 => ?_
    have h6 := pre_get q6 h5
    have h6d := pre_get q6 h45
    simp [mt_append h6]
    have n0 : s.length ≤ s6.length := pre_len (p1.trans (q3.trans (q4.trans (q5.trans q6))))
    have n4 : s.length ≤ s4.length := pre_len (p1.trans (q3.trans q4))
    have nd4 : ld < s4.length := (List.getElem?_eq_some_iff.mp h4).1
    have nc : lc < s.length := (List.getElem?_eq_some_iff.mp hc).1
    have c6 := pre_get (p1.trans (q3.trans (q4.trans (q5.trans q6)))) hc
    rw [append_at h6 (by simp [SL]; omega), Ok_ok]
    generalize hs7 : s6.set lt _ = s7
    have d7 : s7[ld]? = some (.lst ((go ms a ds).map .int)) := by rw [← hs7, List.getElem?_set_ne (by omega)]; exact h6d
    have c7 : s7[lc]? = some (.lst (cs.map .int)) := by rw [← hs7, List.getElem?_set_ne (by omega)]; exact c6
    refine walked_ok (k := 9) hg.nd (by omega) (by omega) (by omega) (by omega) fun lt2 s8 q8 ll8 h8 => ?_
    refine alike_ok (k := 10) h8 (pre_get q8 d7) gl (by omega) fun s9 q9 => ?_
    simp
    refine walked_ok (k := 9) (ds := []) hg.nd (by omega) (by omega) (by simp) (by simp) fun lt3 s10 q10 ll10 h10 => ?_
    have h10' := pre_get (pre_app s10 [C.lst [.int a]]) h10
    have e1 := eq_ints (xs := go ms a []) (ys := [a]) h10' (last_at s10 (.lst [.int a]))
    rw [e1]
    have e2 : (go ms a [] == [a]) = true := by simp [go]
    rw [e2]
    have c10 := pre_get (pre_app s10 [C.lst [.int a]]) (pre_get (q8.trans (q9.trans q10)) c7)
    simp
    exact hR _ _ _ _ _ _ c10
theorem for_ok {many : Int} {ms : List Mv} {lc : Nat} {cs : List Int} {x0 x11 : Option D} {s : Store} {R' : Fl → Store → Prop} (hg : Gr many ms) (hc : s[lc]? = some (.lst (cs.map .int))) (hl : cs.length ≤ 63)
    (hR : ∀ (s' : Store) (y3 y4 y5 y6 y7 y8 y9 y10 : Option D), s'[lc]? = some (.lst (cs.map .int)) → R' (.nx [x0, some (grD many ms), some (.loc lc), y3, y4, y5, y6, y7, y8, y9, y10, x11]) s') :
    Ok (ex cfg bF [x0, some (grD many ms), some (.loc lc), none, none, none, none, none, none, none, none, x11] s) R' := by
  unfold bF
  simp [atV]
  rw [lst_at hc, os_some]
  refine forL_inv (fun i v s => ∃ (y3 y4 y5 y6 y7 y8 y9 y10 : Option D), s[lc]? = some (.lst (cs.map .int)) ∧ v = [x0, some (grD many ms), some (.loc lc), y3, y4, y5, y6, y7, y8, y9, y10, x11]) _ cs.length (fun i => .int (cs.getD i 0))
    (fun i v s hi I => ?_) (fun v s I => ?_) (fun v s I => ?_) (fun i v s hi I => ?_) 2000 0 _ _ (Nat.zero_le _) (by omega) ⟨_, _, _, _, _, _, _, _, hc, rfl⟩
  · obtain ⟨y3, y4, y5, y6, y7, y8, y9, y10, h, rfl⟩ := I
    rw [nx_lst i h]
    simp [hi]
  · obtain ⟨y3, y4, y5, y6, y7, y8, y9, y10, h, rfl⟩ := I
    rw [nx_lst _ h]
    simp
  · obtain ⟨y3, y4, y5, y6, y7, y8, y9, y10, h, rfl⟩ := I
    exact hR s y3 y4 y5 y6 y7 y8 y9 y10 h
  · obtain ⟨y3, y4, y5, y6, y7, y8, y9, y10, h, rfl⟩ := I
    simp only [Ok_bind, x_nm]
    exact turn_ok hg h fun s' z4 z7 z8 z9 z10 h' => ⟨_, _, _, _, _, _, _, _, h', rfl⟩

def nmI (r : Int) : List Nat := if r = 0 then [116, 104, 101, 114, 101] else [98, 97, 99, 107]
theorem nm_code (r : Int) : codeOk (nmI r) := by
  unfold nmI codeOk
  split <;> decide
def ringM (m : Int) (k : Nat) : Mv := (nmI ((k : Int).fmod 2), (k : Int), ((k : Int) + 1).fmod m)
theorem pick_nm {s : Store} {l : Nat} (h : s[l]? = some (.lst [.str [116, 104, 101, 114, 101], .str [98, 97, 99, 107]])) (i : Int) : ixO s (.loc l) (.int (i.fmod 2)) = some (.str (nmI (i.fmod 2))) := by
  have b := fmod_lt (i := i) (m := 2) (by decide)
  generalize i.fmod 2 = r at b
  rw [ix_at h]
  unfold nmI
  by_cases h0 : r = 0
  · subst h0; rfl
  · have h1 : r = 1 := by omega
    subst h1; rfl
/-- a block that fills the store, but tells by the number alone -/
theorem comp_rng {n fu : Nat} {g : Nat → D} {turn : D → M (Option D)} {s0 : Store} {Q : List D → Store → Prop} (hn : n < 1000) (hfu : n < fu) (h : ∀ i s, i < n → s0 <+: s → Ok (turn (.int (0 + (i : Int) * 1)) s) fun o s' => o = some (g i) ∧ s0 <+: s') (hQ : ∀ s, s0 <+: s → Q ((List.range n).map g) s) : Ok (compL (.rng 0 1 n) turn fu 0 [] s0) Q := by
  refine (compL_inv (fun i acc s => s0 <+: s ∧ acc = (List.range i).map g) n (fun i => .int (0 + (i : Int) * 1)) (fun i acc s hi _ => nx_rng s hi) (fun acc s _ => nx_rng_end s) (fun i acc s hi I => ?_) fu 0 [] s0 (Nat.zero_le _) (by omega) ⟨List.prefix_refl _, rfl⟩).mono fun acc s I => ?_
  · obtain ⟨i1, rfl⟩ := I
    refine (h i s hi i1).mono fun o s' q => ?_
    obtain ⟨rfl, q⟩ := q
    exact ⟨by simp [SL]; omega, q, by rw [List.range_succ, List.map_append]; rfl⟩
  · obtain ⟨i1, rfl⟩ := I
    exact hQ s i1
theorem ring_ok {lc : Nat} {cs : List Int} {x0 x1 y3 y4 y5 y6 y7 y8 y9 y10 : Option D} {s : Store} (hc : s[lc]? = some (.lst (cs.map .int))) (hne : cs ≠ []) :
    Ok (ex cfg bR [x0, x1, some (.loc lc), y3, y4, y5, y6, y7, y8, y9, y10, none] s) fun o _ => o = .rt (.bl true) := by
  obtain ⟨c, r, rfl⟩ := List.exists_cons_of_ne_nil hne
  have e0 : ixO s (.loc lc) (.int 0) = some (.int c) := by rw [ix_at hc]; exact atI_0 _ _
  simp [bR, atV, setV, SL, e0]
  refine dig_ok aT3 aT2 (k := 9) (n := 16) (by decide) (by decide) rfl fun zs z1 z2 => ?_
  match zs, z1 with
  | [z0, z1, z2, z3, z4, z5, z6, z7, z8, z9, za, zb, zc, zd, ze, zf], _ =>
    rw [slD_at (last_at s _), cut_map]
    have ce : cutL [z0, z1, z2, z3, z4, z5, z6, z7, z8, z9, za, zb, zc, zd, ze, zf] (some 12) none = [zc, zd, ze, zf] := rfl
    rw [ce]
    generalize s ++ [C.lst ([z0, z1, z2, z3, z4, z5, z6, z7, z8, z9, za, zb, zc, zd, ze, zf].map .int)] = s1
    have f1 := last_at s1 (.lst ([zc, zd, ze, zf].map .int))
    generalize s1 ++ [C.lst ([zc, zd, ze, zf].map .int)] = s2 at f1
    have b0 := fmod_lt (i := zc) (m := 12) (by decide)
    have b1 := fmod_lt (i := zd) (m := 41) (by decide)
    have g0 : ixO s2 (.loc s1.length) (.int 0) = some (.int zc) := by rw [ix_at f1]; exact atI_0 _ _
    obtain ⟨n, hn⟩ := Int.eq_ofNat_of_zero_le (a := 1 + zc.fmod 12) (by omega)
    generalize hm : 1 + zc.fmod 12 = m at hn
    have i62 : in62 m = true := by simp [in62]; omega
    have tn : m.toNat = n := by omega
    have m0 : m ≠ 0 := by omega
    simp [g0, hm, i62, tn]
    refine comp_rng (g := fun k => mvD (ringM m k)) (by omega) (by omega) (fun i s hi hs => ?_) fun s3 q3 => ?_
    · refine turn_Ok ?_
      have pn := pick_nm (last_at s (.lst [.str [116, 104, 101, 114, 101], .str [98, 97, 99, 107]])) (i : Int)
      simp [setV, wipeV, atV, SL, pn, m0]
      exact ⟨rfl, hs.trans (pre_app _ _)⟩
    · have f3 := pre_get (q3.trans (pre_app s3 [C.lst ((List.range n).map fun k => mvD (ringM m k))])) f1
      have it3 := items_last s3 ((List.range n).map fun k => mvD (ringM m k))
      generalize s3 ++ [C.lst ((List.range n).map fun k => mvD (ringM m k))] = s4 at f3 it3
      have g1 : ixO s4 (.loc s1.length) (.int 1) = some (.int zd) := by rw [ix_at f3]; exact atI_1 _ _ _
      obtain ⟨n2, hn2⟩ := Int.eq_ofNat_of_zero_le (a := 40 + zd.fmod 41) (by omega)
      generalize hm2 : 40 + zd.fmod 41 = m2 at hn2
      have i62' : in62 m2 = true := by simp [in62]; omega
      have tn2 : m2.toNat = n2 := by omega
      simp [it3, g1, hm2, i62', tn2]
      refine comp_rng (g := fun k => .str (nmI ((k : Int).fmod 2))) (by omega) (by omega) (fun i s hi hs => ?_) fun s5 q5 => ?_
      · refine turn_Ok ?_
        have pn := pick_nm (last_at s (.lst [.str [116, 104, 101, 114, 101], .str [98, 97, 99, 107]])) (i : Int)
        simp [setV, wipeV, atV, SL, pn]
        exact hs.trans (pre_app _ _)
      · have eg : D.tup [D.int m, D.tup ((List.range n).map fun k => mvD (ringM m k))] = grD m ((List.range n).map (ringM m)) := by
          unfold grD
          rw [List.map_map]
          rfl
        have ed : ((List.range n2).map fun (k : Nat) => D.str (nmI ((k : Int).fmod 2))) = ((List.range n2).map fun (k : Nat) => nmI ((k : Int).fmod 2)).map .str := by
          rw [List.map_map]
          rfl
        rw [eg, ed]
        have dl : ((List.range n2).map fun (k : Nat) => nmI ((k : Int).fmod 2)).length = n2 := by simp
        have dc : ∀ d ∈ ((List.range n2).map fun (k : Nat) => nmI ((k : Int).fmod 2)), codeOk d := fun d hd => by
          obtain ⟨k, _, rfl⟩ := List.mem_map.mp hd
          exact nm_code _
        generalize ((List.range n2).map fun (k : Nat) => nmI ((k : Int).fmod 2)) = ds at dl dc
        have ml : ((List.range n).map (ringM m)).length = n := by simp
        have mc : ∀ x ∈ ((List.range n).map (ringM m)), codeOk x.1 := fun d hd => by
          obtain ⟨k, _, rfl⟩ := List.mem_map.mp hd
          exact nm_code _
        have nd : ((List.range n).map (ringM m)).Pairwise nkey := by
          rw [List.pairwise_map]
          refine List.pairwise_lt_range.imp fun {a b} hab => ?_
          rintro ⟨_, e⟩
          have e : (a : Int) = b := e
          omega
        generalize ((List.range n).map (ringM m)) = ms at ml mc nd
        refine walked_ok (k := 9) nd (by omega) (by omega) (by omega) (by omega) fun lt s6 q6 ll6 h6 => ?_
        refine due_ok (k := 10) mc dc (by omega) (by omega) (by omega) (by omega) fun ld s7 q7 ll7 h7 => ?_
        have gl := go_len ms ds 0
        refine alike_ok (k := 10) (pre_get q7 h6) h7 (by omega) (by omega) fun s8 q8 => ?_
        simp
theorem plain : ∀ ns : List Int, ns.length ≤ 63 → ∃ fu st, callN fu (tbOf T) 12 10 [.fl (ns.map .int)] [] = .ok (.bl true) st := by
  intro ns hn
  have : Ok (callN 2000 (tbOf T) 12 10 [.fl (ns.map .int)] []) fun d _ => d = .bl true := by
    refine Ok_run (d := d10) rfl rfl ?_
    have e10 : d10.body = b10' := rfl
    rw [e10]
    simp [d10, b10', atV, setV, SL]
    refine ground_ok aT6 aT3 aT2 aT4 aT5 (k := 8) (by decide) hn fun many ms s hg _ => ?_
    have it : itemsO s (.fl (ns.map .int)) = some (ns.map .int) := rfl
    simp [it]
    have g0 : (s ++ [C.lst (ns.map D.int), .lst []])[s.length]? = some (.lst (ns.map .int)) := by
      rw [List.getElem?_append_right (Nat.le_refl _), Nat.sub_self]; rfl
    have g1 : (s ++ [C.lst (ns.map D.int), .lst []])[s.length + 1]? = some (.lst []) := by
      rw [List.getElem?_append_right (by omega), Nat.add_sub_cancel_left]; rfl
    have g2 : (s ++ [C.lst (ns.map D.int), .lst [], .lst [.int 3]])[s.length + 1 + 1]? = some (.lst ([3].map .int)) := by
      rw [List.getElem?_append_right (by omega), show s.length + 1 + 1 - s.length = 2 from by omega]; rfl
    rw [eq_nilG 1 g0 g1 (by rw [List.all_map, List.all_eq_true]; exact fun _ _ => rfl) (by decide), os_some]
    by_cases h0 : ns = []
    · rw [if_pos (by rw [h0]; rfl)]
      refine for_ok hg g2 (by decide) fun s' y3 y4 y5 y6 y7 y8 y9 y10 h => ?_
      exact (ring_ok h (by decide)).mono fun o s e => by rw [e]
    · rw [if_neg (by simpa using h0)]
      refine for_ok hg g0 hn fun s' y3 y4 y5 y6 y7 y8 y9 y10 h => ?_
      exact (ring_ok h h0).mono fun o s e => by rw [e]
  obtain ⟨d, s, e, rfl⟩ := this.get
  exact ⟨2000, s, e⟩
end Ix.k14
end PPk14

section PHk14
set_option Elab.async false
set_option linter.all false
set_option maxRecDepth 100000
set_option maxHeartbeats 0
namespace Ix.k14
open PySem PySem.Spec PyProof.Rows L2
abbrev R : PySem.W.OpenRow := PySem.W.OpenLaw.row PySem.Challenge.rw_errandway_k14_plans_walked
abbrev hk : PySem.W.Hook := He.hookD 4 (faT T con bl) (fnT T)
def ob (s : PySem.W.SharedT) : He.AlD := He.obsDG 4 (faT T con bl) (fnT T) (HandSHeadRun.getT s)
theorem ob_eq (s : PySem.W.SharedT) : ob s = hk.obs s.abs := He.obsDG_eq (HandSHeadRun.getT_eq s)
theorem run_top (w : World) : HandSHeadRun.RunEq R (PySem.W.view R.prog [12]) hk ob 4000 ["moves_by", "walked", "_law_mix", "_law_digits", "_law_at", "_law_tags", "_law_ground", "_law_plan", "_law_due", "_law_alike"] w := by
  intro os
  kernel_rfl
end Ix.k14
open PySem PySem.W PySem.Calls PyProof.Rows
theorem PySem.Challenge.cw_errandway_k14_plans_walked_holds : PySem.Challenge.rw_errandway_k14_plans_walked.Holds := by
  w_on; o_law
  refine HandSHeadRun.head_any (r := OpenLaw.row PySem.Challenge.rw_errandway_k14_plans_walked) (q := view (OpenLaw.row PySem.Challenge.rw_errandway_k14_plans_walked).prog [12]) (H := Ix.k14.hk) (ob := Ix.k14.ob) (M := 4000) (loose := ["moves_by", "walked", "_law_mix", "_law_digits", "_law_at", "_law_tags", "_law_ground", "_law_plan", "_law_due", "_law_alike"]) (d := HandSHeadRun.topDef (OpenLaw.row PySem.Challenge.rw_errandway_k14_plans_walked).prog 12) (kwd := []) Ix.k14.ob_eq
    (by kernel_rfl) (fun s => by kernel_rfl) Ix.k14.run_top (by kernel_rfl) (by kernel_rfl) (by kernel_rfl) (by rfl) (by first | assumption | decide +kernel) (by decide +kernel) ⟨rfl, rfl, rfl, rfl, rfl, by decide +kernel⟩ ?hw ?hc
  case hw => w_witness2
  case hc =>
    refine L2.walk_ofE (l := PySem.Challenge.rw_errandway_k14_plans_walked) (n := 63) (k := 12) (x := "_law_script") (CX := L2.CX0) rfl (by decide) (by kernel_rfl) ⟨rfl, by decide, by decide⟩ ?F (fun _ _ _ _ z => z)
    intro w mg fa h Y G hmg0
    obtain ⟨K, KX, c⟩ := Y
    have hmg : mg ("law" : PySem.Str) = some (.ref fa) := by
      have e : (HandSHeadRun.topDef (OpenLaw.row PySem.Challenge.rw_errandway_k14_plans_walked).prog 12).name = ("law" : PySem.Str) := by kernel_rfl
      rw [← e]
      exact hmg0
    exact Ix.law_ok (T := Ix.k14.T) (f := 10) (d := Ix.k14.d10) rfl rfl Ix.k14.kT (by decide +kernel) Ix.k14.plain KX G c hmg
end PHk14

